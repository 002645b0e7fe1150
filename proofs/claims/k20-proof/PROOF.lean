import PyProof.Rows.All
import Wide.All
import OpenK.AllK
import Wide.FinOn
import HandS.ForMost
import HandS.IsInst
import HandS.Evl
import HandS.TupAny
import HandS.Exc
import HandS.TryOnly
import HandS.Defaults
import HandS.Lambda
import HandS.ExcOwn
import HandS.SortInts
import HandS.Text
import HandS.RaiseMore
import HandS.ExcInit
import HandS.ExcSuper
import KE.KExcSuper
import HandS.OwnEq
import HandS.ExcField
import HandS.ExcIs
import KE.KExcIs
import HandS.EndTab
import HandS.HeadHook4
import KE.KStateDown
import Lean
import HandS.Head0
import HandS.Head1
import HandS.Head2
import HandS.HeadEnd
import PyProof.ReprRoads
import HandS.SortKw
import HandS.Nested
import HandS.ExcValue
import PyProof.Rows.SortStr
import PyProof.TupleOfSeq
import KE.KLam
import HandS.SortRule
import HandS.Iter
import KE.GoesEnum
import PyProof.Rows.ChunkLeaf
import HandS.MakeKwOnly
import HandS.SlotsOwn
import HandS.NamedTupSort
import PyProof.InstNe
import PyProof.Rows.RegFStrParts
import PySem.Challenge.RW_toldmoments_k20_tasks_made_and_refused
set_option Elab.async false
set_option linter.all false
set_option maxRecDepth 100000
section
set_option maxHeartbeats 4000001
/-! H0: facts of a part of the heap, as Bools: what is looked at; the law's text. -/
namespace DL
open PySem PySem.Spec
open PyProof.Rows L2
abbrev tabO : Obj := { cls := .none, data := .fields #[] }
/-- all of these -/
def allB : List Bool → Bool
  | [] => true
  | b :: r => b && allB r
def clsIB (K : PySem.W.Frag) (C : Addr) : Bool := allB [decide (PySem.W.findIn K (.ref C) "__class__" = some (some (.builtin "object.__class__"))), decide (PySem.W.specialIn K (.builtin "object.__class__") "__get__" = some (some (.builtin "getset_descriptor.__get__"))),
  decide (PySem.W.takesIn K (.builtin "object.__class__") = some true), decide (PySem.W.mroIn K C (.type "object") = some true)]
def kitB (K : PySem.W.Frag) (v u : Value) (b : Bool) : Bool := decide (PySem.W.kitOne K v u = some b)
/-- an own error class, of which isinstance asks -/
def errIB (K : PySem.W.Frag) (C : Addr) : Bool := allB [decide (PySem.W.findIn K (.ref C) "__getattribute__" = some (some (.builtin "BaseException.__getattribute__"))), decide (PySem.W.findIn K (.ref C) "__getattr__" = some none), decide (PySem.W.subIn K (.ref C) (.type "BaseException") = some true),
  PySem.W.hasDictIn K C, decide (PySem.W.findIn K (.ref C) "__class__" = some (some (.builtin "object.__class__"))), decide (PySem.W.specialIn K (.builtin "object.__class__") "__get__" = some (some (.builtin "getset_descriptor.__get__"))),
  decide (PySem.W.takesIn K (.builtin "object.__class__") = some true), decide (PySem.W.mroIn K C (.type "object") = some true)]
/-- an own error class made by ValueError.__new__ -/
def oexO (C : Addr) : Option Obj → Bool
  | some ⟨.type t, _, .cls ⟨_, _, .ref D :: bm, _, _, hd, _, _, _, _, del⟩, ⟨[_, _, _, _, some (.builtin n), _]⟩⟩ => allB [decide (t = "type"), decide (D = C), decide (n = "ValueError.__new__"), hd, !del, PySem.HandSPX.refsVE bm]
  | _ => false
def oexB (K : PySem.W.Frag) (C : Addr) : Bool := allB [oexO C (K.lookup C), decide (PySem.W.findIn K (.ref C) "__setattr__" = some (some (.builtin "object.__setattr__"))), decide (PySem.W.subIn K (.ref C) (.type "BaseException") = some true), decide (PySem.W.typeIn K (.ref C) = some (.type "type")), PySem.W.keepIn K (.ref C)]
/-! ### a def __init__ that calls super().__init__ -/
abbrev FnC : Type := Option (Str × Str × Arguments × FuncBody × Scope × Addr × List Str × Value × Addr)
def fnC (K : PySem.W.Frag) (f : Addr) : FnC := match K.lookup f with
  | some ⟨_, _, .func fd, _⟩ => some (fd.name, fd.qualname, fd.params, fd.body, fd.scope, fd.globals, fd.closure.map (·.1), fd.defaults, fd.builtins)
  | _ => none
/-- the code object, the cell of the class -/
def ccOf (K : PySem.W.Frag) (f : Addr) : Addr × Addr := match K.lookup f with
  | some ⟨_, _, .func fd, _⟩ => ((match fd.code with
    | .ref c => c
    | _ => 0), match fd.closure with
    | [(_, b)] => b
    | _ => 0)
  | _ => (0, 0)
def isRefB : Value → Addr → Bool
  | .ref c', c => decide (c' = c)
  | _, _ => false
def isCloB : List (Str × Addr) → Addr → Bool
  | [(_, b')], b => decide (b' = b)
  | _, _ => false
def fcB : Option Obj → Addr → Addr → Bool
  | some ⟨_, _, .func fd, _⟩, c, b => isRefB fd.code c && isCloB fd.closure b
  | _, _, _ => false
def supFB (file : Str) (K : PySem.W.Frag) (C f : Addr) (q : Str) : Bool := allB [oexB K C, fcB (K.lookup f) (ccOf K f).1 (ccOf K f).2, PySem.W.codeIn K (.ref (ccOf K f).1) q, (match K.lookup (ccOf K f).1 with
    | some ⟨_, _, .fields vs, _⟩ => (match (vs[2]? : Option Value) with
      | some (Value.str x _) => file == x
      | _ => false)
    | _ => false), (match K.lookup (ccOf K f).2 with
    | some ⟨_, _, .cell (some (.ref D)), _⟩ => decide (D = C)
    | _ => false), decide (PySem.W.nsIn K cStatics "thirdparty.any" = some none), decide (PySem.W.ks_superIn K C C "__init__" = some (some (.builtin "ValueError.__init__"))), decide (PySem.W.subIn K (.ref C) (.type "ValueError") = some true),
    (PySem.W.clsIn K C).isSome, decide (PySem.W.mroIn K C (.ref C) = some true), decide (PySem.W.nsIn K mainGlobals "super" = some none), decide (PySem.W.typeIn K (.ref f) = some (.type "function")), decide (PySem.W.findIn K (.ref C) "__init__" = some (some (.ref f)))]
end DL
namespace K20
open PySem PySem.Spec
open PyProof.Rows L2
def top (i : Nat) : Stmt := PySem.Challenge.pw_toldmoments_k20_tasks_made_and_refused.main.body.getD i (.Pass ⟨0, 0, 0, 0⟩)
/-- the i-th statement of a class's body -/
def met (st : Stmt) (i : Nat) : Stmt := match st with
  | .ClassDef _ _ _ b _ _ _ _ _ _ _ => b.getD i (.Pass ⟨0, 0, 0, 0⟩)
  | _ => .Pass ⟨0, 0, 0, 0⟩
def sInit : Stmt := met (top 22) 0
def sEq : Stmt := met (top 22) 1
end K20

end
section
set_option maxHeartbeats 0
/-! K40: the head: the top's run, with its facts (printed by genhead_k20.py). -/
namespace K20
open PySem PySem.Spec
open PyProof.Rows L2 DL LamX
def d_is_integer : He.DefD := ⟨("is_integer", none), "is_integer", "is_integer", defArgs (top 3), defBody (top 3), defScope (top 3), [], []⟩
def d_is_between : He.DefD := ⟨("is_between", none), "is_between", "is_between", defArgs (top 4), defBody (top 4), defScope (top 4), [], []⟩
def d_is_name : He.DefD := ⟨("is_name", none), "is_name", "is_name", defArgs (top 5), defBody (top 5), defScope (top 5), [], []⟩
def d_is_listed : He.DefD := ⟨("is_listed", none), "is_listed", "is_listed", defArgs (top 6), defBody (top 6), defScope (top 6), [], []⟩
def d_ascends : He.DefD := ⟨("ascends", none), "ascends", "ascends", defArgs (top 7), defBody (top 7), defScope (top 7), [], []⟩
def d_are_unlike : He.DefD := ⟨("are_unlike", none), "are_unlike", "are_unlike", defArgs (top 8), defBody (top 8), defScope (top 8), [], []⟩
def d_common_part : He.DefD := ⟨("common_part", none), "common_part", "common_part", defArgs (top 9), defBody (top 9), defScope (top 9), [], []⟩
def d_round_in : He.DefD := ⟨("round_in", none), "round_in", "round_in", defArgs (top 25), defBody (top 25), defScope (top 25), [], []⟩
def d_need_tasks : He.DefD := ⟨("need_tasks", none), "need_tasks", "need_tasks", defArgs (top 23), defBody (top 23), defScope (top 23), [], []⟩
def d_need_order : He.DefD := ⟨("need_order", none), "need_order", "need_order", defArgs (top 24), defBody (top 24), defScope (top 24), [], []⟩
def d_releases_in : He.DefD := ⟨("releases_in", none), "releases_in", "releases_in", defArgs (top 29), defBody (top 29), defScope (top 29), [], []⟩
def d_round_of : He.DefD := ⟨("round_of", none), "round_of", "round_of", defArgs (top 30), defBody (top 30), defScope (top 30), [], []⟩
def d_releases : He.DefD := ⟨("releases", none), "releases", "releases", defArgs (top 31), defBody (top 31), defScope (top 31), [], []⟩
def d_planned : He.DefD := ⟨("planned", none), "planned", "planned", defArgs (top 50), defBody (top 50), defScope (top 50), [], []⟩
def d_planned_in : He.DefD := ⟨("planned_in", none), "planned_in", "planned_in", defArgs (top 46), defBody (top 46), defScope (top 46), [], []⟩
def d_answers : He.DefD := ⟨("answers", none), "answers", "answers", defArgs (top 51), defBody (top 51), defScope (top 51), [], []⟩
def d_sliced : He.DefD := ⟨("sliced", none), "sliced", "sliced", defArgs (top 48), defBody (top 48), defScope (top 48), [], []⟩
def d_left_at : He.DefD := ⟨("left_at", none), "left_at", "left_at", defArgs (top 49), defBody (top 49), defScope (top 49), [], []⟩
def d_ordered : He.DefD := ⟨("ordered", none), "ordered", "ordered", defArgs (top 69), defBody (top 69), defScope (top 69), [], []⟩
def d_ordered_in : He.DefD := ⟨("ordered_in", none), "ordered_in", "ordered_in", defArgs (top 62), defBody (top 62), defScope (top 62), [], []⟩
def d_lots : He.DefD := ⟨("lots", none), "lots", "lots", defArgs (top 70), defBody (top 70), defScope (top 70), [], []⟩
def d_lots_in : He.DefD := ⟨("lots_in", none), "lots_in", "lots_in", defArgs (top 65), defBody (top 65), defScope (top 65), [], []⟩
def d_parted : He.DefD := ⟨("parted", none), "parted", "parted", defArgs (top 71), defBody (top 71), defScope (top 71), [], []⟩
def d_least_computers : He.DefD := ⟨("least_computers", none), "least_computers", "least_computers", defArgs (top 72), defBody (top 72), defScope (top 72), [], []⟩
def d_most_work : He.DefD := ⟨("most_work", none), "most_work", "most_work", defArgs (top 73), defBody (top 73), defScope (top 73), [], []⟩
def d_shows_plan : He.DefD := ⟨("shows_plan", none), "shows_plan", "shows_plan", defArgs (top 91), defBody (top 91), defScope (top 91), [], []⟩
def d_shows_ordered : He.DefD := ⟨("shows_ordered", none), "shows_ordered", "shows_ordered", defArgs (top 92), defBody (top 92), defScope (top 92), [], []⟩
def d_shows_lots : He.DefD := ⟨("shows_lots", none), "shows_lots", "shows_lots", defArgs (top 93), defBody (top 93), defScope (top 93), [], []⟩
def d_shows_parted : He.DefD := ⟨("shows_parted", none), "shows_parted", "shows_parted", defArgs (top 94), defBody (top 94), defScope (top 94), [], []⟩
def d_shows_most_work : He.DefD := ⟨("shows_most_work", none), "shows_most_work", "shows_most_work", defArgs (top 95), defBody (top 95), defScope (top 95), [], []⟩
def d__law_pen : He.DefD := ⟨("_law_pen", none), "_law_pen", "_law_pen", defArgs (top 97), defBody (top 97), defScope (top 97), [], []⟩
def d__law_draw : He.DefD := ⟨("_law_draw", none), "_law_draw", "_law_draw", defArgs (top 98), defBody (top 98), defScope (top 98), [], []⟩
def d__law_pick : He.DefD := ⟨("_law_pick", none), "_law_pick", "_law_pick", defArgs (top 99), defBody (top 99), defScope (top 99), [], []⟩
def d__law_mixed : He.DefD := ⟨("_law_mixed", none), "_law_mixed", "_law_mixed", defArgs (top 100), defBody (top 100), defScope (top 100), [], []⟩
def d__law_sched_round : He.DefD := ⟨("_law_sched_round", none), "_law_sched_round", "_law_sched_round", defArgs (top 101), defBody (top 101), defScope (top 101), [], []⟩
def d__law_sched_draw : He.DefD := ⟨("_law_sched_draw", none), "_law_sched_draw", "_law_sched_draw", defArgs (top 102), defBody (top 102), defScope (top 102), [], []⟩
def d__law_sched_made : He.DefD := ⟨("_law_sched_made", none), "_law_sched_made", "_law_sched_made", defArgs (top 103), defBody (top 103), defScope (top 103), [], []⟩
def d__law_sched_heard : He.DefD := ⟨("_law_sched_heard", none), "_law_sched_heard", "_law_sched_heard", defArgs (top 104), defBody (top 104), defScope (top 104), [], []⟩
def d__law_sched_bad : He.DefD := ⟨("_law_sched_bad", none), "_law_sched_bad", "_law_sched_bad", defArgs (top 105), defBody (top 105), defScope (top 105), [], []⟩
def d__law_sched_asks : He.DefD := ⟨("_law_sched_asks", none), "_law_sched_asks", "_law_sched_asks", defArgs (top 106), defBody (top 106), defScope (top 106), [], []⟩
def d_law : He.DefD := ⟨("law", none), "law", "law", defArgs (top 107), defBody (top 107), defScope (top 107), [], []⟩
def d_init : He.DefD := ⟨("Task", some "__init__"), "__init__", "Task.__init__", defArgs sInit, defBody sInit, defScope sInit, [], []⟩
def d_eq : He.DefD := ⟨("Task", some "__eq__"), "__eq__", "Task.__eq__", defArgs sEq, defBody sEq, defScope sEq, [], []⟩
def fnL0 : List He.DefD := [d_is_integer, d_is_between, d_is_name, d_is_listed, d_ascends, d_are_unlike, d_common_part, d_round_in, d_need_tasks, d_need_order, d_releases_in, d_round_of, d_releases, d_planned, d_planned_in, d_answers, d_sliced, d_left_at, d_ordered, d_ordered_in, d_lots, d_lots_in, d_parted, d_least_computers, d_most_work]
def fnL1 : List He.DefD := [d_shows_plan, d_shows_ordered, d_shows_lots, d_shows_parted, d_shows_most_work, d__law_pen, d__law_draw, d__law_pick, d__law_mixed, d__law_sched_round, d__law_sched_draw, d__law_sched_made, d__law_sched_heard, d__law_sched_bad, d__law_sched_asks, d_law, d_init, d_eq]
def fnL : List He.DefD := fnL0 ++ fnL1
def faL0 : List He.Fa := [.glo "is_integer", .glo "is_between", .glo "is_name", .glo "is_listed", .glo "ascends", .glo "are_unlike", .glo "common_part", .glo "round_in", .glo "need_tasks", .glo "need_order", .glo "releases_in", .glo "round_of", .glo "releases", .glo "planned", .glo "planned_in", .glo "answers", .glo "sliced", .glo "left_at", .glo "ordered", .glo "ordered_in", .glo "lots", .glo "lots_in", .glo "parted", .glo "least_computers", .glo "most_work"]
def faL1 : List He.Fa := [.glo "shows_plan", .glo "shows_ordered", .glo "shows_lots", .glo "shows_parted", .glo "shows_most_work", .glo "_law_pen", .glo "_law_draw", .glo "_law_pick", .glo "_law_mixed", .glo "_law_sched_round", .glo "_law_sched_draw", .glo "_law_sched_made", .glo "_law_sched_heard", .glo "_law_sched_bad", .glo "_law_sched_asks", .glo "law", .glo "Task", .glo "BadValue", .glo "TooMany", .glo "NoName", .glo "Misfit", .glo "Nothing", .glo "MomentError", .free "isinstance", .free "int"]
def faL2 : List He.Fa := [.free "bool", .free "str", .free "list", .free "tuple", .free "len", .free "all", .free "any", .free "max", .free "min", .free "abs", .free "sorted", .free "zip", .free "range", .free "enumerate", .free "repr", .int "MOST_SIGNS" 8, .str "LETTERS" "abcdefghijklmnopqrstuvwxyz", .int "MOST_TASKS" 5, .int "MOST_ROUND" 600, .int "MOST_WORK" 100000000, .int "MOST_MOMENT" 1000000, .cls "Task", .noat "Task" "name", .noat "Task" "period", .noat "Task" "offset"]
def faL3 : List He.Fa := [.noat "Task" "due", .noat "Task" "least", .noat "Task" "most", .meth "Task" "__eq__", .mkr "Task"]
def faL : List He.Fa := faL0 ++ faL1 ++ faL2 ++ faL3
def loose0 : List PySem.Str := ["LETTERS", "MOST_SIGNS", "is_integer", "is_between", "is_name", "is_listed", "ascends", "are_unlike", "common_part", "MomentError", "BadValue", "NoName", "Misfit", "Nothing", "TooMany", "MOST_TASKS", "MOST_ROUND", "MOST_WORK", "MOST_MOMENT", "Task", "need_tasks", "need_order", "round_in", "latest_offset", "by_order", "of_lot", "releases_in", "round_of", "releases", "fixed"]
def loose1 : List PySem.Str := ["is_like", "Paper", "Denial", "MOST_UNTIL", "Plan", "Late", "TaskWalk", "cut_slices", "due_of", "late_jobs", "walked", "planned_in", "need_works", "sliced", "left_at", "planned", "answers", "Borne", "Stuck", "Lots", "Parted", "Unparted", "MostWork", "names_of", "lowest_row", "stuck_rows", "ordered_in", "all_lots", "is_within", "lots_in"]
def loose2 : List PySem.Str := ["partings", "parted_in", "with_most", "ordered", "lots", "parted", "least_computers", "most_work", "Ticks", "rows_of", "Reading", "is_plan", "is_late", "is_order", "is_lot", "are_rows", "stuck_lot", "is_borne", "are_stuck", "are_apart", "are_lots", "are_parts", "is_unparted", "is_most_work", "shows_plan", "shows_ordered", "shows_lots", "shows_parted", "shows_most_work", "_law_pen"]
def loose3 : List PySem.Str := ["_law_draw", "_law_pick", "_law_mixed", "_law_sched_round", "_law_sched_draw", "_law_sched_made", "_law_sched_heard", "_law_sched_bad", "_law_sched_asks"]
def loose : List PySem.Str := loose0 ++ loose1 ++ loose2 ++ loose3
def fnNames0 : List Str := ["is_integer", "is_between", "is_name", "is_listed", "ascends", "are_unlike", "common_part", "round_in", "need_tasks", "need_order", "releases_in", "round_of", "releases", "planned", "planned_in", "answers", "sliced", "left_at", "ordered", "ordered_in", "lots", "lots_in", "parted", "least_computers", "most_work"]
def fnNames1 : List Str := ["shows_plan", "shows_ordered", "shows_lots", "shows_parted", "shows_most_work", "_law_pen", "_law_draw", "_law_pick", "_law_mixed", "_law_sched_round", "_law_sched_draw", "_law_sched_made", "_law_sched_heard", "_law_sched_bad", "_law_sched_asks", "law"]
def fnNames : List Str := fnNames0 ++ fnNames1
def clNames0 : List Str := ["Task", "BadValue", "TooMany", "NoName", "Misfit", "Nothing", "MomentError"]
def clNames : List Str := clNames0
def tfL : List He.Defn := [("need_tasks", none), ("_law_sched_asks", none), ("law", none)]
abbrev R : PySem.W.OpenRow := PySem.W.OpenLaw.row PySem.Challenge.rw_toldmoments_k20_tasks_made_and_refused
def cT (K : PySem.W.Frag) : Addr := He.ga K "Task"
def cB (K : PySem.W.Frag) : Addr := He.ga K "BadValue"
def cM (K : PySem.W.Frag) : Addr := He.ga K "TooMany"
def fB (K : PySem.W.Frag) : Addr := He.ma K (cB K) "__init__"
def fM (K : PySem.W.Frag) : Addr := He.ma K (cM K) "__init__"
def tN (K : PySem.W.Frag) (x : Str) : Addr := (He.cT K (x, none)).2
def taskB (K : PySem.W.Frag) : Bool := allB [clsIB K (cT K), kitB K (.ref (cT K)) (.type "int") false, kitB K (.ref (cT K)) (.type "bool") false, kitB K (.ref (cT K)) (.type "str") false, kitB K (.ref (cT K)) (.type "list") false, kitB K (.ref (cT K)) (.type "tuple") false,
  kitB K (.type "NoneType") (.ref (cT K)) false, kitB K (.type "tuple") (.ref (cT K)) false, decide (PySem.W.findIn K (.ref (cT K)) "__ne__" = some (some (.builtin "object.__ne__"))), decide (PySem.W.mroIn K (cT K) (.type "object") = some true), PySem.W.notFirst K (cT K) (.type "tuple"), PySem.W.notFirst K (cT K) (.ref (cT K))]
def errB (K : PySem.W.Frag) : Bool := allB [errIB K (cB K), errIB K (cM K), decide (PySem.W.findIn K (.ref (cB K)) "part" = some none), decide (PySem.W.findIn K (.ref (cM K)) "what" = some none), decide (PySem.W.findIn K (.ref (cM K)) "most" = some none),
  kitB K (.ref (cB K)) (.ref (cB K)) true, kitB K (.ref (cM K)) (.ref (cB K)) false, kitB K (.ref (cM K)) (.ref (He.ga K "NoName")) false, kitB K (.ref (cM K)) (.ref (He.ga K "Misfit")) false, kitB K (.ref (cM K)) (.ref (He.ga K "Nothing")) false, kitB K (.ref (cM K)) (.ref (cM K)) true,
  decide (PySem.W.exmOne K (.ref (cB K)) (.ref (He.ga K "MomentError")) = some true), decide (PySem.W.exmOne K (.ref (cM K)) (.ref (He.ga K "MomentError")) = some true)]
def exK (K : PySem.W.Frag) : Bool := allB [taskB K, errB K, supFB R.prog.main.file K (cB K) (fB K) "BadValue.__init__", supFB R.prog.main.file K (cM K) (fM K) "TooMany.__init__",
  decide (tN K "need_tasks" ≠ tN K "_law_sched_asks"), decide (tN K "need_tasks" ≠ tN K "law"), decide (tN K "_law_sched_asks" ≠ tN K "law")]
def atG (g : Addr → Option Obj) (xs : List Str) : List Addr := xs.map (He.ga (He.frG g [mainGlobals]))
def asL (g : Addr → Option Obj) : List Addr := mainGlobals :: cStatics :: (He.growD g (atG g fnNames) ++ He.growD g (He.growD g (He.growD g (atG g clNames))))
abbrev AlK : Type := (He.AlD × Bool) × List FnC
def fcs (K : PySem.W.Frag) : List FnC := [fnC K (fB K), fnC K (fM K)]
def obsK (g : Addr → Option Obj) (K : PySem.W.Frag) : AlK := ((He.obsD faL fnL K, exK K && He.tabsB g tfL K), fcs K)
def fcV (i : Nat) (q : Str) : FnC := some ("__init__", q, defArgs (met (top i) 0), .stmts (defBody (met (top i) 0)), defScope (met (top i) 0), mainGlobals, [("__class__" : Str)], .none, builtinsNs)
def valK : AlK := ((He.valD fnL, true), [fcV 12 "BadValue.__init__", fcV 16 "TooMany.__init__"])
/-- what the head tells of a part of the heap -/
structure SaysK (h : Heap) (K : PySem.W.Frag) : Prop where
  d : He.SaysD faL fnL K
  more : exK K = true
  b : fnC K (fB K) = fcV 12 "BadValue.__init__"
  m : fnC K (fM K) = fcV 16 "TooMany.__init__"
  hd : ∀ p ∈ tfL, PySem.W.codeHdIn K (He.cT K p).1 (He.cT K p).2 = true
  out : ∀ p ∈ tfL, K.lookup (He.cT K p).2 = none
  empty : ∀ p ∈ tfL, h.get? (He.cT K p).2 = some tabO
theorem saysK_of {h : Heap} {as : List Addr} (e : obsK h.get? (He.frT h.get? as) = valK) : SaysK h (He.frT h.get? as) := by
  have e1 := congrArg (fun z : AlK => z.1.1) e
  have e2 : (exK (He.frT h.get? as) && He.tabsB h.get? tfL (He.frT h.get? as)) = true := congrArg (fun z : AlK => z.1.2) e
  have e3 : fcs (He.frT h.get? as) = [fcV 12 "BadValue.__init__", fcV 16 "TooMany.__init__"] := congrArg (fun z : AlK => z.2) e
  obtain ⟨x1, x2⟩ := Bool.and_eq_true_iff.mp e2
  have tab : ∀ p ∈ tfL, PySem.W.codeHdIn (He.frT h.get? as) (He.cT (He.frT h.get? as) p).1 (He.cT (He.frT h.get? as) p).2 = true ∧ ∃ ob, h.get? (He.cT (He.frT h.get? as) p).2 = some ob ∧ He.emptyTab ob = true := fun p m => by
    obtain ⟨y1, y2⟩ := Bool.and_eq_true_iff.mp (List.all_eq_true.mp x2 p m)
    refine ⟨y1, ?_⟩
    split at y2
    · rename_i ob hob
      exact ⟨ob, hob, y2⟩
    · cases y2
  have e3 := List.cons.inj e3
  refine ⟨e1, x1, e3.1, (List.cons.inj e3.2).1, fun p m => (tab p m).1, fun p m => ?_, fun p m => ?_⟩
  · obtain ⟨_, ob, z1, z2⟩ := tab p m
    exact He.frT_none z1 z2
  · obtain ⟨_, ob, z1, z2⟩ := tab p m
    exact z1.trans (congrArg some (He.emptyTab_eq z2))
def obG (g : Addr → Option Obj) : AlK := obsK g (He.frT g (asL g))
def hk : PySem.W.Hook where
  α := AlK
  obs := fun s => obG s.heap.get?
  val := fun _ => valK
  says := fun _ h => ∃ K : PySem.W.Frag, K.In h ∧ SaysK h K
  of := fun _ _ e => ⟨_, He.frT_in, saysK_of e⟩
  keeps := fun _ _ _ ⟨K, hK, c⟩ k => ⟨K, PySem.W.Frag.In.keeps hK k, c.d, c.more, c.b, c.m, c.hd, c.out, fun p hp => k _ _ (c.empty p hp)⟩
def ob (s : PySem.W.SharedT) : AlK := obG (HandSHeadRun.getT s)
theorem ob_eq (s : PySem.W.SharedT) : ob s = hk.obs s.abs := by
  have e : HandSHeadRun.getT s = s.abs.heap.get? := funext (HandSHeadRun.getT_eq s)
  show obG _ = obG _
  rw [e]
theorem run (w : World) : HandSHeadRun.RunEq R (PySem.W.view R.prog [107]) hk ob 20000 loose w := by
  intro os
  kernel_rfl
end K20

end
section
set_option maxHeartbeats 0
/-! K44: the law holds, if its call does what it should. -/
namespace K20
open PySem PySem.W
open PySem.Calls
open PyProof.Rows
theorem p1 : opening R.prog = plainProg R.prog.main.scope.names := by kernel_rfl
theorem p2 (s) : fenceModules? R.prog s = some s := by kernel_rfl
theorem p3 : defOf (view R.prog [107]) R.name = some (HandSHeadRun.topDef R.prog 107, []) := by kernel_rfl
theorem p4 : R.prog.theDef R.name = some ((HandSHeadRun.topDef R.prog 107).params, (HandSHeadRun.topDef R.prog 107).body, (HandSHeadRun.topDef R.prog 107).scope) := by kernel_rfl
theorem p5 : kwWritten? (HandSHeadRun.topDef R.prog 107).params.kwonlyargs (HandSHeadRun.topDef R.prog 107).params.kw_defaults = some [] := by kernel_rfl
theorem p6 : (!R.writes || R.records.isEmpty) = true := by rfl
theorem p7 : R.wellSaid = true := by decide +kernel
theorem p8 : (chainsOk (view R.prog [107]) && opensWell R.prog && (frees R.toRowW && R.within.isEmpty)) = true := by decide +kernel
theorem p9 : R.prog.bare := ⟨rfl, rfl, rfl, rfl, rfl, by decide +kernel⟩
theorem holds_of (walk : WalkO (view R.prog [107]) loose (XL (view R.prog [107]) []) hk.says R.toRowW (HandSHeadRun.topDef R.prog 107) [] (fun f vs => PySem.call f vs)) : PySem.Challenge.rw_toldmoments_k20_tasks_made_and_refused.Holds := by
  w_on; o_law
  refine HandSHeadRun.head_any (r := R) (q := view R.prog [107]) (H := hk) (ob := ob) (M := 20000) (loose := loose) (d := HandSHeadRun.topDef R.prog 107) (kwd := []) ob_eq
    p1 p2 run p3 p4 p5 p6 p7 p8 p9 ?hw walk
  case hw => w_witness2
end K20

end
section
set_option maxHeartbeats 4000001
/-! DL1: data over the abstract heap: what a value stands for, steps, slots, the judgements. -/
namespace DL
open PySem PySem.Spec
open PyProof.Rows L2
open Evl (Ex)

/-- a datum; .exc: an exception that was caught; .fn i ds: the lambda of the number i over what it captured; .scr: the script, locked; .mk i cl: the lambda of the number i with these cells -/
inductive D where
  | non | bl (b : Bool) | int (i : Int) | str (s : Str) | lst (xs : List D) | tup (xs : List D) | ins (C : Addr) (fs : List (Str × D)) | ty (n : String) | rf (a : Addr) | dic | exc (C : Addr) (fs : List (Str × D)) | fn (i : Nat) (ds : List D) | scr (is : List Int) | mk (i : Nat) (cl : List (Str × Addr))
structure LamD where
  qual : Str
  params : Arguments
  body : Expr
  scope : Scope
  free : List Str
  dfl : List V := []
/-- a lambda's function object: its words, its defaults' tuple, its captured cells, its module's name, its code object, its closure's tuple -/
abbrev lamFd (L : LamD) (dV : Value) (cs : List (Str × Addr)) (pm cdv ctv : Value) : FuncData :=
  { name := "<lambda>", qualname := L.qual, params := L.params, body := .expr L.body, scope := L.scope, globals := mainGlobals, closure := cs, closureTuple := ctv, defaults := dV, kwdefaults := .none, annotations := none, doc := .none, pyModule := pm, code := cdv, builtins := builtinsNs }
abbrev lamObj (L : LamD) (dV : Value) (cs : List (Str × Addr)) (pm : Value) (c' : Addr) (ctv : Value) : Obj := { cls := .type "function", data := .func (lamFd L dV cs pm (.ref c') ctv) }
/-- the defaults' tuple -/
def DfO (H : Hp) : List V → Value → Prop
  | [], dV => dV = .none
  | v :: vs, dV => ∃ T, dV = .ref T ∧ H T = some (.tup (v :: vs))
theorem DfO.ex {H H' : Hp} (e : Ex H H') : ∀ {vs : List V} {dV : Value}, DfO H vs dV → DfO H' vs dV
  | [], _, h => h
  | _ :: _, _, ⟨T, h1, h2⟩ => ⟨T, h1, e _ _ h2⟩
/-- the tables of code objects that are known; the lambdas that outlive their makers -/
class Tb where
  T : List (Addr × Str)
  lam : Nat → LamD
def ExcO (a C xd : Addr) : HO := .ext fun h => ∃ o vs, h.get? a = some o ∧ Zc (.ref C) (some xd) o ∧ o.data = .fields vs
def CellO (c : Addr) (v : V) : HO := .ext fun h => ∃ u, h.IsCell c (some u) ∧ RelV v u
def LamO (f : Addr) (L : LamD) (dV : Value) (cs : List (Str × Addr)) (c' : Addr) : HO := .ext fun h => ∃ pm ctv, h.get? f = some (lamObj L dV cs pm c' ctv)
variable [Tb]

mutual
/-- at H the value v is the datum d -/
inductive At (H : Hp) : V → D → Prop where
  | non : At H .non .non
  | bl (b : Bool) : At H (.bl b) (.bl b)
  | int (i : Int) : At H (.int i) (.int i)
  | str (x : Str) : At H (.str x) (.str x)
  | ty (n : String) : At H (.ty n) (.ty n)
  | rf (a : Addr) : At H (.ref a) (.rf a)
  | lst {a : Addr} {vs : List V} {ds : List D} (h : H a = some (.lst vs)) (hs : Ats H vs ds) : At H (.ref a) (.lst ds)
  | tup {a : Addr} {vs : List V} {ds : List D} (h : H a = some (.tup vs)) (hs : Ats H vs ds) : At H (.ref a) (.tup ds)
  | ins {a C dx : Addr} {vs : List (Str × V)} {fs : List (Str × D)} (h : H a = some (.ins C dx vs)) (hs : Atf H vs fs) : At H (.ref a) (.ins C fs)
  | dic {a : Addr} (h : H a = some (.dK [])) : At H (.ref a) .dic
  | exc {a C xd : Addr} {vs : List (Str × V)} {fs : List (Str × D)} (h : H a = some (ExcO a C xd)) (hx : H xd = some (.xd vs)) (hs : Atf H vs fs) : At H (.ref a) (.exc C fs)
  | fn {f c' : Addr} {i : Nat} {dV : Value} {cs : List Addr} {vs : List V} {ds : List D} (h : H f = some (LamO f (Tb.lam i) dV ((Tb.lam i).free.zip cs) c')) (hD : DfO H (Tb.lam i).dfl dV) (hc : H c' = some (LamX.CodeO c' (Tb.lam i).qual)) (hl : cs.length = (Tb.lam i).free.length) (hn : cs.Nodup) (hcs : ∀ (j : Nat) (c : Addr), cs[j]? = some c → ∃ v, vs[j]? = some v ∧ H c = some (CellO c v)) (hs : Ats H vs ds) : At H (.ref f) (.fn i ds)
  | scr {a : Addr} {o : Obj} {is : List Int} (h : H a = some (.frz o (.lst (is.map V.int)))) : At H (.ref a) (.scr is)
  | mk {f c' : Addr} {i : Nat} {dV : Value} {cl : List (Str × Addr)} (h : H f = some (LamO f (Tb.lam i) dV cl c')) (hD : DfO H (Tb.lam i).dfl dV) (hc : H c' = some (LamX.CodeO c' (Tb.lam i).qual)) : At H (.ref f) (.mk i cl)
inductive Ats (H : Hp) : List V → List D → Prop where
  | nil : Ats H [] []
  | cons {v : V} {vs : List V} {d : D} {ds : List D} (h : At H v d) (hs : Ats H vs ds) : Ats H (v :: vs) (d :: ds)
inductive Atf (H : Hp) : List (Str × V) → List (Str × D) → Prop where
  | nil : Atf H [] []
  | cons {x : Str} {v : V} {vs : List (Str × V)} {d : D} {ds : List (Str × D)} (h : At H v d) (hs : Atf H vs ds) : Atf H ((x, v) :: vs) ((x, d) :: ds)
end
mutual
theorem At.ex {H H' : Hp} (e : Ex H H') : ∀ {v : V} {d : D}, At H v d → At H' v d
  | _, _, .non => .non
  | _, _, .bl b => .bl b
  | _, _, .int i => .int i
  | _, _, .str x => .str x
  | _, _, .ty n => .ty n
  | _, _, .rf a => .rf a
  | _, _, .lst h hs => .lst (e _ _ h) (Ats.ex e hs)
  | _, _, .tup h hs => .tup (e _ _ h) (Ats.ex e hs)
  | _, _, .ins h hs => .ins (e _ _ h) (Atf.ex e hs)
  | _, _, .dic h => .dic (e _ _ h)
  | _, _, .exc h hx hs => .exc (e _ _ h) (e _ _ hx) (Atf.ex e hs)
  | _, _, .fn h hD hc hl hn hcs hs => .fn (e _ _ h) (hD.ex e) (e _ _ hc) hl hn (fun j c q => let ⟨v, a, b⟩ := hcs j c q; ⟨v, a, e _ _ b⟩) (Ats.ex e hs)
  | _, _, .scr h => .scr (e _ _ h)
  | _, _, .mk h hD hc => .mk (e _ _ h) (hD.ex e) (e _ _ hc)
theorem Ats.ex {H H' : Hp} (e : Ex H H') : ∀ {vs : List V} {ds : List D}, Ats H vs ds → Ats H' vs ds
  | _, _, .nil => .nil
  | _, _, .cons h hs => .cons (At.ex e h) (Ats.ex e hs)
theorem Atf.ex {H H' : Hp} (e : Ex H H') : ∀ {vs : List (Str × V)} {ds : List (Str × D)}, Atf H vs ds → Atf H' vs ds
  | _, _, .nil => .nil
  | _, _, .cons h hs => .cons (At.ex e h) (Atf.ex e hs)
end
theorem Ats.length {H : Hp} : ∀ {vs : List V} {ds : List D}, Ats H vs ds → vs.length = ds.length
  | _, _, .nil => rfl
  | _, _, .cons _ hs => congrArg Nat.succ hs.length
theorem Ats.get {H : Hp} : ∀ {vs : List V} {ds : List D} {i : Nat} {d : D}, Ats H vs ds → ds[i]? = some d → ∃ v, vs[i]? = some v ∧ At H v d
  | _, _, 0, _, .cons h _, e => by cases e; exact ⟨_, rfl, h⟩
  | _, _, i + 1, _, .cons _ hs, e => hs.get (i := i) e
theorem Ats.getv {H : Hp} : ∀ {vs : List V} {ds : List D} {i : Nat} {v : V}, Ats H vs ds → vs[i]? = some v → ∃ d, ds[i]? = some d ∧ At H v d
  | _, _, 0, _, .cons h _, e => by cases e; exact ⟨_, rfl, h⟩
  | _, _, i + 1, _, .cons _ hs, e => hs.getv (i := i) e
theorem Ats.append {H : Hp} : ∀ {vs ws : List V} {ds es : List D}, Ats H vs ds → Ats H ws es → Ats H (vs ++ ws) (ds ++ es)
  | _, _, _, _, .nil, k => k
  | _, _, _, _, .cons h hs, k => .cons h (hs.append k)
theorem Ats.take {H : Hp} : ∀ {vs : List V} {ds : List D} (n : Nat), Ats H vs ds → Ats H (vs.take n) (ds.take n)
  | _, _, 0, _ => .nil
  | _, _, _ + 1, .nil => .nil
  | _, _, n + 1, .cons h hs => .cons h (hs.take n)
theorem Ats.drop {H : Hp} : ∀ {vs : List V} {ds : List D} (n : Nat), Ats H vs ds → Ats H (vs.drop n) (ds.drop n)
  | _, _, 0, h => h
  | _, _, _ + 1, .nil => .nil
  | _, _, n + 1, .cons _ hs => hs.drop n
theorem Atf.look {H : Hp} {f : Str} : ∀ {vs : List (Str × V)} {ds : List (Str × D)} {d : D}, Atf H vs ds → ds.lookup f = some d → ∃ v, vs.lookup f = some v ∧ At H v d
  | _, _, _, .nil, e => by cases e
  | _, _, _, .cons (x := x) h hs, e => by
    unfold List.lookup at e ⊢
    cases q : (f == x) with
    | true =>
      rw [q] at e
      cases e
      exact ⟨_, rfl, h⟩
    | false =>
      rw [q] at e
      exact hs.look e
theorem Atf.none {H : Hp} {f : Str} : ∀ {vs : List (Str × V)} {ds : List (Str × D)}, Atf H vs ds → ds.lookup f = Option.none → vs.lookup f = Option.none
  | _, _, .nil, _ => rfl
  | _, _, .cons (x := x) h hs, e => by
    unfold List.lookup at e ⊢
    cases q : (f == x) with
    | true =>
      rw [q] at e
      cases e
    | false =>
      rw [q] at e
      exact hs.none e
omit [Tb] in
theorem some_ne {α : Type} {o : Option α} {x : α} (e : o = some x) : o ≠ none := fun z => by
  rw [e] at z
  cases z
omit [Tb] in
theorem Ex.ne {H H' : Hp} (e : Ex H H') {a : Addr} (h : H a ≠ none) : H' a ≠ none := by
  cases q : H a with
  | none => exact absurd q h
  | some o => exact some_ne (e a o q)
/-- what a slot holds: a datum; a list of one's own, of data; an instance of one's own -/
inductive S where
  | d (d : D) | own (ds : List D) | obj (C : Addr) (fs : List (Str × D))
def S.me : S → Bool
  | .d _ => false
  | _ => true
inductive Sl (G H : Hp) : V → S → Prop where
  | d {v : V} {d : D} (h : At G v d) : Sl G H v (.d d)
  | own {p : Addr} {vs : List V} {ds : List D} (hg : G p = none) (hh : H p = some (.lst vs)) (hs : Ats G vs ds) : Sl G H (.ref p) (.own ds)
  | obj {p C dx : Addr} {vs : List (Str × V)} {fs : List (Str × D)} (hg : G p = none) (hh : H p = some (.ins C dx vs)) (hs : Atf G vs fs) : Sl G H (.ref p) (.obj C fs)
abbrev Rho := List (Option S)
/-- the addresses of what is one's own -/
def Mine (σ : L2.St) (ρ : Rho) (a : Addr) : Prop := ∃ (i : Nat) (s : S), ρ[i]? = some (some s) ∧ s.me = true ∧ σ[i]? = some (some (V.ref a))
def NoTab (o : HO) : Prop := ∀ ps, o ≠ .tbl ps
/-- the tables of code objects; what they tell is frozen -/
def TabsG (T : List (Addr × Str)) (G H : Hp) : Prop := ∀ p ∈ T, ∃ ps, H p.1 = some (.tbl ps) ∧ TriplesOk ps.toList ∧ ∀ pos cv, codeAmong pos ps.toList = some cv → ∃ c, cv = .ref c ∧ G c = some (LamX.CodeO c p.2)
omit [Tb] in
theorem TabsG.tabs {T : List (Addr × Str)} {G H : Hp} (t : TabsG T G H) (e : Ex G H) : LamX.Tabs T H := fun p hp =>
  let ⟨ps, a, b, c⟩ := t p hp
  ⟨ps, a, b, fun pos cv z => let ⟨c', q, r⟩ := c pos cv z; ⟨c', q, e _ _ r⟩⟩
omit [Tb] in
theorem TabsG.ext {T : List (Addr × Str)} {G H G' H' : Hp} (t : TabsG T G H) (e : Ex G G') (h : ∀ b ps, H b = some (.tbl ps) → H' b = some (.tbl ps)) : TabsG T G' H' := fun p hp =>
  let ⟨ps, a, b, c⟩ := t p hp
  ⟨ps, h _ _ a, b, fun pos cv z => let ⟨c', q, r⟩ := c pos cv z; ⟨c', q, e _ _ r⟩⟩
/-- .. and none of the tables is frozen -/
def TbO (G H : Hp) : Prop := TabsG Tb.T G H ∧ ∀ p ∈ Tb.T, G p.1 = none
theorem TbO.ne {G H : Hp} (t : TbO G H) {p : Addr × Str} (hp : p ∈ Tb.T) : H p.1 ≠ none := by
  obtain ⟨ps, e, _⟩ := t.1 p hp
  exact some_ne e
theorem TbO.out {G H : Hp} (t : TbO G H) {a : Addr} {o : HO} (h : H a = some o) (n : NoTab o) {p : Addr × Str} (hp : p ∈ Tb.T) : p.1 ≠ a := fun z => by
  obtain ⟨ps, e, _⟩ := t.1 p hp
  rw [z, h] at e
  exact n ps (Option.some.inj e)
theorem TbO.upd {G H : Hp} (t : TbO G H) {a : Addr} {o : HO} {u : HO} (hg : G a = none) (h : H a = some o) (n : NoTab o) : TbO (L2.upd G a u) H := ⟨t.1.ext (Evl.Ex.new hg) fun _ _ z => z, fun p hp => (upd_ne (t.out h n hp)).trans (t.2 p hp)⟩
structure Slots (G H : Hp) (σ : L2.St) (ρ : Rho) : Prop where
  len : σ.length = ρ.length
  at_ : ∀ (i : Nat) (s : S), ρ[i]? = some (some s) → ∃ v, σ[i]? = some (some v) ∧ Sl G H v s
  ne : ∀ (i j : Nat) (s t : S) (p : Addr), ρ[i]? = some (some s) → s.me = true → ρ[j]? = some (some t) → t.me = true → σ[i]? = some (some (.ref p)) → σ[j]? = some (some (.ref p)) → i = j
  tb : TbO G H
theorem Slots.mine {G H : Hp} {σ : L2.St} {ρ : Rho} (s : Slots G H σ ρ) {a : Addr} (m : Mine σ ρ a) : G a = none ∧ ∃ o, H a = some o ∧ NoTab o := by
  obtain ⟨i, t, e1, e2, e3⟩ := m
  obtain ⟨v, e4, e5⟩ := s.at_ i t e1
  rw [e4] at e3
  cases e3
  cases e5 with
  | d h => cases e2
  | own hg hh hs => exact ⟨hg, _, hh, fun _ z => by cases z⟩
  | obj hg hh hs => exact ⟨hg, _, hh, fun _ z => by cases z⟩
/-- only new things come -/
structure Grow (G H G' H' : Hp) : Prop where
  g : Ex G G'
  gh : Ex G' H'
  nw : ∀ a, H a ≠ none → G' a = G a
  kp : ∀ a o, H a = some o → NoTab o → H' a = some o
  al : ∀ a, H a ≠ none → H' a ≠ none
  tb : TabsG Tb.T G H → TabsG Tb.T G' H'
theorem Grow.refl {G H : Hp} (e : Ex G H) : Grow G H G H := ⟨Ex.refl _, e, fun _ _ => rfl, fun _ _ h _ => h, fun _ h => h, fun h => h⟩
theorem Grow.trans {G H G1 H1 G2 H2 : Hp} (a : Grow G H G1 H1) (b : Grow G1 H1 G2 H2) : Grow G H G2 H2 :=
  ⟨a.g.trans b.g, b.gh, fun x hx => (b.nw x (a.al x hx)).trans (a.nw x hx), fun x o h n => b.kp x o (a.kp x o h n) n, fun x h => b.al x (a.al x h), fun h => b.tb (a.tb h)⟩
theorem Grow.ofEx {G H H' : Hp} (e : Ex G H) (h : Ex H H') : Grow G H G H' := ⟨Ex.refl _, e.trans h, fun _ _ => rfl, fun a o q _ => h a o q, fun _ q => Ex.ne h q, fun q => q.ext (Ex.refl _) fun b ps z => h b _ z⟩
/-- a new frozen object -/
theorem Grow.new {G H : Hp} (e : Ex G H) {p : Addr} {o : HO} (hp : H p = none) : Grow G H (upd G p o) (upd H p o) := by
  have hg : G p = none := Evl.fresh_back e hp
  refine ⟨Evl.Ex.new hg, fun a u ha => ?_, fun a ha => ?_, fun a u ha _ => Evl.Ex.new hp a u ha, fun a ha => Ex.ne (Evl.Ex.new hp) ha, fun h => h.ext (Evl.Ex.new hg) fun b ps z => Evl.Ex.new hp b _ z⟩
  · by_cases q : a = p
    · rw [q] at ha ⊢
      rw [upd_same] at ha ⊢
      exact ha
    · rw [upd_ne q] at ha ⊢
      exact e a u ha
  · exact upd_ne fun q => ha (by rw [q]; exact hp)
/-- a new thing, not frozen -/
theorem Grow.fresh {G H : Hp} (e : Ex G H) {p : Addr} {o : HO} (hp : H p = none) : Grow G H G (upd H p o) := .ofEx e (Evl.Ex.new hp)
theorem Grow.tbo {G H G' H' : Hp} (g : Grow G H G' H') (t : TbO G H) : TbO G' H' := ⟨g.tb t.1, fun p hp => (g.nw _ (t.ne hp)).trans (t.2 p hp)⟩
theorem Sl.grow {G H G' H' : Hp} (g : Grow G H G' H') {v : V} {s : S} (h : Sl G H v s) : Sl G' H' v s := by
  cases h with
  | d h => exact .d (h.ex g.g)
  | own hg hh hs => exact .own ((g.nw _ (some_ne hh)).trans hg) (g.kp _ _ hh fun _ z => by cases z) (hs.ex g.g)
  | obj hg hh hs => exact .obj ((g.nw _ (some_ne hh)).trans hg) (g.kp _ _ hh fun _ z => by cases z) (hs.ex g.g)
theorem Slots.grow {G H G' H' : Hp} (g : Grow G H G' H') {σ : L2.St} {ρ : Rho} (h : Slots G H σ ρ) : Slots G' H' σ ρ :=
  ⟨h.len, fun i s e => let ⟨v, a, b⟩ := h.at_ i s e; ⟨v, a, b.grow g⟩, h.ne, g.tbo h.tb⟩
/-- a step within a frame: what is one's own may change or be frozen -/
structure Step (σ : L2.St) (ρ ρ' : Rho) (G H G' H' : Hp) : Prop where
  g : Ex G G'
  gh : Ex G' H'
  nw : ∀ a, H a ≠ none → ¬ Mine σ ρ a → G' a = G a
  kp : ∀ a o, H a = some o → NoTab o → ¬ Mine σ ρ a → H' a = some o
  al : ∀ a, H a ≠ none → H' a ≠ none
  sl : Slots G' H' σ ρ'
  me : ∀ (i : Nat) (s : S), ρ'[i]? = some (some s) → s.me = true → ∃ t : S, ρ[i]? = some (some t) ∧ t.me = true
theorem Step.mine {σ : L2.St} {ρ ρ' : Rho} {G H G' H' : Hp} (s : Step σ ρ ρ' G H G' H') {a : Addr} (m : Mine σ ρ' a) : Mine σ ρ a := by
  obtain ⟨i, t, e1, e2, e3⟩ := m
  obtain ⟨u, e4, e5⟩ := s.me i t e1 e2
  exact ⟨i, u, e4, e5, e3⟩
theorem Step.trans {σ : L2.St} {ρ ρ1 ρ2 : Rho} {G H G1 H1 G2 H2 : Hp} (a : Step σ ρ ρ1 G H G1 H1) (b : Step σ ρ1 ρ2 G1 H1 G2 H2) : Step σ ρ ρ2 G H G2 H2 :=
  ⟨a.g.trans b.g, b.gh, fun x hx m => (b.nw x (a.al x hx) fun z => m (a.mine z)).trans (a.nw x hx m), fun x o h n m => b.kp x o (a.kp x o h n m) n fun z => m (a.mine z), fun x h => b.al x (a.al x h), b.sl,
    fun i s e1 e2 => let ⟨t, e3, e4⟩ := b.me i s e1 e2; a.me i t e3 e4⟩
theorem Grow.step {σ : L2.St} {ρ : Rho} {G H G' H' : Hp} (g : Grow G H G' H') (s : Slots G H σ ρ) : Step σ ρ ρ G H G' H' :=
  ⟨g.g, g.gh, fun a h _ => g.nw a h, fun a o h n _ => g.kp a o h n, g.al, s.grow g, fun i s e1 e2 => ⟨s, e1, e2⟩⟩
/-- the reading of an expression that gives what s says, and leaves ρ' -/
def rS (ρ : Rho) (s : S) (ρ' : Rho) : TE := fun σ H Q => ∃ G, Ex G H ∧ Slots G H σ ρ ∧ ∀ v G' H', Step σ ρ ρ' G H G' H' → Sl G' H' v s → (s.me = true → ∃ p, v = .ref p ∧ H p = none ∧ ¬ Mine σ ρ' p) → Q v H'
def PS_ (X : Cx) (e : Expr) (ρ : Rho) (s : S) (ρ' : Rho) : Prop := PE X e (rS ρ s ρ')
/-- .. a datum -/
def rD (ρ : Rho) (d : D) (ρ' : Rho) : TE := fun σ H Q => ∃ G, Ex G H ∧ Slots G H σ ρ ∧ ∀ v G' H', Step σ ρ ρ' G H G' H' → At G' v d → Q v H'
def PD (X : Cx) (e : Expr) (ρ : Rho) (d : D) (ρ' : Rho) : Prop := PE X e (rD ρ d ρ')
def rT (ρ : Rho) (b : Bool) (ρ' : Rho) : TT := fun σ H Q => ∃ G, Ex G H ∧ Slots G H σ ρ ∧ ∀ G' H', Step σ ρ ρ' G H G' H' → Q b H'
def PTD (X : Cx) (e : Expr) (ρ : Rho) (b : Bool) (ρ' : Rho) : Prop := PT X e (rT ρ b ρ')
def PWD (X : Cx) (e : Expr) (ρ : Rho) (b : Bool) (ρ' : Rho) : Prop := PW X e (rT ρ b ρ')
def rA (ρ : Rho) (ds : List D) (ρ' : Rho) : TA := fun σ H Q => ∃ G, Ex G H ∧ Slots G H σ ρ ∧ ∀ vs G' H', Step σ ρ ρ' G H G' H' → Ats G' vs ds → Q vs H'
def PAD (X : Cx) (es : List Expr) (ρ : Rho) (ds : List D) (ρ' : Rho) : Prop := PA X es (rA ρ ds ρ')
theorem pe_weak {X : Cx} {e : Expr} {t t' : TE} (h : PE X e t) (w : ∀ σ H Q, t' σ H Q → t σ H Q) : PE X e t' := ⟨fun pins s σ H Q I q => h.run pins s σ H Q I (w σ H Q q)⟩
theorem pt_weak {X : Cx} {e : Expr} {t t' : TT} (h : PT X e t) (w : ∀ σ H Q, t' σ H Q → t σ H Q) : PT X e t' := ⟨fun pins s σ H Q I q => h.run pins s σ H Q I (w σ H Q q)⟩
theorem pw_weak {X : Cx} {e : Expr} {t t' : TT} (h : PW X e t) (w : ∀ σ H Q, t' σ H Q → t σ H Q) : PW X e t' := ⟨fun wh pins s σ H Q I q => h.run wh pins s σ H Q I (w σ H Q q)⟩
theorem pa_weak {X : Cx} {es : List Expr} {t t' : TA} (h : PA X es t) (w : ∀ σ H Q, t' σ H Q → t σ H Q) : PA X es t' := ⟨fun pos pins s σ H Q I q => h.run pos pins s σ H Q I (w σ H Q q)⟩
theorem ps_weak {X : Cx} {st : Stmt} {t t' : TS} (h : PS X st t) (w : ∀ D σ H, t' D σ H → t D σ H) : PS X st t' := ⟨fun pins s σ H D I q => h.run pins s σ H D I (w D σ H q)⟩
theorem pss_weak {X : Cx} {st : List Stmt} {t t' : TS} (h : PSs X st t) (w : ∀ D σ H, t' D σ H → t D σ H) : PSs X st t' := ⟨fun pins s σ H D I q => h.run pins s σ H D I (w D σ H q)⟩
theorem pg_weak {X : Cx} {e : Expr} {t t' : TG} (h : PG X e t) (w : ∀ v σ H Q, t' v σ H Q → t v σ H Q) : PG X e t' := ⟨fun pins s σ H v u Q I r q => h.run pins s σ H v u Q I r (w v σ H Q q)⟩
theorem pi_weak {X : Cx} {tg e : Expr} {t t' : TI} (h : PI X tg e t) (w : ∀ σ H R, t' σ H R → t σ H R) : PI X tg e t' := ⟨fun pins s σ H R I q => h.run pins s σ H R I (w σ H R q)⟩
/-- a reading that is one of many -/
theorem pe_any {X : Cx} {e : Expr} {α : Type} {t : α → TE} (h : ∀ a, PE X e (t a)) : PE X e fun σ H Q => ∃ a, t a σ H Q := ⟨fun pins s σ H Q I ⟨a, q⟩ => (h a).run pins s σ H Q I q⟩
theorem pt_any {X : Cx} {e : Expr} {α : Type} {t : α → TT} (h : ∀ a, PT X e (t a)) : PT X e fun σ H Q => ∃ a, t a σ H Q := ⟨fun pins s σ H Q I ⟨a, q⟩ => (h a).run pins s σ H Q I q⟩
theorem pg_any {X : Cx} {e : Expr} {α : Type} {t : α → TG} (h : ∀ a, PG X e (t a)) : PG X e fun v σ H Q => ∃ a, t a v σ H Q := ⟨fun pins s σ H v u Q I r ⟨a, q⟩ => (h a).run pins s σ H v u Q I r q⟩
theorem pss_any {X : Cx} {e : List Stmt} {α : Type} {t : α → TS} (h : ∀ a, PSs X e (t a)) : PSs X e fun D σ H => ∃ a, t a D σ H := ⟨fun pins s σ H D I ⟨a, q⟩ => (h a).run pins s σ H D I q⟩
section
variable {X : Cx} {ρ ρ1 ρ2 ρ' : Rho} {a b c : Expr} {x y z d : D} {ds : List D} {pos : Pos}
theorem PD.is (h : PD X a ρ x ρ') (e : x = y) : PD X a ρ y ρ' := e ▸ h
theorem PTD.is {b c : Bool} (h : PTD X a ρ b ρ') (e : b = c) : PTD X a ρ c ρ' := e ▸ h
/-- what is new and one's own, frozen at once -/
theorem pd_frz (h : PS_ X a ρ (.own ds) ρ') : PD X a ρ (.lst ds) ρ' := pe_weak h fun σ H Q ⟨G, e, s, k⟩ => ⟨G, e, s, fun v G' H' st sl fr => by
  obtain ⟨p, rfl, hn, hm⟩ := fr rfl
  cases sl with
  | own hg hh hs =>
    refine k (.ref p) (upd G' p _) H' ?_ (.lst upd_same (hs.ex (Evl.Ex.new hg)))
    have ex : Ex (upd G' p _) H' := fun a u ha => by
      by_cases q : a = p
      · rw [q, upd_same] at ha
        rw [q, ← ha]
        exact hh
      · rw [upd_ne q] at ha
        exact st.gh a u ha
    refine ⟨st.g.trans (Evl.Ex.new hg), ex, fun x hx m => ?_, st.kp, st.al, ⟨st.sl.len, fun i s e => ?_, st.sl.ne, st.sl.tb.upd hg hh fun _ z => by cases z⟩, st.me⟩
    · rw [upd_ne (fun q => hx (by rw [q]; exact hn))]
      exact st.nw x hx m
    · obtain ⟨w, e1, e2⟩ := st.sl.at_ i s e
      refine ⟨w, e1, ?_⟩
      cases e2 with
      | d h => exact .d (h.ex (Evl.Ex.new hg))
      | own hg' hh' hs' => exact .own (by rw [upd_ne (fun q => hm ⟨i, _, e, rfl, by rw [← q]; exact e1⟩)]; exact hg') hh' (hs'.ex (Evl.Ex.new hg))
      | obj hg' hh' hs' => exact .obj (by rw [upd_ne (fun q => hm ⟨i, _, e, rfl, by rw [← q]; exact e1⟩)]; exact hg') hh' (hs'.ex (Evl.Ex.new hg))⟩
/-- a datum as what a slot may hold -/
theorem ps_d (h : PD X a ρ d ρ') : PS_ X a ρ (.d d) ρ' := pe_weak h fun σ H Q ⟨G, e, s, k⟩ => ⟨G, e, s, fun v G' H' st a => k v G' H' st (.d a) fun z => by cases z⟩
/-! ### names, constants -/
theorem pd_name (i : Nat) {n : Str} (e : ρ[i]? = some (some (.d d)) := by rfl) (hN : X.N[i]? = some n := by rfl) (hv : Vis X.env.scope n := by first | exact Or.inl rfl | exact Or.inr (Or.inl rfl) | exact Or.inr (Or.inr rfl))
    (hd : (n == ("__debug__" : Str)) = false := by decide) (hcd : (n == ("__classdict__" : Str)) = false := by decide) : PD X (.Name n pos) ρ d ρ :=
  pe_weak (pe_var hN hv hd hcd) fun σ H Q ⟨G, e1, s, k⟩ => by
    obtain ⟨v, h1, h2⟩ := s.at_ i _ e
    cases h2 with
    | d h2 => exact ⟨v, h1, k v G H ((Grow.refl e1).step s) h2⟩
theorem pd_c {e : Expr} {v : V} (h : PE X e (tC v)) (ha : ∀ G, At G v d) : PD X e ρ d ρ := pe_weak h fun σ H Q ⟨G, e1, s, k⟩ => k v G H ((Grow.refl e1).step s) (ha G)
theorem pd_int {i : Int} {j} : PD X (.Constant (.int i) j pos) ρ (.int i) ρ := pd_c pe_int fun _ => .int i
theorem pd_bl {i : Bool} {j} : PD X (.Constant (.bool i) j pos) ρ (.bl i) ρ := pd_c pe_bl fun _ => .bl i
theorem pd_non {j} : PD X (.Constant .none j pos) ρ .non ρ := pd_c pe_non fun _ => .non
theorem pd_str {i : Str} {j} : PD X (.Constant (.str i) j pos) ρ (.str i) ρ := pd_c pe_str fun _ => .str i
/-! ### operators -/
/-- a two-place operation on data -/
def OD (r : R2) (x y z : D) : Prop := ∀ G H v w, Ex G H → At G v x → At G w y → ∀ Q : VK, (∀ u G' H', Grow G H G' H' → At G' u z → Q u H') → r v w H Q
theorem pd_tOp {e : Expr} {r : R2} (h : PE X e (tOp r (rD ρ x ρ1) (rD ρ1 y ρ2))) (ho : OD r x y z) : PD X e ρ z ρ2 := pe_weak h fun σ H Q ⟨G, e1, s, k⟩ => by
  refine ⟨G, e1, s, fun v G1 H1 g1 a1 => ⟨G1, g1.gh, g1.sl, fun w G2 H2 g2 a2 => ?_⟩⟩
  exact ho G2 H2 v w g2.gh (a1.ex g2.g) a2 Q fun u G3 H3 g3 a3 => k u G3 H3 ((g1.trans g2).trans (g3.step g2.sl)) a3
theorem od_I0 {g : Int → Int → V} {i j : Int} (h : ∀ G, At G (g i j) z) : OD (rI0 g) (.int i) (.int j) z := fun G H v w e a1 a2 Q k => by
  cases a1; cases a2
  exact ⟨i, j, rfl, rfl, k _ G H (.refl e) (h G)⟩
theorem od_I {C : Int → Int → Prop} {g : Int → Int → V} {i j : Int} (hc : C i j) (h : ∀ G, At G (g i j) z) : OD (rI C g) (.int i) (.int j) z := fun G H v w e a1 a2 Q k => by
  cases a1; cases a2
  exact ⟨i, j, rfl, rfl, hc, k _ G H (.refl e) (h G)⟩
variable {i j : Int}
theorem pd_add (ha : PD X a ρ (.int i) ρ1) (hb : PD X b ρ1 (.int j) ρ2) : PD X (.BinOp a .Add b pos) ρ (.int (i + j)) ρ2 := pd_tOp (pe_op op_add ha hb) (od_I0 fun _ => .int _)
theorem pd_sub (ha : PD X a ρ (.int i) ρ1) (hb : PD X b ρ1 (.int j) ρ2) : PD X (.BinOp a .Sub b pos) ρ (.int (i - j)) ρ2 := pd_tOp (pe_op op_sub ha hb) (od_I0 fun _ => .int _)
theorem pd_mul (ha : PD X a ρ (.int i) ρ1) (hb : PD X b ρ1 (.int j) ρ2) (hc : CMul i j) : PD X (.BinOp a .Mult b pos) ρ (.int (i * j)) ρ2 := pd_tOp (pe_op op_mul ha hb) (od_I hc fun _ => .int _)
theorem pd_fdiv (ha : PD X a ρ (.int i) ρ1) (hb : PD X b ρ1 (.int j) ρ2) (hc : CDiv i j) : PD X (.BinOp a .FloorDiv b pos) ρ (.int (i / j)) ρ2 := pd_tOp (pe_op op_fdiv ha hb) (od_I hc fun _ => .int _)
theorem pd_mod (ha : PD X a ρ (.int i) ρ1) (hb : PD X b ρ1 (.int j) ρ2) (hc : 0 < j) : PD X (.BinOp a .Mod b pos) ρ (.int (i % j)) ρ2 := pd_tOp (pe_op op_mod ha hb) (od_I hc fun _ => .int _)
theorem pd_pow (ha : PD X a ρ (.int i) ρ1) (hb : PD X b ρ1 (.int j) ρ2) (hc : CPow i j) : PD X (.BinOp a .Pow b pos) ρ (.int (i ^ j.toNat)) ρ2 := pd_tOp (pe_op op_pow ha hb) (od_I hc fun _ => .int _)
theorem pd_lt (ha : PD X a ρ (.int i) ρ1) (hb : PD X b ρ1 (.int j) ρ2) : PD X (.Compare a [.Lt] [b] pos) ρ (.bl (decide (i < j))) ρ2 := pd_tOp (pe_cmpR op_lt ha hb (nomark _)) (od_I0 fun _ => .bl _)
theorem pd_le (ha : PD X a ρ (.int i) ρ1) (hb : PD X b ρ1 (.int j) ρ2) : PD X (.Compare a [.LtE] [b] pos) ρ (.bl (decide (i ≤ j))) ρ2 := pd_tOp (pe_cmpR op_le ha hb (nomark _)) (od_I0 fun _ => .bl _)
theorem pd_gt (ha : PD X a ρ (.int i) ρ1) (hb : PD X b ρ1 (.int j) ρ2) : PD X (.Compare a [.Gt] [b] pos) ρ (.bl (decide (j < i))) ρ2 := pd_tOp (pe_cmpR op_gt ha hb (nomark _)) (od_I0 fun _ => .bl _)
theorem pd_ge (ha : PD X a ρ (.int i) ρ1) (hb : PD X b ρ1 (.int j) ρ2) : PD X (.Compare a [.GtE] [b] pos) ρ (.bl (decide (j ≤ i))) ρ2 := pd_tOp (pe_cmpR op_ge ha hb (nomark _)) (od_I0 fun _ => .bl _)
end
end DL

end
section
set_option maxHeartbeats 4000001
/-! DL2: tests, displays, calls, statements over data. -/
namespace DL
open PySem PySem.Spec
open PyProof.Rows L2
open Evl (Ex)
section
variable [Tb]
variable {X : Cx} {ρ ρ1 ρ2 ρ3 ρ' : Rho} {a b c e : Expr} {es : List Expr} {x y z d : D} {ds : List D} {pos : Pos} {k1 k2 : Bool}
/-! ### tests -/
theorem ptd_val (h : PD X a ρ (.bl k1) ρ') (he : ∀ whole, isTrue a X.env whole = (do let v ← whole; standAt a.pos; holding [v] (truthy v)) := by intro _; rfl) : PTD X a ρ k1 ρ' :=
  pt_weak (pt_val h he) fun σ H Q ⟨G, e1, s, k⟩ => ⟨G, e1, s, fun v G' H' g at_ => by
    cases at_
    exact ⟨k1, rfl, k G' H' g⟩⟩
theorem ptd_op {op : CmpOp} {r : R2} (ho : OpR X (compareOp op) r) (ha : PD X a ρ x ρ1) (hb : PD X b ρ1 y ρ2) (h : OD r x y (.bl k1)) (hm : behindInMarks op b = false) : PTD X (.Compare a [op] [b] pos) ρ k1 ρ2 :=
  pt_weak (pt_cmpR ho ha hb hm) fun σ H Q ⟨G, e1, s, k⟩ => ⟨G, e1, s, fun v G1 H1 g1 a1 => ⟨G1, g1.gh, g1.sl, fun w G2 H2 g2 a2 => h G2 H2 v w g2.gh (a1.ex g2.g) a2 _ fun u G3 H3 g3 a3 => by
    cases a3
    exact ⟨k1, rfl, k G3 H3 ((g1.trans g2).trans (g3.step g2.sl))⟩⟩⟩
section
variable {i j l : Int}
theorem ptd_lt (ha : PD X a ρ (.int i) ρ1) (hb : PD X b ρ1 (.int j) ρ2) : PTD X (.Compare a [.Lt] [b] pos) ρ (decide (i < j)) ρ2 := ptd_op op_lt ha hb (od_I0 fun _ => .bl _) (nomark _)
theorem ptd_le (ha : PD X a ρ (.int i) ρ1) (hb : PD X b ρ1 (.int j) ρ2) : PTD X (.Compare a [.LtE] [b] pos) ρ (decide (i ≤ j)) ρ2 := ptd_op op_le ha hb (od_I0 fun _ => .bl _) (nomark _)
theorem ptd_gt (ha : PD X a ρ (.int i) ρ1) (hb : PD X b ρ1 (.int j) ρ2) : PTD X (.Compare a [.Gt] [b] pos) ρ (decide (j < i)) ρ2 := ptd_op op_gt ha hb (od_I0 fun _ => .bl _) (nomark _)
theorem ptd_ge (ha : PD X a ρ (.int i) ρ1) (hb : PD X b ρ1 (.int j) ρ2) : PTD X (.Compare a [.GtE] [b] pos) ρ (decide (j ≤ i)) ρ2 := ptd_op op_ge ha hb (od_I0 fun _ => .bl _) (nomark _)
end
theorem ptd_not (h : PTD X a ρ k1 ρ') : PTD X (.UnaryOp .Not a pos) ρ (!k1) ρ' := pt_weak (pt_not h) fun σ H Q ⟨G, e1, s, k⟩ => ⟨G, e1, s, fun G' H' g => k G' H' g⟩
theorem pwd_pt (h : PWD X a ρ k1 ρ') : PTD X a ρ k1 ρ' := PW.pt h
theorem pwd_and1 (h : PTD X a ρ k1 ρ') : PWD X (.BoolOp .And [a] pos) ρ k1 ρ' := pw_and1 h
theorem pwd_or1 (h : PTD X a ρ k1 ρ') : PWD X (.BoolOp .Or [a] pos) ρ k1 ρ' := pw_or1 h
theorem pwd_and {rest : List Expr} (ha : PTD X a ρ true ρ1) (hb : PWD X (.BoolOp .And (b :: rest) pos) ρ1 k2 ρ2) : PWD X (.BoolOp .And (a :: b :: rest) pos) ρ k2 ρ2 :=
  pw_weak (pw_and ha hb) fun σ H Q ⟨G, e1, s, k⟩ => ⟨G, e1, s, fun G' H' g => ⟨G', g.gh, g.sl, fun G2 H2 g2 => k G2 H2 (g.trans g2)⟩⟩
theorem pwd_and0 {rest : List Expr} (ha : PTD X a ρ false ρ1) : PWD X (.BoolOp .And (a :: b :: rest) pos) ρ false ρ1 :=
  pw_weak (pw_and (tB' := fun _ _ _ => False) ha ⟨fun _ _ _ _ _ _ _ h => h.elim⟩) fun σ H Q ⟨G, e1, s, k⟩ => ⟨G, e1, s, fun G' H' g => k G' H' g⟩
theorem pwd_or {rest : List Expr} (ha : PTD X a ρ false ρ1) (hb : PWD X (.BoolOp .Or (b :: rest) pos) ρ1 k2 ρ2) : PWD X (.BoolOp .Or (a :: b :: rest) pos) ρ k2 ρ2 :=
  pw_weak (pw_or ha hb) fun σ H Q ⟨G, e1, s, k⟩ => ⟨G, e1, s, fun G' H' g => ⟨G', g.gh, g.sl, fun G2 H2 g2 => k G2 H2 (g.trans g2)⟩⟩
theorem pwd_or1T {rest : List Expr} (ha : PTD X a ρ true ρ1) : PWD X (.BoolOp .Or (a :: b :: rest) pos) ρ true ρ1 :=
  pw_weak (pw_or (tB' := fun _ _ _ => False) ha ⟨fun _ _ _ _ _ _ _ h => h.elim⟩) fun σ H Q ⟨G, e1, s, k⟩ => ⟨G, e1, s, fun G' H' g => k G' H' g⟩
/-- both ways at once -/
theorem pwd_andB {rest : List Expr} (ha : PTD X a ρ k1 ρ) (hb : k1 = true → PWD X (.BoolOp .And (b :: rest) pos) ρ k2 ρ) : PWD X (.BoolOp .And (a :: b :: rest) pos) ρ (k1 && k2) ρ := by
  cases k1 with
  | true => exact pwd_and ha (hb rfl)
  | false => exact pwd_and0 ha
theorem pwd_orB {rest : List Expr} (ha : PTD X a ρ k1 ρ) (hb : k1 = false → PWD X (.BoolOp .Or (b :: rest) pos) ρ k2 ρ) : PWD X (.BoolOp .Or (a :: b :: rest) pos) ρ (k1 || k2) ρ := by
  cases k1 with
  | false => exact pwd_or ha (hb rfl)
  | true => exact pwd_or1T ha
/-! ### and, or, not as values -/
theorem pd_and1 {op} (h : PD X a ρ d ρ') : PD X (.BoolOp op [a] pos) ρ d ρ' := pe_one h
theorem pd_and {rest : List Expr} (ha : PD X a ρ (.bl true) ρ1) (hb : PD X (.BoolOp .And (b :: rest) pos) ρ1 d ρ2) : PD X (.BoolOp .And (a :: b :: rest) pos) ρ d ρ2 :=
  pe_weak (pe_and ha hb) fun σ H Q ⟨G, e1, s, k⟩ => ⟨G, e1, s, fun v G' H' g at_ => by
    cases at_
    exact ⟨true, rfl, G', g.gh, g.sl, fun w G2 H2 g2 a2 => k w G2 H2 (g.trans g2) a2⟩⟩
theorem pe_no {t : TE} (h : ∀ σ H Q, ¬ t σ H Q) : PE X a t := ⟨fun _ _ σ H Q _ q => (h σ H Q q).elim⟩
theorem pd_and0 {rest : List Expr} (ha : PD X a ρ (.bl false) ρ1) : PD X (.BoolOp .And (a :: b :: rest) pos) ρ (.bl false) ρ1 :=
  pe_weak (pe_and (tb := fun _ _ _ => False) ha (pe_no fun _ _ _ h => h)) fun σ H Q ⟨G, e1, s, k⟩ => ⟨G, e1, s, fun v G' H' g at_ => by
    cases at_
    exact ⟨false, rfl, k _ G' H' g (.bl false)⟩⟩
theorem pd_andB {rest : List Expr} (ha : PD X a ρ (.bl k1) ρ) (hb : k1 = true → PD X (.BoolOp .And (b :: rest) pos) ρ (.bl k2) ρ) : PD X (.BoolOp .And (a :: b :: rest) pos) ρ (.bl (k1 && k2)) ρ := by
  cases k1 with
  | true => exact pd_and ha (hb rfl)
  | false => exact pd_and0 ha
theorem pd_or {rest : List Expr} (ha : PD X a ρ (.bl false) ρ1) (hb : PD X (.BoolOp .Or (b :: rest) pos) ρ1 d ρ2) : PD X (.BoolOp .Or (a :: b :: rest) pos) ρ d ρ2 :=
  pe_weak (pe_or ha hb) fun σ H Q ⟨G, e1, s, k⟩ => ⟨G, e1, s, fun v G' H' g at_ => by
    cases at_
    exact ⟨false, rfl, G', g.gh, g.sl, fun w G2 H2 g2 a2 => k w G2 H2 (g.trans g2) a2⟩⟩
theorem pd_orT {rest : List Expr} (ha : PD X a ρ (.bl true) ρ1) : PD X (.BoolOp .Or (a :: b :: rest) pos) ρ (.bl true) ρ1 :=
  pe_weak (pe_or (tb := fun _ _ _ => False) ha (pe_no fun _ _ _ h => h)) fun σ H Q ⟨G, e1, s, k⟩ => ⟨G, e1, s, fun v G' H' g at_ => by
    cases at_
    exact ⟨true, rfl, k _ G' H' g (.bl true)⟩⟩
theorem pd_orB {rest : List Expr} (ha : PD X a ρ (.bl k1) ρ) (hb : k1 = false → PD X (.BoolOp .Or (b :: rest) pos) ρ (.bl k2) ρ) : PD X (.BoolOp .Or (a :: b :: rest) pos) ρ (.bl (k1 || k2)) ρ := by
  cases k1 with
  | false => exact pd_or ha (hb rfl)
  | true => exact pd_orT ha
theorem pd_not (ha : PD X a ρ (.bl k1) ρ') : PD X (.UnaryOp .Not a pos) ρ (.bl (!k1)) ρ' :=
  pe_weak (pe_not ha) fun σ H Q ⟨G, e1, s, k⟩ => ⟨G, e1, s, fun v G' H' g at_ => by
    cases at_
    exact ⟨k1, rfl, k _ G' H' g (.bl _)⟩⟩
theorem pd_neg {i : Int} (ha : PD X a ρ (.int i) ρ') : PD X (.UnaryOp .USub a pos) ρ (.int (-i)) ρ' :=
  pe_weak (pe_un un_neg ha) fun σ H Q ⟨G, e1, s, k⟩ => ⟨G, e1, s, fun v G' H' g at_ => by
    cases at_
    exact ⟨i, rfl, k _ G' H' g (.int _)⟩⟩
theorem pd_ifT (hc : PTD X c ρ true ρ1) (ha : PD X a ρ1 d ρ2) : PD X (.IfExp c a b pos) ρ d ρ2 :=
  pe_weak (pe_ifExp (tb := fun _ _ _ => False) hc ha (pe_no fun _ _ _ h => h)) fun σ H Q ⟨G, e1, s, k⟩ => ⟨G, e1, s, fun G' H' g => ⟨G', g.gh, g.sl, fun w G2 H2 g2 a2 => k w G2 H2 (g.trans g2) a2⟩⟩
theorem pd_ifF (hc : PTD X c ρ false ρ1) (hb : PD X b ρ1 d ρ2) : PD X (.IfExp c a b pos) ρ d ρ2 :=
  pe_weak (pe_ifExp (ta := fun _ _ _ => False) hc (pe_no fun _ _ _ h => h) hb) fun σ H Q ⟨G, e1, s, k⟩ => ⟨G, e1, s, fun G' H' g => ⟨G', g.gh, g.sl, fun w G2 H2 g2 a2 => k w G2 H2 (g.trans g2) a2⟩⟩
theorem pd_ifB (hc : PTD X c ρ k1 ρ1) (ha : k1 = true → PD X a ρ1 d ρ2) (hb : k1 = false → PD X b ρ1 d ρ2) : PD X (.IfExp c a b pos) ρ d ρ2 := by
  cases k1 with
  | true => exact pd_ifT hc (ha rfl)
  | false => exact pd_ifF hc (hb rfl)
/-! ### chains -/
theorem pd_chain {op op' : CmpOp} {r r' : R2} (ho : OpR X (compareOp op) r) (ho' : OpR X (compareOp op') r') (ha : PD X a ρ x ρ) (hb : PD X b ρ y ρ) (hc : k1 = true → PD X c ρ z ρ) (h1 : OD r x y (.bl k1)) (h2 : k1 = true → OD r' y z (.bl k2)) (hm : lastMarks [op, op'] [b, c] = false := by rfl) :
    PD X (.Compare a [op, op'] [b, c] pos) ρ (.bl (k1 && k2)) ρ := by
  cases k1 with
  | false =>
    exact pe_weak (pe_chain ho ho' (tc := fun _ _ _ => False) ha hb (pe_no fun _ _ _ h => h) hm) fun σ H Q ⟨G, e1, s, k⟩ => ⟨G, e1, s, fun v G1 H1 g1 a1 => ⟨G1, g1.gh, g1.sl, fun w G2 H2 g2 a2 =>
      h1 G2 H2 v w g2.gh (a1.ex g2.g) a2 _ fun u G3 H3 g3 a3 => by
        cases a3
        exact ⟨false, rfl, iteF (k _ G3 H3 ((g1.trans g2).trans (g3.step g2.sl)) (.bl _))⟩⟩⟩
  | true =>
    exact pe_weak (pe_chain ho ho' ha hb (hc rfl) hm) fun σ H Q ⟨G, e1, s, k⟩ => ⟨G, e1, s, fun v G1 H1 g1 a1 => ⟨G1, g1.gh, g1.sl, fun w G2 H2 g2 a2 =>
      h1 G2 H2 v w g2.gh (a1.ex g2.g) a2 _ fun u G3 H3 g3 a3 => by
        cases a3
        exact ⟨true, rfl, iteT ⟨G3, g3.gh, g2.sl.grow g3, fun q G4 H4 g4 a4 =>
          h2 rfl G4 H4 w q g4.gh (a2.ex (g3.g.trans g4.g)) a4 _ fun u G5 H5 g5 a5 => k _ G5 H5 ((((g1.trans g2).trans (g3.step g2.sl)).trans g4).trans (g5.step g4.sl)) a5⟩⟩⟩⟩
theorem pd_leLe {i j l : Int} (ha : PD X a ρ (.int i) ρ) (hb : PD X b ρ (.int j) ρ) (hc : PD X c ρ (.int l) ρ) (hm : lastMarks [.LtE, .LtE] [b, c] = false := by with_unfolding_all rfl) : PD X (.Compare a [.LtE, .LtE] [b, c] pos) ρ (.bl (decide (i ≤ j) && decide (j ≤ l))) ρ :=
  pd_chain op_le op_le ha hb (fun _ => hc) (od_I0 fun _ => .bl _) (fun _ => od_I0 fun _ => .bl _) hm
theorem pd_leLt {i j l : Int} (ha : PD X a ρ (.int i) ρ) (hb : PD X b ρ (.int j) ρ) (hc : PD X c ρ (.int l) ρ) (hm : lastMarks [.LtE, .Lt] [b, c] = false := by with_unfolding_all rfl) : PD X (.Compare a [.LtE, .Lt] [b, c] pos) ρ (.bl (decide (i ≤ j) && decide (j < l))) ρ :=
  pd_chain op_le op_lt ha hb (fun _ => hc) (od_I0 fun _ => .bl _) (fun _ => od_I0 fun _ => .bl _) hm
theorem ptd_leLe {i j l : Int} (ha : PD X a ρ (.int i) ρ) (hb : PD X b ρ (.int j) ρ) (hc : PD X c ρ (.int l) ρ) (hm : lastMarks [.LtE, .LtE] [b, c] = false := by with_unfolding_all rfl) : PTD X (.Compare a [.LtE, .LtE] [b, c] pos) ρ (decide (i ≤ j) && decide (j ≤ l)) ρ :=
  pt_weak (pt_chain op_le op_le ha hb hc hm) fun σ H Q ⟨G, e1, s, k⟩ => ⟨G, e1, s, fun v G1 H1 g1 a1 => ⟨G1, g1.gh, g1.sl, fun w G2 H2 g2 a2 => by
    cases a1
    cases a2
    refine ⟨i, j, rfl, rfl, decide (i ≤ j), rfl, ?_⟩
    cases q : decide (i ≤ j) with
    | false =>
      refine iteF ?_
      first
        | exact ⟨false, rfl, by rw [q] at k; exact k G2 H2 (g1.trans g2)⟩
        | (rw [q] at k; exact k G2 H2 (g1.trans g2))
    | true =>
      refine iteT ⟨G2, g2.gh, g2.sl, fun u G3 H3 g3 a3 => ?_⟩
      cases a3
      rw [q] at k
      exact ⟨j, l, rfl, rfl, decide (j ≤ l), rfl, k G3 H3 ((g1.trans g2).trans g3)⟩⟩⟩
/-! ### is None -/
def isN : D → Bool
  | .non => true
  | _ => false
theorem at_non {G : Hp} {v : V} {d : D} (h : At G v d) : decide (v = .non) = isN d := by
  cases h <;> first | rfl | exact decide_eq_false (by intro z; cases z)
theorem pd_isN {j p2} (ha : PD X a ρ d ρ') : PD X (.Compare a [.Is] [.Constant .none j p2] pos) ρ (.bl (isN d)) ρ' :=
  pe_weak (pe_cmp (pc_isN ha) rfl) fun σ H Q ⟨G, e1, s, k⟩ => ⟨G, e1, s, fun v G' H' g at_ => by
    show Q (.bl (decide (v = V.non))) H'
    rw [at_non at_]
    exact k _ G' H' g (.bl _)⟩
theorem pd_notN {j p2} (ha : PD X a ρ d ρ') : PD X (.Compare a [.IsNot] [.Constant .none j p2] pos) ρ (.bl (!(isN d))) ρ' :=
  pe_weak (pe_cmp (pc_notN ha) rfl) fun σ H Q ⟨G, e1, s, k⟩ => ⟨G, e1, s, fun v G' H' g at_ => by
    show Q (.bl (!decide (v = V.non))) H'
    rw [at_non at_]
    exact k _ G' H' g (.bl _)⟩
theorem ptd_isN {j p2} (ha : PD X a ρ d ρ') : PTD X (.Compare a [.Is] [.Constant .none j p2] pos) ρ (isN d) ρ' :=
  pt_weak (pt_cmp (pc_isN ha) rfl) fun σ H Q ⟨G, e1, s, k⟩ => ⟨G, e1, s, fun v G' H' g at_ => ⟨_, rfl, by
    rw [at_non at_]
    exact k G' H' g⟩⟩
theorem ptd_notN {j p2} (ha : PD X a ρ d ρ') : PTD X (.Compare a [.IsNot] [.Constant .none j p2] pos) ρ (!(isN d)) ρ' :=
  pt_weak (pt_cmp (pc_notN ha) rfl) fun σ H Q ⟨G, e1, s, k⟩ => ⟨G, e1, s, fun v G' H' g at_ => ⟨_, rfl, by
    rw [at_non at_]
    exact k G' H' g⟩⟩
/-! ### arguments, displays -/
theorem pad_nil : PAD X [] ρ [] ρ := pa_weak pa_nil fun σ H Q ⟨G, e1, s, k⟩ => k [] G H ((Grow.refl e1).step s) .nil
theorem pad_cons (ha : PD X e ρ d ρ1) (hr : PAD X es ρ1 ds ρ2) (hs : starEach (e :: es) X.env = (false, eval e X.env) :: starEach es X.env := by rfl) : PAD X (e :: es) ρ (d :: ds) ρ2 :=
  pa_weak (pa_cons ha hr hs) fun σ H Q ⟨G, e1, s, k⟩ => ⟨G, e1, s, fun v G1 H1 g1 a1 => ⟨G1, g1.gh, g1.sl, fun vs G2 H2 g2 a2 => k _ G2 H2 (g1.trans g2) (.cons (a1.ex g2.g) a2)⟩⟩
theorem pad_one (ha : PD X e ρ d ρ1) (hs : starEach [e] X.env = (false, eval e X.env) :: starEach [] X.env := by rfl) : PAD X [e] ρ [d] ρ1 := pad_cons ha pad_nil hs
theorem small_line {n : Nat} (h : n ≤ 100000) : n ≤ sizeLine := Evl.sz_of h
theorem at_new_tup {G H : Hp} (e : Ex G H) {p : Addr} (hp : H p = none) {vs : List V} {ds : List D} (h : Ats G vs ds) : At (upd G p (.tup vs)) (.ref p) (.tup ds) := .tup upd_same (h.ex (Grow.new (o := .tup vs) e hp).g)
theorem at_new_lst {G H : Hp} (e : Ex G H) {p : Addr} (hp : H p = none) {vs : List V} {ds : List D} (h : Ats G vs ds) : At (upd G p (.lst vs)) (.ref p) (.lst ds) := .lst upd_same (h.ex (Grow.new (o := .lst vs) e hp).g)
theorem pd_tup {m} (h : PAD X es ρ ds ρ') (hl : ds.length ≤ 100000 := by decide) : PD X (.Tuple es m pos) ρ (.tup ds) ρ' :=
  pe_weak (pe_tup h) fun σ H Q ⟨G, e1, s, k⟩ => ⟨G, e1, s, fun vs G1 H1 g1 a1 => ⟨small_line (by rw [a1.length]; exact hl), fun p hp => k _ _ _ (g1.trans ((Grow.new g1.gh hp).step g1.sl)) (at_new_tup g1.gh hp a1)⟩⟩
/-- what comes of a new list -/
theorem ps_new {σ : L2.St} {G H : Hp} (sl : Slots G H σ ρ') {p : Addr} (hp : H p = none) : ¬ Mine σ ρ' p := fun m => by
  obtain ⟨_, o, e, _⟩ := sl.mine m
  rw [hp] at e
  cases e
theorem pso_lst (h : PAD X es ρ ds ρ') (hl : ds.length ≤ 100000 := by decide) : PS_ X (.List es pos) ρ (.own ds) ρ' :=
  pe_weak (pe_lst h) fun σ H Q ⟨G, e1, s, k⟩ => ⟨G, e1, s, fun vs G1 H1 g1 a1 => ⟨small_line (by rw [a1.length]; exact hl), fun p hp => k _ G1 _ (g1.trans ((Grow.fresh g1.gh hp).step g1.sl)) (.own (Evl.fresh_back g1.gh hp) upd_same a1) fun _ => ⟨p, rfl, by
    cases q : H p with
    | none => rfl
    | some o => exact absurd hp (g1.al p (by rw [q]; simp)), ps_new g1.sl hp⟩⟩⟩
theorem pd_lst (h : PAD X es ρ ds ρ') (hl : ds.length ≤ 100000 := by decide) : PD X (.List es pos) ρ (.lst ds) ρ' := pd_frz (pso_lst h hl)
/-! ### calls of defs -/
/-- what a def promises over data: it gives r where Fn ds r; it raises an error of the class cls with the fields fs where Fx ds cls fs -/
def spD (n : Nat) (Fn : List D → D → Prop) (Fx : List D → Value → List (Str × D) → Prop) : Sp := fun vs H Q E => ∃ G ds, TbO G H ∧ Ex G H ∧ Ats G vs ds ∧ ds.length = n ∧
  ((∃ r, Fn ds r ∧ ∀ v G' H', Grow G H G' H' → At G' v r → Q v H') ∨
   ∃ cls fs, Fx ds cls fs ∧ ∀ xd vs' G' H', Grow G H G' H' → H xd = none → H' xd = some (.xd vs') → Atf G' vs' fs → E cls (some xd) H')
def NoX : List D → Value → List (Str × D) → Prop := fun _ _ _ => False
/-- .. of which the first argument is one's own: it is s0 before and s1 behind -/
structure GrowO (p : Addr) (G H G' H' : Hp) : Prop where
  g : Ex G G'
  gh : Ex G' H'
  nw : ∀ a, H a ≠ none → a ≠ p → G' a = G a
  kp : ∀ a o, H a = some o → NoTab o → a ≠ p → H' a = some o
  al : ∀ a, H a ≠ none → H' a ≠ none
  tb : TabsG Tb.T G H → TabsG Tb.T G' H'
def spO (n : Nat) (Fn : S → List D → D → S → Prop) : Sp := fun vs H Q E => ∃ G p ws s0 ds r s1, TbO G H ∧ vs = .ref p :: ws ∧ Ex G H ∧ s0.me = true ∧ Sl G H (.ref p) s0 ∧ Ats G ws ds ∧ ds.length = n ∧ Fn s0 ds r s1 ∧ s1.me = true ∧
  ∀ v G' H', GrowO p G H G' H' → Sl G' H' (.ref p) s1 → At G' v r → Q v H'
structure Def (P : Program) (w : World) (K : PySem.W.Frag) (mg : Str → Option Value) (base : Heap) (x : Str) (k : Nat) (sp : Sp) : Prop where
  ex : ∃ (f : Addr) (fd : FuncData) (ps : List Str), mg x = some (.ref f) ∧ PySem.W.keepIn K (.ref f) = true ∧ Binds K fd ps [] ∧ FnOk P w K mg base (L2.CX P w) k f fd ps sp
abbrev DefX (X : Cx) (x : Str) (k : Nat) (sp : Sp) : Prop := Def X.prog X.w X.K X.mg X.base x k sp
theorem passF {X : Cx} : Passes (L2.CX X.prog X.w) X fun _ _ _ => False := fun _ _ _ _ _ _ _ c => by
  obtain ⟨_, _, _, _, _, _, _, _, _, _, _, _, z⟩ := c
  exact z.elim
variable {k n : Nat} {f : Str} {Fn : List D → D → Prop} {Fx : List D → Value → List (Str × D) → Prop} {p : Pos}
theorem pd_call (F : DefX X f k (spD n Fn Fx)) (hr : Room k X.A) (ha : PAD X (e :: es) ρ ds ρ') (hl : ds.length = n) (hf : Fn ds d) (hg : Gl X f := by rfl) (hdb : (f == ("__debug__" : Str)) = false := by decide)
    (he : starEach (e :: es) X.env = (false, eval e X.env) :: starEach es X.env := by rfl) (hpl : (backTo pos (starEach es X.env)).any (·.1) = false := by rfl) : PD X (.Call (.Name f p) (e :: es) [] pos) ρ d ρ' := by
  obtain ⟨f, fd, ps, hm, hk, hb, hF⟩ := F.ex
  refine pe_weak (pe_call hF hr hg hm hk hb .nil passF ha (by assumption) he hpl) fun σ H Q ⟨G, e1, s, q⟩ => ⟨G, e1, s, fun vs G1 H1 g1 a1 => ?_⟩
  show spD n Fn Fx (vs ++ []) H1 Q _
  rw [List.append_nil]
  exact ⟨G1, ds, g1.sl.tb, g1.gh, a1, hl, .inl ⟨d, hf, fun v G2 H2 g2 a2 => q v G2 H2 (g1.trans (g2.step g1.sl)) a2⟩⟩
/-- a slot's thing changed by a callee -/
theorem GrowO.step {σ : L2.St} {ρ : Rho} {G H G' H' : Hp} {q : Addr} {s0 s1 : S} {i : Nat} (g : GrowO q G H G' H') (s : Slots G H σ ρ) (hi : ρ[i]? = some (some s0)) (hm : s0.me = true) (hσ : σ[i]? = some (some (.ref q))) (h1 : s1.me = true) (sl : Sl G' H' (.ref q) s1) : Step σ ρ (ρ.set i (some s1)) G H G' H' := by
  have il : i < ρ.length := by
    rcases Nat.lt_or_ge i ρ.length with h | h
    · exact h
    · rw [List.getElem?_eq_none h] at hi
      cases hi
  have at_ : ∀ j t, (ρ.set i (some s1))[j]? = some (some t) → (j = i ∧ t = s1) ∨ (j ≠ i ∧ ρ[j]? = some (some t)) := fun j t e => by
    by_cases z : j = i
    · rw [z, List.getElem?_set_self il] at e
      cases e
      exact .inl ⟨z, rfl⟩
    · rw [List.getElem?_set_ne fun y => z y.symm] at e
      exact .inr ⟨z, e⟩
  obtain ⟨_, oq, hHp, hNt⟩ := s.mine ⟨i, s0, hi, hm, hσ⟩
  refine ⟨g.g, g.gh, fun a h m => g.nw a h fun z => m ⟨i, s0, hi, hm, by rw [z]; exact hσ⟩, fun a o h n m => g.kp a o h n fun z => m ⟨i, s0, hi, hm, by rw [z]; exact hσ⟩, g.al, ⟨by rw [List.length_set]; exact s.len, fun j t e => ?_, fun j l t u a e1 m1 e2 m2 e3 e4 => ?_, ⟨g.tb s.tb.1, fun r hr => (g.nw _ (s.tb.ne hr) (s.tb.out hHp hNt hr)).trans (s.tb.2 r hr)⟩⟩, fun j t e m => ?_⟩
  · rcases at_ j t e with ⟨rfl, rfl⟩ | ⟨z, e⟩
    · exact ⟨_, hσ, sl⟩
    · obtain ⟨v, h1, h2⟩ := s.at_ j t e
      refine ⟨v, h1, ?_⟩
      have ne : ∀ a, t.me = true → v = .ref a → a ≠ q := fun a hm' hv za => by
        rw [hv, za] at h1
        exact z (s.ne j i t s0 q e hm' hi hm h1 hσ)
      cases h2 with
      | d h => exact .d (h.ex g.g)
      | own hg hh hs => exact .own ((g.nw _ (some_ne hh) (ne _ rfl rfl)).trans hg) (g.kp _ _ hh (fun _ z => by cases z) (ne _ rfl rfl)) (hs.ex g.g)
      | obj hg hh hs => exact .obj ((g.nw _ (some_ne hh) (ne _ rfl rfl)).trans hg) (g.kp _ _ hh (fun _ z => by cases z) (ne _ rfl rfl)) (hs.ex g.g)
  · have a1 : ∃ t', ρ[j]? = some (some t') ∧ t'.me = true := by
      rcases at_ j t e1 with ⟨rfl, _⟩ | ⟨_, e⟩
      · exact ⟨s0, hi, hm⟩
      · exact ⟨t, e, m1⟩
    have a2 : ∃ t', ρ[l]? = some (some t') ∧ t'.me = true := by
      rcases at_ l u e2 with ⟨rfl, _⟩ | ⟨_, e⟩
      · exact ⟨s0, hi, hm⟩
      · exact ⟨u, e, m2⟩
    obtain ⟨t1, b1, c1⟩ := a1
    obtain ⟨t2, b2, c2⟩ := a2
    exact s.ne j l t1 t2 a b1 c1 b2 c2 e3 e4
  · rcases at_ j t e with ⟨rfl, _⟩ | ⟨_, e⟩
    · exact ⟨s0, hi, hm⟩
    · exact ⟨t, e, m⟩
/-- f(own, e, ..) -/
theorem pd_callO {Fo : S → List D → D → S → Prop} {s0 s1 : S} {nm : Str} {pn : Pos} (i : Nat) (F : DefX X f k (spO n Fo)) (hr : Room k X.A) (ha : PAD X es ρ ds ρ') (hl : ds.length = n) (hi0 : ∃ s, ρ[i]? = some (some s) ∧ s.me = true) (hi : ρ'[i]? = some (some s0)) (hm : s0.me = true) (hf : Fo s0 ds d s1) (h1 : s1.me = true) (hN : X.N[i]? = some nm := by rfl) (hv : Vis X.env.scope nm := by first | exact Or.inl rfl | exact Or.inr (Or.inl rfl) | exact Or.inr (Or.inr rfl))
    (hd : (nm == ("__debug__" : Str)) = false := by decide) (hcd : (nm == ("__classdict__" : Str)) = false := by decide) (hg : Gl X f := by rfl) (hdb : (f == ("__debug__" : Str)) = false := by decide)
    (he : starEach (.Name nm pn :: es) X.env = (false, eval (.Name nm pn) X.env) :: starEach es X.env := by rfl) (hpl : (backTo pos (starEach es X.env)).any (·.1) = false := by rfl) : PD X (.Call (.Name f p) (.Name nm pn :: es) [] pos) ρ d (ρ'.set i (some s1)) := by
  obtain ⟨f, fd, ps, hm', hk, hb, hF⟩ := F.ex
  refine pe_weak (pe_call hF hr hg hm' hk hb .nil passF (pa_cons (pe_var (i := i) hN hv hd hcd) ha he) (by assumption) he hpl) fun σ H Q ⟨G, e1, s, q⟩ => ?_
  obtain ⟨t, ht, htm⟩ := hi0
  obtain ⟨v, hv1, hv2⟩ := s.at_ i t ht
  refine ⟨v, hv1, G, e1, s, fun vs G1 H1 g1 a1 => ?_⟩
  show spO n Fo ((v :: vs) ++ []) H1 Q _
  rw [List.append_nil]
  obtain ⟨v', hv3, hv4⟩ := g1.sl.at_ i s0 hi
  rw [hv1] at hv3
  cases hv3
  have hp : ∃ q, v = .ref q := by
    cases hv4 with
    | d h => cases hm
    | own hg hh hs => exact ⟨_, rfl⟩
    | obj hg hh hs => exact ⟨_, rfl⟩
  obtain ⟨q0, rfl⟩ := hp
  exact ⟨G1, q0, vs, s0, ds, d, s1, g1.sl.tb, rfl, g1.gh, hm, hv4, a1, hl, hf, h1, fun v G2 H2 g2 sl2 a2 => q v G2 H2 (g1.trans (g2.step g1.sl hi hm hv1 h1 sl2)) a2⟩
end
end DL

end
section
set_option maxHeartbeats 4000001
/-! DL3: statements over data. -/
namespace DL
open PySem PySem.Spec
open PyProof.Rows L2
open Evl (Ex)
/-- what may stand behind a statement -/
structure Po where
  nx : Rho → Prop := fun _ => False
  rt : D → Rho → Prop := fun _ _ => False
  bk : Rho → Prop := fun _ => False
  ct : Rho → Prop := fun _ => False
  ex : Value → List (Str × D) → Rho → Prop := fun _ _ _ => False
/-- the frame was entered at Ge, He with w as its caller's own; G, H stand now -/
structure Back [Tb] (w : Option Addr) (Ge He G H : Hp) : Prop where
  g : Ex Ge G
  gh : Ex G H
  nw : ∀ a, He a ≠ none → w ≠ some a → G a = Ge a
  kp : ∀ a o, He a = some o → NoTab o → w ≠ some a → H a = some o
  al : ∀ a, He a ≠ none → H a ≠ none
structure Now [Tb] (w : Option Addr) (Ge He G H : Hp) (σ : L2.St) (ρ : Rho) : Prop extends Back w Ge He G H where
  sl : Slots G H σ ρ
  out : ∀ a, Mine σ ρ a → w = some a ∨ He a = none
  fx : ∀ a, w = some a → σ[0]? = some (some (.ref a))
section
variable [Tb]
theorem Now.step {w : Option Addr} {Ge He G H G' H' : Hp} {σ : L2.St} {ρ ρ' : Rho} (n : Now w Ge He G H σ ρ) (s : Step σ ρ ρ' G H G' H') : Now w Ge He G' H' σ ρ' where
  g := n.g.trans s.g
  gh := s.gh
  nw := fun a h m => (s.nw a (n.al a h) fun z => (n.out a z).elim m h).trans (n.nw a h m)
  kp := fun a o h t m => s.kp a o (n.kp a o h t m) t fun z => (n.out a z).elim m (some_ne h)
  al := fun a h => s.al a (n.al a h)
  sl := s.sl
  out := fun a m => n.out a (s.mine m)
  fx := n.fx
theorem Now.back {w : Option Addr} {Ge He G H G' H' : Hp} {σ : L2.St} {ρ ρ' : Rho} (n : Now w Ge He G H σ ρ) (s : Step σ ρ ρ' G H G' H') {a : Addr} (h : H a = none) : He a = none := by
  cases q : He a with
  | none => rfl
  | some o => exact absurd h (n.al a (some_ne q))
def sD (W : WX) (ow : Bool) (ρ : Rho) (P : Po) : TS := fun Dn σ H => ∃ w Ge He G, w.isSome = ow ∧ Now w Ge He G H σ ρ ∧
  (∀ σ' G' H' ρ', Now w Ge He G' H' σ' ρ' → Ex G G' → P.nx ρ' → Dn.nx σ' H') ∧
  (∀ v σ' G' H' d ρ', Now w Ge He G' H' σ' ρ' → Ex G G' → At G' v d → P.rt d ρ' → Dn.rt v H') ∧
  (∀ σ' G' H' ρ', Now w Ge He G' H' σ' ρ' → Ex G G' → P.bk ρ' → Dn.bk σ' H') ∧
  (∀ σ' G' H' ρ', Now w Ge He G' H' σ' ρ' → Ex G G' → P.ct ρ' → Dn.ct σ' H') ∧
  (∀ cls xd vs fs σ' G' H' ρ', Now w Ge He G' H' σ' ρ' → Ex G G' → He xd = none → H' xd = some (.xd vs) → Atf G' vs fs → P.ex cls fs ρ' → W cls (some xd) σ' H')
def HS (X : Cx) (W : WX) (ow : Bool) (st : Stmt) (ρ : Rho) (P : Po) : Prop := PS X st (sD W ow ρ P)
def HSs (X : Cx) (W : WX) (ow : Bool) (sts : List Stmt) (ρ : Rho) (P : Po) : Prop := PSs X sts (sD W ow ρ P)
/-- an expression that raises -/
def rX (W : WX) (ρ : Rho) (cls : Value) (fs : List (Str × D)) (ρ' : Rho) : TE := fun σ H _ => ∃ G, Ex G H ∧ Slots G H σ ρ ∧ ∀ xd vs' G' H', Step σ ρ ρ' G H G' H' → H xd = none → H' xd = some (.xd vs') → Atf G' vs' fs → W cls (some xd) σ H'
def PX (X : Cx) (W : WX) (e : Expr) (ρ : Rho) (cls : Value) (fs : List (Str × D)) (ρ' : Rho) : Prop := PE X e (rX W ρ cls fs ρ')
def rAX (W : WX) (ρ : Rho) (cls : Value) (fs : List (Str × D)) (ρ' : Rho) : TA := fun σ H _ => ∃ G, Ex G H ∧ Slots G H σ ρ ∧ ∀ xd vs' G' H', Step σ ρ ρ' G H G' H' → H xd = none → H' xd = some (.xd vs') → Atf G' vs' fs → W cls (some xd) σ H'
def PAX (X : Cx) (W : WX) (es : List Expr) (ρ : Rho) (cls : Value) (fs : List (Str × D)) (ρ' : Rho) : Prop := PA X es (rAX W ρ cls fs ρ')
variable {X : Cx} {W : WX} {ow : Bool} {ρ ρ' ρ1 ρ2 : Rho} {P P' : Po} {a b c e : Expr} {es : List Expr} {x y z d : D} {ds : List D} {s : S} {pos : Pos} {k1 : Bool} {st : Stmt} {rest A B : List Stmt} {M : Rho → Prop}
/-- one slot is stored anew -/
theorem Slots.set {G H : Hp} {σ : L2.St} (h : Slots G H σ ρ) {v : V} (i : Nat) (hs : Sl G H v s) (hm : s.me = true → ∀ p, v = .ref p → ¬ Mine σ ρ p) : Slots G H (σ.set i (some v)) (ρ.set i (some s)) := by
  have old : ∀ (j : Nat) (t : S), (ρ.set i (some s))[j]? = some (some t) → (j = i ∧ i < ρ.length ∧ t = s) ∨ (j ≠ i ∧ ρ[j]? = some (some t)) := fun j t e => by
    by_cases q : j = i
    · subst q
      by_cases hl : j < ρ.length
      · rw [List.getElem?_set_self hl] at e
        cases e
        exact .inl ⟨rfl, hl, rfl⟩
      · rw [List.getElem?_eq_none (by rw [List.length_set]; omega)] at e
        cases e
    · rw [List.getElem?_set_ne fun z => q z.symm] at e
      exact .inr ⟨q, e⟩
  refine ⟨by rw [List.length_set, List.length_set]; exact h.len, fun j t e => ?_, fun j l t u p e1 m1 e2 m2 e3 e4 => ?_, h.tb⟩
  · rcases old j t e with ⟨rfl, hl, rfl⟩ | ⟨q, e⟩
    · exact ⟨v, by rw [List.getElem?_set_self (by rw [h.len]; exact hl)], hs⟩
    · obtain ⟨u, h1, h2⟩ := h.at_ j t e
      exact ⟨u, by rw [List.getElem?_set_ne fun z => q z.symm]; exact h1, h2⟩
  · rcases old j t e1 with ⟨rfl, hl, rfl⟩ | ⟨q, f0⟩
    · rcases old l u e2 with ⟨rfl, _, _⟩ | ⟨q2, e2⟩
      · rfl
      · rw [List.getElem?_set_self (by rw [h.len]; exact hl)] at e3
        rw [List.getElem?_set_ne fun z => q2 z.symm] at e4
        exact absurd ⟨l, u, e2, m2, e4⟩ (hm m1 p (Option.some.inj (Option.some.inj e3)))
    · rw [List.getElem?_set_ne fun z => q z.symm] at e3
      rcases old l u e2 with ⟨rfl, hl, rfl⟩ | ⟨q2, e2⟩
      · rw [List.getElem?_set_self (by rw [h.len]; exact hl)] at e4
        exact absurd ⟨j, t, f0, m1, e3⟩ (hm m2 p (Option.some.inj (Option.some.inj e4)))
      · rw [List.getElem?_set_ne fun z => q2 z.symm] at e4
        exact h.ne j l t u p f0 m1 e2 m2 e3 e4
theorem Mine.set {σ : L2.St} {v : V} {i : Nat} {p : Addr} (m : Mine (σ.set i (some v)) (ρ.set i (some s)) p) : (s.me = true ∧ v = .ref p) ∨ Mine σ ρ p := by
  obtain ⟨j, t, e1, e2, e3⟩ := m
  by_cases q : j = i
  · subst q
    by_cases hl : j < ρ.length
    · rw [List.getElem?_set_self hl] at e1
      cases e1
      by_cases hl2 : j < σ.length
      · rw [List.getElem?_set_self hl2] at e3
        cases e3
        exact .inl ⟨e2, rfl⟩
      · rw [List.getElem?_eq_none (by rw [List.length_set]; omega)] at e3
        cases e3
    · rw [List.getElem?_eq_none (by rw [List.length_set]; omega)] at e1
      cases e1
  · rw [List.getElem?_set_ne fun z => q z.symm] at e1 e3
    exact .inr ⟨j, t, e1, e2, e3⟩
theorem Now.set {w : Option Addr} {Ge He G H : Hp} {σ : L2.St} (n : Now w Ge He G H σ ρ) {v : V} (i : Nat) (hi : w = none ∨ i ≠ 0) (hs : Sl G H v s) (hm : s.me = true → ∀ p, v = .ref p → ¬ Mine σ ρ p ∧ He p = none) : Now w Ge He G H (σ.set i (some v)) (ρ.set i (some s)) where
  g := n.g
  gh := n.gh
  nw := n.nw
  kp := n.kp
  al := n.al
  sl := n.sl.set i hs fun h p e => (hm h p e).1
  out := fun a m => by
    rcases m.set with ⟨h1, h2⟩ | m
    · exact .inr (hm h1 a h2).2
    · exact n.out a m
  fx := fun a e => by
    rcases hi with h | h
    · rw [h] at e
      cases e
    · rw [List.getElem?_set_ne h]
      exact n.fx a e
theorem no_own {w : Option Addr} (h : w.isSome = false) : w = none := by
  cases w with
  | none => rfl
  | some a => cases h
theorem own_or {w : Option Addr} {i : Nat} (h : w.isSome = ow) (hi : ow = false ∨ i ≠ 0) : w = none ∨ i ≠ 0 := hi.imp (fun e => no_own (h.trans e)) id
/-! ### blocks -/
theorem hss_nil (h : P.nx ρ) : HSs X W ow [] ρ P := pss_weak pss_nil fun Dn σ H ⟨w, Ge, He, G, hw, n, k, _⟩ => k σ G H ρ n (Ex.refl G) h
theorem hss_cons (h1 : HS X W ow st ρ { P with nx := M }) (h2 : ∀ ρ', M ρ' → HSs X W ow rest ρ' P) : HSs X W ow (st :: rest) ρ P := by
  refine ⟨fun pins s σ H Dn I h => ?_⟩
  obtain ⟨w, Ge, He, G, hw, n, k1, k2, k3, k4, k5⟩ := h
  refine wpAny_execs_cons (thn (h1.run pins s σ H { Dn with nx := fun σ' H' => ∃ ρ' G', Now w Ge He G' H' σ' ρ' ∧ Ex G G' ∧ M ρ' } I ⟨w, Ge, He, G, hw, n, fun σ' G' H' ρ' n' e m => ⟨ρ', G', n', e, m⟩, k2, k3, k4, k5⟩) fun fl s1 q => ?_)
  cases fl with
  | next =>
    obtain ⟨σ', H', I', ρ', G', n', e, m⟩ := q
    exact (h2 ρ' m).run pins s1 σ' H' Dn I' ⟨w, Ge, He, G', hw, n', fun σ2 G2 H2 ρ2 n2 e2 p => k1 σ2 G2 H2 ρ2 n2 (e.trans e2) p, fun v σ2 G2 H2 d ρ2 n2 e2 p => k2 v σ2 G2 H2 d ρ2 n2 (e.trans e2) p, fun σ2 G2 H2 ρ2 n2 e2 p => k3 σ2 G2 H2 ρ2 n2 (e.trans e2) p, fun σ2 G2 H2 ρ2 n2 e2 p => k4 σ2 G2 H2 ρ2 n2 (e.trans e2) p,
      fun c xd vs fs σ2 G2 H2 ρ2 n2 e2 p => k5 c xd vs fs σ2 G2 H2 ρ2 n2 (e.trans e2) p⟩
  | ret v => exact q
  | brk => exact q
  | cont => exact q
theorem hss_one (h1 : HS X W ow st ρ P) : HSs X W ow [st] ρ P := pss_one h1
theorem sD_mono {Dn : Ends} {σ : L2.St} {H : Hp} (h : sD W ow ρ P Dn σ H) (i1 : ∀ r, P'.nx r → P.nx r) (i2 : ∀ d r, P'.rt d r → P.rt d r) (i3 : ∀ r, P'.bk r → P.bk r) (i4 : ∀ r, P'.ct r → P.ct r) (i5 : ∀ c f r, P'.ex c f r → P.ex c f r) : sD W ow ρ P' Dn σ H := by
  obtain ⟨w, Ge, He, G, hw, n, k1, k2, k3, k4, k5⟩ := h
  exact ⟨w, Ge, He, G, hw, n, fun a b c d e f p => k1 a b c d e f (i1 _ p), fun a b c d e f g h i p => k2 a b c d e f g h i (i2 _ _ p), fun a b c d e f p => k3 a b c d e f (i3 _ p), fun a b c d e f p => k4 a b c d e f (i4 _ p), fun a b c d e f g h i j l m o p => k5 a b c d e f g h i j l m o (i5 _ _ _ p)⟩
theorem hs_mono (h : HS X W ow st ρ P') (i1 : ∀ r, P'.nx r → P.nx r) (i2 : ∀ d r, P'.rt d r → P.rt d r) (i3 : ∀ r, P'.bk r → P.bk r) (i4 : ∀ r, P'.ct r → P.ct r) (i5 : ∀ c f r, P'.ex c f r → P.ex c f r) : HS X W ow st ρ P := ps_weak h fun _ _ _ q => sD_mono q i1 i2 i3 i4 i5
theorem hss_mono (h : HSs X W ow A ρ P') (i1 : ∀ r, P'.nx r → P.nx r) (i2 : ∀ d r, P'.rt d r → P.rt d r) (i3 : ∀ r, P'.bk r → P.bk r) (i4 : ∀ r, P'.ct r → P.ct r) (i5 : ∀ c f r, P'.ex c f r → P.ex c f r) : HSs X W ow A ρ P := pss_weak h fun _ _ _ q => sD_mono q i1 i2 i3 i4 i5
/-! ### plain statements -/
theorem hs_ret (h : PD X e ρ d ρ') (k : P.rt d ρ') : HS X W ow (.Return (some e) pos) ρ P :=
  ps_weak (ps_ret h) fun Dn σ H ⟨w, Ge, He, G, hw, n, k1, k2, _⟩ => ⟨G, n.gh, n.sl, fun v G' H' g a => k2 v σ G' H' d ρ' (n.step g) g.g a k⟩
theorem hs_retN (k : P.rt .non ρ) : HS X W ow (.Return none pos) ρ P :=
  ps_weak ps_retN fun Dn σ H ⟨w, Ge, He, G, hw, n, k1, k2, _⟩ => k2 .non σ G H .non ρ n (Ex.refl G) .non k
theorem hs_setS (i : Nat) {nm : Str} {p2 : Pos} (h : PS_ X e ρ s ρ') (k : P.nx (ρ'.set i (some s))) (hN : X.N.Nodup) (hi0 : ow = false ∨ i ≠ 0 := by first | exact .inl rfl | exact .inr (by decide)) (hi : X.N[i]? = some nm := by rfl) (hx : Loc X.env.scope nm := by first | exact Or.inl rfl | exact Or.inr rfl)
    (hs : swapsWith e (some (.Name nm p2)) pos.line X.env = pure false := by rfl) (hf : X.fn nm = true ∨ X.env.scope.names.lookup nm = some .local := by first | exact .inl rfl | exact .inr rfl) : HS X W ow (.Assign [.Name nm p2] e pos) ρ P :=
  ps_weak (ps_set hN hi hx h hs hf) fun Dn σ H ⟨w, Ge, He, G, hw, n, k1, k2, k3, k4, k5⟩ => ⟨G, n.gh, n.sl, fun v G' H' g a fr => k1 _ G' H' _ ((n.step g).set i (own_or hw hi0) a fun hm p e => by
    obtain ⟨q, e1, e2, e3⟩ := fr hm
    rw [e1] at e
    cases e
    exact ⟨e3, n.back g e2⟩) g.g k⟩
theorem hs_set (i : Nat) {nm : Str} {p2 : Pos} (h : PD X e ρ d ρ') (k : P.nx (ρ'.set i (some (.d d)))) (hN : X.N.Nodup) (hi0 : ow = false ∨ i ≠ 0 := by first | exact .inl rfl | exact .inr (by decide)) (hi : X.N[i]? = some nm := by rfl) (hx : Loc X.env.scope nm := by first | exact Or.inl rfl | exact Or.inr rfl)
    (hs : swapsWith e (some (.Name nm p2)) pos.line X.env = pure false := by rfl) (hf : X.fn nm = true ∨ X.env.scope.names.lookup nm = some .local := by first | exact .inl rfl | exact .inr rfl) : HS X W ow (.Assign [.Name nm p2] e pos) ρ P :=
  hs_setS i (ps_d h) k hN hi0 hi hx hs hf
theorem hs_drop (h : PD X e ρ d ρ') (k : P.nx ρ') (hs : swapsWith e none pos.line X.env = pure false := by rfl) : HS X W ow (.Expr e pos) ρ P :=
  ps_weak (ps_expr h hs) fun Dn σ H ⟨w, Ge, He, G, hw, n, k1, k2, k3, k4, k5⟩ => ⟨G, n.gh, n.sl, fun v G' H' g a => k1 _ G' H' _ (n.step g) g.g k⟩
theorem hs_if (hc : PTD X c ρ k1 ρ1) (ha : k1 = true → HSs X W ow A ρ1 P) (hb : k1 = false → HSs X W ow B ρ1 P) : HS X W ow (.If c A B pos) ρ P := by
  refine ⟨fun pins s σ H Dn I h => ?_⟩
  obtain ⟨w, Ge, He, G, hw, n, q1, q2, q3, q4, q5⟩ := h
  refine wpAny_If (thn (hc.run pins s σ H (fun b H' => b = k1 ∧ ∃ G', Step σ ρ ρ1 G H G' H') I ⟨G, n.gh, n.sl, fun G' H' g => ⟨rfl, G', g⟩⟩) fun dd s1 ⟨H1, I1, e1, G', g⟩ => ?_)
  have hh : sD W ow ρ1 P Dn σ H1 := ⟨w, Ge, He, G', hw, n.step g, fun a b c d e f p => q1 a b c d e (g.g.trans f) p, fun a b c d e f h i p => q2 a b c d e f h (g.g.trans i) p, fun a b c d e f p => q3 a b c d e (g.g.trans f) p, fun a b c d e f p => q4 a b c d e (g.g.trans f) p, fun a b c d e f i j l m => q5 a b c d e f i j l (g.g.trans m)⟩
  cases dd with
  | true => exact (ha e1.symm).run pins s1 σ H1 Dn I1 hh
  | false => exact (hb e1.symm).run pins s1 σ H1 Dn I1 hh
/-- if c: what leaves; rest -/
theorem hss_leave (hc : PTD X c ρ k1 ρ1) (ha : k1 = true → HSs X W ow A ρ1 { P with nx := fun _ => False }) (hb : k1 = false → HSs X W ow rest ρ1 P) : HSs X W ow (.If c A [] pos :: rest) ρ P :=
  hss_cons (M := fun r => k1 = false ∧ r = ρ1) (hs_if hc (fun e => hss_mono (ha e) (fun _ z => z.elim) (fun _ _ z => z) (fun _ z => z) (fun _ z => z) fun _ _ _ z => z) fun e => hss_nil ⟨e, rfl⟩) fun ρ' ⟨e, r⟩ => by
    subst r
    exact hb e
/-- a statement, then the rest -/
theorem hss_then (h1 : HS X W ow st ρ { P with nx := fun r => r = ρ1 }) (h2 : HSs X W ow rest ρ1 P) : HSs X W ow (st :: rest) ρ P := hss_cons h1 fun ρ' e => by
  subst e
  exact h2
theorem hs_pass (k : P.nx ρ) : HS X W ow (.Pass pos) ρ P := ps_weak ps_pass fun Dn σ H ⟨w, Ge, He, G, hw, n, q, _⟩ => q σ G H ρ n (Ex.refl G) k
theorem hs_brk (k : P.bk ρ) : HS X W ow (.Break pos) ρ P := ps_weak ps_break fun Dn σ H ⟨w, Ge, He, G, hw, n, _, _, q, _⟩ => q σ G H ρ n (Ex.refl G) k
theorem hs_cont (k : P.ct ρ) : HS X W ow (.Continue pos) ρ P := ps_weak ps_continue fun Dn σ H ⟨w, Ge, He, G, hw, n, _, _, _, q, _⟩ => q σ G H ρ n (Ex.refl G) k
/-! ### what raises -/
variable {cls : Value} {fs : List (Str × D)}
theorem hs_retX (h : PX X W e ρ cls fs ρ') (k : P.ex cls fs ρ') : HS X W ow (.Return (some e) pos) ρ P :=
  ps_weak (ps_ret h) fun Dn σ H ⟨w, Ge, He, G, hw, n, k1, k2, k3, k4, k5⟩ => ⟨G, n.gh, n.sl, fun xd vs G' H' g h1 h2 h3 => k5 cls xd vs fs σ G' H' ρ' (n.step g) g.g (n.back g h1) h2 h3 k⟩
theorem hs_setX (i : Nat) {nm : Str} {p2 : Pos} (h : PX X W e ρ cls fs ρ') (k : P.ex cls fs ρ') (hN : X.N.Nodup) (hi : X.N[i]? = some nm := by rfl) (hx : Loc X.env.scope nm := by first | exact Or.inl rfl | exact Or.inr rfl)
    (hs : swapsWith e (some (.Name nm p2)) pos.line X.env = pure false := by rfl) (hf : X.fn nm = true ∨ X.env.scope.names.lookup nm = some .local := by first | exact .inl rfl | exact .inr rfl) : HS X W ow (.Assign [.Name nm p2] e pos) ρ P :=
  ps_weak (ps_set hN hi hx h hs hf) fun Dn σ H ⟨w, Ge, He, G, hw, n, k1, k2, k3, k4, k5⟩ => ⟨G, n.gh, n.sl, fun xd vs G' H' g h1 h2 h3 => k5 cls xd vs fs σ G' H' ρ' (n.step g) g.g (n.back g h1) h2 h3 k⟩
theorem hs_dropX (h : PX X W e ρ cls fs ρ') (k : P.ex cls fs ρ') (hs : swapsWith e none pos.line X.env = pure false := by rfl) : HS X W ow (.Expr e pos) ρ P :=
  ps_weak (ps_expr h hs) fun Dn σ H ⟨w, Ge, He, G, hw, n, k1, k2, k3, k4, k5⟩ => ⟨G, n.gh, n.sl, fun xd vs G' H' g h1 h2 h3 => k5 cls xd vs fs σ G' H' ρ' (n.step g) g.g (n.back g h1) h2 h3 k⟩
theorem px_call {k n : Nat} {f : Str} {Fn : List D → D → Prop} {Fx : List D → Value → List (Str × D) → Prop} {p : Pos} (tk : Takes X W) (F : DefX X f k (spD n Fn Fx)) (hr : Room k X.A) (ha : PAD X (e :: es) ρ ds ρ') (hl : ds.length = n) (hf : Fx ds cls fs) (hg : Gl X f := by rfl) (hdb : (f == ("__debug__" : Str)) = false := by decide)
    (he : starEach (e :: es) X.env = (false, eval e X.env) :: starEach es X.env := by rfl) (hpl : (backTo pos (starEach es X.env)).any (·.1) = false := by rfl) : PX X W (.Call (.Name f p) (e :: es) [] pos) ρ cls fs ρ' := by
  obtain ⟨f, fd, ps, hm, hk, hb, hF⟩ := F.ex
  refine pe_weak (pe_callS hF hr hg hm hk hb (fun σ => passAt tk σ) ha (by assumption) he hpl) fun σ H Q ⟨G, e1, s, q⟩ => ⟨G, e1, s, fun vs G1 H1 g1 a1 => ?_⟩
  exact ⟨G1, ds, g1.sl.tb, g1.gh, a1, hl, .inr ⟨cls, fs, hf, fun xd vs' G2 H2 g2 h1 h2 h3 => q xd vs' G2 H2 (g1.trans (g2.step g1.sl)) (by
    cases z : H xd with
    | none => rfl
    | some o => exact absurd h1 (g1.al xd (some_ne z))) h2 h3⟩⟩
/-- an argument raises -/
theorem pax_here (ha : PX X W e ρ cls fs ρ') (hr : ∀ t : TA, (∀ σ H Q, ¬ t σ H Q) → PA X es t) (hs : starEach (e :: es) X.env = (false, eval e X.env) :: starEach es X.env := by rfl) : PAX X W (e :: es) ρ cls fs ρ' :=
  pa_weak (pa_cons ha (hr (fun _ _ _ => False) fun _ _ _ z => z) hs) fun σ H Q ⟨G, e1, s, k⟩ => ⟨G, e1, s, k⟩
theorem pa_no (t : TA) (h : ∀ σ H Q, ¬ t σ H Q) : PA X es t := ⟨fun _ _ _ σ H Q _ q => (h σ H Q q).elim⟩
theorem pax_later (ha : PD X e ρ d ρ1) (hr : PAX X W es ρ1 cls fs ρ') (hs : starEach (e :: es) X.env = (false, eval e X.env) :: starEach es X.env := by rfl) : PAX X W (e :: es) ρ cls fs ρ' :=
  pa_weak (pa_cons ha hr hs) fun σ H Q ⟨G, e1, s, k⟩ => ⟨G, e1, s, fun v G1 H1 g1 a1 => ⟨G1, g1.gh, g1.sl, fun xd vs' G2 H2 g2 h1 h2 h3 => k xd vs' G2 H2 (g1.trans g2) (by
    cases z : H xd with
    | none => rfl
    | some o => exact absurd h1 (g1.al xd (some_ne z))) h2 h3⟩⟩
theorem px_callA {k n : Nat} {f : Str} {Fn : List D → D → Prop} {Fx : List D → Value → List (Str × D) → Prop} {p : Pos} (F : DefX X f k (spD n Fn Fx)) (hr : Room k X.A) (ha : PAX X W (e :: es) ρ cls fs ρ') (hg : Gl X f := by rfl) (hdb : (f == ("__debug__" : Str)) = false := by decide)
    (he : starEach (e :: es) X.env = (false, eval e X.env) :: starEach es X.env := by rfl) (hpl : (backTo pos (starEach es X.env)).any (·.1) = false := by rfl) : PX X W (.Call (.Name f p) (e :: es) [] pos) ρ cls fs ρ' := by
  obtain ⟨f, fd, ps, hm, hk, hb, hF⟩ := F.ex
  exact pe_weak (pe_call hF hr hg hm hk hb .nil passF ha (by assumption) he hpl) fun σ H Q q => q
/-! ### a def by its body -/
/-- the slots at the entry -/
theorem Slots.entry {G H : Hp} {N : List Str} {vs : List V} {ds : List D} (tb : TbO G H) (a : Ats G vs ds) : Slots G H (L2.start N vs) (ds.map (fun d => some (S.d d)) ++ List.replicate (N.length - ds.length) none) := by
  have st : L2.start N vs = vs.map some ++ List.replicate (N.length - ds.length) none := by
    unfold L2.start
    rw [a.length]
  have no : ∀ {i : Nat} {s : S}, (ds.map (fun d => some (S.d d)) ++ List.replicate (N.length - ds.length) none)[i]? = some (some s) → ∃ d, ds[i]? = some d ∧ s = .d d := fun {i s} q => by
    by_cases hi : i < ds.length
    · rw [List.getElem?_append_left (by rw [List.length_map]; exact hi), List.getElem?_map] at q
      cases ed : ds[i]? with
      | none =>
        rw [ed] at q
        cases q
      | some d0 =>
        rw [ed] at q
        cases q
        exact ⟨d0, rfl, rfl⟩
    · rw [List.getElem?_append_right (by rw [List.length_map]; omega)] at q
      have z2 := List.eq_of_mem_replicate (List.mem_of_getElem? q)
      cases z2
  refine ⟨?_, fun i s q => ?_, fun i j s t p q m => ?_, tb⟩
  · rw [st, List.length_append, List.length_append, List.length_map, List.length_map, a.length, List.length_replicate, List.length_replicate]
  · obtain ⟨d0, ed, rfl⟩ := no q
    obtain ⟨v, h1, h2⟩ := a.get ed
    refine ⟨v, ?_, .d h2⟩
    have hi : i < vs.length := by
      rcases Nat.lt_or_ge i vs.length with h | h
      · exact h
      · rw [List.getElem?_eq_none h] at h1
        cases h1
    rw [st, List.getElem?_append_left (by rw [List.length_map]; exact hi), List.getElem?_map, h1]
    rfl
  · obtain ⟨d0, ed, rfl⟩ := no q
    cases m
def Gen (ds : List D) (N : List Str) : Rho := ds.map (fun d => some (S.d d)) ++ List.replicate (N.length - ds.length) none
theorem def_okV {Pg : Program} {w : World} {K : PySem.W.Frag} {mg : Str → Option Value} {base : Heap} {nm qual : Str} {params : Arguments} {body : List Stmt} {scope : Scope} {f : Addr} {N ps : List Str} {k n : Nat} {Fn : List D → D → Prop} {Fx : List D → Value → List (Str × D) → Prop} {dV kV doc pm cdv ct oc : Value} {an od : Option Addr} {osl : Array (Option Value)}
    (lk : K.lookup f = some ⟨oc, od, .func (PySem.W.fnOf nm qual params body scope dV kV doc pm an cdv ct), osl⟩) (hcd : PySem.W.codeIn K cdv qual = true) (Sc : FnScope N ps scope) (hn : ps.length = n)
    (hb : ∀ (A : Around) (outer : List Env) (s : Shared) (H : Hp) (E : XK) (ds : List D), Room k (A.deeper (envOfC qual scope s.heap.objs.size f cdv)) → ds.length = n →
      (∀ r, Fn ds r → HSs (cxOf (L2.CX Pg w) Pg w K mg base N qual scope f cdv A outer s H E) (fun cls xd _ H' => E cls xd H') false body (Gen ds N) { nx := fun _ => r = .non, rt := fun d _ => d = r }) ∧
      (∀ cls fs, Fx ds cls fs → HSs (cxOf (L2.CX Pg w) Pg w K mg base N qual scope f cdv A outer s H E) (fun cls xd _ H' => E cls xd H') false body (Gen ds N) { ex := fun c z _ => c = cls ∧ z = fs })) :
    FnOk Pg w K mg base (L2.CX Pg w) (k + 1) f (PySem.W.fnOf nm qual params body scope dV kV doc pm an cdv ct) ps (spD n Fn Fx) := by
  refine fn_of lk hcd Sc (fun vs H Q E h => ?_) (fun A outer s H vs Q E hr h => ?_)
  · obtain ⟨G, ds, _, _, a, hl, _⟩ := h
    rw [a.length, hl, hn]
  · obtain ⟨G, ds, tb, e, a, hl, hh⟩ := h
    obtain ⟨b1, b2⟩ := hb A outer s H E ds hr hl
    have now : Now none G H G H (L2.start N vs) (Gen ds N) := by
      have sl := Slots.entry (N := N) tb a
      refine ⟨⟨Ex.refl G, e, fun _ _ _ => rfl, fun _ _ h _ _ => h, fun _ h => h⟩, sl, fun x m => ?_, fun _ z => by cases z⟩
      obtain ⟨i, s, q1, q2, q3⟩ := m
      have q1 : (Gen ds N)[i]? = some (some s) := q1
      unfold Gen at q1
      by_cases hi : i < ds.length
      · rw [List.getElem?_append_left (by rw [List.length_map]; exact hi), List.getElem?_map] at q1
        cases ed : ds[i]? with
        | none =>
          rw [ed] at q1
          cases q1
        | some d0 =>
          rw [ed] at q1
          cases q1
          cases q2
      · rw [List.getElem?_append_right (by rw [List.length_map]; omega)] at q1
        have z2 := List.eq_of_mem_replicate (List.mem_of_getElem? q1)
        cases z2
    have grow : ∀ {σ' : L2.St} {G' H' : Hp} {ρ' : Rho}, Now none G H G' H' σ' ρ' → Grow G H G' H' := fun n => ⟨n.g, n.gh, fun a h => n.nw a h fun z => (by cases z), fun a o h t => n.kp a o h t fun z => (by cases z), n.al, fun _ => n.sl.tb.1⟩
    rcases hh with ⟨r, hf, kq⟩ | ⟨cls, fs, hf, ke⟩
    · refine ⟨_, b1 r hf, none, G, H, G, rfl, now, fun σ' G' H' ρ' n' _ p => ?_, fun v σ' G' H' d ρ' n' _ at_ p => ?_, fun _ _ _ _ _ _ z => z.elim, fun _ _ _ _ _ _ z => z.elim, fun _ _ _ _ _ _ _ _ _ _ _ _ _ z => z.elim⟩
      · have p' : r = .non := p
        subst p'
        exact kq .non G' H' (grow n') .non
      · have p' : d = r := p
        subst p'
        exact kq v G' H' (grow n') at_
    · refine ⟨_, b2 cls fs hf, none, G, H, G, rfl, now, fun _ _ _ _ _ _ z => z.elim, fun _ _ _ _ _ _ _ _ _ z => z.elim, fun _ _ _ _ _ _ z => z.elim, fun _ _ _ _ _ _ z => z.elim, fun c xd vs z σ' G' H' ρ' n' _ h1 h2 h3 p => ?_⟩
      obtain ⟨p1, p2⟩ := p
      subst p1 p2
      exact ke xd vs G' H' (grow n') h1 h2 h3
theorem def_ok {Pg : Program} {w : World} {K : PySem.W.Frag} {mg : Str → Option Value} {base : Heap} {nm qual : Str} {params : Arguments} {body : List Stmt} {scope : Scope} {f : Addr} {fd : FuncData} {N ps : List Str} {k n : Nat} {Fn : List D → D → Prop} {Fx : List D → Value → List (Str × D) → Prop}
    (F : FunD K nm qual params body scope [] [] f fd) (Sc : FnScope N ps scope) (hn : ps.length = n)
    (hb : ∀ (cdv : Value) (A : Around) (outer : List Env) (s : Shared) (H : Hp) (E : XK) (ds : List D), Room k (A.deeper (envOfC qual scope s.heap.objs.size f cdv)) → ds.length = n →
      (∀ r, Fn ds r → HSs (cxOf (L2.CX Pg w) Pg w K mg base N qual scope f cdv A outer s H E) (fun cls xd _ H' => E cls xd H') false body (Gen ds N) { nx := fun _ => r = .non, rt := fun d _ => d = r }) ∧
      (∀ cls fs, Fx ds cls fs → HSs (cxOf (L2.CX Pg w) Pg w K mg base N qual scope f cdv A outer s H E) (fun cls xd _ H' => E cls xd H') false body (Gen ds N) { ex := fun c z _ => c = cls ∧ z = fs })) :
    FnOk Pg w K mg base (L2.CX Pg w) (k + 1) f fd ps (spD n Fn Fx) := by
  (obtain ⟨oc, od, dV, kV, doc, pm, an, cdv, ct, osl, rfl, lk, hcd, _, _⟩ := F.ex)
  exact def_okV lk hcd Sc hn fun A outer s H E ds hr hl => hb cdv A outer s H E ds hr hl
end
end DL

end
section
set_option maxHeartbeats 4000001
/-! DL4: targets, iterators, loops, comprehensions over data. -/
namespace DL
open PySem PySem.Spec
open PyProof.Rows L2
open Evl (Ex)
section
variable [Tb]
/-- some slots are stored anew, with data -/
structure Upd (js : List Nat) (σ : L2.St) (ρ : Rho) (σ' : L2.St) (ρ' : Rho) : Prop where
  ls : σ'.length = σ.length
  lr : ρ'.length = ρ.length
  off : ∀ j, j ∉ js → σ'[j]? = σ[j]? ∧ ρ'[j]? = ρ[j]?
  dat : ∀ (j : Nat) (s : S), j ∈ js → ρ'[j]? = some (some s) → s.me = false
theorem Upd.mine {js : List Nat} {σ σ' : L2.St} {ρ ρ' : Rho} (u : Upd js σ ρ σ' ρ') {a : Addr} (m : Mine σ' ρ' a) : Mine σ ρ a := by
  obtain ⟨i, s, e1, e2, e3⟩ := m
  by_cases h : i ∈ js
  · rw [u.dat i s h e1] at e2
    cases e2
  · obtain ⟨h1, h2⟩ := u.off i h
    exact ⟨i, s, h2 ▸ e1, e2, h1 ▸ e3⟩
theorem Upd.refl (σ : L2.St) (ρ : Rho) : Upd [] σ ρ σ ρ := ⟨rfl, rfl, fun _ _ => ⟨rfl, rfl⟩, fun _ _ h => by cases h⟩
theorem Upd.trans {js ks : List Nat} {σ σ1 σ2 : L2.St} {ρ ρ1 ρ2 : Rho} (a : Upd js σ ρ σ1 ρ1) (b : Upd ks σ1 ρ1 σ2 ρ2) : Upd (js ++ ks) σ ρ σ2 ρ2 := by
  refine ⟨b.ls.trans a.ls, b.lr.trans a.lr, fun j h => ?_, fun j s h e => ?_⟩
  · rw [List.mem_append] at h
    obtain ⟨b1, b2⟩ := b.off j fun z => h (.inr z)
    obtain ⟨a1, a2⟩ := a.off j fun z => h (.inl z)
    exact ⟨b1.trans a1, b2.trans a2⟩
  · by_cases hk : j ∈ ks
    · exact b.dat j s hk e
    · rw [(b.off j hk).2] at e
      (rcases List.mem_append.mp h with h | h)
      · exact a.dat j s h e
      · exact absurd h hk
theorem Upd.set (i : Nat) (σ : L2.St) (ρ : Rho) (v : V) (d : D) : Upd [i] σ ρ (σ.set i (some v)) (ρ.set i (some (.d d))) := by
  refine ⟨List.length_set, List.length_set, fun j h => ?_, fun j s h e => ?_⟩
  · have ne : i ≠ j := fun z => h (by rw [z]; exact List.mem_singleton.mpr rfl)
    exact ⟨List.getElem?_set_ne ne, List.getElem?_set_ne ne⟩
  · rw [List.mem_singleton.mp h] at e
    by_cases hl : i < ρ.length
    · rw [List.getElem?_set_self hl] at e
      cases e
      rfl
    · rw [List.getElem?_eq_none (by rw [List.length_set]; omega)] at e
      cases e
def rG (js : List Nat) (ρ : Rho) (d : D) (ρ' : Rho) : TG := fun v σ H Q => ∃ G, Ex G H ∧ Slots G H σ ρ ∧ At G v d ∧ ∀ σ' G' H', Grow G H G' H' → Slots G' H' σ' ρ' → Upd js σ ρ σ' ρ' → Q σ' H'
def PGD (X : Cx) (tg : Expr) (js : List Nat) (ρ : Rho) (d : D) (ρ' : Rho) : Prop := PG X tg (rG js ρ d ρ')
def rGs (js : List Nat) (ρ : Rho) (ds : List D) (ρ' : Rho) : TGs := fun vs σ H Q => ∃ G, Ex G H ∧ Slots G H σ ρ ∧ Ats G vs ds ∧ ∀ σ' G' H', Grow G H G' H' → Slots G' H' σ' ρ' → Upd js σ ρ σ' ρ' → Q σ' H'
def PGDs (X : Cx) (tgs : List Expr) (js : List Nat) (ρ : Rho) (ds : List D) (ρ' : Rho) : Prop := PGs X tgs (rGs js ρ ds ρ')
variable {X : Cx} {W : WX} {ow : Bool} {ρ ρ0 ρ' ρ1 ρ2 : Rho} {P P' : Po} {a b c e tg iter : Expr} {es : List Expr} {x y z d : D} {ds dt : List D} {s : S} {pos : Pos} {k1 : Bool} {st : Stmt} {rest A B body : List Stmt} {js ks : List Nat}
theorem pgs_weak {es : List Expr} {t t' : TGs} (h : PGs X es t) (w : ∀ v σ H Q, t' v σ H Q → t v σ H Q) : PGs X es t' := ⟨fun pins s σ H v u Q I r q => h.run pins s σ H v u Q I r (w v σ H Q q)⟩
theorem pgd_name (i : Nat) {nm : Str} (hN : X.N.Nodup) (hi : X.N[i]? = some nm := by rfl) (hx : Loc X.env.scope nm := by first | exact Or.inl rfl | exact Or.inr rfl) (hf : X.fn nm = true ∨ X.env.scope.names.lookup nm = some .local := by first | exact .inl rfl | exact .inr rfl) : PGD X (.Name nm pos) [i] ρ d (ρ.set i (some (.d d))) :=
  pg_weak (pg_name hN hi hx hf) fun v σ H Q ⟨G, e, s, a, k⟩ => k _ G H (.refl e) (s.set i (.d a) fun z => by cases z) (Upd.set i σ ρ v d)
theorem pgds_nil : PGDs X [] [] ρ [] ρ := pgs_weak pgs_nil fun vs σ H Q ⟨G, e, s, a, k⟩ => by
  cases a
  exact ⟨rfl, k σ G H (.refl e) s (.refl σ ρ)⟩
theorem pgds_cons {ts : List Expr} (h : PGD X tg js ρ d ρ1) (hr : PGDs X ts ks ρ1 ds ρ2) (hs : (assignEach (tg :: ts) X.env).map (·.2) = assign tg X.env :: (assignEach ts X.env).map (·.2) := by rfl) : PGDs X (tg :: ts) (js ++ ks) ρ (d :: ds) ρ2 :=
  pgs_weak (pgs_cons h hr hs) fun vs σ H Q ⟨G, e, s, a, k⟩ => by
    cases a with
    | cons a1 a2 =>
      exact ⟨_, _, rfl, G, e, s, a1, fun σ1 G1 H1 g1 s1 u1 => ⟨G1, g1.gh, s1, a2.ex g1.g, fun σ2 G2 H2 g2 s2 u2 => k σ2 G2 H2 (g1.trans g2) s2 (u1.trans u2)⟩⟩
theorem pgd_tup {ts : List Expr} {k : Nat} (hc : X.calm = true) (h : PGDs X ts js ρ ds ρ') (hl : ts.length = ds.length := by rfl) (hn : (assignEach ts X.env).length = ts.length := by rfl) (hst : (assignEach ts X.env).findIdx? (·.1) = none := by rfl) : PGD X (.Tuple ts k pos) js ρ (.tup ds) ρ' :=
  pg_weak (pg_tup (n := ts.length) hc h hn hst) fun v σ H Q ⟨G, e, s, a, k⟩ => by
    cases a with
    | tup hg ha => exact ⟨_, _, rfl, .inl (.inl (e _ _ hg)), by rw [hl, ha.length], G, e, s, ha, k⟩
theorem pgd_lst {ts : List Expr} {k : Nat} (hc : X.calm = true) (h : PGDs X ts js ρ ds ρ') (hl : ts.length = ds.length := by rfl) (hn : (assignEach ts X.env).length = ts.length := by rfl) (hst : (assignEach ts X.env).findIdx? (·.1) = none := by rfl) : PGD X (.Tuple ts k pos) js ρ (.lst ds) ρ' :=
  pg_weak (pg_lst (n := ts.length) hc h hn hst) fun v σ H Q ⟨G, e, s, a, k⟩ => by
    cases a with
    | lst hg ha => exact ⟨_, _, rfl, .inl (.inl (e _ _ hg)), by rw [hl, ha.length], G, e, s, ha, k⟩
theorem Now.upd {w : Option Addr} {Ge He G H G' H' : Hp} {σ σ' : L2.St} (n : Now w Ge He G H σ ρ) (g : Grow G H G' H') (s : Slots G' H' σ' ρ') (u : Upd js σ ρ σ' ρ') (hw : w = none ∨ 0 ∉ js) : Now w Ge He G' H' σ' ρ' where
  g := n.g.trans g.g
  gh := g.gh
  nw := fun a h m => (g.nw a (n.al a h)).trans (n.nw a h m)
  kp := fun a o h t m => g.kp a o (n.kp a o h t m) t
  al := fun a h => g.al a (n.al a h)
  sl := s
  out := fun a m => n.out a (u.mine m)
  fx := fun a e => by
    rcases hw with h | h
    · rw [h] at e
      cases e
    · rw [(u.off 0 h).1]
      exact n.fx a e
theorem own_js {w : Option Addr} (h : w.isSome = ow) (hi : ow = false ∨ 0 ∉ js) : w = none ∨ 0 ∉ js := hi.imp (fun e => no_own (h.trans e)) id
/-- targets = value -/
theorem hs_unp (h : PD X e ρ d ρ1) (hg : PGD X tg js ρ1 d ρ2) (k : P.nx ρ2) (hi0 : ow = false ∨ 0 ∉ js := by first | exact .inl rfl | exact .inr (by decide)) (hs : swapsWithSole [tg] e pos.line X.env = pure false := by rfl) (hw : swappedStores [tg] e X.env = pure none := by rfl)
    (h1 : (assignEach [tg] X.env).map (·.2) = [assign tg X.env] := by rfl) : HS X W ow (.Assign [tg] e pos) ρ P :=
  ps_weak (ps_asg h hg hs hw h1) fun Dn σ H ⟨w, Ge, He, G, hw, n, k1, _⟩ => ⟨G, n.gh, n.sl, fun v G' H' g a => ⟨G', g.gh, g.sl, a, fun σ' G2 H2 g2 s2 u2 => k1 _ G2 H2 _ ((n.step g).upd g2 s2 u2 (own_js hw hi0)) (g.g.trans g2.g) k⟩⟩
/-- x, y = a, b with two plain local names -/
theorem hs_par (i j : Nat) {nx ny : Str} {px py pt pt2 : Pos} {kt k2} (h : PAD X [a, b] ρ [x, y] ρ') (k : P.nx ((ρ'.set i (some (.d x))).set j (some (.d y)))) (hc : X.calm = true) (hN : X.N.Nodup) (hij : i ≠ j := by decide) (hi0 : ow = false ∨ (i ≠ 0 ∧ j ≠ 0) := by first | exact .inl rfl | exact .inr (by decide)) (hi : X.N[i]? = some nx := by rfl) (hj : X.N[j]? = some ny := by rfl)
    (hx : X.env.scope.names.lookup nx = some .local := by rfl) (hy : X.env.scope.names.lookup ny = some .local := by rfl) (hps : ∀ {t : TA} (ht : PA X [a, b] t), PS X (.Assign [.Tuple [.Name nx px, .Name ny py] kt pt] (.Tuple [a, b] k2 pt2) pos) (tPar i j t)) :
    HS X W ow (.Assign [.Tuple [.Name nx px, .Name ny py] kt pt] (.Tuple [a, b] k2 pt2) pos) ρ P :=
  ps_weak (hps h) fun Dn σ H ⟨w, Ge, He, G, hw, n, k1, _⟩ => ⟨G, n.gh, n.sl, fun vs G' H' g at_ => by
    cases at_ with
    | cons a1 r =>
      cases r with
      | cons a2 r =>
        cases r
        refine ⟨_, _, rfl, k1 _ G' H' _ (((n.step g).set i ?_ (.d a1) fun z => by cases z).set j ?_ (.d a2) fun z => by cases z) g.g k⟩
        · exact hi0.elim (fun e => .inl (no_own (hw.trans e))) fun e => .inr e.1
        · exact hi0.elim (fun e => .inl (no_own (hw.trans e))) fun e => .inr e.2⟩
/-! ### iterators -/
def ItD (J : It) (G : Hp) (ds : List D) : Prop := ∀ G' H' i, Ex G G' → Ex G' H' → (∀ d, ds[i]? = some d → J.go i H' ∧ ∀ x H'', J.yld i H' x H'' → ∃ G'', Grow G' H' G'' H'' ∧ At G'' x d) ∧ (ds.length ≤ i → J.stop i H')
def rI (ρ : Rho) (ds : List D) (ρ' : Rho) : TI := fun σ H R => ∃ G, Ex G H ∧ Slots G H σ ρ ∧ ∀ J G' H', Step σ ρ ρ' G H G' H' → ItD J G' ds → R J H'
def PID (X : Cx) (tg iter : Expr) (ρ : Rho) (ds : List D) (ρ' : Rho) : Prop := PI X tg iter (rI ρ ds ρ')
omit [Tb] in
theorem get_of_le {α : Type} {l : List α} {i : Nat} {x : α} (h : l[i]? = some x) : i < l.length := by
  rcases Nat.lt_or_ge i l.length with q | q
  · exact q
  · rw [List.getElem?_eq_none q] at h
    cases h
theorem itd_list {G : Hp} {K : PySem.W.Frag} {p : Addr} {vs : List V} (hg : G p = some (.lst vs)) (ha : Ats G vs ds) : ItD (Itl K p) G ds := fun G' H' i e1 e2 => by
  have hs : SqL K H' p vs := .inl (.inl (e2 _ _ (e1 _ _ hg)))
  refine ⟨fun d hd => ?_, fun hl => ⟨vs, hs, by rw [ha.length]; exact hl⟩⟩
  obtain ⟨v, h1, h2⟩ := ha.get hd
  refine ⟨⟨vs, v, hs, h1⟩, fun x H'' hy => ?_⟩
  obtain ⟨rfl, q⟩ := hy
  have q2 := q vs hs
  rw [h1] at q2
  cases q2
  exact ⟨G', .refl e2, h2.ex e1⟩
theorem itd_tup {G : Hp} {K : PySem.W.Frag} {p : Addr} {vs : List V} (hg : G p = some (.tup vs)) (ha : Ats G vs ds) : ItD (Itt K p) G ds := fun G' H' i e1 e2 => by
  have hs : SqT K H' p vs := .inl (.inl (e2 _ _ (e1 _ _ hg)))
  refine ⟨fun d hd => ?_, fun hl => ⟨vs, hs, by rw [ha.length]; exact hl⟩⟩
  obtain ⟨v, h1, h2⟩ := ha.get hd
  refine ⟨⟨vs, v, hs, h1⟩, fun x H'' hy => ?_⟩
  obtain ⟨rfl, q⟩ := hy
  have q2 := q vs hs
  rw [h1] at q2
  cases q2
  exact ⟨G', .refl e2, h2.ex e1⟩
theorem pid_list (h : PD X e ρ (.lst ds) ρ') : PID X tg e ρ ds ρ' := pi_weak (pi_list h) fun σ H R ⟨G, e, s, k⟩ => ⟨G, e, s, fun v G' H' g a => by
  cases a with
  | lst hg ha => exact ⟨_, rfl, ⟨_, .inl (.inl (g.gh _ _ hg))⟩, k _ G' H' g (itd_list hg ha)⟩⟩
theorem pid_tup (h : PD X e ρ (.tup ds) ρ') : PID X tg e ρ ds ρ' := pi_weak (pi_tup h) fun σ H R ⟨G, e, s, k⟩ => ⟨G, e, s, fun v G' H' g a => by
  cases a with
  | tup hg ha => exact ⟨_, rfl, ⟨_, .inl (.inl (g.gh _ _ hg))⟩, k _ G' H' g (itd_tup hg ha)⟩⟩
def strD (x : Str) : List D := x.cps.toList.map fun c => .str ⟨#[c]⟩
theorem pid_str {t : Str} (h : PD X e ρ (.str t) ρ') : PID X tg e ρ (strD t) ρ' := pi_weak (pi_str h) fun σ H R ⟨G, e, s, k⟩ => ⟨G, e, s, fun v G' H' g a => by
  cases a
  refine ⟨t, rfl, k _ G' H' g fun G1 H1 i e1 e2 => ⟨fun d hd => ?_, fun hl => ?_⟩⟩
  · unfold strD at hd
    rw [List.getElem?_map, Array.getElem?_toList] at hd
    cases hc : t.cps[i]? with
    | none =>
      rw [hc] at hd
      cases hd
    | some c =>
      rw [hc] at hd
      cases hd
      refine ⟨(Array.getElem?_eq_some_iff.mp hc).1, fun x H'' hy => ?_⟩
      obtain ⟨rfl, c', q1, q2⟩ := hy
      rw [hc] at q1
      cases q1
      rw [q2]
      exact ⟨G1, .refl e2, .str _⟩
  · unfold strD at hl
    rw [List.length_map, Array.length_toList] at hl
    exact hl⟩
/-- lo, lo + c, .. -/
def rngD (lo c : Int) (n : Nat) : List D := (List.range n).map fun i : Nat => .int (lo + (i : Int) * c)
omit [Tb] in
theorem rngD_len {lo c : Int} {n : Nat} : (rngD lo c n).length = n := by
  unfold rngD
  (rw [List.length_map, List.length_range])
omit [Tb] in
theorem rngD_get {lo c : Int} {n i : Nat} {d : D} (h : (rngD lo c n)[i]? = some d) : i < n ∧ d = .int (lo + (i : Int) * c) := by
  have hl := get_of_le h
  rw [rngD_len] at hl
  unfold rngD at h
  rw [List.getElem?_map, List.getElem?_range hl] at h
  cases h
  exact ⟨hl, rfl⟩
theorem itd_rng {G : Hp} {lo : Int} {n : Nat} : ItD (Itr lo n) G (rngD lo 1 n) := fun G' H' i e1 e2 => ⟨fun d hd => by
  obtain ⟨hl, rfl⟩ := rngD_get hd
  refine ⟨hl, fun x H'' hy => ?_⟩
  obtain ⟨rfl, rfl⟩ := hy
  rw [Int.mul_one]
  exact ⟨G', .refl e2, .int _⟩, fun hl => by
  rw [rngD_len] at hl
  exact hl⟩
theorem itd_rngC {G : Hp} {lo c : Int} {n : Nat} : ItD (Itc lo c n) G (rngD lo c n) := fun G' H' i e1 e2 => ⟨fun d hd => by
  obtain ⟨hl, rfl⟩ := rngD_get hd
  refine ⟨hl, fun x H'' hy => ?_⟩
  obtain ⟨rfl, rfl⟩ := hy
  exact ⟨G', .refl e2, .int _⟩, fun hl => by
  rw [rngD_len] at hl
  exact hl⟩
theorem pid_range1 {j : Int} {p : Pos} (hm : X.mg "range" = none) (h : PD X a ρ (.int j) ρ') (hj : -(2 ^ 62) ≤ j ∧ j < 2 ^ 62) (hg : Gl X "range" := by rfl) (hs : starEach [a] X.env = (false, eval a X.env) :: starEach [] X.env := by rfl) : PID X tg (.Call (.Name "range" p) [a] [] pos) ρ (rngD 0 1 j.toNat) ρ' :=
  pi_weak (pi_range1 hg hm (pad_one h hs) hs) fun σ H R ⟨G, e, s, k⟩ => ⟨G, e, s, fun vs G' H' g a => by
    cases a with
    | cons a1 r =>
      cases r
      cases a1
      exact ⟨j, rfl, hj.1, hj.2, k _ G' H' g itd_rng⟩⟩
theorem pid_range2 {i j : Int} {p : Pos} (hm : X.mg "range" = none) (h : PD X a ρ (.int i) ρ1) (h2 : PD X b ρ1 (.int j) ρ2) (hj : -(2 ^ 62) ≤ i ∧ i < 2 ^ 62 ∧ -(2 ^ 62) ≤ j ∧ j < 2 ^ 62) (hg : Gl X "range" := by rfl) (hs : starEach [a, b] X.env = (false, eval a X.env) :: starEach [b] X.env := by rfl) (hs2 : starEach [b] X.env = (false, eval b X.env) :: starEach [] X.env := by rfl) :
    PID X tg (.Call (.Name "range" p) [a, b] [] pos) ρ (rngD i 1 (j - i).toNat) ρ2 :=
  pi_weak (pi_range2 hg hm (pad_cons h (pad_one h2 hs2) hs) (by rw [hs, hs2]; rfl) hs2) fun σ H R ⟨G, e, s, k⟩ => ⟨G, e, s, fun vs G' H' g a => by
    cases a with
    | cons a1 r =>
      cases r with
      | cons a2 r =>
        cases r
        cases a1
        cases a2
        exact ⟨i, j, rfl, hj, k _ G' H' g itd_rng⟩⟩
def zipD (xs ys : List D) : List D := List.zipWith (fun x y => D.tup [x, y]) xs ys
omit [Tb] in
theorem zipD_get {xs ys : List D} {i : Nat} {d : D} (h : (zipD xs ys)[i]? = some d) : ∃ x y, xs[i]? = some x ∧ ys[i]? = some y ∧ d = .tup [x, y] := by
  unfold zipD at h
  rw [List.getElem?_zipWith] at h
  cases hx : xs[i]? with
  | none =>
    rw [hx] at h
    cases h
  | some x =>
    cases hy : ys[i]? with
    | none =>
      rw [hx, hy] at h
      cases h
    | some y =>
      rw [hx, hy] at h
      cases h
      exact ⟨x, y, rfl, rfl, rfl⟩
omit [Tb] in
theorem zipD_len {xs ys : List D} : (zipD xs ys).length = min xs.length ys.length := by
  unfold zipD
  rw [List.length_zipWith]
theorem pair_new {G H : Hp} (e : Ex G H) {T : Addr} (hT : H T = none) {u v : V} {x y : D} (h1 : At G u x) (h2 : At G v y) : ∃ G'', Grow G H G'' (upd H T (.tup [u, v])) ∧ At G'' (.ref T) (.tup [x, y]) :=
  ⟨_, Grow.new e hT, at_new_tup e hT (.cons h1 (.cons h2 .nil))⟩
theorem pid_zip {xs ys : List D} {p tpos : Pos} {elts : List Expr} {kk : Nat} (hm : X.mg "zip" = none) (h1 : PD X a ρ (.lst xs) ρ1) (h2 : PD X b ρ1 (.lst ys) ρ2) (hg : Gl X "zip" := by rfl) (hs : starEach [a, b] X.env = (false, eval a X.env) :: starEach [b] X.env := by rfl) (hs2 : starEach [b] X.env = (false, eval b X.env) :: starEach [] X.env := by rfl) :
    PID X (.Tuple elts kk tpos) (.Call (.Name "zip" p) [a, b] [] pos) ρ (zipD xs ys) ρ2 :=
  pi_weak (pi_zip hg hm (pad_cons h1 (pad_one h2 hs2) hs) hs (by rw [hs2]; rfl)) fun σ H R ⟨G, e, s, k⟩ => ⟨G, e, s, fun vs G' H' g a => by
    cases a with
    | cons a1 r =>
      cases r with
      | cons a2 r =>
        cases r
        cases a1 with
        | lst hg1 ha1 =>
          cases a2 with
          | lst hg2 ha2 =>
            refine ⟨_, _, _, _, rfl, .inl (.inl (g.gh _ _ hg1)), .inl (.inl (g.gh _ _ hg2)), k _ G' H' g fun G1 H1 i e1 e2 => ?_⟩
            have s1 := e2 _ _ (e1 _ _ hg1)
            have s2 := e2 _ _ (e1 _ _ hg2)
            refine ⟨fun d hd => ?_, fun hl => ?_⟩
            · obtain ⟨x, y, hx, hy, rfl⟩ := zipD_get hd
              obtain ⟨u, u1, u2⟩ := ha1.get hx
              obtain ⟨v, v1, v2⟩ := ha2.get hy
              refine ⟨⟨_, _, _, _, .inl (.inl s1), .inl (.inl s2), u1, v1⟩, fun w H'' hyl => ?_⟩
              obtain ⟨T, u', v', rfl, hT, rfl, q1, q2⟩ := hyl
              have r1 := q1 _ (.inl (.inl s1))
              have r2 := q2 _ (.inl (.inl s2))
              rw [u1] at r1
              rw [v1] at r2
              cases r1
              cases r2
              exact pair_new e2 hT (u2.ex e1) (v2.ex e1)
            · rw [zipD_len] at hl
              refine ⟨_, _, .inl (.inl s1), .inl (.inl s2), ?_⟩
              rw [ha1.length, ha2.length]
              omega⟩
def enumD (xs : List D) : List D := xs.mapIdx fun i x => .tup [.int (i : Int), x]
omit [Tb] in
theorem enumD_len {xs : List D} : (enumD xs).length = xs.length := by
  unfold enumD
  rw [List.length_mapIdx]
omit [Tb] in
theorem enumD_get {xs : List D} {i : Nat} {d : D} (h : (enumD xs)[i]? = some d) : ∃ x, xs[i]? = some x ∧ d = .tup [.int (i : Int), x] := by
  unfold enumD at h
  rw [List.getElem?_mapIdx] at h
  cases hx : xs[i]? with
  | none =>
    rw [hx] at h
    cases h
  | some x =>
    rw [hx] at h
    cases h
    exact ⟨x, rfl, rfl⟩
theorem pid_enum {xs : List D} {p tpos : Pos} {elts : List Expr} {kk : Nat} (hm : X.mg "enumerate" = none) (h1 : PD X a ρ (.lst xs) ρ1) (hg : Gl X "enumerate" := by rfl) (hs : starEach [a] X.env = (false, eval a X.env) :: starEach [] X.env := by rfl) :
    PID X (.Tuple elts kk tpos) (.Call (.Name "enumerate" p) [a] [] pos) ρ (enumD xs) ρ1 :=
  pi_weak (pi_enum hg hm (pad_one h1 hs) hs) fun σ H R ⟨G, e, s, k⟩ => ⟨G, e, s, fun vs G' H' g a => by
    cases a with
    | cons a1 r =>
      cases r
      cases a1 with
      | lst hg1 ha1 =>
        refine ⟨_, _, rfl, .inl (.inl (g.gh _ _ hg1)), k _ G' H' g fun G1 H1 i e1 e2 => ?_⟩
        have s1 := e2 _ _ (e1 _ _ hg1)
        refine ⟨fun d hd => ?_, fun hl => ?_⟩
        · obtain ⟨x, hx, rfl⟩ := enumD_get hd
          obtain ⟨u, u1, u2⟩ := ha1.get hx
          refine ⟨⟨_, _, .inl (.inl s1), u1⟩, fun w H'' hyl => ?_⟩
          obtain ⟨T, u', rfl, hT, rfl, q1⟩ := hyl
          have r1 := q1 _ (.inl (.inl s1))
          rw [u1] at r1
          cases r1
          exact pair_new e2 hT (.int _) (u2.ex e1)
        · rw [enumD_len] at hl
          exact ⟨_, .inl (.inl s1), by rw [ha1.length]; exact hl⟩⟩
/-! ### loops -/
theorem hs_for (hp : PassesOwn (model X.prog X.w) X.A X.env X.xe) (hc : X.calm = true) (hi : PID X tg iter ρ ds ρ0) (I : Nat → Rho → Prop) (h0 : I 0 ρ0)
    (step : ∀ i d ρi, ds[i]? = some d → I i ρi → ∃ js ρa, PGD X tg js ρi d ρa ∧ (ow = false ∨ 0 ∉ js) ∧ HSs X W ow body ρa { P with nx := I (i + 1), ct := I (i + 1), bk := P.nx })
    (hd : ∀ ρn, I ds.length ρn → P.nx ρn) (hs : ∀ x, foldedSetIterable iter X.env x = pure x := by intro _; rfl) : HS X W ow (.For tg iter body [] pos) ρ P := by
  refine ps_weak (ps_for hp hc hi (pg_any (α := { t : List Nat × Rho × D × Rho // PGD X tg t.1 t.2.1 t.2.2.1 t.2.2.2 }) fun t => t.2) (pss_any (α := { t : Rho × Po // HSs X W ow body t.1 t.2 }) fun t => t.2) hs) fun Dn σ H ⟨w, Ge, He, G, hw, n, k1, k2, k3, k4, k5⟩ => ?_
  refine ⟨G, n.gh, n.sl, fun J G0 H0 g0 it => ?_⟩
  refine ⟨fun i m σ' H' => m = ds.length - i ∧ i ≤ ds.length ∧ ∃ G' ρi, Now w Ge He G' H' σ' ρi ∧ Ex G0 G' ∧ I i ρi, ⟨ds.length, rfl, Nat.zero_le _, G0, ρ0, n.step g0, Ex.refl _, h0⟩, ?_⟩
  rintro i m σ' H' ⟨rfl, hle, G', ρi, n', e', hI⟩
  obtain ⟨it1, it2⟩ := it G' H' i e' n'.gh
  by_cases hlt : i < ds.length
  · obtain ⟨d, hd'⟩ : ∃ d, ds[i]? = some d := ⟨ds[i], by simp [hlt]⟩
    obtain ⟨go, yl⟩ := it1 d hd'
    refine .inr ⟨go, fun σ2 H2 => ∃ G2 ρ2, Now w Ge He G2 H2 σ2 ρ2 ∧ Ex G0 G2 ∧ I (i + 1) ρ2, fun σ2 H2 ⟨G2, ρ2, a1, a2, a3⟩ => ⟨_, by omega, rfl, hlt, G2, ρ2, a1, a2, a3⟩, fun x H'' hy => ?_⟩
    obtain ⟨G'', g2, at_⟩ := yl x H'' hy
    obtain ⟨js, ρa, b1, b2, b3⟩ := step i d ρi hd' hI
    refine ⟨⟨(js, ρi, d, ρa), b1⟩, G'', g2.gh, n'.sl.grow g2, at_, fun σ3 G3 H3 g3 s3 u3 => ?_⟩
    have n3 : Now w Ge He G3 H3 σ3 ρa := (n'.step (g2.step n'.sl)).upd g3 s3 u3 (own_js hw b2)
    have e3 : Ex G0 G3 := (e'.trans g2.g).trans g3.g
    have eG : Ex G G3 := g0.g.trans e3
    exact ⟨⟨(ρa, _), b3⟩, w, Ge, He, G3, hw, n3, fun σ4 G4 H4 ρ4 n4 e4 q => ⟨G4, ρ4, n4, e3.trans e4, q⟩, fun v σ4 G4 H4 d4 ρ4 n4 e4 => k2 v σ4 G4 H4 d4 ρ4 n4 (eG.trans e4), fun σ4 G4 H4 ρ4 n4 e4 q => k1 σ4 G4 H4 ρ4 n4 (eG.trans e4) q, fun σ4 G4 H4 ρ4 n4 e4 q => ⟨G4, ρ4, n4, e3.trans e4, q⟩,
      fun c xd vs fs σ4 G4 H4 ρ4 n4 e4 => k5 c xd vs fs σ4 G4 H4 ρ4 n4 (eG.trans e4)⟩
  · have hl : i = ds.length := by omega
    refine .inl ⟨it2 (by omega), k1 σ' G' H' ρi n' (g0.g.trans e') (hd ρi (hl ▸ hI))⟩
theorem hs_while (hp : PassesOwn (model X.prog X.w) X.A X.env X.xe) (I : Rho → Prop) (μ : Rho → Nat) (h0 : I ρ)
    (step : ∀ ρi, I ρi → ∃ b, PTD X c ρi b ρi ∧ (b = true → HSs X W ow body ρi { P with nx := fun r => I r ∧ μ r < μ ρi, ct := fun r => I r ∧ μ r < μ ρi, bk := P.nx }) ∧ (b = false → P.nx ρi)) : HS X W ow (.While c body [] pos) ρ P := by
  refine ps_weak (ps_while hp (pt_any (α := { t : Rho × Bool // PTD X c t.1 t.2 t.1 }) fun t => t.2) (pss_any (α := { t : Rho × Po // HSs X W ow body t.1 t.2 }) fun t => t.2)) fun Dn σ H ⟨w, Ge, He, G, hw, n, k1, k2, k3, k4, k5⟩ => ?_
  refine ⟨fun m σ' H' => ∃ G' ρi, Now w Ge He G' H' σ' ρi ∧ Ex G G' ∧ I ρi ∧ m = μ ρi, ⟨μ ρ, G, ρ, n, Ex.refl _, h0, rfl⟩, ?_⟩
  rintro m σ' H' ⟨G', ρi, n', e', hI, rfl⟩
  obtain ⟨b, b1, b2, b3⟩ := step ρi hI
  refine ⟨⟨(ρi, b), b1⟩, G', n'.gh, n'.sl, fun G2 H2 g2 => ?_⟩
  have n2 := n'.step g2
  have e2 := e'.trans g2.g
  cases b with
  | true =>
    refine iteT ⟨fun σ3 H3 => ∃ G3 ρ3, Now w Ge He G3 H3 σ3 ρ3 ∧ Ex G G3 ∧ I ρ3 ∧ μ ρ3 < μ ρi, fun σ3 H3 ⟨G3, ρ3, a1, a2, a3, a4⟩ => ⟨_, a4, G3, ρ3, a1, a2, a3, rfl⟩, ⟨(ρi, _), b2 rfl⟩, w, Ge, He, G2, hw, n2, fun σ4 G4 H4 ρ4 n4 e4 q => ⟨G4, ρ4, n4, e2.trans e4, q.1, q.2⟩, fun v σ4 G4 H4 d4 ρ4 n4 e4 => k2 v σ4 G4 H4 d4 ρ4 n4 (e2.trans e4),
      fun σ4 G4 H4 ρ4 n4 e4 q => k1 σ4 G4 H4 ρ4 n4 (e2.trans e4) q, fun σ4 G4 H4 ρ4 n4 e4 q => ⟨G4, ρ4, n4, e2.trans e4, q.1, q.2⟩, fun c xd vs fs σ4 G4 H4 ρ4 n4 e4 => k5 c xd vs fs σ4 G4 H4 ρ4 n4 (e2.trans e4)⟩
  | false => exact iteF (k1 σ' G2 H2 ρi n2 e2 (b3 rfl))
end
end DL

end
section
set_option maxHeartbeats 4000001
/-! DL5: list comprehensions over data. -/
namespace DL
open PySem PySem.Spec
open PyProof.Rows L2
open Evl (Ex)
def wipeR (ρ : Rho) : List Nat → Rho
  | [] => ρ
  | v :: vs => (wipeR ρ vs).set v none
theorem wipeR_len (ρ : Rho) : ∀ vs : List Nat, (wipeR ρ vs).length = ρ.length
  | [] => rfl
  | v :: vs => by
    unfold wipeR
    rw [List.length_set, wipeR_len ρ vs]
theorem wipeR_some {ρ : Rho} {i : Nat} {s : S} : ∀ {vs : List Nat}, (wipeR ρ vs)[i]? = some (some s) → ρ[i]? = some (some s) ∧ i ∉ vs
  | [], h => ⟨h, by simp⟩
  | v :: vs, h => by
    unfold wipeR at h
    by_cases q : v = i
    · subst q
      by_cases hl : v < (wipeR ρ vs).length
      · rw [List.getElem?_set_self hl] at h
        cases h
      · rw [List.getElem?_eq_none (by rw [List.length_set]; omega)] at h
        cases h
    · rw [List.getElem?_set_ne q] at h
      obtain ⟨h1, h2⟩ := wipeR_some h
      exact ⟨h1, fun z => (List.mem_cons.mp z).elim (fun e => q e.symm) h2⟩
theorem wipeR_out {ρ : Rho} {i : Nat} : ∀ {vs : List Nat}, i ∉ vs → (wipeR ρ vs)[i]? = ρ[i]?
  | [], _ => rfl
  | v :: vs, h => by
    unfold wipeR
    rw [List.getElem?_set_ne fun z => h (by rw [z]; exact List.mem_cons_self)]
    exact wipeR_out fun z => h (List.mem_cons_of_mem _ z)
theorem wipe_in {σ : L2.St} {i : Nat} : ∀ {vs : List Nat}, i ∈ vs → i < σ.length → (wipe σ vs)[i]? = some none
  | v :: vs, h, hl => by
    unfold wipe
    by_cases q : v = i
    · subst q
      rw [List.getElem?_set_self (by rw [wipe_length]; exact hl)]
    · rw [List.getElem?_set_ne q]
      exact wipe_in ((List.mem_cons.mp h).resolve_left fun e => q e.symm) hl
theorem wipe_eq {σ σ' : L2.St} {vs : List Nat} (hl : σ'.length = σ.length) (h : ∀ j, j ∉ vs → σ'[j]? = σ[j]?) : wipe σ' vs = wipe σ vs := by
  (refine List.ext_getElem? fun j => ?_)
  by_cases hj : j ∈ vs
  · by_cases hlt : j < σ.length
    · rw [wipe_in hj hlt, wipe_in hj (by rw [hl]; exact hlt)]
    · rw [List.getElem?_eq_none (by rw [wipe_length, hl]; omega), List.getElem?_eq_none (by rw [wipe_length]; omega)]
  · rw [wipe_out hj, wipe_out hj, h j hj]
theorem wipe_wipe {σ : L2.St} {vs : List Nat} : wipe (wipe σ vs) vs = wipe σ vs := wipe_eq (wipe_length σ vs) fun j hj => wipe_out hj
theorem wipeR_wipeR {ρ : Rho} {vs : List Nat} (h : ∀ j ∈ vs, ρ[j]? = some none ∨ ρ[j]? = none) : wipeR ρ vs = ρ := by
  (refine List.ext_getElem? fun j => ?_)
  by_cases hj : j ∈ vs
  · cases q : (wipeR ρ vs)[j]? with
    | none =>
      have hl : ¬ j < (wipeR ρ vs).length := fun z => by
        rw [List.getElem?_eq_getElem z] at q
        cases q
      rw [wipeR_len] at hl
      rw [List.getElem?_eq_none (by omega)]
    | some o =>
      cases o with
      | none =>
        have hl := get_of_le q
        rw [wipeR_len] at hl
        rcases h j hj with e | e
        · exact e.symm
        · rw [List.getElem?_eq_getElem hl] at e
          cases e
      | some s => exact absurd hj (wipeR_some q).2
  · exact wipeR_out hj
theorem tabs_upd {T : List (Addr × Str)} {G H : Hp} {p : Addr} {o u : HO} (t : TabsG T G H) (hp : H p = some o) (h1 : NoTab o) : TabsG T G (upd H p u) := t.ext (Evl.Ex.refl _) fun b ps e1 => by
  rw [upd_ne fun z => h1 ps (by rw [z] at e1; rw [hp] at e1; exact Option.some.inj e1)]
  exact e1
section
variable [Tb]
theorem Slots.wipe {G H : Hp} {σ : L2.St} {ρ : Rho} (s : Slots G H σ ρ) (vs : List Nat) : Slots G H (L2.wipe σ vs) (wipeR ρ vs) := by
  refine ⟨by rw [wipe_length, wipeR_len]; exact s.len, fun i t e => ?_, fun i j t u p e1 m1 e2 m2 e3 e4 => ?_, s.tb⟩
  · obtain ⟨h1, h2⟩ := wipeR_some e
    obtain ⟨v, a1, a2⟩ := s.at_ i t h1
    exact ⟨v, by rw [wipe_out h2]; exact a1, a2⟩
  · obtain ⟨h1, h2⟩ := wipeR_some e1
    obtain ⟨h3, h4⟩ := wipeR_some e2
    rw [wipe_out h2] at e3
    rw [wipe_out h4] at e4
    exact s.ne i j t u p h1 m1 h3 m2 e3 e4
theorem Mine.wipe {σ : L2.St} {ρ : Rho} {vs : List Nat} {a : Addr} (m : Mine (L2.wipe σ vs) (wipeR ρ vs) a) : Mine σ ρ a := by
  obtain ⟨i, s, e1, e2, e3⟩ := m
  obtain ⟨h1, h2⟩ := wipeR_some e1
  rw [wipe_out h2] at e3
  exact ⟨i, s, h1, e2, e3⟩
/-- a thing that is nobody's slot is written -/
theorem Slots.write {G H : Hp} {σ : L2.St} {ρ : Rho} (s : Slots G H σ ρ) {p : Addr} {o u : HO} (hm : ¬ Mine σ ρ p) (hp : H p = some o) (h1 : NoTab o) (h2 : ∀ φ, o ≠ .ext φ) : Slots G (upd H p u) σ ρ := by
  refine ⟨s.len, fun i t e => ?_, s.ne, ⟨tabs_upd s.tb.1 hp h1, s.tb.2⟩⟩
  obtain ⟨v, a1, a2⟩ := s.at_ i t e
  refine ⟨v, a1, ?_⟩
  cases a2 with
  | d h => exact .d h
  | own hg hh hs => exact .own hg (by rw [upd_ne fun z => hm ⟨i, _, e, rfl, by rw [← z]; exact a1⟩]; exact hh) hs
  | obj hg hh hs => exact .obj hg (by rw [upd_ne fun z => hm ⟨i, _, e, rfl, by rw [← z]; exact a1⟩]; exact hh) hs
variable {X : Cx} {scope : Scope} {ρ ρ0 ρ' ρ1 ρ2 : Rho} {elt tg iter e a : Expr} {ifs : List Expr} {x y d : D} {ds : List D} {pos : Pos} {k1 : Bool} {js : List Nat} {own : List (Str × Nat)}
/-- .. in the block of a comprehension -/
def PGDb (X : Cx) (scope : Scope) (tg : Expr) (js : List Nat) (ρ : Rho) (d : D) (ρ' : Rho) : Prop := ∀ (s : Shared) (H : Hp) (C : Addr) (cl : List (Str × Addr)) (fp : List Addr), PGD (X.blk s H scope (compEnvC scope cl C X.env) fp) tg js ρ d ρ'
def PTDb (X : Cx) (scope : Scope) (ifs : List Expr) (ρ : Rho) (b : Bool) (ρ' : Rho) : Prop := ∀ (s : Shared) (H : Hp) (C : Addr) (cl : List (Str × Addr)) (fp : List Addr), PTs (X.blk s H scope (compEnvC scope cl C X.env) fp) ifs (rT ρ b ρ')
def PDb (X : Cx) (scope : Scope) (e : Expr) (ρ : Rho) (d : D) (ρ' : Rho) : Prop := ∀ (s : Shared) (H : Hp) (C : Addr) (cl : List (Str × Addr)) (fp : List Addr), PD (X.blk s H scope (compEnvC scope cl C X.env) fp) e ρ d ρ'
theorem ptsd_nil : PTDb X scope [] ρ true ρ := fun s H C cl fp => ⟨fun pins s1 σ H1 Q I ⟨G, e, s, k⟩ => pts_nil.run pins s1 σ H1 Q I (k G H1 ((Grow.refl e).step s))⟩
theorem ptsd_one (h : ∀ (s : Shared) (H : Hp) (C : Addr) (cl : List (Str × Addr)) (fp : List Addr), PTD (X.blk s H scope (compEnvC scope cl C X.env) fp) a ρ k1 ρ') : PTDb X scope [a] ρ k1 ρ' := fun s H C cl fp => pts_one (h s H C cl fp)
theorem pts_any {X : Cx} {α : Type} {t : α → TT} (h : ∀ a, PTs X ifs (t a)) : PTs X ifs fun σ H Q => ∃ a, t a σ H Q := ⟨fun pins s σ H Q I ⟨a, q⟩ => (h a).run pins s σ H Q I q⟩
/-- the reading of a comprehension whose target, tests and element are of these kinds -/
abbrev LcR (X : Cx) (scope : Scope) (tg elt : Expr) (ifs : List Expr) (wi : TI) (vs : List Nat) : TE :=
  tLc wi (fun v σ H Q => ∃ t : { t : List Nat × Rho × DL.D × Rho // PGDb X scope tg t.1 t.2.1 t.2.2.1 t.2.2.2 }, rG t.1.1 t.1.2.1 t.1.2.2.1 t.1.2.2.2 v σ H Q) (fun σ H Q => ∃ t : { t : Rho × Bool // PTDb X scope ifs t.1 t.2 t.1 }, rT t.1.1 t.1.2 t.1.1 σ H Q) (fun σ H Q => ∃ t : { t : Rho × DL.D × Rho // PDb X scope elt t.1 t.2.1 t.2.2 }, rD t.1.1 t.1.2.1 t.1.2.2 σ H Q) vs
theorem lcG_read (ρs : Nat → Rho) (outs : Nat → List D) (ρE : Rho) (h0 : ρs 0 = wipeR ρ0 (own.map (·.2))) (o0 : outs 0 = [])
    (step : ∀ i d, ds[i]? = some d → ∃ js ρa b, PGDb X scope tg js (ρs i) d ρa ∧ (∀ j ∈ js, j ∈ own.map (·.2)) ∧ PTDb X scope ifs ρa b ρa ∧
      (b = true → ∃ y ρb, PDb X scope elt ρa y ρb ∧ ρs (i + 1) = wipeR ρb (own.map (·.2)) ∧ outs (i + 1) = outs i ++ [y]) ∧ (b = false → ρs (i + 1) = wipeR ρa (own.map (·.2)) ∧ outs (i + 1) = outs i))
    (hE1 : ρE.length = ρ0.length) (hE2 : ∀ j, j ∈ own.map (·.2) → ρE[j]? = ρ0[j]?) (hE3 : ∀ j, j ∉ own.map (·.2) → ρE[j]? = (ρs ds.length)[j]?)
    (hl : ds.length ≤ 100000) : ∀ σ H Q, rS ρ (.own (outs ds.length)) ρE σ H Q → LcR X scope tg elt ifs (rI ρ ds ρ0) (own.map (·.2)) σ H Q := by
  intro σ H Q ⟨G, e, sl, k⟩
  refine ⟨G, e, sl, fun J G0 H0 g0 it D hD => ?_⟩
  generalize hvs : own.map (·.2) = vs at *
  have s0 := g0.sl
  have nD0 : ¬ Mine (wipe σ vs) (wipeR ρ0 vs) D := fun m => ps_new s0 hD m.wipe
  have gD0 : G0 D = none := Evl.fresh_back g0.gh hD
  -- the state ahead of turn i
  let Pv : Nat → Hp → Prop := fun i H' => ∃ G' acc, Step (wipe σ vs) (wipeR ρ0 vs) (ρs i) G0 H0 G' H' ∧ H' D = some (.lst acc) ∧ G' D = none ∧ Ats G' acc (outs i) ∧ acc.length ≤ i
  have start : Pv 0 (upd H0 D (.lst [])) := by
    have gr : Grow G0 H0 G0 (upd H0 D (.lst [])) := .fresh g0.gh hD
    refine ⟨G0, [], ?_, upd_same, gD0, by rw [o0]; exact .nil, Nat.le_refl _⟩
    rw [h0]
    exact gr.step (s0.wipe vs)
  -- a turn
  have next : ∀ i H' x H'', i < ds.length → Pv i H' → J.yld i H' x H'' → (∃ t : { t : List Nat × Rho × DL.D × Rho // PGDb X scope tg t.1 t.2.1 t.2.2.1 t.2.2.2 }, rG t.1.1 t.1.2.1 t.1.2.2.1 t.1.2.2.2 x (wipe σ vs) H'' fun σ2 H2 => wipe σ2 vs = wipe σ vs ∧ ∃ t : { t : Rho × Bool // PTDb X scope ifs t.1 t.2 t.1 }, rT t.1.1 t.1.2 t.1.1 σ2 H2 fun b H3 =>
      if b = true then ∃ t : { t : Rho × DL.D × Rho // PDb X scope elt t.1 t.2.1 t.2.2 }, rD t.1.1 t.1.2.1 t.1.2.2 σ2 H3 fun y H4 => ∃ acc, H4 D = some (.lst acc) ∧ acc.length < sizeLine ∧ Pv (i + 1) (upd H4 D (.lst (acc ++ [y]))) else Pv (i + 1) H3) := by
    rintro i H' x H'' hlt ⟨G', acc, st, hDa, gDn, aa, al⟩ hy
    obtain ⟨d, hd⟩ : ∃ d, ds[i]? = some d := ⟨ds[i], by simp [hlt]⟩
    obtain ⟨it1, _⟩ := it G' H' i st.g st.gh
    obtain ⟨_, yl⟩ := it1 d hd
    obtain ⟨G1, g1, at1⟩ := yl x H'' hy
    obtain ⟨js, ρa, b, p1, p2, p3, p4, p5⟩ := step i d hd
    have nD : ¬ Mine (wipe σ vs) (ρs i) D := fun m => nD0 (st.mine m)
    have st1 : Step (wipe σ vs) (wipeR ρ0 vs) (ρs i) G0 H0 G1 H'' := st.trans (g1.step st.sl)
    have hD1 : H'' D = some (.lst acc) := g1.kp _ _ hDa fun _ z => by cases z
    have gD1 : G1 D = none := (g1.nw D (some_ne hDa)).trans gDn
    refine ⟨⟨(js, ρs i, d, ρa), p1⟩, G1, g1.gh, st1.sl, at1, fun σ2 G2 H2 g2 s2 u2 => ?_⟩
    have w2 : wipe σ2 vs = wipe σ vs := by
      rw [← wipe_wipe (σ := σ)]
      exact wipe_eq u2.ls fun j hj => (u2.off j fun z => hj (p2 j z)).1
    have nD2 : ¬ Mine σ2 ρa D := fun m => nD (u2.mine m)
    have hD2 : H2 D = some (.lst acc) := g2.kp _ _ hD1 fun _ z => by cases z
    have gD2 : G2 D = none := (g2.nw D (some_ne hD1)).trans gD1
    -- from the block's slots back to the wiped ones
    have back : ∀ {ρb : Rho} {G3 H3 : Hp}, Step σ2 ρa ρb G2 H2 G3 H3 → Step (wipe σ vs) (wipeR ρ0 vs) (wipeR ρb vs) G0 H0 G3 H3 := fun {ρb G3 H3} q => by
      have mm : ∀ a, Mine σ2 ρa a → Mine (wipe σ vs) (wipeR ρ0 vs) a := fun a m => st.mine (u2.mine m)
      refine ⟨(st1.g.trans g2.g).trans q.g, q.gh, fun a h m => ?_, fun a o h t m => ?_, fun a h => q.al a (g2.al a (st1.al a h)), ?_, fun j t e1 e2 => ?_⟩
      · exact ((q.nw a (g2.al a (st1.al a h)) fun z => m (mm a z)).trans (g2.nw a (st1.al a h))).trans (st1.nw a h m)
      · exact q.kp a o (g2.kp a o (st1.kp a o h t m) t) t fun z => m (mm a z)
      · have z := q.sl.wipe vs
        rw [w2] at z
        exact z
      · obtain ⟨h1, h2⟩ := wipeR_some e1
        obtain ⟨u, h3, h4⟩ := q.me j t h1 e2
        have h5 : j ∉ js := fun z => h2 (p2 j z)
        rw [(u2.off j h5).2] at h3
        obtain ⟨u', h6, h7⟩ := st.me j u h3 h4
        exact ⟨u', h6, h7⟩
    refine ⟨w2, ⟨(ρa, b), p3⟩, G2, g2.gh, s2, fun G3 H3 q3 => ?_⟩
    have hD3 : H3 D = some (.lst acc) := q3.kp _ _ hD2 (fun _ z => by cases z) nD2
    have gD3 : G3 D = none := (q3.nw D (some_ne hD2) nD2).trans gD2
    cases b with
    | false =>
      refine iteF ?_
      obtain ⟨e1, e2⟩ := p5 rfl
      refine ⟨G3, acc, ?_, hD3, gD3, ?_, Nat.le_succ_of_le al⟩
      · rw [e1]
        exact back q3
      · rw [e2]
        exact aa.ex ((g1.g.trans g2.g).trans q3.g)
    | true =>
      refine iteT ?_
      obtain ⟨y, ρb, r1, r2, r3⟩ := p4 rfl
      refine ⟨⟨(ρa, y, ρb), r1⟩, G3, q3.gh, q3.sl, fun v G4 H4 q4 a4 => ?_⟩
      have hD4 : H4 D = some (.lst acc) := q4.kp _ _ hD3 (fun _ z => by cases z) nD2
      have gD4 : G4 D = none := (q4.nw D (some_ne hD3) nD2).trans gD3
      refine ⟨acc, hD4, small_line (by omega), G4, acc ++ [v], ?_, upd_same, gD4, ?_, ?_⟩
      · rw [r2]
        have q := back (q3.trans q4)
        have nD4 : ¬ Mine (wipe σ vs) (wipeR ρb vs) D := fun m => nD0 (q.mine m)
        refine ⟨q.g, fun a u ha => ?_, q.nw, fun a o h t m => ?_, fun a h => ?_, q.sl.write nD4 hD4 (fun _ z => by cases z) (fun _ z => by cases z), q.me⟩
        · rw [upd_ne fun z => by rw [z, gD4] at ha; cases ha]
          exact q.gh a u ha
        · rw [upd_ne fun z => by rw [z, hD] at h; cases h]
          exact q.kp a o h t m
        · by_cases z : a = D
          · rw [z, upd_same]
            exact fun z => by cases z
          · rw [upd_ne z]
            exact q.al a h
      · rw [r3]
        exact (aa.ex (((g1.g.trans g2.g).trans q3.g).trans q4.g)).append (.cons a4 .nil)
      · rw [List.length_append]
        exact Nat.succ_le_succ al
  -- the end
  have fin : ∀ H', Pv ds.length H' → Q (.ref D) H' := by
    rintro H' ⟨G', acc, st, hDa, gDn, aa, al⟩
    have uniq : ∀ (j : Nat) (t : S) (p : Addr), j ∈ vs → ρ0[j]? = some (some t) → t.me = true → σ[j]? = some (some (.ref p)) → ¬ Mine (wipe σ vs) (wipeR ρ0 vs) p := fun j t p hj e1 e2 e3 m => by
      obtain ⟨i, u, f1, f2, f3⟩ := m
      obtain ⟨h1, h2⟩ := wipeR_some f1
      rw [wipe_out h2] at f3
      exact h2 (s0.ne i j u t p h1 f2 e1 e2 f3 e3 ▸ hj)
    have slE : Slots G' H' σ ρE := by
      refine ⟨by rw [hE1]; exact s0.len, fun j t e1 => ?_, fun i j t u p e1 m1 e2 m2 e3 e4 => ?_, st.sl.tb⟩
      · by_cases hj : j ∈ vs
        · rw [hE2 j hj] at e1
          obtain ⟨v, a1, a2⟩ := s0.at_ j t e1
          refine ⟨v, a1, ?_⟩
          cases a2 with
          | d h => exact .d (h.ex st.g)
          | own hg hh hs' => exact .own ((st.nw _ (some_ne hh) (uniq j _ _ hj e1 rfl a1)).trans hg) (st.kp _ _ hh (fun _ z => by cases z) (uniq j _ _ hj e1 rfl a1)) (hs'.ex st.g)
          | obj hg hh hs' => exact .obj ((st.nw _ (some_ne hh) (uniq j _ _ hj e1 rfl a1)).trans hg) (st.kp _ _ hh (fun _ z => by cases z) (uniq j _ _ hj e1 rfl a1)) (hs'.ex st.g)
        · rw [hE3 j hj] at e1
          obtain ⟨v, a1, a2⟩ := st.sl.at_ j t e1
          rw [wipe_out hj] at a1
          exact ⟨v, a1, a2⟩
      · -- own slots are those of ρ0
        have o1 : ∀ (j : Nat) (t : S), ρE[j]? = some (some t) → t.me = true → ∃ t', ρ0[j]? = some (some t') ∧ t'.me = true := fun j t e m => by
          by_cases hj : j ∈ vs
          · rw [hE2 j hj] at e
            exact ⟨t, e, m⟩
          · rw [hE3 j hj] at e
            obtain ⟨u, h1, h2⟩ := st.me j t e m
            exact ⟨u, (wipeR_some h1).1, h2⟩
        obtain ⟨t', b1, b2⟩ := o1 i t e1 m1
        obtain ⟨u', b3, b4⟩ := o1 j u e2 m2
        exact s0.ne i j t' u' p b1 b2 b3 b4 e3 e4
    have stE : Step σ ρ0 ρE G0 H0 G' H' := by
      refine ⟨st.g, st.gh, fun a h m => st.nw a h fun z => m z.wipe, fun a o h t m => st.kp a o h t fun z => m z.wipe, st.al, slE, fun j t e m => ?_⟩
      by_cases hj : j ∈ vs
      · rw [hE2 j hj] at e
        exact ⟨t, e, m⟩
      · rw [hE3 j hj] at e
        obtain ⟨u, h1, h2⟩ := st.me j t e m
        exact ⟨u, (wipeR_some h1).1, h2⟩
    refine k (.ref D) G' H' (g0.trans stE) (.own gDn hDa aa) fun _ => ⟨D, rfl, ?_, fun m => ?_⟩
    · cases z : H D with
      | none => rfl
      | some o => exact absurd hD (g0.al D (some_ne z))
    · exact ps_new s0 hD (stE.mine m)
  refine ⟨fun i m H' => m = ds.length - i ∧ i ≤ ds.length ∧ Pv i H', ⟨ds.length, rfl, Nat.zero_le _, start⟩, ?_⟩
  rintro i m H' ⟨rfl, hle, pv⟩
  obtain ⟨G', acc, st, _⟩ := id pv
  obtain ⟨it1, it2⟩ := it G' H' i st.g st.gh
  by_cases hlt : i < ds.length
  · obtain ⟨go, _⟩ := it1 ds[i] (by simp [hlt])
    exact .inr ⟨go, Pv (i + 1), fun H2 p2 => ⟨_, by omega, rfl, hlt, p2⟩, fun x H'' hy => next i H' x H'' hlt pv hy⟩
  · have hi' : i = ds.length := by omega
    exact .inl ⟨it2 (by omega), fin H' (hi' ▸ pv)⟩
/-- [elt for tg in iter if ..], the state from turn to turn is ρs -/
theorem pso_lcG (hc : X.calm = true) (hN : X.N.Nodup) (hi : PID X tg iter ρ ds ρ0) (ok : BlkOk X.N X.env.scope scope own) (ρs : Nat → Rho) (outs : Nat → List D) (ρE : Rho) (h0 : ρs 0 = wipeR ρ0 (own.map (·.2))) (o0 : outs 0 = [])
    (step : ∀ i d, ds[i]? = some d → ∃ js ρa b, PGDb X scope tg js (ρs i) d ρa ∧ (∀ j ∈ js, j ∈ own.map (·.2)) ∧ PTDb X scope ifs ρa b ρa ∧
      (b = true → ∃ y ρb, PDb X scope elt ρa y ρb ∧ ρs (i + 1) = wipeR ρb (own.map (·.2)) ∧ outs (i + 1) = outs i ++ [y]) ∧ (b = false → ρs (i + 1) = wipeR ρa (own.map (·.2)) ∧ outs (i + 1) = outs i))
    (hE1 : ρE.length = ρ0.length) (hE2 : ∀ j, j ∈ own.map (·.2) → ρE[j]? = ρ0[j]?) (hE3 : ∀ j, j ∉ own.map (·.2) → ρE[j]? = (ρs ds.length)[j]?)
    (hs : ∀ x, foldedSetIterable iter X.env x = pure x := by intro _; rfl) (hl : ds.length ≤ 100000 := by decide) : PS_ X (.ListComp elt [⟨tg, iter, ifs, 0⟩] scope pos) ρ (.own (outs ds.length)) ρE :=
  pe_weak (pe_lc hc hN hi ok (fun s H C cl fp => pg_any (α := { t : List Nat × Rho × DL.D × Rho // PGDb X scope tg t.1 t.2.1 t.2.2.1 t.2.2.2 }) (t := fun t => rG t.1.1 t.1.2.1 t.1.2.2.1 t.1.2.2.2) fun t => t.2 s H C cl fp)
    (fun s H C cl fp => pts_any (α := { t : Rho × Bool // PTDb X scope ifs t.1 t.2 t.1 }) (t := fun t => rT t.1.1 t.1.2 t.1.1) fun t => t.2 s H C cl fp)
    (fun s H C cl fp => pe_any (α := { t : Rho × DL.D × Rho // PDb X scope elt t.1 t.2.1 t.2.2 }) (t := fun t => rD t.1.1 t.1.2.1 t.1.2.2) fun t => t.2 s H C cl fp) hs) (lcG_read ρs outs ρE h0 o0 step hE1 hE2 hE3 hl)
/-- y = [elt for ..] on one line -/
theorem hs_setLcG {W : WX} {ow : Bool} {P : Po} (n : Nat) {y : Str} {py spos : Pos} (hc : X.calm = true) (hN : X.N.Nodup) (hi : PID X tg iter ρ ds ρ0) (ok : BlkOk X.N X.env.scope scope own) (ρs : Nat → Rho) (outs : Nat → List D) (ρE : Rho) (h0 : ρs 0 = wipeR ρ0 (own.map (·.2))) (o0 : outs 0 = [])
    (step : ∀ i d, ds[i]? = some d → ∃ js ρa b, PGDb X scope tg js (ρs i) d ρa ∧ (∀ j ∈ js, j ∈ own.map (·.2)) ∧ PTDb X scope ifs ρa b ρa ∧
      (b = true → ∃ y ρb, PDb X scope elt ρa y ρb ∧ ρs (i + 1) = wipeR ρb (own.map (·.2)) ∧ outs (i + 1) = outs i ++ [y]) ∧ (b = false → ρs (i + 1) = wipeR ρa (own.map (·.2)) ∧ outs (i + 1) = outs i))
    (hE1 : ρE.length = ρ0.length) (hE2 : ∀ j, j ∈ own.map (·.2) → ρE[j]? = ρ0[j]?) (hE3 : ∀ j, j ∉ own.map (·.2) → ρE[j]? = (ρs ds.length)[j]?)
    (k : P.nx (ρE.set n (some (.own (outs ds.length))))) (hl : ds.length ≤ 100000) (hi0 : ow = false ∨ n ≠ 0 := by first | exact .inl rfl | exact .inr (by decide)) (hy : X.N[n]? = some y := by rfl) (hyl : X.env.scope.names.lookup y = some .local := by rfl)
    (hsw : swapsWith (.ListComp elt [⟨tg, iter, ifs, 0⟩] scope pos) (some (.Name y py)) spos.line X.env = pure true) (hs : ∀ x, foldedSetIterable iter X.env x = pure x := by intro _; rfl) :
    HS X W ow (.Assign [.Name y py] (.ListComp elt [⟨tg, iter, ifs, 0⟩] scope pos) spos) ρ P :=
  ps_weak (ps_setLc hc hN hy hyl hsw hi ok (fun s H C cl fp => pg_any (α := { t : List Nat × Rho × DL.D × Rho // PGDb X scope tg t.1 t.2.1 t.2.2.1 t.2.2.2 }) (t := fun t => rG t.1.1 t.1.2.1 t.1.2.2.1 t.1.2.2.2) fun t => t.2 s H C cl fp)
    (fun s H C cl fp => pts_any (α := { t : Rho × Bool // PTDb X scope ifs t.1 t.2 t.1 }) (t := fun t => rT t.1.1 t.1.2 t.1.1) fun t => t.2 s H C cl fp)
    (fun s H C cl fp => pe_any (α := { t : Rho × DL.D × Rho // PDb X scope elt t.1 t.2.1 t.2.2 }) (t := fun t => rD t.1.1 t.1.2.1 t.1.2.2) fun t => t.2 s H C cl fp) hs) fun Dn σ H ⟨w, Ge, He, G, hw, nw, k1, k2, k3, k4, k5⟩ =>
    lcG_read ρs outs ρE h0 o0 step hE1 hE2 hE3 hl σ H _ ⟨G, nw.gh, nw.sl, fun v G' H' g a fr => k1 _ G' H' _ ((nw.step g).set n (own_or hw hi0) a fun hm p e => by
      obtain ⟨q, e1, e2, e3⟩ := fr hm
      rw [e1] at e
      cases e
      exact ⟨e3, nw.back g e2⟩) g.g k⟩
theorem fm_take {α β : Type} (f : α → Option β) {l : List α} {i : Nat} {x : α} (h : l[i]? = some x) : (l.take (i + 1)).filterMap f = (l.take i).filterMap f ++ (f x).toList := by
  rw [List.take_add_one, h, List.filterMap_append]
  cases q : f x <;> simp [q]
/-- [elt for tg in iter if ..] that leaves all as it is -/
theorem pso_lc (f : D → Option D) (hc : X.calm = true) (hN : X.N.Nodup) (hi : PID X tg iter ρ ds ρ0) (ok : BlkOk X.N X.env.scope scope own)
    (step : ∀ d, d ∈ ds → ∃ js ρa b, PGDb X scope tg js (wipeR ρ0 (own.map (·.2))) d ρa ∧ (∀ j ∈ js, j ∈ own.map (·.2)) ∧ (wipeR ρa (own.map (·.2)) = wipeR ρ0 (own.map (·.2))) ∧ PTDb X scope ifs ρa b ρa ∧ (b = true → ∃ y, PDb X scope elt ρa y ρa ∧ f d = some y) ∧ (b = false → f d = none))
    (hs : ∀ x, foldedSetIterable iter X.env x = pure x := by intro _; rfl) (hl : ds.length ≤ 100000 := by decide) : PS_ X (.ListComp elt [⟨tg, iter, ifs, 0⟩] scope pos) ρ (.own (ds.filterMap f)) ρ0 := by
  have q := pso_lcG (pos := pos) (elt := elt) (ifs := ifs) hc hN hi ok (fun _ => wipeR ρ0 (own.map (·.2))) (fun i => (ds.take i).filterMap f) ρ0 rfl (by rw [List.take_zero]; rfl) (fun i d hd => ?_) rfl (fun _ _ => rfl) (fun j hj => (wipeR_out hj).symm) hs hl
  · simp only [List.take_length] at q
    exact q
  · obtain ⟨js, ρa, b, p1, p2, p3, p4, p5, p6⟩ := step d (List.mem_of_getElem? hd)
    refine ⟨js, ρa, b, p1, p2, p4, fun hb => ?_, fun hb => ?_⟩
    · obtain ⟨y, r1, r2⟩ := p5 hb
      refine ⟨y, ρa, r1, p3.symm, ?_⟩
      show (ds.take (i + 1)).filterMap f = (ds.take i).filterMap f ++ [y]
      rw [fm_take f hd, r2]
      rfl
    · refine ⟨p3.symm, ?_⟩
      show (ds.take (i + 1)).filterMap f = (ds.take i).filterMap f
      rw [fm_take f hd, p6 hb]
      exact List.append_nil _
/-- y = [elt for ..] on one line, that leaves all else as it is -/
theorem hs_setLc {W : WX} {ow : Bool} {P : Po} (n : Nat) {y : Str} {py spos : Pos} (f : D → Option D) (hc : X.calm = true) (hN : X.N.Nodup) (hi : PID X tg iter ρ ds ρ0) (ok : BlkOk X.N X.env.scope scope own)
    (step : ∀ d, d ∈ ds → ∃ js ρa b, PGDb X scope tg js (wipeR ρ0 (own.map (·.2))) d ρa ∧ (∀ j ∈ js, j ∈ own.map (·.2)) ∧ (wipeR ρa (own.map (·.2)) = wipeR ρ0 (own.map (·.2))) ∧ PTDb X scope ifs ρa b ρa ∧ (b = true → ∃ y, PDb X scope elt ρa y ρa ∧ f d = some y) ∧ (b = false → f d = none))
    (k : P.nx (ρ0.set n (some (.own (ds.filterMap f))))) (hl : ds.length ≤ 100000) (hi0 : ow = false ∨ n ≠ 0 := by first | exact .inl rfl | exact .inr (by decide)) (hy : X.N[n]? = some y := by rfl) (hyl : X.env.scope.names.lookup y = some .local := by rfl)
    (hpl : (py.line == pos.line) = true := by rfl) (ha : (scope.names.any fun (n, k) => n == y && (k == .local || k == .cell)) = false := by decide +kernel) (hk : X.env.scope.kind = .function := by rfl) (hs : ∀ x, foldedSetIterable iter X.env x = pure x := by intro _; rfl) :
    HS X W ow (.Assign [.Name y py] (.ListComp elt [⟨tg, iter, ifs, 0⟩] scope pos) spos) ρ P := by
  refine hs_setLcG (W := W) (P := P) n hc hN hi ok (fun _ => wipeR ρ0 (own.map (·.2))) (fun i => (ds.take i).filterMap f) ρ0 rfl (by rw [List.take_zero]; rfl) (fun i d hd => ?_) rfl (fun _ _ => rfl) (fun j hj => (wipeR_out hj).symm) (by show P.nx (ρ0.set n (some (.own ((ds.take ds.length).filterMap f)))); rw [List.take_length]; exact k) hl hi0 hy hyl (sw_true hk hyl hpl ha) hs
  obtain ⟨js, ρa, b, p1, p2, p3, p4, p5, p6⟩ := step d (List.mem_of_getElem? hd)
  refine ⟨js, ρa, b, p1, p2, p4, fun hb => ?_, fun hb => ?_⟩
  · obtain ⟨y, r1, r2⟩ := p5 hb
    refine ⟨y, ρa, r1, p3.symm, ?_⟩
    show (ds.take (i + 1)).filterMap f = (ds.take i).filterMap f ++ [y]
    rw [fm_take f hd, r2]
    rfl
  · refine ⟨p3.symm, ?_⟩
    show (ds.take (i + 1)).filterMap f = (ds.take i).filterMap f
    rw [fm_take f hd, p6 hb]
    exact List.append_nil _
end
end DL

end
section
set_option maxHeartbeats 4000001
/-! DL6: built-in calls, attributes, subscripts, lists of one's own. -/
namespace DL
open PySem PySem.Spec
open PyProof.Rows L2
open Evl (Ex)
section
variable [Tb]
variable {X : Cx} {W : WX} {ow : Bool} {ρ ρ0 ρ' ρ1 ρ2 ρ3 : Rho} {P P' : Po} {a b c e : Expr} {es : List Expr} {x y z d : D} {ds dt : List D} {s : S} {pos : Pos} {k1 : Bool} {f : Str} {p p2 : Pos} {i j : Int}
/-! ### names of the module, of the built-ins -/
theorem pd_glob {u : Value} {v : V} (hm : X.mg f = some u) (r : RelV v u) (ha : ∀ G, At G v d) (hg : Gl X f := by rfl) (hd : (f == ("__debug__" : Str)) = false := by decide) : PD X (.Name f pos) ρ d ρ := pd_c (pe_glob hg hm r hd) ha
theorem pd_ty {T : String} (hm : X.mg f = none) (hv : bootBuiltins f = some (.type T) := by decide +kernel) (hg : Gl X f := by rfl) (hn : f ≠ "__name__" := by decide) (hd : (f == ("__debug__" : Str)) = false := by decide) : PD X (.Name f pos) ρ (.ty T) ρ := pd_c (v := .ty T) (pe_bltn hg hm hv rfl hn hd) fun _ => .ty T
/-! ### built-in calls -/
def BD (r : List V → Hp → VK → Prop) (ds : List D) (z : D) : Prop := ∀ G H vs, Ex G H → Ats G vs ds → ∀ Q : VK, (∀ u G' H', Grow G H G' H' → At G' u z → Q u H') → r vs H Q
/-- .. that gives a new list -/
def BO (r : List V → Hp → VK → Prop) (ds out : List D) : Prop := ∀ G H vs, Ex G H → Ats G vs ds → ∀ Q : VK, (∀ q ws, H q = none → Ats G ws out → Q (.ref q) (upd H q (.lst ws))) → r vs H Q
theorem pd_tCB {r : List V → Hp → VK → Prop} (h : PE X e (tCB r (rA ρ ds ρ'))) (ho : BD r ds d) : PD X e ρ d ρ' := pe_weak h fun σ H Q ⟨G, e1, s, k⟩ => ⟨G, e1, s, fun vs G1 H1 g1 a1 => ho G1 H1 vs g1.gh a1 Q fun u G2 H2 g2 a2 => k u G2 H2 (g1.trans (g2.step g1.sl)) a2⟩
/-- the step that leaves a new list -/
theorem own_new {σ : L2.St} {G H G1 H1 : Hp} {q : Addr} {ws : List V} {out : List D} {Q : VK} (g1 : Step σ ρ ρ' G H G1 H1) (hq : H1 q = none) (ha : Ats G1 ws out)
    (k : ∀ v G' H', Step σ ρ ρ' G H G' H' → Sl G' H' v (.own out) → ((S.own out).me = true → ∃ p, v = .ref p ∧ H p = none ∧ ¬ Mine σ ρ' p) → Q v H') : Q (.ref q) (upd H1 q (.lst ws)) :=
  k _ G1 _ (g1.trans ((Grow.fresh g1.gh hq).step g1.sl)) (.own (Evl.fresh_back g1.gh hq) upd_same ha) fun _ => ⟨q, rfl, by
    cases z : H q with
    | none => rfl
    | some o => exact absurd hq (g1.al q (some_ne z)), ps_new g1.sl hq⟩
theorem pso_tCB {r : List V → Hp → VK → Prop} {out : List D} (h : PE X e (tCB r (rA ρ ds ρ'))) (ho : BO r ds out) : PS_ X e ρ (.own out) ρ' := pe_weak h fun σ H Q ⟨G, e1, s, k⟩ => ⟨G, e1, s, fun vs G1 H1 g1 a1 => ho G1 H1 vs g1.gh a1 Q fun q ws hq ha => own_new g1 hq ha k⟩
theorem pd_callB {id : String} {r : List V → Hp → VK → Prop} (hc : CallR X (.builtin id) r) (hm : X.mg f = none) (ha : PAD X (e :: es) ρ ds ρ') (ho : BD r ds d) (hv : bootBuiltins f = some (.builtin id)) (hg : Gl X f := by rfl) (hn : f ≠ "__name__" := by decide) (hd : (f == ("__debug__" : Str)) = false := by decide)
    (he : starEach (e :: es) X.env = (false, eval e X.env) :: starEach es X.env := by rfl) (hpl : (backTo pos (starEach es X.env)).any (·.1) = false := by rfl) : PD X (.Call (.Name f p) (e :: es) [] pos) ρ d ρ' := pd_tCB (pe_callB hc hg hm hv ha hn hd he hpl) ho
theorem pd_callTy {T : String} {r : List V → Hp → VK → Prop} (hc : CallR X (.type T) r) (hm : X.mg f = none) (ha : PAD X (e :: es) ρ ds ρ') (ho : BD r ds d) (hv : bootBuiltins f = some (.type T)) (hg : Gl X f := by rfl) (hn : f ≠ "__name__" := by decide) (hd : (f == ("__debug__" : Str)) = false := by decide)
    (he : starEach (e :: es) X.env = (false, eval e X.env) :: starEach es X.env := by rfl) (hpl : (backTo pos (starEach es X.env)).any (·.1) = false := by rfl) : PD X (.Call (.Name f p) (e :: es) [] pos) ρ d ρ' := pd_tCB (pe_callTy hc hg hm hv ha hn hd he hpl) ho
theorem pso_callB {id : String} {r : List V → Hp → VK → Prop} {out : List D} (hc : CallR X (.builtin id) r) (hm : X.mg f = none) (ha : PAD X (e :: es) ρ ds ρ') (ho : BO r ds out) (hv : bootBuiltins f = some (.builtin id)) (hg : Gl X f := by rfl) (hn : f ≠ "__name__" := by decide) (hd : (f == ("__debug__" : Str)) = false := by decide)
    (he : starEach (e :: es) X.env = (false, eval e X.env) :: starEach es X.env := by rfl) (hpl : (backTo pos (starEach es X.env)).any (·.1) = false := by rfl) : PS_ X (.Call (.Name f p) (e :: es) [] pos) ρ (.own out) ρ' := pso_tCB (pe_callB hc hg hm hv ha hn hd he hpl) ho
theorem pso_callTy {T : String} {r : List V → Hp → VK → Prop} {out : List D} (hc : CallR X (.type T) r) (hm : X.mg f = none) (ha : PAD X (e :: es) ρ ds ρ') (ho : BO r ds out) (hv : bootBuiltins f = some (.type T)) (hg : Gl X f := by rfl) (hn : f ≠ "__name__" := by decide) (hd : (f == ("__debug__" : Str)) = false := by decide)
    (he : starEach (e :: es) X.env = (false, eval e X.env) :: starEach es X.env := by rfl) (hpl : (backTo pos (starEach es X.env)).any (·.1) = false := by rfl) : PS_ X (.Call (.Name f p) (e :: es) [] pos) ρ (.own out) ρ' := pso_tCB (pe_callTy hc hg hm hv ha hn hd he hpl) ho
/-! ### len, all, any, max, min, abs, int -/
theorem bootn_len : bootBuiltins "len" = some (.builtin "len") := by decide +kernel
theorem bootn_all : bootBuiltins "all" = some (.builtin "all") := by decide +kernel
theorem bootn_any : bootBuiltins "any" = some (.builtin "any") := by decide +kernel
theorem bootn_max : bootBuiltins "max" = some (.builtin "max") := by decide +kernel
theorem bootn_min : bootBuiltins "min" = some (.builtin "min") := by decide +kernel
theorem bootn_abs : bootBuiltins "abs" = some (.builtin "abs") := by decide +kernel
theorem bootn_sorted : bootBuiltins "sorted" = some (.builtin "sorted") := by decide +kernel
theorem bootn_isinstance : bootBuiltins "isinstance" = some (.builtin "isinstance") := by decide +kernel
theorem bootn_int : bootBuiltins "int" = some (.type "int") := by decide +kernel
theorem bootn_tuple : bootBuiltins "tuple" = some (.type "tuple") := by decide +kernel
theorem bootn_list : bootBuiltins "list" = some (.type "list") := by decide +kernel
theorem pd_lenL (hm : X.mg "len" = none) (h : PD X e ρ (.lst ds) ρ') (hg : Gl X "len" := by rfl) (he : starEach [e] X.env = (false, eval e X.env) :: starEach [] X.env := by rfl) : PD X (.Call (.Name "len" p) [e] [] pos) ρ (.int ds.length) ρ' :=
  pd_callB call_len_seq hm (pad_one h he) (fun G H vs e a Q k => by
    cases a with
    | cons a1 r =>
      cases r
      cases a1 with
      | lst hg ha =>
        refine ⟨_, _, rfl, .inl (.inl (.inl (e _ _ hg))), ?_⟩
        rw [ha.length]
        exact k _ G H (.refl e) (.int _)) bootn_len hg (he := he)
theorem pd_lenT (hm : X.mg "len" = none) (h : PD X e ρ (.tup ds) ρ') (hg : Gl X "len" := by rfl) (he : starEach [e] X.env = (false, eval e X.env) :: starEach [] X.env := by rfl) : PD X (.Call (.Name "len" p) [e] [] pos) ρ (.int ds.length) ρ' :=
  pd_callB call_len_seq hm (pad_one h he) (fun G H vs e a Q k => by
    cases a with
    | cons a1 r =>
      cases r
      cases a1 with
      | tup hg ha =>
        refine ⟨_, _, rfl, .inr (.inl (.inl (e _ _ hg))), ?_⟩
        rw [ha.length]
        exact k _ G H (.refl e) (.int _)) bootn_len hg (he := he)
theorem pd_lenS {t : Str} (hm : X.mg "len" = none) (h : PD X e ρ (.str t) ρ') (ht : t.length ≤ 100000) (hg : Gl X "len" := by rfl) (he : starEach [e] X.env = (false, eval e X.env) :: starEach [] X.env := by rfl) : PD X (.Call (.Name "len" p) [e] [] pos) ρ (.int t.length) ρ' :=
  pd_callB call_len_str hm (pad_one h he) (fun G H vs e a Q k => by
    cases a with
    | cons a1 r =>
      cases r
      cases a1
      exact ⟨_, rfl, small_line ht, k _ G H (.refl e) (.int _)⟩) bootn_len hg (he := he)
theorem ats_bl {G : Hp} : ∀ {bs : List Bool} {vs : List V}, Ats G vs (bs.map D.bl) → vs = bs.map V.bl
  | [], _, .nil => rfl
  | b :: bs, _, .cons h hs => by
    cases h
    rw [ats_bl hs, List.map_cons]
theorem ats_int {G : Hp} : ∀ {bs : List Int} {vs : List V}, Ats G vs (bs.map D.int) → vs = bs.map V.int
  | [], _, .nil => rfl
  | b :: bs, _, .cons h hs => by
    cases h
    rw [ats_int hs, List.map_cons]
theorem ats_str {G : Hp} : ∀ {bs : List Str} {vs : List V}, Ats G vs (bs.map D.str) → vs = bs.map V.str
  | [], _, .nil => rfl
  | b :: bs, _, .cons h hs => by
    cases h
    rw [ats_str hs, List.map_cons]
theorem ats_of {G : Hp} {α : Type} {fv : α → V} {fd : α → D} (h : ∀ x, At G (fv x) (fd x)) : ∀ l : List α, Ats G (l.map fv) (l.map fd)
  | [] => .nil
  | x :: l => .cons (h x) (ats_of h l)
theorem pd_all {bs : List Bool} (hc : X.calm = true) (hm : X.mg "all" = none) (h : PD X e ρ (.lst (bs.map D.bl)) ρ') (hg : Gl X "all" := by rfl) (he : starEach [e] X.env = (false, eval e X.env) :: starEach [] X.env := by rfl) : PD X (.Call (.Name "all" p) [e] [] pos) ρ (.bl (bs.all id)) ρ' :=
  pd_callB (cr_all hc) hm (pad_one h he) (fun G H vs e a Q k => by
    cases a with
    | cons a1 r =>
      cases r
      cases a1 with
      | lst hg ha =>
        rw [ats_bl ha] at hg
        exact ⟨_, bs, rfl, .inl (.inl (e _ _ hg)), k _ G H (.refl e) (.bl _)⟩) bootn_all hg (he := he)
theorem pd_any {bs : List Bool} (hc : X.calm = true) (hm : X.mg "any" = none) (h : PD X e ρ (.lst (bs.map D.bl)) ρ') (hg : Gl X "any" := by rfl) (he : starEach [e] X.env = (false, eval e X.env) :: starEach [] X.env := by rfl) : PD X (.Call (.Name "any" p) [e] [] pos) ρ (.bl (bs.any id)) ρ' :=
  pd_callB (cr_any hc) hm (pad_one h he) (fun G H vs e a Q k => by
    cases a with
    | cons a1 r =>
      cases r
      cases a1 with
      | lst hg ha =>
        rw [ats_bl ha] at hg
        exact ⟨_, bs, rfl, .inl (.inl (e _ _ hg)), k _ G H (.refl e) (.bl _)⟩) bootn_any hg (he := he)
theorem pd_max2 (hc : X.calm = true) (hm : X.mg "max" = none) (h : PD X a ρ (.int i) ρ1) (h2 : PD X b ρ1 (.int j) ρ2) (hg : Gl X "max" := by rfl) (he : starEach [a, b] X.env = (false, eval a X.env) :: starEach [b] X.env := by rfl) (he2 : starEach [b] X.env = (false, eval b X.env) :: starEach [] X.env := by rfl) : PD X (.Call (.Name "max" p) [a, b] [] pos) ρ (.int (max i j)) ρ2 :=
  pd_callB (call_max2 hc) hm (pad_cons h (pad_one h2 he2) he) (fun G H vs e at_ Q k => by
    cases at_ with
    | cons a1 r =>
      cases r with
      | cons a2 r =>
        cases r
        cases a1
        cases a2
        refine ⟨i, j, rfl, ?_⟩
        have q : (if j > i then j else i) = max i j := by omega
        rw [q]
        exact k _ G H (.refl e) (.int _)) bootn_max hg (he := he) (hpl := by rw [he2]; rfl)
theorem pd_min2 (hc : X.calm = true) (hm : X.mg "min" = none) (h : PD X a ρ (.int i) ρ1) (h2 : PD X b ρ1 (.int j) ρ2) (hg : Gl X "min" := by rfl) (he : starEach [a, b] X.env = (false, eval a X.env) :: starEach [b] X.env := by rfl) (he2 : starEach [b] X.env = (false, eval b X.env) :: starEach [] X.env := by rfl) : PD X (.Call (.Name "min" p) [a, b] [] pos) ρ (.int (min i j)) ρ2 :=
  pd_callB (call_min2 hc) hm (pad_cons h (pad_one h2 he2) he) (fun G H vs e at_ Q k => by
    cases at_ with
    | cons a1 r =>
      cases r with
      | cons a2 r =>
        cases r
        cases a1
        cases a2
        refine ⟨i, j, rfl, ?_⟩
        have q : (if j < i then j else i) = min i j := by omega
        rw [q]
        exact k _ G H (.refl e) (.int _)) bootn_min hg (he := he) (hpl := by rw [he2]; rfl)
theorem pd_abs (hm : X.mg "abs" = none) (h : PD X e ρ (.int i) ρ') (hg : Gl X "abs" := by rfl) (he : starEach [e] X.env = (false, eval e X.env) :: starEach [] X.env := by rfl) : PD X (.Call (.Name "abs" p) [e] [] pos) ρ (.int (i.natAbs : Int)) ρ' :=
  pd_callB call_abs hm (pad_one h he) (fun G H vs e a Q k => by
    cases a with
    | cons a1 r =>
      cases r
      cases a1
      refine ⟨i, rfl, ?_⟩
      have q : (if i < 0 then -i else i) = (i.natAbs : Int) := by omega
      rw [q]
      exact k _ G H (.refl e) (.int _)) bootn_abs hg (he := he)
theorem pd_intI (hm : X.mg "int" = none) (h : PD X e ρ (.int i) ρ') (hg : Gl X "int" := by rfl) (he : starEach [e] X.env = (false, eval e X.env) :: starEach [] X.env := by rfl) : PD X (.Call (.Name "int" p) [e] [] pos) ρ (.int i) ρ' :=
  pd_callTy call_int1 hm (pad_one h he) (fun G H vs e a Q k => by
    cases a with
    | cons a1 r =>
      cases r
      cases a1
      exact .inl ⟨i, rfl, k _ G H (.refl e) (.int _)⟩) bootn_int hg (he := he)
theorem pd_intB (hm : X.mg "int" = none) (h : PD X e ρ (.bl k1) ρ') (hg : Gl X "int" := by rfl) (he : starEach [e] X.env = (false, eval e X.env) :: starEach [] X.env := by rfl) : PD X (.Call (.Name "int" p) [e] [] pos) ρ (.int (if k1 then 1 else 0)) ρ' :=
  pd_callTy call_int1 hm (pad_one h he) (fun G H vs e a Q k => by
    cases a with
    | cons a1 r =>
      cases r
      cases a1
      exact .inr ⟨k1, rfl, k _ G H (.refl e) (.int _)⟩) bootn_int hg (he := he)
/-! ### list(..), tuple(..), sorted(..) -/
theorem pd_tupleL (hm : X.mg "tuple" = none) (h : PD X e ρ (.lst ds) ρ') (hg : Gl X "tuple" := by rfl) (he : starEach [e] X.env = (false, eval e X.env) :: starEach [] X.env := by rfl) : PD X (.Call (.Name "tuple" p) [e] [] pos) ρ (.tup ds) ρ' :=
  pd_callTy call_tuple_of hm (pad_one h he) (fun G H vs e a Q k => by
    cases a with
    | cons a1 r =>
      cases r
      cases a1 with
      | lst hg ha => exact ⟨_, _, rfl, .inl ⟨.inl (.inl (e _ _ hg)), fun l hl => k _ _ _ (.new e hl) (at_new_tup e hl ha)⟩⟩) bootn_tuple hg (he := he)
theorem pd_tupleT (hm : X.mg "tuple" = none) (h : PD X e ρ (.tup ds) ρ') (hg : Gl X "tuple" := by rfl) (he : starEach [e] X.env = (false, eval e X.env) :: starEach [] X.env := by rfl) : PD X (.Call (.Name "tuple" p) [e] [] pos) ρ (.tup ds) ρ' :=
  pd_callTy call_tuple_of hm (pad_one h he) (fun G H vs e a Q k => by
    cases a with
    | cons a1 r =>
      cases r
      cases a1 with
      | tup hg ha => exact ⟨_, _, rfl, .inr ⟨.inl (.inl (e _ _ hg)), k _ G H (.refl e) (.tup hg ha)⟩⟩) bootn_tuple hg (he := he)
theorem pso_listL (hm : X.mg "list" = none) (h : PD X e ρ (.lst ds) ρ') (hg : Gl X "list" := by rfl) (he : starEach [e] X.env = (false, eval e X.env) :: starEach [] X.env := by rfl) : PS_ X (.Call (.Name "list" p) [e] [] pos) ρ (.own ds) ρ' :=
  pso_callTy call_list_of hm (pad_one h he) (fun G H vs e a Q k => by
    cases a with
    | cons a1 r =>
      cases r
      cases a1 with
      | lst hg ha => exact ⟨_, _, rfl, .inl (.inl (.inl (e _ _ hg))), fun l hl => k l _ hl ha⟩) bootn_list hg (he := he)
theorem pso_listT (hm : X.mg "list" = none) (h : PD X e ρ (.tup ds) ρ') (hg : Gl X "list" := by rfl) (he : starEach [e] X.env = (false, eval e X.env) :: starEach [] X.env := by rfl) : PS_ X (.Call (.Name "list" p) [e] [] pos) ρ (.own ds) ρ' :=
  pso_callTy call_list_of hm (pad_one h he) (fun G H vs e a Q k => by
    cases a with
    | cons a1 r =>
      cases r
      cases a1 with
      | tup hg ha => exact ⟨_, _, rfl, .inr (.inl (.inl (e _ _ hg))), fun l hl => k l _ hl ha⟩) bootn_list hg (he := he)
theorem pso_sortedS {xs zs : List Str} (hm : X.mg "sorted" = none) (h : PD X e ρ (.lst (xs.map D.str)) ρ') (hl : xs.length < 64) (hz : ∀ ys : List Str, ys.Perm xs → sortedS ys = true → ys = zs) (hg : Gl X "sorted" := by rfl) (he : starEach [e] X.env = (false, eval e X.env) :: starEach [] X.env := by rfl) : PS_ X (.Call (.Name "sorted" p) [e] [] pos) ρ (.own (zs.map D.str)) ρ' :=
  pso_callB cr_sortedS hm (pad_one h he) (fun G H vs e a Q k => by
    cases a with
    | cons a1 r =>
      cases r
      cases a1 with
      | lst hg ha =>
        rw [ats_str ha] at hg
        refine ⟨_, xs, rfl, .inl (.inl (e _ _ hg)), hl, fun ys q h1 h2 h3 => ?_⟩
        rw [hz ys h1 h2]
        exact k q _ h3 (ats_of (fun x => At.str x) zs)) bootn_sorted hg (he := he)
theorem pso_sortedI {xs zs : List Int} (hm : X.mg "sorted" = none) (h : PD X e ρ (.lst (xs.map D.int)) ρ') (hz : ∀ ys : List Int, ys.Perm xs → ys.Pairwise (· ≤ ·) → ys = zs) (hg : Gl X "sorted" := by rfl) (he : starEach [e] X.env = (false, eval e X.env) :: starEach [] X.env := by rfl) : PS_ X (.Call (.Name "sorted" p) [e] [] pos) ρ (.own (zs.map D.int)) ρ' :=
  pso_callB cr_sortedI hm (pad_one h he) (fun G H vs e a Q k => by
    cases a with
    | cons a1 r =>
      cases r
      cases a1 with
      | lst hg ha =>
        rw [ats_int ha] at hg
        refine ⟨_, xs, rfl, .inl (.inl (e _ _ hg)), fun ys q h1 h2 h3 => ?_⟩
        rw [hz ys h1 h2]
        exact k q _ h3 (ats_of (fun x => At.int x) zs)) bootn_sorted hg (he := he)
/-! ### isinstance -/
/-- what isinstance asks of an own class -/
structure ClsI (K : PySem.W.Frag) (C : Addr) : Prop where
  cl : Cls K C
  ha : PySem.W.findIn K (.ref C) "__class__" = some (some (.builtin "object.__class__"))
  hn : PySem.W.specialIn K (.builtin "object.__class__") "__get__" = some (some (.builtin "getset_descriptor.__get__"))
  htk : PySem.W.takesIn K (.builtin "object.__class__") = some true
  hm : PySem.W.mroIn K C (.type "object") = some true
inductive TyD (K : PySem.W.Frag) : D → Value → Prop where
  | non : TyD K .non (.type "NoneType")
  | bl (b : Bool) : TyD K (.bl b) (.type "bool")
  | int (i : Int) : TyD K (.int i) (.type "int")
  | str (s : Str) : TyD K (.str s) (.type "str")
  | lst (ds : List D) : TyD K (.lst ds) (.type "list")
  | tup (ds : List D) : TyD K (.tup ds) (.type "tuple")
  | dic : TyD K .dic (.type "dict")
  | ins {C : Addr} (fs : List (Str × D)) (c : ClsI K C) : TyD K (.ins C fs) (.ref C)
theorem TyD.tyx {K : PySem.W.Frag} {G H : Hp} {v : V} {t : Value} (h : TyD K d t) (e : Ex G H) (a : At G v d) : TyX K H v t := by
  cases h <;> cases a
  case non => exact .base .non
  case bl => exact .base (.bl _)
  case int => exact .base (.int _)
  case str => exact .base (.str _)
  case lst h hs => exact .base (.lst (e _ _ h))
  case tup h hs => exact .base (.tup (e _ _ h))
  case dic h => exact .base (.dK (e _ _ h))
  case ins c _ _ _ h hs => exact .base (.ins (e _ _ h) c.cl c.ha c.hn c.htk c.hm)
/-- a class as a datum -/
inductive ClD : D → Value → Prop where
  | ty (n : String) : ClD (.ty n) (.type n)
  | rf (C : Addr) : ClD (.rf C) (.ref C)
theorem ClD.v {G : Hp} {v : V} {u : Value} (h : ClD d u) (a : At G v d) : ClsV v u := by
  cases h <;> cases a
  · exact .ty _
  · exact .own _
theorem pd_isi {t u : Value} (hm : X.mg "isinstance" = none) (h : PD X a ρ x ρ1) (h2 : PD X b ρ1 y ρ2) (ht : TyD X.K x t) (hu : ClD y u) (hk : PySem.W.kitOne X.K t u = some k1) (hg : Gl X "isinstance" := by rfl) (he : starEach [a, b] X.env = (false, eval a X.env) :: starEach [b] X.env := by rfl) (he2 : starEach [b] X.env = (false, eval b X.env) :: starEach [] X.env := by rfl) :
    PD X (.Call (.Name "isinstance" p) [a, b] [] pos) ρ (.bl k1) ρ2 :=
  pd_callB call_isi hm (pad_cons h (pad_one h2 he2) he) (fun G H vs e at_ Q k => by
    cases at_ with
    | cons a1 r =>
      cases r with
      | cons a2 r =>
        cases r
        exact ⟨_, _, t, u, k1, rfl, hu.v a2, ht.tyx e a1, hk, k _ G H (.refl e) (.bl _)⟩) bootn_isinstance hg (he := he) (hpl := by rw [he2]; rfl)
theorem cls_all {G : Hp} : ∀ {ds : List D} {us : List Value} {vs : List V}, Paired ClD ds us → Ats G vs ds → Paired ClsV vs us
  | [], _, _, .nil, .nil => .nil
  | _ :: _, _, _, .cons c k, .cons a r => .cons (c.v a) (cls_all k r)
theorem pd_isiT {t : Value} {us : List Value} {cs : List D} (hm : X.mg "isinstance" = none) (h : PD X a ρ x ρ1) (h2 : PD X b ρ1 (.tup cs) ρ2) (ht : TyD X.K x t) (hu : Paired ClD cs us) (hk : PySem.W.kitAny X.K t us = some k1) (hg : Gl X "isinstance" := by rfl) (he : starEach [a, b] X.env = (false, eval a X.env) :: starEach [b] X.env := by rfl) (he2 : starEach [b] X.env = (false, eval b X.env) :: starEach [] X.env := by rfl) :
    PD X (.Call (.Name "isinstance" p) [a, b] [] pos) ρ (.bl k1) ρ2 :=
  pd_callB call_isiT hm (pad_cons h (pad_one h2 he2) he) (fun G H vs e at_ Q k => by
    cases at_ with
    | cons a1 r =>
      cases r with
      | cons a2 r =>
        cases r
        cases a2 with
        | tup hg2 ha2 => exact ⟨_, _, _, t, us, k1, rfl, e _ _ hg2, cls_all hu ha2, ht.tyx e a1, hk, k _ G H (.refl e) (.bl _)⟩) bootn_isinstance hg (he := he) (hpl := by rw [he2]; rfl)
/-! ### attributes, subscripts, slices -/
theorem pd_fld {C : Addr} {fs : List (Str × D)} (h : PD X e ρ (.ins C fs) ρ') (c : Cls X.K C) (n : NoAttr X.K C f) (hl : fs.lookup f = some d) (hb : attributeBase e f X.env (eval e X.env) = eval e X.env := by rfl) : PD X (.Attribute e f pos) ρ d ρ' :=
  pe_weak (pe_fld h hb) fun σ H Q ⟨G, e1, s, k⟩ => ⟨G, e1, s, fun v G' H' g a => by
    cases a with
    | ins hg hs =>
      obtain ⟨w, h1, h2⟩ := hs.look hl
      exact ⟨_, _, _, _, w, rfl, g.gh _ _ hg, c, n, h1, k w G' H' g h2⟩⟩
theorem atI_at {G : Hp} {vs : List V} {i : Int} (h : Ats G vs ds) (hd : atI ds i = some d) : ∃ v, atI vs i = some v ∧ At G v d := by
  unfold atI at hd ⊢
  rw [h.length]
  cases q : ixN ds.length i with
  | none =>
    rw [q] at hd
    cases hd
  | some j =>
    rw [q] at hd
    exact h.get hd
theorem pd_ixL (h : PD X a ρ (.lst ds) ρ1) (h2 : PD X b ρ1 (.int i) ρ2) (hi : atI ds i = some d) (hs : PlainIx b := by intro _ _; rfl) : PD X (.Subscript a b pos) ρ d ρ2 :=
  pd_tOp (pe_ix ix_list h h2 hs) fun G H v w e a1 a2 Q k => by
    cases a2
    cases a1 with
    | lst hg ha =>
      obtain ⟨u, h1, h2⟩ := atI_at ha hi
      exact ⟨_, _, i, u, rfl, rfl, .inl (.inl (e _ _ hg)), h1, k u G H (.refl e) h2⟩
theorem pd_ixT (h : PD X a ρ (.tup ds) ρ1) (h2 : PD X b ρ1 (.int i) ρ2) (hi : atI ds i = some d) (hs : PlainIx b := by intro _ _; rfl) : PD X (.Subscript a b pos) ρ d ρ2 :=
  pd_tOp (pe_ix ix_tup h h2 hs) fun G H v w e a1 a2 Q k => by
    cases a2
    cases a1 with
    | tup hg ha =>
      obtain ⟨u, h1, h2⟩ := atI_at ha hi
      exact ⟨_, _, i, u, rfl, rfl, .inl (.inl (e _ _ hg)), h1, k u G H (.refl e) h2⟩
theorem pd_ixS {t : Str} {n : Nat} (h : PD X a ρ (.str t) ρ1) (h2 : PD X b ρ1 (.int i) ρ2) (ht : t.length ≤ 100000) (hi : atI t.cps.toList i = some n) (hs : PlainIx b := by intro _ _; rfl) : PD X (.Subscript a b pos) ρ (.str ⟨#[n]⟩) ρ2 :=
  pd_tOp (pe_ix ix_str h h2 hs) fun G H v w e a1 a2 Q k => by
    cases a1
    cases a2
    exact ⟨t, i, n, rfl, rfl, small_line ht, hi, k _ G H (.refl e) (.str _)⟩
/-- a slice's part -/
def rO (ρ : Rho) (o : Option Int) (ρ' : Rho) : TO := fun σ H Q => ∃ G, Ex G H ∧ Slots G H σ ρ ∧ ∀ G' H', Step σ ρ ρ' G H G' H' → Q o H'
def POD (X : Cx) (e : Option Expr) (ρ : Rho) (o : Option Int) (ρ' : Rho) : Prop := PO X e (rO ρ o ρ')
theorem po_weak {e : Option Expr} {t t' : TO} (h : PO X e t) (w : ∀ σ H Q, t' σ H Q → t σ H Q) : PO X e t' := ⟨fun pins s σ H Q I q => h.run pins s σ H Q I (w σ H Q q)⟩
theorem pod_none : POD X none ρ none ρ := po_weak po_none fun σ H Q ⟨G, e1, s, k⟩ => k G H ((Grow.refl e1).step s)
theorem pod_some (h : PD X e ρ (.int i) ρ') : POD X (some e) ρ (some i) ρ' := po_weak (po_some h) fun σ H Q ⟨G, e1, s, k⟩ => ⟨G, e1, s, fun v G' H' g a => by
  cases a
  exact ⟨i, rfl, k G' H' g⟩⟩
def cutL (xs : List D) (lo hi : Option Int) : List D := (xs.drop (HT.sIx xs.length 0 lo)).take (HT.sIx xs.length xs.length hi - HT.sIx xs.length 0 lo)
theorem Ats.cut {G : Hp} {vs : List V} (h : Ats G vs ds) (lo hi : Option Int) : Ats G (cutV vs lo hi) (cutL ds lo hi) := by
  unfold cutV cutL
  rw [h.length]
  exact (h.drop _).take _
theorem pso_slL {lo hi : Option Expr} {l u : Option Int} (h : PD X e ρ (.lst ds) ρ1) (hl : POD X lo ρ1 l ρ2) (hu : POD X hi ρ2 u ρ3) : PS_ X (.Subscript e (.Slice lo hi none p2) pos) ρ (.own (cutL ds l u)) ρ3 :=
  pe_weak (pe_slice sl_list h hl hu) fun σ H Q ⟨G, e1, s, k⟩ => ⟨G, e1, s, fun v G1 H1 g1 a => ⟨G1, g1.gh, g1.sl, fun G2 H2 g2 => ⟨G2, g2.gh, g2.sl, fun G3 H3 g3 => by
    cases a with
    | lst hg ha => exact ⟨_, _, rfl, .inl (.inl (g3.gh _ _ (g3.g _ _ (g2.g _ _ hg)))), fun q hq => own_new ((g1.trans g2).trans g3) hq ((ha.cut l u).ex (g2.g.trans g3.g)) k⟩⟩⟩⟩
/-! ### +, * of lists -/
theorem pso_tOp {r : R2} {out : List D} (h : PE X e (tOp r (rD ρ x ρ1) (rD ρ1 y ρ2))) (ho : ∀ G H v w, Ex G H → At G v x → At G w y → ∀ Q : VK, (∀ q ws, H q = none → Ats G ws out → Q (.ref q) (upd H q (.lst ws))) → r v w H Q) : PS_ X e ρ (.own out) ρ2 := pe_weak h fun σ H Q ⟨G, e1, s, k⟩ =>
  ⟨G, e1, s, fun v G1 H1 g1 a1 => ⟨G1, g1.gh, g1.sl, fun w G2 H2 g2 a2 => ho G2 H2 v w g2.gh (a1.ex g2.g) a2 Q fun q ws hq ha => own_new (g1.trans g2) hq ha k⟩⟩
theorem pso_cat (h : PD X a ρ (.lst ds) ρ1) (h2 : PD X b ρ1 (.lst dt) ρ2) (hl : ds.length + dt.length ≤ 100000) : PS_ X (.BinOp a .Add b pos) ρ (.own (ds ++ dt)) ρ2 :=
  pso_tOp (pe_op op_cat h h2) fun G H v w e a1 a2 Q k => by
    cases a1 with
    | lst hg1 ha1 =>
      cases a2 with
      | lst hg2 ha2 => exact ⟨_, _, _, _, rfl, rfl, e _ _ hg1, e _ _ hg2, small_line (by rw [ha1.length, ha2.length]; exact hl), fun q hq => k q _ hq (ha1.append ha2)⟩
theorem Ats.rep {G : Hp} {vs : List V} (h : Ats G vs ds) : ∀ n : Nat, Ats G (List.replicate n vs).flatten (List.replicate n ds).flatten
  | 0 => .nil
  | n + 1 => by
    (rw [List.replicate_succ, List.replicate_succ, List.flatten_cons, List.flatten_cons])
    exact h.append (Ats.rep h n)
theorem pso_rep (h : PD X a ρ (.lst ds) ρ1) (h2 : PD X b ρ1 (.int i) ρ2) (hi : -(2 ^ 63) ≤ i ∧ i < 2 ^ 63 := by decide) (hl : ds.length * i.toNat ≤ 100000) : PS_ X (.BinOp a .Mult b pos) ρ (.own (List.replicate i.toNat ds).flatten) ρ2 :=
  pso_tOp (pe_op op_rep h h2) fun G H v w e a1 a2 Q k => by
    cases a2
    cases a1 with
    | lst hg1 ha1 => exact ⟨_, _, _, rfl, rfl, e _ _ hg1, hi.1, hi.2, small_line (by rw [ha1.length]; exact hl), fun q hq => k q _ hq (ha1.rep _)⟩
/-- a sign within a text -/
theorem pd_inSign {n : Nat} {t : Str} (h : PD X a ρ (.str ⟨#[n]⟩) ρ1) (h2 : PD X b ρ1 (.str t) ρ2) (hm : behindInMarks .In b = false := by with_unfolding_all rfl) : PD X (.Compare a [.In] [b] pos) ρ (.bl (decide (n ∈ t.cps.toList))) ρ2 :=
  pd_tOp (pe_cmpR op_in_sign h h2 hm) fun G H v w e a1 a2 Q k => by
    cases a1
    cases a2
    exact ⟨n, t, rfl, rfl, k _ G H (.refl e) (.bl _)⟩
/-! ### lists of one's own -/
theorem own_at {σ : L2.St} {G H : Hp} {n : Nat} (s : Slots G H σ ρ) (e : Ex G H) (hi : ρ[n]? = some (some (.own ds))) : ∃ q vs, σ[n]? = some (some (.ref q)) ∧ G q = none ∧ H q = some (.lst vs) ∧ Ats G vs ds ∧
    ∀ vs' ds', Ats G vs' ds' → Step σ ρ (ρ.set n (some (.own ds'))) G H G (upd H q (.lst vs')) := by
  obtain ⟨v, h1, h2⟩ := s.at_ n _ hi
  cases h2 with
  | @own q0 vs0 _ hg hh hs =>
    refine ⟨_, _, h1, hg, hh, hs, fun vs' ds' a => ?_⟩
    refine GrowO.step (s0 := .own ds) ⟨Ex.refl _, fun a u ha => ?_, fun _ _ _ => rfl, fun a o h t m => ?_, fun a h => ?_, fun t => tabs_upd t hh fun _ z => by cases z⟩ s hi rfl h1 rfl (.own hg upd_same a)
    · rw [upd_ne fun z => by rw [z, hg] at ha; cases ha]
      exact e a u ha
    · rw [upd_ne m]
      exact h
    · by_cases z : a = q0
      · rw [z, upd_same]
        exact fun y => by cases y
      · rw [upd_ne z]
        exact h
/-- an own list's name as a datum: frozen from now on -/
theorem pd_nameF (n : Nat) {nm : Str} (e : ρ[n]? = some (some (.own ds))) (hN : X.N[n]? = some nm := by rfl) (hv : Vis X.env.scope nm := by first | exact Or.inl rfl | exact Or.inr (Or.inl rfl) | exact Or.inr (Or.inr rfl))
    (hd : (nm == ("__debug__" : Str)) = false := by decide) (hcd : (nm == ("__classdict__" : Str)) = false := by decide) : PD X (.Name nm pos) ρ (.lst ds) (ρ.set n (some (.d (.lst ds)))) :=
  pe_weak (pe_var (i := n) hN hv hd hcd) fun σ H Q ⟨G, e1, s, k⟩ => by
    obtain ⟨q, vs, h1, hg, hh, hs, _⟩ := own_at s e1 e
    refine ⟨.ref q, h1, k (.ref q) (upd G q (.lst vs)) H ?_ (.lst upd_same (hs.ex (Evl.Ex.new hg)))⟩
    have gr : Ex G (upd G q (.lst vs)) := Evl.Ex.new hg
    have ex : Ex (upd G q (.lst vs)) H := fun a u ha => by
      by_cases z : a = q
      · rw [z, upd_same] at ha
        rw [z, ← ha]
        exact hh
      · rw [upd_ne z] at ha
        exact e1 a u ha
    have il := get_of_le e
    have at' : ∀ (j : Nat) (t : S), (ρ.set n (some (.d (.lst ds))))[j]? = some (some t) → (j = n ∧ t = .d (.lst ds)) ∨ (j ≠ n ∧ ρ[j]? = some (some t)) := fun j t q => by
      by_cases z : j = n
      · rw [z, List.getElem?_set_self il] at q
        cases q
        exact .inl ⟨z, rfl⟩
      · rw [List.getElem?_set_ne fun y => z y.symm] at q
        exact .inr ⟨z, q⟩
    refine ⟨gr, ex, fun a h m => upd_ne fun z => m ⟨n, _, e, rfl, by rw [z]; exact h1⟩, fun a o h _ _ => h, fun a h => h, ⟨by rw [List.length_set]; exact s.len, fun j t q1 => ?_, fun j l t u a q1 m1 q2 m2 q3 q4 => ?_, s.tb.upd hg hh fun _ z => by cases z⟩, fun j t q1 m => ?_⟩
    · rcases at' j t q1 with ⟨rfl, rfl⟩ | ⟨z, q1⟩
      · exact ⟨_, h1, .d (.lst upd_same (hs.ex gr))⟩
      · obtain ⟨v, b1, b2⟩ := s.at_ j t q1
        refine ⟨v, b1, ?_⟩
        have ne : ∀ a, t.me = true → v = .ref a → a ≠ q := fun a m y w => by
          rw [y, w] at b1
          exact z (s.ne j n t _ q q1 m e rfl b1 h1)
        cases b2 with
        | d h => exact .d (h.ex gr)
        | own hg' hh' hs' => exact .own (by rw [upd_ne (ne _ rfl rfl)]; exact hg') hh' (hs'.ex gr)
        | obj hg' hh' hs' => exact .obj (by rw [upd_ne (ne _ rfl rfl)]; exact hg') hh' (hs'.ex gr)
    · rcases at' j t q1 with ⟨rfl, rfl⟩ | ⟨z, q1⟩
      · cases m1
      · rcases at' l u q2 with ⟨rfl, rfl⟩ | ⟨z2, q2⟩
        · cases m2
        · exact s.ne j l t u a q1 m1 q2 m2 q3 q4
    · rcases at' j t q1 with ⟨rfl, rfl⟩ | ⟨z, q1⟩
      · cases m
      · exact ⟨t, q1, m⟩
/-- own[i] -/
theorem pd_ixO (n : Nat) {nm : Str} {q : Pos} (e0 : ∃ s, ρ[n]? = some (some s) ∧ s.me = true) (e : ρ1[n]? = some (some (.own ds))) (h2 : PD X b ρ (.int i) ρ1) (hi : atI ds i = some d) (hN : X.N[n]? = some nm := by rfl) (hv : Vis X.env.scope nm := by first | exact Or.inl rfl | exact Or.inr (Or.inl rfl) | exact Or.inr (Or.inr rfl))
    (hd : (nm == ("__debug__" : Str)) = false := by decide) (hcd : (nm == ("__classdict__" : Str)) = false := by decide) (hs : PlainIx b := by intro _ _; rfl) : PD X (.Subscript (.Name nm q) b pos) ρ d ρ1 :=
  pe_weak (pe_ix ix_list (pe_var (i := n) hN hv hd hcd) h2 hs) fun σ H Q ⟨G, e1, s, k⟩ => by
    obtain ⟨t, ht, hm⟩ := e0
    obtain ⟨v, hv1, _⟩ := s.at_ n t ht
    refine ⟨v, hv1, G, e1, s, fun w G1 H1 g1 a1 => ?_⟩
    cases a1
    obtain ⟨q, vs, b1, hg, hh, ha, _⟩ := own_at g1.sl g1.gh e
    rw [hv1] at b1
    cases b1
    obtain ⟨u, h1, h2⟩ := atI_at ha hi
    exact ⟨_, _, i, u, rfl, rfl, .inl (.inl hh), h1, k u G1 H1 g1 h2⟩
/-- own.append(e) -/
theorem pd_append (n : Nat) {nm : Str} {q apos cpos : Pos} (e0 : ∃ s, ρ[n]? = some (some s) ∧ s.me = true ∧ ∃ l, s = .own l) (h : PD X e ρ d ρ1) (e1 : ρ1[n]? = some (some (.own ds))) (hl : ds.length < 100000) (hN : X.N[n]? = some nm := by rfl) (hv : Vis X.env.scope nm := by first | exact Or.inl rfl | exact Or.inr (Or.inl rfl) | exact Or.inr (Or.inr rfl))
    (hd : (nm == ("__debug__" : Str)) = false := by decide) (hcd : (nm == ("__classdict__" : Str)) = false := by decide) (hbase : attributeBase (.Name nm q) "append" X.env (eval (.Name nm q) X.env) = eval (.Name nm q) X.env := by rfl)
    (hfew : ((backTo cpos (starEach (e :: []) X.env)).all (fun x => !x.1) && (backToKw cpos (keywordEach [] X.env)).all (fun x => x.1.isSome) && decide ((e :: []).length + ([] : List Keyword).length + (if ([] : List Keyword).isEmpty then 0 else 1) < 30)) = true := by rfl)
    (hline : (apos.endLine == cpos.line) = true := by rfl) (hs : starEach [e] X.env = (false, eval e X.env) :: starEach [] X.env := by rfl) : PD X (.Call (.Attribute (.Name nm q) "append" apos) [e] [] cpos) ρ .non (ρ1.set n (some (.own (ds ++ [d])))) :=
  pe_weak (pe_bm PySem.F.plainAttrs_list PySem.F.slot_list_append PySem.F.type_list_append mt_append (pe_var (i := n) hN hv hd hcd) (pad_one h hs) hbase hfew hline hs rfl) fun σ H Q ⟨G, ex, s, k⟩ => by
    obtain ⟨t, ht, hm, l, rfl⟩ := e0
    obtain ⟨q0, vs0, hv1, _, hh0, _⟩ := own_at s ex ht
    refine ⟨.ref q0, hv1, .inl ⟨rfl, vs0, .inl (.inl hh0)⟩, G, ex, s, fun ws G1 H1 g1 a1 => ?_⟩
    cases a1 with
    | cons a1 r =>
      cases r
      obtain ⟨q, vs, b1, hg, hh, ha, st⟩ := own_at g1.sl g1.gh e1
      rw [hv1] at b1
      cases b1
      have le : vs.length < sizeLine := small_line (n := vs.length + 1) (by rw [ha.length]; exact hl)
      exact ⟨q0, vs, _, rfl, rfl, hh, le, k _ G1 _ (g1.trans (st _ _ (ha.append (.cons a1 .nil)))) .non⟩
/-- own.extend(e) -/
theorem pd_extend (n : Nat) {nm : Str} {q apos cpos : Pos} (e0 : ∃ s, ρ[n]? = some (some s) ∧ s.me = true ∧ ∃ l, s = .own l) (h : PD X e ρ (.lst dt) ρ1) (e1 : ρ1[n]? = some (some (.own ds))) (hl : ds.length + dt.length ≤ 100000) (hN : X.N[n]? = some nm := by rfl) (hv : Vis X.env.scope nm := by first | exact Or.inl rfl | exact Or.inr (Or.inl rfl) | exact Or.inr (Or.inr rfl))
    (hd : (nm == ("__debug__" : Str)) = false := by decide) (hcd : (nm == ("__classdict__" : Str)) = false := by decide) (hbase : attributeBase (.Name nm q) "extend" X.env (eval (.Name nm q) X.env) = eval (.Name nm q) X.env := by rfl)
    (hfew : ((backTo cpos (starEach (e :: []) X.env)).all (fun x => !x.1) && (backToKw cpos (keywordEach [] X.env)).all (fun x => x.1.isSome) && decide ((e :: []).length + ([] : List Keyword).length + (if ([] : List Keyword).isEmpty then 0 else 1) < 30)) = true := by rfl)
    (hline : (apos.endLine == cpos.line) = true := by rfl) (hs : starEach [e] X.env = (false, eval e X.env) :: starEach [] X.env := by rfl) : PD X (.Call (.Attribute (.Name nm q) "extend" apos) [e] [] cpos) ρ .non (ρ1.set n (some (.own (ds ++ dt)))) :=
  pe_weak (pe_bm PySem.F.plainAttrs_list PySem.F.slot_list_extend PySem.F.type_list_extend mt_extend (pe_var (i := n) hN hv hd hcd) (pad_one h hs) hbase hfew hline hs rfl) fun σ H Q ⟨G, ex, s, k⟩ => by
    obtain ⟨t, ht, hm, l, rfl⟩ := e0
    obtain ⟨q0, vs0, hv1, _, hh0, _⟩ := own_at s ex ht
    refine ⟨.ref q0, hv1, .inl ⟨rfl, vs0, .inl (.inl hh0)⟩, G, ex, s, fun ws G1 H1 g1 a1 => ?_⟩
    cases a1 with
    | cons a1 r =>
      cases r
      cases a1 with
      | lst hg1 ha1 =>
        obtain ⟨q, vs, b1, hg, hh, ha, st⟩ := own_at g1.sl g1.gh e1
        rw [hv1] at b1
        cases b1
        exact ⟨q0, _, vs, _, rfl, rfl, hh, g1.gh _ _ hg1, small_line (by rw [ha.length, ha1.length]; exact hl), k _ G1 _ (g1.trans (st _ _ (ha.append ha1))) .non⟩
theorem Ats.erase {G : Hp} : ∀ {vs : List V} {ds : List D} (k : Nat), Ats G vs ds → Ats G (vs.eraseIdx k) (ds.eraseIdx k)
  | _, _, _, .nil => .nil
  | _, _, 0, .cons h hs => hs
  | _, _, k + 1, .cons h hs => .cons h (hs.erase k)
theorem Ats.set {G : Hp} {v : V} {d : D} : ∀ {vs : List V} {ds : List D} (k : Nat), Ats G vs ds → At G v d → Ats G (vs.set k v) (ds.set k d)
  | _, _, _, .nil, _ => .nil
  | _, _, 0, .cons h hs, a => .cons a hs
  | _, _, k + 1, .cons h hs, a => .cons h (hs.set k a)
/-- own.pop(i) -/
theorem pd_popAt (n : Nat) {nm : Str} {q apos cpos : Pos} {k : Nat} (e0 : ∃ s, ρ[n]? = some (some s) ∧ s.me = true ∧ ∃ l, s = .own l) (h : PD X e ρ (.int i) ρ1) (e1 : ρ1[n]? = some (some (.own ds))) (hi : -(2 ^ 63) ≤ i ∧ i < 2 ^ 63) (hk : seqIndex? i ds.length = some k) (hx : ds[k]? = some d) (hN : X.N[n]? = some nm := by rfl) (hv : Vis X.env.scope nm := by first | exact Or.inl rfl | exact Or.inr (Or.inl rfl) | exact Or.inr (Or.inr rfl))
    (hd : (nm == ("__debug__" : Str)) = false := by decide) (hcd : (nm == ("__classdict__" : Str)) = false := by decide) (hbase : attributeBase (.Name nm q) "pop" X.env (eval (.Name nm q) X.env) = eval (.Name nm q) X.env := by rfl)
    (hfew : ((backTo cpos (starEach (e :: []) X.env)).all (fun x => !x.1) && (backToKw cpos (keywordEach [] X.env)).all (fun x => x.1.isSome) && decide ((e :: []).length + ([] : List Keyword).length + (if ([] : List Keyword).isEmpty then 0 else 1) < 30)) = true := by rfl)
    (hline : (apos.endLine == cpos.line) = true := by rfl) (hs : starEach [e] X.env = (false, eval e X.env) :: starEach [] X.env := by rfl) : PD X (.Call (.Attribute (.Name nm q) "pop" apos) [e] [] cpos) ρ d (ρ1.set n (some (.own (ds.eraseIdx k)))) :=
  pe_weak (pe_bm PySem.F.plainAttrs_list PySem.F.slot_list_pop PySem.F.type_list_pop mt_popAt (pe_var (i := n) hN hv hd hcd) (pad_one h hs) hbase hfew hline hs rfl) fun σ H Q ⟨G, ex, s, kk⟩ => by
    obtain ⟨t, ht, hm, l, rfl⟩ := e0
    obtain ⟨q0, vs0, hv1, _, hh0, _⟩ := own_at s ex ht
    refine ⟨.ref q0, hv1, .inl ⟨rfl, vs0, .inl (.inl hh0)⟩, G, ex, s, fun ws G1 H1 g1 a1 => ?_⟩
    cases a1 with
    | cons a1 r =>
      cases r
      cases a1
      obtain ⟨q, vs, b1, hg, hh, ha, st⟩ := own_at g1.sl g1.gh e1
      rw [hv1] at b1
      cases b1
      obtain ⟨u, u1, u2⟩ := ha.get hx
      exact ⟨q0, vs, i, k, u, rfl, rfl, hh, hi.1, hi.2, by rw [ha.length]; exact hk, u1, kk _ G1 _ (g1.trans (st _ _ (ha.erase k))) u2⟩
/-- own[i] = e -/
theorem hs_ixO (n : Nat) {nm : Str} {q tpos : Pos} {j : Nat} (h : PD X e ρ d ρ1) (e1 : ∃ s, ρ1[n]? = some (some s) ∧ s.me = true) (h2 : PD X b ρ1 (.int i) ρ2) (e2 : ρ2[n]? = some (some (.own ds))) (hj : ixN ds.length i = some j) (k : P.nx (ρ2.set n (some (.own (ds.set j d))))) (hN : X.N[n]? = some nm := by rfl) (hv : Vis X.env.scope nm := by first | exact Or.inl rfl | exact Or.inr (Or.inl rfl) | exact Or.inr (Or.inr rfl))
    (hd : (nm == ("__debug__" : Str)) = false := by decide) (hcd : (nm == ("__classdict__" : Str)) = false := by decide) (ha : ∀ v, assign (.Subscript (.Name nm q) b tpos) X.env v = (do
      let ov ← holding [v] (eval (.Name nm q) X.env)
      let iv ← holding [v, ov] (eval b X.env)
      standAt tpos
      holding [v, ov, iv] (setItem ov iv v)
      release [v, ov, iv] []) := by intro _; rfl)
    (hs : swapsWithSole [.Subscript (.Name nm q) b tpos] e pos.line X.env = pure false := by rfl) (hw : swappedStores [.Subscript (.Name nm q) b tpos] e X.env = pure none := by rfl)
    (h1 : (assignEach [.Subscript (.Name nm q) b tpos] X.env).map (·.2) = [assign (.Subscript (.Name nm q) b tpos) X.env] := by rfl) : HS X W ow (.Assign [.Subscript (.Name nm q) b tpos] e pos) ρ P :=
  ps_weak (ps_asg h (pg_sub (pe_var (i := n) hN hv hd hcd) h2 set_list ha) hs hw h1) fun Dn σ H ⟨w, Ge, He, G, hw, nw, k1, _⟩ => ⟨G, nw.gh, nw.sl, fun v G1 H1 g1 a1 => by
    obtain ⟨t, ht, hm⟩ := e1
    obtain ⟨u, hu, _⟩ := g1.sl.at_ n t ht
    refine ⟨u, hu, G1, g1.gh, g1.sl, fun iv G2 H2 g2 a2 => ?_⟩
    cases a2
    obtain ⟨q, vs, b1, hg, hh, ha', st⟩ := own_at g2.sl g2.gh e2
    rw [hu] at b1
    cases b1
    exact ⟨q, vs, i, j, rfl, rfl, hh, by rw [ha'.length]; exact hj, k1 σ G2 _ _ (((nw.step g1).step g2).step (st _ _ (ha'.set j (a1.ex g2.g)))) (g1.g.trans g2.g) k⟩⟩
end
end DL

end
section
set_option maxHeartbeats 4000001
/-! DL7: ==, != and repr of data; the built-ins' names at once. -/
namespace DL
open PySem PySem.Spec
open PyProof.Rows L2
open Evl (Ex)
/-- the module binds none of these -/
structure Bn (mg : Str → Option Value) : Prop where
  isinstance : mg "isinstance" = none
  int : mg "int" = none
  bool : mg "bool" = none
  str : mg "str" = none
  list : mg "list" = none
  tuple : mg "tuple" = none
  len : mg "len" = none
  all : mg "all" = none
  any : mg "any" = none
  max : mg "max" = none
  min : mg "min" = none
  abs : mg "abs" = none
  sorted : mg "sorted" = none
  zip : mg "zip" = none
  range : mg "range" = none
  enumerate : mg "enumerate" = none
  repr : mg "repr" = none
theorem bootn_bool : bootBuiltins "bool" = some (.type "bool") := by decide +kernel
theorem bootn_str : bootBuiltins "str" = some (.type "str") := by decide +kernel
theorem bootn_repr : bootBuiltins "repr" = some (.builtin "repr") := by decide +kernel
mutual
/-- the datum as the library's data -/
def toPy : D → Option PyData
  | .non => some .none
  | .bl b => some (.bool b)
  | .int i => some (.int i)
  | .str s => some (.str s)
  | .lst ds => (toPys ds).map .list
  | .tup ds => (toPys ds).map .tuple
  | _ => none
def toPys : List D → Option (List PyData)
  | [] => some []
  | d :: ds => match toPy d, toPys ds with
    | some p, some ps => some (p :: ps)
    | _, _ => none
end
theorem toPys_cons {d : D} {ds : List D} {ps : List PyData} (h : toPys (d :: ds) = some ps) : ∃ q qs, toPy d = some q ∧ toPys ds = some qs ∧ ps = q :: qs := by
  unfold toPys at h
  split at h
  · rename_i q qs e1 e2
    cases h
    exact ⟨q, qs, e1, e2, rfl⟩
  · cases h
section
variable [Tb]
mutual
theorem dp_of {K : PySem.W.Frag} {G H : Hp} (e : Ex G H) : ∀ {v : V} {d : D} {p : PyData}, At G v d → toPy d = some p → Dp K H v p
  | _, _, _, .non, h => by
    cases h
    exact .non
  | _, _, _, .bl b, h => by
    cases h
    exact .bl b
  | _, _, _, .int i, h => by
    cases h
    exact .int i
  | _, _, _, .str x, h => by
    cases h
    exact .str x
  | _, _, _, .ty n, h => by cases h
  | _, _, _, .rf a, h => by cases h
  | _, _, _, .lst (ds := ds) hg hs, h => by
    unfold toPy at h
    cases q : toPys ds with
    | none =>
      rw [q] at h
      cases h
    | some ps =>
      rw [q] at h
      cases h
      exact .lst (.inl (.inl (e _ _ hg))) (dps_of e hs q)
  | _, _, _, .tup (ds := ds) hg hs, h => by
    unfold toPy at h
    cases q : toPys ds with
    | none =>
      rw [q] at h
      cases h
    | some ps =>
      rw [q] at h
      cases h
      exact .tup (.inl (.inl (e _ _ hg))) (dps_of e hs q)
  | _, _, _, .ins _ _, h => by cases h
  | _, _, _, .dic _, h => by cases h
  | _, _, _, .exc _ _ _, h => by cases h
  | _, _, _, .fn _ _ _ _ _ _ _, h => by cases h
  | _, _, _, .scr _, h => by cases h
theorem dps_of {K : PySem.W.Frag} {G H : Hp} (e : Ex G H) : ∀ {vs : List V} {ds : List D} {ps : List PyData}, Ats G vs ds → toPys ds = some ps → DpAll K H vs ps
  | _, _, _, .nil, h => by
    cases h
    exact .nil
  | _, _, _, .cons a r, h => by
    obtain ⟨q, qs, h1, h2, rfl⟩ := toPys_cons h
    exact .cons (dp_of e a h1) (dps_of e r h2)
end
variable {X : Cx} {W : WX} {ow : Bool} {ρ ρ0 ρ' ρ1 ρ2 ρ3 : Rho} {P P' : Po} {a b c e : Expr} {es : List Expr} {x y z d : D} {ds dt : List D} {s : S} {pos : Pos} {k1 : Bool} {f : Str} {p p2 : Pos} {i j : Int}
theorem pd_tyInt (B : Bn X.mg) (hg : Gl X "int" := by rfl) : PD X (.Name "int" pos) ρ (.ty "int") ρ := pd_ty B.int bootn_int hg
theorem pd_tyBool (B : Bn X.mg) (hg : Gl X "bool" := by rfl) : PD X (.Name "bool" pos) ρ (.ty "bool") ρ := pd_ty B.bool bootn_bool hg
theorem pd_tyStr (B : Bn X.mg) (hg : Gl X "str" := by rfl) : PD X (.Name "str" pos) ρ (.ty "str") ρ := pd_ty B.str bootn_str hg
theorem pd_tyList (B : Bn X.mg) (hg : Gl X "list" := by rfl) : PD X (.Name "list" pos) ρ (.ty "list") ρ := pd_ty B.list bootn_list hg
theorem pd_tyTuple (B : Bn X.mg) (hg : Gl X "tuple" := by rfl) : PD X (.Name "tuple" pos) ρ (.ty "tuple") ρ := pd_ty B.tuple bootn_tuple hg
/-! ### == and != -/
theorem pd_eqD {dx dy : PyData} (h : PD X a ρ x ρ1) (h2 : PD X b ρ1 y ρ2) (hu : X.A.units + 64 < cLine) (hx : toPy x = some dx) (hy : toPy y = some dy) (sx : SeqAt.shaped dx = true) (sy : SeqAt.shaped dy = true) : PD X (.Compare a [.Eq] [b] pos) ρ (.bl (PyData.eqv dx dy)) ρ2 :=
  pd_tOp (pe_cmpR (op_eqD hu) h h2 (nomark _)) fun G H v w e a1 a2 Q k => ⟨dx, dy, dp_of e a1 hx, dp_of e a2 hy, sx, sy, k _ G H (.refl e) (.bl _)⟩
theorem pd_neD {dx dy : PyData} (h : PD X a ρ x ρ1) (h2 : PD X b ρ1 y ρ2) (hu : X.A.units + 64 < cLine) (hx : toPy x = some dx) (hy : toPy y = some dy) (sx : SeqAt.shaped dx = true) (sy : SeqAt.shaped dy = true) : PD X (.Compare a [.NotEq] [b] pos) ρ (.bl (!PyData.eqv dx dy)) ρ2 :=
  pd_tOp (pe_cmpR (op_neD hu) h h2 (nomark _)) fun G H v w e a1 a2 Q k => ⟨dx, dy, dp_of e a1 hx, dp_of e a2 hy, sx, sy, k _ G H (.refl e) (.bl _)⟩
theorem pd_eqI (h : PD X a ρ (.int i) ρ1) (h2 : PD X b ρ1 (.int j) ρ2) : PD X (.Compare a [.Eq] [b] pos) ρ (.bl (decide (i = j))) ρ2 :=
  pd_tOp (pe_cmpR op_eq h h2 (nomark _)) fun G H v w e a1 a2 Q k => by
    cases a1
    cases a2
    refine ⟨rfl, ?_⟩
    have q : decide (V.int i = V.int j) = decide (i = j) := by rw [Bool.eq_iff_iff]; simp
    rw [q]
    exact k _ G H (.refl e) (.bl _)
theorem pd_neI (h : PD X a ρ (.int i) ρ1) (h2 : PD X b ρ1 (.int j) ρ2) : PD X (.Compare a [.NotEq] [b] pos) ρ (.bl (!decide (i = j))) ρ2 :=
  pd_tOp (pe_cmpR op_ne h h2 (nomark _)) fun G H v w e a1 a2 Q k => by
    cases a1
    cases a2
    refine ⟨rfl, ?_⟩
    have q : decide (V.int i = V.int j) = decide (i = j) := by rw [Bool.eq_iff_iff]; simp
    rw [q]
    exact k _ G H (.refl e) (.bl _)
theorem pd_eqS {t u : Str} (h : PD X a ρ (.str t) ρ1) (h2 : PD X b ρ1 (.str u) ρ2) : PD X (.Compare a [.Eq] [b] pos) ρ (.bl (decide (t = u))) ρ2 :=
  pd_tOp (pe_cmpR op_eq h h2 (nomark _)) fun G H v w e a1 a2 Q k => by
    cases a1
    cases a2
    refine ⟨rfl, ?_⟩
    have q : decide (V.str t = V.str u) = decide (t = u) := by rw [Bool.eq_iff_iff]; simp
    rw [q]
    exact k _ G H (.refl e) (.bl _)
theorem pd_neS {t u : Str} (h : PD X a ρ (.str t) ρ1) (h2 : PD X b ρ1 (.str u) ρ2) : PD X (.Compare a [.NotEq] [b] pos) ρ (.bl (!decide (t = u))) ρ2 :=
  pd_tOp (pe_cmpR op_ne h h2 (nomark _)) fun G H v w e a1 a2 Q k => by
    cases a1
    cases a2
    refine ⟨rfl, ?_⟩
    have q : decide (V.str t = V.str u) = decide (t = u) := by rw [Bool.eq_iff_iff]; simp
    rw [q]
    exact k _ G H (.refl e) (.bl _)
theorem pd_ltS {t u : Str} (h : PD X a ρ (.str t) ρ1) (h2 : PD X b ρ1 (.str u) ρ2) : PD X (.Compare a [.Lt] [b] pos) ρ (.bl (decide (t.cps.toList < u.cps.toList))) ρ2 :=
  pd_tOp (pe_cmpR op_lt_str h h2 (nomark _)) fun G H v w e a1 a2 Q k => by
    cases a1
    cases a2
    exact ⟨t, u, rfl, rfl, k _ G H (.refl e) (.bl _)⟩
theorem ptd_eqD {dx dy : PyData} (h : PD X a ρ x ρ1) (h2 : PD X b ρ1 y ρ2) (hu : X.A.units + 64 < cLine) (hx : toPy x = some dx) (hy : toPy y = some dy) (sx : SeqAt.shaped dx = true) (sy : SeqAt.shaped dy = true) : PTD X (.Compare a [.Eq] [b] pos) ρ (PyData.eqv dx dy) ρ2 :=
  ptd_op (op_eqD hu) h h2 (fun G H v w e a1 a2 Q k => ⟨dx, dy, dp_of e a1 hx, dp_of e a2 hy, sx, sy, k _ G H (.refl e) (.bl _)⟩) (nomark _)
theorem ptd_neD {dx dy : PyData} (h : PD X a ρ x ρ1) (h2 : PD X b ρ1 y ρ2) (hu : X.A.units + 64 < cLine) (hx : toPy x = some dx) (hy : toPy y = some dy) (sx : SeqAt.shaped dx = true) (sy : SeqAt.shaped dy = true) : PTD X (.Compare a [.NotEq] [b] pos) ρ (!PyData.eqv dx dy) ρ2 :=
  ptd_op (op_neD hu) h h2 (fun G H v w e a1 a2 Q k => ⟨dx, dy, dp_of e a1 hx, dp_of e a2 hy, sx, sy, k _ G H (.refl e) (.bl _)⟩) (nomark _)
theorem od_eqI : OD rEq (.int i) (.int j) (.bl (decide (i = j))) := fun G H v w e a1 a2 Q k => by
  cases a1
  cases a2
  have q : decide (V.int i = V.int j) = decide (i = j) := by rw [Bool.eq_iff_iff]; simp
  exact ⟨rfl, by rw [q]; exact k _ G H (.refl e) (.bl _)⟩
theorem od_neI : OD rNe (.int i) (.int j) (.bl (!decide (i = j))) := fun G H v w e a1 a2 Q k => by
  cases a1
  cases a2
  have q : decide (V.int i = V.int j) = decide (i = j) := by rw [Bool.eq_iff_iff]; simp
  exact ⟨rfl, by rw [q]; exact k _ G H (.refl e) (.bl _)⟩
theorem od_eqS {t u : Str} : OD rEq (.str t) (.str u) (.bl (decide (t = u))) := fun G H v w e a1 a2 Q k => by
  cases a1
  cases a2
  have q : decide (V.str t = V.str u) = decide (t = u) := by rw [Bool.eq_iff_iff]; simp
  exact ⟨rfl, by rw [q]; exact k _ G H (.refl e) (.bl _)⟩
theorem od_neS {t u : Str} : OD rNe (.str t) (.str u) (.bl (!decide (t = u))) := fun G H v w e a1 a2 Q k => by
  cases a1
  cases a2
  have q : decide (V.str t = V.str u) = decide (t = u) := by rw [Bool.eq_iff_iff]; simp
  exact ⟨rfl, by rw [q]; exact k _ G H (.refl e) (.bl _)⟩
theorem ptd_eqI (h : PD X a ρ (.int i) ρ1) (h2 : PD X b ρ1 (.int j) ρ2) : PTD X (.Compare a [.Eq] [b] pos) ρ (decide (i = j)) ρ2 := ptd_op op_eq h h2 od_eqI (nomark _)
theorem ptd_neI (h : PD X a ρ (.int i) ρ1) (h2 : PD X b ρ1 (.int j) ρ2) : PTD X (.Compare a [.NotEq] [b] pos) ρ (!decide (i = j)) ρ2 := ptd_op op_ne h h2 od_neI (nomark _)
theorem ptd_eqS {t u : Str} (h : PD X a ρ (.str t) ρ1) (h2 : PD X b ρ1 (.str u) ρ2) : PTD X (.Compare a [.Eq] [b] pos) ρ (decide (t = u)) ρ2 := ptd_op op_eq h h2 od_eqS (nomark _)
theorem ptd_neS {t u : Str} (h : PD X a ρ (.str t) ρ1) (h2 : PD X b ρ1 (.str u) ρ2) : PTD X (.Compare a [.NotEq] [b] pos) ρ (!decide (t = u)) ρ2 := ptd_op op_ne h h2 od_neS (nomark _)
theorem eqv_same {p : PyData} (h : SeqAt.shaped p = true) : PyData.eqv p p = true := SeqAt.eqv_refl p (SeqAt.canLay_of_shaped h)
/-! ### repr -/
theorem call_reprD (hg : X.A.guards = some []) (hu : X.A.units + 200 < cLine) : CallR X (.builtin "repr") (fun xs H Q => ∃ v d, xs = [v] ∧ Dp X.K H v d ∧ d.showable = true ∧ SeqAt.shaped d = true ∧ d.shown.length ≤ sizeLine ∧ Q (.str d.shown) H) := by
  (intro pins s σ H xs us Q I r h)
  obtain ⟨v, d, rfl, hd, h1, h2, h3, q⟩ := h
  (obtain ⟨u, rfl, ru⟩ := vals1 r)
  obtain ⟨as, rd⟩ := Dp.reads I d v u hd ru
  have nd := PyData.hasDict_of_canLay d (SeqAt.canLay_of_shaped h2)
  have dp := SeqAt.depth_of_shaped h2
  have big : ∀ a, u = .ref a → wpAny (model X.prog X.w) X.A (call (.builtin "repr") [u]) (EP X pins σ Q) X.xe s := fun a ea => by
    subst ea
    exact repr_of_reads' rd h1 (PyData.noDict_hsm nd) hg (by omega) (fun _ _ e => e) (fun h' w tk hk => ⟨.str d.shown, H, I.kept hk, ⟨_, rfl⟩, q⟩) h3
  cases hd with
  | non =>
    cases ru
    exact PySem.P.repr_of_none ⟨.str _, H, I.tok _, ⟨_, rfl⟩, q⟩
  | bl b =>
    cases ru
    refine PySem.P.repr_of_bool ⟨.str (if b then "True" else "False"), H, I.tok _, ⟨_, rfl⟩, ?_⟩
    exact q
  | int i =>
    obtain ⟨t, rfl⟩ := ru
    exact PySem.P.repr_of_int (of_decide_eq_true h1) ⟨.str _, H, I.tok _, ⟨_, rfl⟩, q⟩
  | str x =>
    obtain ⟨t, rfl⟩ := ru
    exact PySem.P.repr_of_str ⟨.str _, H, I.tok _, ⟨_, rfl⟩, q⟩ h3
  | lst _ _ => exact big _ ru
  | tup _ _ => exact big _ ru
theorem pd_repr {q : PyData} (hgd : X.A.guards = some []) (hu : X.A.units + 200 < cLine) (hm : X.mg "repr" = none) (h : PD X e ρ d ρ') (hp : toPy d = some q) (h1 : q.showable = true) (h2 : SeqAt.shaped q = true) (h3 : q.shown.length ≤ 100000) (hg : Gl X "repr" := by rfl) (he : starEach [e] X.env = (false, eval e X.env) :: starEach [] X.env := by rfl) : PD X (.Call (.Name "repr" p) [e] [] pos) ρ (.str q.shown) ρ' :=
  pd_callB (call_reprD hgd hu) hm (pad_one h he) (fun G H vs e a Q k => by
    cases a with
    | cons a1 r =>
      cases r
      exact ⟨_, q, rfl, dp_of e a1 hp, h1, h2, small_line h3, k _ G H (.refl e) (.str _)⟩) bootn_repr hg (he := he)
end
end DL

end
section
set_option maxHeartbeats 4000001
/-! K1: the checks. -/
namespace K20
open PySem PySem.Spec
open PyProof.Rows L2 DL
abbrev FnP (K : PySem.W.Frag) (x : Str) (st : Stmt) (f : Addr) (fd : FuncData) : Prop := FunD K x x (defArgs st) (defBody st) (defScope st) [] [] f fd
theorem kt_NoneType_int : kitB "NoneType" "int" = some false := by decide +kernel
theorem kt_NoneType_bool : kitB "NoneType" "bool" = some false := by decide +kernel
theorem kt_NoneType_str : kitB "NoneType" "str" = some false := by decide +kernel
theorem kt_NoneType_list : kitB "NoneType" "list" = some false := by decide +kernel
theorem kt_NoneType_tuple : kitB "NoneType" "tuple" = some false := by decide +kernel
theorem kt_bool_int : kitB "bool" "int" = some true := by decide +kernel
theorem kt_bool_bool : kitB "bool" "bool" = some true := by decide +kernel
theorem kt_bool_str : kitB "bool" "str" = some false := by decide +kernel
theorem kt_bool_list : kitB "bool" "list" = some false := by decide +kernel
theorem kt_bool_tuple : kitB "bool" "tuple" = some false := by decide +kernel
theorem kt_int_int : kitB "int" "int" = some true := by decide +kernel
theorem kt_int_bool : kitB "int" "bool" = some false := by decide +kernel
theorem kt_int_str : kitB "int" "str" = some false := by decide +kernel
theorem kt_int_list : kitB "int" "list" = some false := by decide +kernel
theorem kt_int_tuple : kitB "int" "tuple" = some false := by decide +kernel
theorem kt_str_int : kitB "str" "int" = some false := by decide +kernel
theorem kt_str_bool : kitB "str" "bool" = some false := by decide +kernel
theorem kt_str_str : kitB "str" "str" = some true := by decide +kernel
theorem kt_str_list : kitB "str" "list" = some false := by decide +kernel
theorem kt_str_tuple : kitB "str" "tuple" = some false := by decide +kernel
theorem kt_list_int : kitB "list" "int" = some false := by decide +kernel
theorem kt_list_bool : kitB "list" "bool" = some false := by decide +kernel
theorem kt_list_str : kitB "list" "str" = some false := by decide +kernel
theorem kt_list_list : kitB "list" "list" = some true := by decide +kernel
theorem kt_list_tuple : kitB "list" "tuple" = some false := by decide +kernel
theorem kt_tuple_int : kitB "tuple" "int" = some false := by decide +kernel
theorem kt_tuple_bool : kitB "tuple" "bool" = some false := by decide +kernel
theorem kt_tuple_str : kitB "tuple" "str" = some false := by decide +kernel
theorem kt_tuple_list : kitB "tuple" "list" = some false := by decide +kernel
theorem kt_tuple_tuple : kitB "tuple" "tuple" = some true := by decide +kernel
theorem kt_dict_int : kitB "dict" "int" = some false := by decide +kernel
theorem kt_dict_bool : kitB "dict" "bool" = some false := by decide +kernel
theorem kt_dict_str : kitB "dict" "str" = some false := by decide +kernel
theorem kt_dict_list : kitB "dict" "list" = some false := by decide +kernel
theorem kt_dict_tuple : kitB "dict" "tuple" = some false := by decide +kernel
section
variable [Tb]
/-- an own class, no kind of int, text, list, tuple -/
structure ClsP (K : PySem.W.Frag) (C : Addr) : Prop where
  ci : ClsI K C
  int : PySem.W.kitOne K (.ref C) (.type "int") = some false
  bool : PySem.W.kitOne K (.ref C) (.type "bool") = some false
  str : PySem.W.kitOne K (.ref C) (.type "str") = some false
  list : PySem.W.kitOne K (.ref C) (.type "list") = some false
  tuple : PySem.W.kitOne K (.ref C) (.type "tuple") = some false
/-- the data that are asked -/
inductive Ok (K : PySem.W.Frag) : D → Prop where
  | non : Ok K .non
  | bl (b : Bool) : Ok K (.bl b)
  | int (i : Int) : Ok K (.int i)
  | str (s : Str) (h : s.length ≤ 1000) : Ok K (.str s)
  | lst (ds : List D) : Ok K (.lst ds)
  | tup (ds : List D) : Ok K (.tup ds)
  | dic : Ok K .dic
  | ins {C : Addr} (fs : List (Str × D)) (c : ClsP K C) : Ok K (.ins C fs)
def isI : D → Bool
  | .int _ => true
  | _ => false
def isIB : D → Bool
  | .int _ => true
  | .bl _ => true
  | _ => false
def isB : D → Bool
  | .bl _ => true
  | _ => false
def isS : D → Bool
  | .str _ => true
  | _ => false
def isL : D → Bool
  | .lst _ => true
  | .tup _ => true
  | _ => false
variable {X : Cx} {ρ ρ1 ρ2 : Rho} {a : Expr} {d : D} {p p2 p3 pos : Pos}
theorem pd_isInt (B : Bn X.mg) (k : Ok X.K d) (h : PD X a ρ d ρ1) (hg : Gl X "isinstance" := by rfl) (hg2 : Gl X "int" := by rfl) (he : starEach [a, .Name "int" p2] X.env = (false, eval a X.env) :: starEach [.Name "int" p2] X.env := by rfl) : PD X (.Call (.Name "isinstance" p) [a, .Name "int" p2] [] pos) ρ (.bl (isIB d)) ρ1 := by
  have t := pd_tyInt (pos := p2) (ρ := ρ1) B hg2
  cases k with
  | non => exact pd_isi B.isinstance h t .non (.ty _) (kit_ty kt_NoneType_int) hg he rfl
  | bl b => exact pd_isi B.isinstance h t (.bl _) (.ty _) (kit_ty kt_bool_int) hg he rfl
  | int b => exact pd_isi B.isinstance h t (.int _) (.ty _) (kit_ty kt_int_int) hg he rfl
  | str b => exact pd_isi B.isinstance h t (.str _) (.ty _) (kit_ty kt_str_int) hg he rfl
  | lst b => exact pd_isi B.isinstance h t (.lst _) (.ty _) (kit_ty kt_list_int) hg he rfl
  | tup b => exact pd_isi B.isinstance h t (.tup _) (.ty _) (kit_ty kt_tuple_int) hg he rfl
  | dic => exact pd_isi B.isinstance h t .dic (.ty _) (kit_ty kt_dict_int) hg he rfl
  | ins fs c => exact pd_isi B.isinstance h t (.ins _ c.ci) (.ty _) c.int hg he rfl
theorem pd_isBool (B : Bn X.mg) (k : Ok X.K d) (h : PD X a ρ d ρ1) (hg : Gl X "isinstance" := by rfl) (hg2 : Gl X "bool" := by rfl) (he : starEach [a, .Name "bool" p2] X.env = (false, eval a X.env) :: starEach [.Name "bool" p2] X.env := by rfl) : PD X (.Call (.Name "isinstance" p) [a, .Name "bool" p2] [] pos) ρ (.bl (isB d)) ρ1 := by
  have t := pd_tyBool (pos := p2) (ρ := ρ1) B hg2
  cases k with
  | non => exact pd_isi B.isinstance h t .non (.ty _) (kit_ty kt_NoneType_bool) hg he rfl
  | bl b => exact pd_isi B.isinstance h t (.bl _) (.ty _) (kit_ty kt_bool_bool) hg he rfl
  | int b => exact pd_isi B.isinstance h t (.int _) (.ty _) (kit_ty kt_int_bool) hg he rfl
  | str b => exact pd_isi B.isinstance h t (.str _) (.ty _) (kit_ty kt_str_bool) hg he rfl
  | lst b => exact pd_isi B.isinstance h t (.lst _) (.ty _) (kit_ty kt_list_bool) hg he rfl
  | tup b => exact pd_isi B.isinstance h t (.tup _) (.ty _) (kit_ty kt_tuple_bool) hg he rfl
  | dic => exact pd_isi B.isinstance h t .dic (.ty _) (kit_ty kt_dict_bool) hg he rfl
  | ins fs c => exact pd_isi B.isinstance h t (.ins _ c.ci) (.ty _) c.bool hg he rfl
theorem pd_isStr (B : Bn X.mg) (k : Ok X.K d) (h : PD X a ρ d ρ1) (hg : Gl X "isinstance" := by rfl) (hg2 : Gl X "str" := by rfl) (he : starEach [a, .Name "str" p2] X.env = (false, eval a X.env) :: starEach [.Name "str" p2] X.env := by rfl) : PD X (.Call (.Name "isinstance" p) [a, .Name "str" p2] [] pos) ρ (.bl (isS d)) ρ1 := by
  have t := pd_tyStr (pos := p2) (ρ := ρ1) B hg2
  cases k with
  | non => exact pd_isi B.isinstance h t .non (.ty _) (kit_ty kt_NoneType_str) hg he rfl
  | bl b => exact pd_isi B.isinstance h t (.bl _) (.ty _) (kit_ty kt_bool_str) hg he rfl
  | int b => exact pd_isi B.isinstance h t (.int _) (.ty _) (kit_ty kt_int_str) hg he rfl
  | str b => exact pd_isi B.isinstance h t (.str _) (.ty _) (kit_ty kt_str_str) hg he rfl
  | lst b => exact pd_isi B.isinstance h t (.lst _) (.ty _) (kit_ty kt_list_str) hg he rfl
  | tup b => exact pd_isi B.isinstance h t (.tup _) (.ty _) (kit_ty kt_tuple_str) hg he rfl
  | dic => exact pd_isi B.isinstance h t .dic (.ty _) (kit_ty kt_dict_str) hg he rfl
  | ins fs c => exact pd_isi B.isinstance h t (.ins _ c.ci) (.ty _) c.str hg he rfl
theorem kitA {K : PySem.W.Frag} {t : Value} {b1 b2 : Bool} (h1 : PySem.W.kitOne K t (.type "list") = some b1) (h2 : PySem.W.kitOne K t (.type "tuple") = some b2) : PySem.W.kitAny K t [.type "list", .type "tuple"] = some (b1 || b2) := by
  refine kitAny_cons h1 (fun e => ?_) fun e => by rw [e]; rfl
  rw [e]
  refine kitAny_cons h2 (fun e => ?_) fun e => e
  rw [e]
  rfl
theorem pd_isListed (B : Bn X.mg) (k : Ok X.K d) (h : PD X a ρ d ρ1) {m : Nat} {p4 : Pos} (hg : Gl X "isinstance" := by rfl) (hg2 : Gl X "list" := by rfl) (hg3 : Gl X "tuple" := by rfl) (he : starEach [a, .Tuple [.Name "list" p2, .Name "tuple" p3] m p4] X.env = (false, eval a X.env) :: starEach [.Tuple [.Name "list" p2, .Name "tuple" p3] m p4] X.env := by rfl) : PD X (.Call (.Name "isinstance" p) [a, .Tuple [.Name "list" p2, .Name "tuple" p3] m p4] [] pos) ρ (.bl (isL d)) ρ1 := by
  have t := pd_tup (m := m) (pos := p4) (pad_cons (pd_tyList (pos := p2) (ρ := ρ1) B hg2) (pad_one (pd_tyTuple (pos := p3) B hg3) rfl) rfl) (by decide)
  have us : Paired ClD [.ty "list", .ty "tuple"] [.type "list", .type "tuple"] := .cons (.ty _) (.cons (.ty _) .nil)
  cases k with
  | non => exact pd_isiT B.isinstance h t .non us (kitA (b1 := false) (b2 := false) (kit_ty kt_NoneType_list) (kit_ty kt_NoneType_tuple)) hg he rfl
  | bl b => exact pd_isiT B.isinstance h t (.bl _) us (kitA (b1 := false) (b2 := false) (kit_ty kt_bool_list) (kit_ty kt_bool_tuple)) hg he rfl
  | int b => exact pd_isiT B.isinstance h t (.int _) us (kitA (b1 := false) (b2 := false) (kit_ty kt_int_list) (kit_ty kt_int_tuple)) hg he rfl
  | str b => exact pd_isiT B.isinstance h t (.str _) us (kitA (b1 := false) (b2 := false) (kit_ty kt_str_list) (kit_ty kt_str_tuple)) hg he rfl
  | lst b => exact pd_isiT B.isinstance h t (.lst _) us (kitA (b1 := true) (b2 := false) (kit_ty kt_list_list) (kit_ty kt_list_tuple)) hg he rfl
  | tup b => exact pd_isiT B.isinstance h t (.tup _) us (kitA (b1 := false) (b2 := true) (kit_ty kt_tuple_list) (kit_ty kt_tuple_tuple)) hg he rfl
  | dic => exact pd_isiT B.isinstance h t .dic us (kitA (b1 := false) (b2 := false) (kit_ty kt_dict_list) (kit_ty kt_dict_tuple)) hg he rfl
  | ins fs c => exact pd_isiT B.isinstance h t (.ins _ c.ci) us (kitA c.list c.tuple) hg he rfl
end
section
variable [Tb]
variable {P : Program} {w : World} {K : PySem.W.Frag} {mg : Str → Option Value} {base : Heap} {f : Addr} {fd : FuncData}
/-! ### is_integer, is_between -/
theorem sc_is_integer : FnScope ["value"] ["value"] (defScope (top 3)) := ⟨rfl, rfl, rfl, by decide +kernel, rfl, by decide +kernel, by decide +kernel⟩
def f_is_integer (ds : List D) (K : PySem.W.Frag) (r : D) : Prop := ∃ d, ds = [d] ∧ Ok K d ∧ r = .bl (isI d)
theorem ok_is_integer (F : FnP K "is_integer" (top 3) f fd) (B : Bn mg) : FnOk P w K mg base (L2.CX P w) 1 f fd ["value"] (spD 1 (fun ds r => f_is_integer ds K r) NoX) := by
  refine def_ok F sc_is_integer rfl fun cdv A outer s H E ds hr hl => ⟨fun r ⟨d, e1, e2, e3⟩ => ?_, fun cls fs z => z.elim⟩
  subst e1 e3
  have q : isI d = (isIB d && !isB d) := by cases d <;> rfl
  rw [q]
  exact hss_one (hs_ret (pd_andB (pd_isInt B e2 (pd_name 0)) fun _ => pd_and1 (pd_not (pd_isBool B e2 (pd_name 0)))) rfl)
def betw (lo hi : Int) : D → Bool
  | .int i => decide (lo ≤ i) && decide (i ≤ hi)
  | _ => false
theorem sc_is_between : FnScope ["value", "least", "most"] ["value", "least", "most"] (defScope (top 4)) := ⟨rfl, rfl, rfl, by decide +kernel, rfl, by decide +kernel, by decide +kernel⟩
def f_is_between (ds : List D) (K : PySem.W.Frag) (r : D) : Prop := ∃ d lo hi, ds = [d, .int lo, .int hi] ∧ Ok K d ∧ r = .bl (betw lo hi d)
theorem ok_is_between (F : FnP K "is_between" (top 4) f fd) (F1 : Def P w K mg base "is_integer" 1 (spD 1 (fun ds r => f_is_integer ds K r) NoX)) : FnOk P w K mg base (L2.CX P w) 2 f fd ["value", "least", "most"] (spD 3 (fun ds r => f_is_between ds K r) NoX) := by
  refine def_ok F sc_is_between rfl fun cdv A outer s H E ds hr hl => ⟨fun r ⟨d, lo, hi, e1, e2, e3⟩ => ?_, fun cls fs z => z.elim⟩
  subst e1 e3
  have q : betw lo hi d = (isI d && betw lo hi d) := by cases d <;> rfl
  rw [q]
  refine hss_one (hs_ret (pd_andB (pd_call F1 hr (pad_one (pd_name 0)) rfl ⟨d, rfl, e2, rfl⟩) fun e => ?_) rfl)
  cases d <;> cases e
  exact pd_and1 (pd_leLe (pd_name 1) (pd_name 0) (pd_name 2))
end
end K20

end
section
set_option maxHeartbeats 4000001
/-! K2: names, lists, orders. -/
namespace K20
open PySem PySem.Spec
open PyProof.Rows L2 DL
section
variable [Tb]
variable {P : Program} {w : World} {K : PySem.W.Frag} {mg : Str → Option Value} {base : Heap} {f : Addr} {fd : FuncData}
/-- the module's numbers and texts -/
structure Cs (mg : Str → Option Value) : Prop where
  signs : ∃ t, mg "MOST_SIGNS" = some (.int 8 t)
  letters : ∃ t, mg "LETTERS" = some (.str "abcdefghijklmnopqrstuvwxyz" t)
  tasks : ∃ t, mg "MOST_TASKS" = some (.int 5 t)
  round : ∃ t, mg "MOST_ROUND" = some (.int 600 t)
  work : ∃ t, mg "MOST_WORK" = some (.int 100000000 t)
  moment : ∃ t, mg "MOST_MOMENT" = some (.int 1000000 t)
theorem pd_cI {X : Cx} {ρ : Rho} {x : Str} {i : Int} {pos : Pos} (h : ∃ t, X.mg x = some (.int i t)) (hg : Gl X x := by rfl) (hd : (x == ("__debug__" : Str)) = false := by decide) : PD X (.Name x pos) ρ (.int i) ρ := by
  obtain ⟨t, e⟩ := h
  exact pd_glob (v := .int i) e ⟨t, rfl⟩ (fun _ => .int i) hg hd
theorem pd_cS {X : Cx} {ρ : Rho} {x : Str} {i : Str} {pos : Pos} (h : ∃ t, X.mg x = some (.str i t)) (hg : Gl X x := by rfl) (hd : (x == ("__debug__" : Str)) = false := by decide) : PD X (.Name x pos) ρ (.str i) ρ := by
  obtain ⟨t, e⟩ := h
  exact pd_glob (v := .str i) e ⟨t, rfl⟩ (fun _ => .str i) hg hd
def letters : Str := "abcdefghijklmnopqrstuvwxyz"
def isNameS (s : Str) : Bool := (decide (1 ≤ s.length) && decide (s.length ≤ 8)) && s.cps.toList.all fun c => decide (c ∈ letters.cps.toList)
def isName : D → Bool
  | .str s => isNameS s
  | _ => false
theorem sc_is_name : FnScope ["value", "sign"] ["value"] (defScope (top 5)) := ⟨rfl, rfl, rfl, by decide +kernel, rfl, by decide +kernel, by decide +kernel⟩
def f_is_name (ds : List D) (K : PySem.W.Frag) (r : D) : Prop := ∃ d, ds = [d] ∧ Ok K d ∧ r = .bl (isName d)
theorem ok_is_name (F : FnP K "is_name" (top 5) f fd) (B : Bn mg) (C : Cs mg) : FnOk P w K mg base (L2.CX P w) 1 f fd ["value"] (spD 1 (fun ds r => f_is_name ds K r) NoX) := by
  refine def_ok F sc_is_name rfl fun cdv A outer s H E ds hr hl => ⟨fun r ⟨d, e1, e2, e3⟩ => ?_, fun cls fs z => z.elim⟩
  subst e1 e3
  have no : isS d = false → isName d = false := by intro h; cases d <;> first | rfl | cases h
  cases q : isS d with
  | false =>
    rw [no q]
    exact hss_one (hs_ret (pd_and0 ((pd_isStr B e2 (pd_name 0)).is (congrArg D.bl q))) rfl)
  | true =>
    cases e2 with
    | non => cases q
    | bl b => cases q
    | int i => cases q
    | lst ds => cases q
    | tup ds => cases q
    | dic => cases q
    | ins fs c => cases q
    | str t ht =>
      have e : isName (.str t) = ((decide ((1 : Int) ≤ t.length) && decide ((t.length : Int) ≤ 8)) && (t.cps.toList.map fun c => decide (c ∈ letters.cps.toList)).all id) := by
        show ((decide (1 ≤ t.length) && decide (t.length ≤ 8)) && _) = _
        rw [List.all_map]
        have e1 : decide (1 ≤ t.length) = decide ((1 : Int) ≤ t.length) := by
          (rw [Bool.eq_iff_iff, decide_eq_true_eq, decide_eq_true_eq])
          omega
        have e2 : decide (t.length ≤ 8) = decide ((t.length : Int) ≤ 8) := by
          (rw [Bool.eq_iff_iff, decide_eq_true_eq, decide_eq_true_eq])
          omega
        rw [e1, e2]
        rfl
      rw [e]
      refine hss_one (hs_ret (pd_and (pd_isStr B (.str t ht) (pd_name 0)) (pd_andB (pd_leLe pd_int (pd_lenS B.len (pd_name 0) (by omega)) (pd_cI C.signs)) fun _ => pd_and1 (pd_all rfl B.all ?_))) rfl)
      refine PD.is (pd_frz (pso_lc (own := [("sign", 1)]) (fun d => match d with | .str ⟨a⟩ => some (.bl (a.toList.all fun c => decide (c ∈ letters.cps.toList))) | _ => none) rfl sc_is_name.nd (pid_str (pd_name 0)) (blkOk_by (show blkC ["value", "sign"] (defScope (top 5)) _ _ = true by decide +kernel)) (fun d hd => ?_) (hl := ?_))) ?_
      · obtain ⟨c, _, rfl⟩ := List.mem_map.mp (show d ∈ t.cps.toList.map _ from hd)
        refine ⟨[1], _, true, fun _ _ _ _ _ => pgd_name 1 sc_is_name.nd, by decide, rfl, ptsd_nil, fun _ => ⟨_, fun _ _ _ _ _ => pd_inSign (pd_name 1) (pd_cS C.letters), ?_⟩, fun z => by cases z⟩
        simp
        rfl
      · unfold strD
        (rw [List.length_map, Array.length_toList])
        exact Nat.le_trans ht (by decide)
      · congr 1
        unfold strD
        induction t.cps.toList with
        | nil => rfl
        | cons c l ih =>
          rw [List.map_cons, List.map_cons, List.map_cons, ← ih, List.filterMap_cons]
          simp
end
end K20

end
section
set_option maxHeartbeats 4000001
/-! K3: the order of texts; is_listed, ascends, are_unlike, common_part. -/
namespace K20
open PySem PySem.Spec
open PyProof.Rows L2 DL
/-! ### the order of texts -/
def ltS (a b : Str) : Bool := ltCps a.cps.toList b.cps.toList
theorem lt_irr : ∀ a : List Nat, ltCps a a = false
  | [] => rfl
  | x :: a => by
    unfold ltCps
    rw [lt_irr a]
    simp
theorem lt_tr : ∀ {a b c : List Nat}, ltCps a b = true → ltCps b c = true → ltCps a c = true
  | [], [], _, h, _ => by cases h
  | [], _ :: _, [], _, h => by
    unfold ltCps at h
    cases h
  | [], _ :: _, _ :: _, _, _ => rfl
  | _ :: _, [], _, h, _ => by
    unfold ltCps at h
    cases h
  | _ :: _, _ :: _, [], _, h => by
    unfold ltCps at h
    cases h
  | x :: a, y :: b, z :: c, h1, h2 => by
    unfold ltCps at h1 h2 ⊢
    simp only [Bool.or_eq_true, Bool.and_eq_true, decide_eq_true_eq, beq_iff_eq] at h1 h2 ⊢
    rcases h1 with h1 | ⟨h1, h3⟩
    · rcases h2 with h2 | ⟨h2, h4⟩
      · exact .inl (by omega)
      · exact .inl (by omega)
    · rcases h2 with h2 | ⟨h2, h4⟩
      · exact .inl (by omega)
      · exact .inr ⟨by omega, lt_tr h3 h4⟩
theorem lt_tot : ∀ {a b : List Nat}, ltCps a b = false → ltCps b a = false → a = b
  | [], [], _, _ => rfl
  | [], _ :: _, h, _ => by
    unfold ltCps at h
    cases h
  | _ :: _, [], _, h => by
    unfold ltCps at h
    cases h
  | x :: a, y :: b, h1, h2 => by
    unfold ltCps at h1 h2
    simp only [Bool.or_eq_false_iff, Bool.and_eq_false_iff, decide_eq_false_iff_not, beq_eq_false_iff_ne] at h1 h2
    obtain ⟨p1, q1⟩ := h1
    obtain ⟨p2, q2⟩ := h2
    have e : x = y := by omega
    subst e
    have r1 : ltCps a b = false := q1.elim (fun z => absurd rfl z) id
    have r2 : ltCps b a = false := q2.elim (fun z => absurd rfl z) id
    rw [lt_tot r1 r2]
theorem lt_as {a b : List Nat} (h : ltCps a b = true) : ltCps b a = false := by
  cases q : ltCps b a with
  | false => rfl
  | true =>
    have := lt_tr h q
    rw [lt_irr] at this
    cases this
theorem str_ext {a b : Str} (h : a.cps.toList = b.cps.toList) : a = b := by
  obtain ⟨⟨a⟩⟩ := a
  obtain ⟨⟨b⟩⟩ := b
  have : a = b := h
  rw [this]
/-- a, then b, may stand so -/
def leS (a b : Str) : Bool := !ltS b a
theorem leS_tr (a b c : Str) (h1 : leS a b = true) (h2 : leS b c = true) : leS a c = true := by
  unfold leS ltS at *
  simp only [Bool.not_eq_true'] at *
  cases q : ltCps c.cps.toList a.cps.toList with
  | false => rfl
  | true =>
    cases r : ltCps a.cps.toList b.cps.toList with
    | true =>
      rw [lt_tr q r] at h2
      cases h2
    | false =>
      have e := lt_tot r h1
      rw [e] at q
      rw [q] at h2
      cases h2
theorem leS_tot (a b : Str) : (leS a b || leS b a) = true := by
  unfold leS ltS
  cases q : ltCps b.cps.toList a.cps.toList with
  | false => rfl
  | true => rw [lt_as q]; rfl
theorem leS_anti {a b : Str} (h1 : leS a b = true) (h2 : leS b a = true) : a = b := by
  unfold leS ltS at *
  simp only [Bool.not_eq_true'] at *
  exact str_ext (lt_tot h2 h1)
def srtS (xs : List Str) : List Str := xs.mergeSort leS
theorem sortedS_pw : ∀ {xs : List Str}, sortedS xs = true → xs.Pairwise fun a b => leS a b = true
  | [], _ => .nil
  | [x], _ => by simp
  | x :: y :: r, h => by
    have h' : (!ltCps y.cps.toList x.cps.toList && risingS y r) = true := h
    rw [Bool.and_eq_true] at h'
    have ih := sortedS_pw (xs := y :: r) h'.2
    refine List.pairwise_cons.mpr ⟨fun z hz => ?_, ih⟩
    rcases List.mem_cons.mp hz with e | e
    · rw [e]
      exact h'.1
    · exact leS_tr x y z h'.1 ((List.pairwise_cons.mp ih).1 z e)
theorem perm_pw : ∀ {xs ys : List Str}, xs.Perm ys → (xs.Pairwise fun a b => leS a b = true) → (ys.Pairwise fun a b => leS a b = true) → xs = ys
  | [], ys, p, _, _ => (List.nil_perm.mp p).symm
  | x :: xs, [], p, _, _ => by
    have := p.length_eq
    cases this
  | x :: xs, y :: ys, p, h1, h2 => by
    have e : x = y := by
      have m1 : y ∈ x :: xs := p.mem_iff.mpr List.mem_cons_self
      have m2 : x ∈ y :: ys := p.mem_iff.mp List.mem_cons_self
      rcases List.mem_cons.mp m1 with e | m1
      · exact e.symm
      · rcases List.mem_cons.mp m2 with e | m2
        · exact e
        · exact leS_anti ((List.pairwise_cons.mp h1).1 y m1) ((List.pairwise_cons.mp h2).1 x m2)
    subst e
    rw [perm_pw (List.Perm.cons_inv p) (List.pairwise_cons.mp h1).2 (List.pairwise_cons.mp h2).2]
theorem srtS_perm (xs : List Str) : (srtS xs).Perm xs := List.mergeSort_perm xs leS
theorem srtS_pw (xs : List Str) : (srtS xs).Pairwise fun a b => leS a b = true := List.pairwise_mergeSort leS_tr leS_tot xs
theorem srtS_uniq {xs ys : List Str} (p : ys.Perm xs) (h : sortedS ys = true) : ys = srtS xs := perm_pw (p.trans (srtS_perm xs).symm) (sortedS_pw h) (srtS_pw xs)
/-- neighbours ascend -/
def asc (xs : List Str) : Bool := (List.zipWith (fun a b => ltS a b) xs xs.tail).all id
section
variable [Tb]
variable {P : Program} {w : World} {K : PySem.W.Frag} {mg : Str → Option Value} {base : Heap} {f : Addr} {fd : FuncData}
/-! ### is_listed -/
theorem sc_is_listed : FnScope ["value"] ["value"] (defScope (top 6)) := ⟨rfl, rfl, rfl, by decide +kernel, rfl, by decide +kernel, by decide +kernel⟩
def f_is_listed (ds : List D) (K : PySem.W.Frag) (r : D) : Prop := ∃ d, ds = [d] ∧ Ok K d ∧ r = .bl (isL d)
theorem ok_is_listed (F : FnP K "is_listed" (top 6) f fd) (B : Bn mg) : FnOk P w K mg base (L2.CX P w) 1 f fd ["value"] (spD 1 (fun ds r => f_is_listed ds K r) NoX) := by
  refine def_ok F sc_is_listed rfl fun cdv A outer s H E ds hr hl => ⟨fun r ⟨d, e1, e2, e3⟩ => ?_, fun cls fs z => z.elim⟩
  subst e1 e3
  exact hss_one (hs_ret (pd_isListed B e2 (pd_name 0)) rfl)
/-! ### ascends -/
theorem sc_ascends : FnScope ["some", "one", "other"] ["some"] (defScope (top 7)) := ⟨rfl, rfl, rfl, by decide +kernel, rfl, by decide +kernel, by decide +kernel⟩
def f_ascends (ds : List D) (r : D) : Prop := ∃ xs : List Str, ds = [.lst (xs.map D.str)] ∧ xs.length ≤ 1000 ∧ r = .bl (asc xs)
theorem cut_tail {xs : List D} : cutL xs (some 1) none = xs.tail := by
  unfold cutL
  cases xs with
  | nil => rfl
  | cons x xs =>
    have e : HT.sIx (x :: xs).length 0 (some 1) = 1 := by
      show min 1 (x :: xs).length = 1
      rw [List.length_cons]
      omega
    rw [e]
    show (List.drop 1 (x :: xs)).take ((x :: xs).length - 1) = xs
    (rw [List.length_cons, Nat.add_sub_cancel])
    exact List.take_length
theorem asc_fm : ∀ xs ys : List Str, (zipD (xs.map D.str) (ys.map D.str)).filterMap (fun d => match d with | .tup [.str a, .str b] => some (D.bl (ltS a b)) | _ => none) = (List.zipWith (fun a b => ltS a b) xs ys).map D.bl
  | [], _ => rfl
  | _ :: _, [] => rfl
  | x :: xs, y :: ys => congrArg (D.bl (ltS x y) :: ·) (asc_fm xs ys)
theorem ok_ascends (F : FnP K "ascends" (top 7) f fd) (B : Bn mg) : FnOk P w K mg base (L2.CX P w) 1 f fd ["some"] (spD 1 (fun ds r => f_ascends ds r) NoX) := by
  refine def_ok F sc_ascends rfl fun cdv A outer s H E ds hr hl => ⟨fun r ⟨xs, e1, e2, e3⟩ => ?_, fun cls fs z => z.elim⟩
  subst e1 e3
  refine hss_one (hs_ret (pd_all rfl B.all (bs := List.zipWith (fun a b => ltS a b) xs xs.tail) (PD.is (pd_frz (pso_lc (own := [("one", 1), ("other", 2)]) (fun d => match d with | .tup [.str a, .str b] => some (.bl (ltS a b)) | _ => none) rfl sc_ascends.nd
    (pid_zip B.zip (pd_name 0) (pd_frz (pso_slL (pd_name 0) (pod_some pd_int) pod_none))) (blkOk_by (show blkC ["some", "one", "other"] (defScope (top 7)) _ _ = true by decide +kernel)) (fun d hd => ?_) (hl := ?_))) ?_)) rfl)
  · obtain ⟨i, hi⟩ := List.getElem?_of_mem hd
    obtain ⟨x, y, hx, hy, rfl⟩ := zipD_get hi
    rw [cut_tail, ← List.map_tail, List.getElem?_map] at hy
    rw [List.getElem?_map] at hx
    cases q : xs[i]? with
    | none =>
      rw [q] at hx
      cases hx
    | some a =>
      cases q2 : xs.tail[i]? with
      | none =>
        rw [q2] at hy
        cases hy
      | some b =>
        rw [q] at hx
        rw [q2] at hy
        cases hx
        cases hy
        refine ⟨[1, 2], _, true, fun _ _ _ _ _ => pgd_tup rfl (pgds_cons (pgd_name 1 sc_ascends.nd) (pgds_cons (pgd_name 2 sc_ascends.nd) pgds_nil)), by decide, rfl, ptsd_nil, fun _ => ⟨_, fun _ _ _ _ _ => pd_ltS (pd_name 1) (pd_name 2), ?_⟩, fun z => by cases z⟩
        show some (D.bl (ltS a b)) = _
        unfold ltS
        rw [← lt_meets]
  · rw [zipD_len, List.length_map]
    exact Nat.le_trans (Nat.min_le_left _ _) (Nat.le_trans e2 (by decide))
  · congr 1
    rw [cut_tail, ← List.map_tail]
    exact asc_fm xs xs.tail
/-! ### are_unlike -/
theorem sc_are_unlike : FnScope ["some"] ["some"] (defScope (top 8)) := ⟨rfl, rfl, rfl, by decide +kernel, rfl, by decide +kernel, by decide +kernel⟩
def f_are_unlike (ds : List D) (r : D) : Prop := ∃ xs : List Str, ds = [.lst (xs.map D.str)] ∧ xs.length < 64 ∧ r = .bl (asc (srtS xs))
theorem ok_are_unlike (F : FnP K "are_unlike" (top 8) f fd) (B : Bn mg) (F1 : Def P w K mg base "ascends" 1 (spD 1 (fun ds r => f_ascends ds r) NoX)) : FnOk P w K mg base (L2.CX P w) 2 f fd ["some"] (spD 1 (fun ds r => f_are_unlike ds r) NoX) := by
  refine def_ok F sc_are_unlike rfl fun cdv A outer s H E ds hr hl => ⟨fun r ⟨xs, e1, e2, e3⟩ => ?_, fun cls fs z => z.elim⟩
  subst e1 e3
  refine hss_one (hs_ret (pd_call F1 hr (pad_one (pd_frz (pso_sortedS B.sorted (pd_name 0) e2 fun ys p h => srtS_uniq p h))) rfl ⟨srtS xs, rfl, ?_, rfl⟩) rfl)
  rw [(srtS_perm xs).length_eq]
  omega
/-! ### common_part -/
theorem sc_common_part : FnScope ["one", "other"] ["one", "other"] (defScope (top 9)) := ⟨rfl, rfl, rfl, by decide +kernel, rfl, by decide +kernel, by decide +kernel⟩
def f_common_part (ds : List D) (r : D) : Prop := ∃ a b : Nat, ds = [.int a, .int b] ∧ 0 < a ∧ r = .int (Nat.gcd a b : Nat)
theorem ok_common_part (F : FnP K "common_part" (top 9) f fd) (B : Bn mg) : FnOk P w K mg base (L2.CX P w) 1 f fd ["one", "other"] (spD 2 (fun ds r => f_common_part ds r) NoX) := by
  refine def_ok F sc_common_part rfl fun cdv A outer s H E ds hr hl => ⟨fun r ⟨a, b, e1, e2, e3⟩ => ?_, fun cls fs z => z.elim⟩
  subst e1 e3
  refine hss_cons (M := fun ρ => ρ = [some (.d (.int (Nat.gcd a b : Nat))), some (.d (.int (0 : Nat)))]) (hs_while PassesOwn.leaving (fun ρ => ∃ x y : Nat, ρ = [some (.d (.int x)), some (.d (.int y))] ∧ Nat.gcd x y = Nat.gcd a b ∧ 0 < x) (fun ρ => match ρ with | [_, some (.d (.int y))] => y.toNat | _ => 0) ⟨a, b, rfl, rfl, e2⟩ fun ρ ⟨x, y, h1, h2, h3⟩ => ?_) fun ρ h => ?_
  · subst h1
    refine ⟨decide ((0 : Int) < y), ptd_gt (pd_name 1) pd_int, fun hb => ?_, fun hb => ?_⟩
    · have hy : 0 < y := by
        have := of_decide_eq_true hb
        omega
      refine hss_one (hs_par 0 1 (pad_cons (pd_name 1) (pad_one (pd_mod (pd_name 0) (pd_name 1) (by omega)))) ⟨⟨y, x % y, ?_, ?_, hy⟩, ?_⟩ rfl sc_common_part.nd (hps := fun ht => ps_par rfl sc_common_part.nd rfl rfl (by decide) rfl rfl ht rfl))
      · show [some (S.d (.int y)), some (S.d (.int ((x : Int) % (y : Int))))] = _
        rw [Int.natCast_emod]
      · rw [← h2, Nat.gcd_comm x y, Nat.gcd_rec y x, Nat.gcd_comm]
      · show ((x : Int) % (y : Int)).toNat < (y : Int).toNat
        have := Int.emod_lt_of_pos (x : Int) (show (0 : Int) < y by omega)
        have := Int.emod_nonneg (x : Int) (show (y : Int) ≠ 0 by omega)
        omega
    · have hy : y = 0 := by
        have := of_decide_eq_false hb
        omega
      subst hy
      rw [Nat.gcd_zero_right] at h2
      show [some (S.d (.int x)), some (S.d (.int (0 : Nat)))] = _
      rw [h2]
  · subst h
    refine hss_one (hs_ret (PD.is (pd_max2 rfl B.max (pd_name 0) pd_int) ?_) rfl)
    have : 0 < Nat.gcd a b := Nat.gcd_pos_of_pos_left b e2
    congr 1
    omega
end
end K20

end
section
set_option maxHeartbeats 4000001
/-! DL8: own exceptions whose __init__ begins with super().__init__(..). -/
namespace DL
open PySem PySem.Spec
open PyProof.Rows L2 NdefX
/-- what the written part says of an own exception's class at C and its __init__ at f -/
structure SupC (P : Program) (K : PySem.W.Frag) (mg : Str → Option Value) (C f c cc : Addr) (name qual : Str) (params : Arguments) (body : List Stmt) (scope : Scope) (fd : FuncData) : Prop where
  T : OexC K C
  fn : ∃ (oc : Value) (od : Option Addr) (dV kV doc pm : Value) (an : Option Addr) (ct : Value) (osl : Array (Option Value)), fd = PySem.W.fnX name qual params body scope [("__class__", cc)] dV kV doc pm an (.ref c) ct ∧ K.lookup f = some ⟨oc, od, .func fd, osl⟩
  cd : PySem.W.codeIn K (.ref c) qual = true
  code : ∃ (oc : Value) (od : Option Addr) (vs : Array Value) (sl : Array (Option Value)) (file : Str) (tf : Tok), K.lookup c = some ⟨oc, od, .fields vs, sl⟩ ∧ vs[2]? = some (.str file tf) ∧ ((P.main.file : Str) == file) = true
  cell : ∃ (oc : Value) (od : Option Addr) (sl : Array (Option Value)), K.lookup cc = some ⟨oc, od, .cell (some (.ref C)), sl⟩
  opq : PySem.W.nsIn K cStatics "thirdparty.any" = some none
  sup : PySem.W.ks_superIn K C C "__init__" = some (some (.builtin "ValueError.__init__"))
  sub : PySem.W.subIn K (.ref C) (.type "ValueError") = some true
  cls : ∃ cd, PySem.W.clsIn K C = some cd
  self : PySem.W.mroIn K C (.ref C) = some true
  nos : mg "super" = none
  top : (P.main.scope.names.lookup ("super" : Str)).isSome = false
section
variable {X : Cx} {pins : List (Addr × Obj)}
variable {σ : L2.St} {H : Hp} {s : Shared}
theorem Inv.pin1 {u : Addr} {o : Obj} (I : Inv X pins σ H s) (e : s.heap.get? u = some o) (n : H u = none) (h1 : u ≠ X.env.locals) (h2 : u ∉ X.fs) (h3 : ∀ v, o.data ≠ .cell v) : Inv X ((u, o) :: pins) σ H s :=
  I.pins_of fun p hp => by
    (rcases List.mem_cons.mp hp with rfl | hp)
    · exact ⟨e, n, h1, h2, h3⟩
    · exact I.pin p (List.mem_append_right _ hp)
theorem Inv.unpin {u : Addr} {o : Obj} (I : Inv X ((u, o) :: pins) σ H s) : Inv X pins σ H s :=
  I.pins_of fun p hp => I.pin p (List.mem_append_right _ (.tail _ hp))
/-- the bound __init__ of ValueError called on an exception that is being made -/
theorem call_mw {u a C : Addr} {us : List Value} {Q : Value → Shared → Prop} {A : Around} {E : Value → Shared → Prop} (T : OexC X.K C) (I : Inv X pins σ H s) (hu : s.heap.get? u = some (PySem.W.kxs_mw "ValueError.__init__" a)) (e : H a = some (exo a C none)) (hl : us.length ≤ sizeLine)
    (h : ∀ s', Inv X pins σ H s' → Q .none s') : wpAny (model X.prog X.w) A (call (.ref u) us) Q E s := by
  (obtain ⟨nm, q, N, bs, bm, sn, sub, ab, col, dd, k0, k1, k2, k3, k5, hC, hbm⟩ := T.cls)
  (obtain ⟨t1, ho⟩ := exo_at I.hok e)
  have hC' := I.kIn _ _ hC
  obtain ⟨hp, g, d, t, os⟩ := s
  (refine wpAny_call (codeAny_of_tree ?_))
  show wpAny _ A.in1 (callAny (.ref u) ⟨us, []⟩) _ _ _
  simp only [callAny]
  (refine wpAny_bind (wpAny_load hu ?_))
  simp only [PySem.W.kxs_mw, show (Value.type "method-wrapper" == Value.type "method" || Value.type "method-wrapper" == Value.type "builtin_function_or_method" || Value.type "method-wrapper" == Value.type "method-wrapper") = true by decide, if_true]
  (refine PySem.W.KFB.if_so (by decide) ?_)
  refine wpAny_bind (PySem.ESX.check_bound F.excBase_ValueError hC' ho rfl ?_)
  (refine wpAny_bind (wpAny_pure (wpAny_pure ?_)))
  refine ⟨plainId_quiet F.excBase_ValueError.init.plain _, codeAny_builtin F.excBase_ValueError.initEntry ?_⟩
  refine PySem.W.exc_init_tree (cls := .ref C) (t0 := t1) (dv := none) (c2 := .none) (c3 := .none) (b4 := .bool false) ho hl fun h' k hx ht => ?_
  (have J := I.write (t' := t) (x := a) (e := a) (o := exo a C none) (by rw [e]; exact True.intro) (.inl rfl) k ⟨_, hx⟩ (exo_ok hx))
  have eu : upd H a (exo a C none) = H := by
    funext b
    by_cases hb : b = a
    · rw [hb, upd_same, e]
    · rw [upd_ne hb]
  rw [eu] at J
  exact h _ J
end
section
variable {CX : CXT} {P : Program} {w : World} {K : PySem.W.Frag} {mg : Str → Option Value} {base : Heap} {N ps : List Str} {C f c cc : Addr} {name qual : Str} {params : Arguments} {rest : List Stmt} {scope : Scope} {fd : FuncData} {p0 p1 p2 p3 p4 : Pos} {e : Expr} {es : List Expr} {k : Nat} {sp : Sp} {ar : Arg} {pl : Env → Sem Bool}
abbrev supB (p0 p1 p2 p3 p4 : Pos) (e : Expr) (es : List Expr) (rest : List Stmt) : List Stmt := .Expr (.Call (.Attribute (.Call (.Name "super" p0) [] [] p1) "__init__" p2) (e :: es) [] p3) p4 :: rest
theorem sup_ok (M : SupC P K mg C f c cc name qual params (supB p0 p1 p2 p3 p4 e es rest) scope fd) (S : NScope N ps ["__class__"] scope) (hks : scope.names.lookup ("super" : Str) = some .globalImplicit) (hp : (params.posonlyargs ++ params.args).head? = some ar) (h0 : N[0]? = some ar.arg) (hka : scope.names.lookup ar.arg = some .local)
    (len : ∀ vs H Q E, sp vs H Q E → vs.length = ps.length)
    (hbody : ∀ (A : Around) (outer : List Env) (s : Shared) (H : Hp) (vs : List V) (Q : VK) (E : XK), Room k (A.deeper (envF ⟨name, qual, params, supB p0 p1 p2 p3 p4 e es rest, scope, [("__class__", cc)], c⟩ f s.heap.objs.size)) → sp vs H Q E →
      ∃ (a : Addr) (ws : List V) (ta : TA) (t : TS), vs = .ref a :: ws ∧ H a = some (exo a C none) ∧ PA (ncx CX P w K mg base N ⟨name, qual, params, supB p0 p1 p2 p3 p4 e es rest, scope, [("__class__", cc)], c⟩ f A outer s H E) (e :: es) ta ∧ PSs (ncx CX P w K mg base N ⟨name, qual, params, supB p0 p1 p2 p3 p4 e es rest, scope, [("__class__", cc)], c⟩ f A outer s H E) rest t ∧
        ta (startF N vs [none]) H fun us H1 => us.length ≤ 1000 ∧ H1 a = some (exo a C none) ∧ t { nx := fun _ H' => Q .non H', rt := Q } (startF N vs [none]) H1)
    (hev : ∀ env : Env, eval (.Call (.Attribute (.Call (.Name "super" p0) [] [] p1) "__init__" p2) (e :: es) [] p3) env = (do
      let ov ← attributeBase (.Call (.Name "super" p0) [] [] p1) "__init__" env (eval (.Call (.Name "super" p0) [] [] p1) env)
      standAt p2.atName
      let (f, first) ← holding [ov] (getMethod ov "__init__" (pl env))
      callWith p3 f first (backTo p3 (starEach (e :: es) env)) []))
    (he : ∀ env, starEach (e :: es) env = (false, eval e env) :: starEach es env) (hpl : ∀ env, (backTo p3 (starEach es env)).any (·.1) = false) (hi : ∀ env : Env, env.scope = scope → interactive env = false) (hsw : ∀ env : Env, swapsWith (.Call (.Attribute (.Call (.Name "super" p0) [] [] p1) "__init__" p2) (e :: es) [] p3) none p4.line env = pure false) :
    FnOk P w K mg base CX (k + 1) f fd ps sp := by
  (refine ⟨len, fun A outer s H args us vs Q E hr e0 hb r hsp => ?_⟩)
  have hl := len _ _ _ _ hsp
  obtain ⟨oc, od, dV, kV, doc, pm, an, ct, osl, rfl, lk⟩ := M.fn
  have kin : K.In s.heap := e0.mod.kin.keeps fun b o e => (e0.bs b o e).1
  (have lim : s.heap.NoLimit := e0.mod.nolimit.keeps fun b o e => (e0.bs b o e).1)
  obtain ⟨cl, cld, csl, lkc⟩ := M.cell
  obtain ⟨oc2, od2, vsC, sl2, file, tf, lkd, hvs, hfile⟩ := M.code
  have bcc := e0.bs cc _ (e0.mod.kin _ _ lkc)
  have CA : CellsAt [("__class__", cc)] ["__class__"] [none] s.heap H := by
    refine ⟨rfl, fun y z q => ?_, fun x y z q1 q2 => ?_, fun i y q => ?_⟩
    · have : z = cc := by
        unfold List.lookup at q
        split at q
        · exact (Option.some.inj q).symm
        · cases q
      subst this
      exact ⟨bcc.2, _, _, bcc.1, rfl⟩
    · have g : ∀ x : Str, List.lookup x [("__class__", cc)] = some z → x = "__class__" := fun x q => by
        unfold List.lookup at q
        split at q
        · rename_i hh
          exact eq_of_beq hh
        · cases q
      rw [g x q1, g y q2]
    · match i, q with
      | 0, q =>
        cases q
        exact ⟨cc, rfl, fun v z => by cases z⟩
      | i + 1, q => cases q
  refine PySem.ks_codeAny_call_defAt (binds := ps.zip us) hr.depth (kin _ _ lk) rfl lim (PySem.W.codeRec_of kin M.cd) rfl hb S.nocell (fun ⟨n, _⟩ hy => S.par n (List.of_mem_zip hy).1) (fun h₁ hns kp => ?_) S.co S.gen S.kind
  show _root_.PySem.wpAt _ _ (.func _ (envF ⟨name, qual, params, supB p0 p1 p2 p3 p4 e es rest, scope, [("__class__", cc)], c⟩ f s.heap.objs.size)) (execs _ (envF ⟨name, qual, params, supB p0 p1 p2 p3 p4 e es rest, scope, [("__class__", cc)], c⟩ f s.heap.objs.size)) _ _ _
  have I : Inv (ncx CX P w K mg base N ⟨name, qual, params, supB p0 p1 p2 p3 p4 e es rest, scope, [("__class__", cc)], c⟩ f A outer s H E) [] (startF N vs [none]) H { s with heap := h₁, toks := s.toks + (ps.zip us).length } :=
    inv_startN (F := ⟨name, qual, params, supB p0 p1 p2 p3 p4 e es rest, scope, [("__class__", cc)], c⟩) S hr.hd e0 hl r CA hns kp
  obtain ⟨a, ws, ta, t, ev, ea, hta, ht, hq⟩ := hbody A outer s H vs Q E (hr.deeper _) hsp
  refine PySem.ks_wpAt_execs_cons (PySem.ks_wpAt_Expr_any (PySem.ks_wpAt_MethodCall (pl := pl _) ?_ (hev _)) (hi _ rfl) (hsw _))
  refine PySem.ks_wpAt_super_base (fd := _) (ar := ar) (vs := vsC) hks (S.frk _ (by simp)) (by decide) rfl (I.kIn _ _ lk) rfl hp rfl (I.kIn _ _ lkd) rfl hvs hfile M.top ?_
  obtain ⟨mb, hb1, hb2⟩ := I.mod.blt
  refine PySem.W.ks_loadName_global S.kind hks (Calls.loadGlobal_builtin (I.mod.glob.keeps I.bk) M.nos (hb1.keeps I.bk) ((hb2 _ (by decide)).trans (by decide +kernel : bootBuiltins "super" = some (.type "super"))) ⟨rfl, ?_⟩)
  refine wpAny_loadName_free S.kind (S.frk _ (by simp)) rfl ⟨_, I.kIn _ _ lkc, rfl⟩ ?_
  obtain ⟨m, hnl, hloc⟩ := id I.loc
  have hself : m ar.arg = some (.ref a) := by
    have e1 : (startF N vs [none])[0]? = some (some (.ref a)) := by
      subst ev
      rfl
    obtain ⟨u, ru, lu⟩ := hloc 0 ar.arg (.ref a) h0 e1 (.inl hka)
    (obtain rfl : u = Value.ref a := ru)
    rcases lu with ⟨_, z⟩ | ⟨z, _⟩
    · exact z
    · have z : scope.names.lookup ar.arg = some .cell ∨ scope.names.lookup ar.arg = some .free := z
      rw [hka] at z
      rcases z with z | z <;> cases z
  refine wpAny_loadName_local S.kind hka hnl hself ?_
  obtain ⟨t1, hx⟩ := exo_at I.hok ea
  obtain ⟨cdD, hcl⟩ := M.cls
  obtain ⟨oD, hD1, hD2⟩ : ∃ oD, h₁.get? C = some oD ∧ oD.data = .cls cdD := by
    have hD := hcl
    unfold PySem.W.clsIn at hD
    split at hD
    · rename_i c d cd' sl ho
      cases hD
      exact ⟨_, I.kIn _ _ ho, rfl⟩
    · cases hD
  refine PySem.ks_wpAny_isType_cls hD1 hD2 ⟨rfl, ?_⟩
  refine PySem.ks_wpAny_call_super hD1 hD2 hx rfl (fun _ z => by cases z) (PySem.W.looks_mroIn I.kIn M.self) (fun h' e2 k2 => ?_)
  have I2 := I.kept (t' := s.toks + (ps.zip us).length) k2
  have hx2 := k2 _ _ hx
  have IA : PySem.W.InstAt h' a { cls := .ref C, dict := none, data := .fields #[.ref t1, .none, .none, .none, .bool false, .none] } C none := ⟨hx2, rfl, rfl, trivial⟩
  have hm : PySem.W.alongIn K "__init__" ((cdD.mro.dropWhile (· != .ref C)).drop 1) = some (some (.builtin "ValueError.__init__")) := by
    have z := M.sup
    unfold PySem.W.ks_superIn at z
    rw [hcl] at z
    exact z
  refine PySem.W.kxs_getMethod PySem.W.kxs_ValueError (K := K) (l₀ := cdD.mro) e2 (PySem.W.looks_opaque I2.kIn M.opq) (fun A Q E s k q => wpAny_bind ((PySem.W.looks_clsIn I2.kIn hcl) A _ E s k (wpAny_pure q))) rfl I2.kIn hm (IA.type.andThen (PySem.W.looks_subIn I2.kIn M.sub)) (PySem.W.ks_ne I2.kIn IA hcl) (by decide) ?_
  have I3 := I2.kept (t' := s.toks + (ps.zip us).length + 1) (h' := h'.push (PySem.W.kxs_mw "ValueError.__init__" a)) fun b o z => Heap.get?_push_of_some _ z
  have I4 := Inv.pin1 (u := h'.objs.size) (o := PySem.W.kxs_mw "ValueError.__init__" a) I3 (Heap.get?_push_size _ rfl) (I2.hok.fresh (Nat.le_refl _)) (Nat.ne_of_gt I2.lt) (I2.nofs (Nat.le_refl _)) fun _ z => by cases z
  rw [he]
  refine PySem.W.kxs_callWith (i := "ValueError.__init__") (x := a) (by show (false || (backTo p3 (starEach es _)).any (·.1)) = false; rw [hpl]; rfl) (PySem.Calls.evalArgs_plain ?_)
  have hr1 := hta.run p3 _ _ _ H _ I4 hq
  rw [show starEach (e :: es) (ncx CX P w K mg base N ⟨name, qual, params, supB p0 p1 p2 p3 p4 e es rest, scope, [("__class__", cc)], c⟩ f A outer s H E).env = _ from he _] at hr1
  refine thn hr1 fun us2 s1 ⟨vs2, H1, I5, r1, hl1, ea1, q1⟩ => ?_
  have hu := (I5.pin _ (List.mem_append_right _ List.mem_cons_self)).1
  have hz : us2.length ≤ sizeLine := by
    (rw [← Paired.length r1, sizeLine_eq])
    omega
  refine ⟨hu, call_mw M.T I5 hu ea1 hz fun s2 J => ?_⟩
  refine PySem.wpAt_of_wpAny (wpAny_mono (ht.run [] s2 _ H1 _ (Inv.unpin J) q1) (fun fl s' hs => ?_) fun e s' hs => hs)
  have fin : ∀ {σ' : L2.St} {H' : Hp} {v : V} {u : Value}, Inv (ncx CX P w K mg base N ⟨name, qual, params, supB p0 p1 p2 p3 p4 e es rest, scope, [("__class__", cc)], c⟩ f A outer s H E) [] σ' H' s' → L2.RelV v u → Q v H' → CE outer P w H s Q u s' :=
    fun {σ' H' v u} J rv q => ⟨v, H', J.os, J.bare, J.base, J.hok, rv, q⟩
  cases fl with
  | ret u =>
    (obtain ⟨v, σ', H', J, rv, q⟩ := hs)
    exact fin J rv q
  | next =>
    obtain ⟨σ', H', J, q⟩ := hs
    exact fin (v := V.non) (u := Value.none) J rfl q
  | brk =>
    obtain ⟨_, _, _, q⟩ := hs
    exact False.elim q
  | cont =>
    obtain ⟨_, _, _, q⟩ := hs
    exact False.elim q
end
end DL

end
section
set_option maxHeartbeats 4000001
/-! K4: the errors. -/
namespace K20
open PySem PySem.Spec
open PyProof.Rows L2 DL
def spI1 (C : Addr) (x : Str) : Sp := fun vs H Q _ => ∃ a v, vs = [.ref a, v] ∧ H a = some (exo a C none) ∧ ∀ d, H d = none → d ≠ a → Q .non (upd (upd H d (exd d [(x, v)])) a (exo a C (some d)))
def spI2 (C : Addr) (x y : Str) : Sp := fun vs H Q _ => ∃ a v u, vs = [.ref a, v, u] ∧ H a = some (exo a C none) ∧ ∀ d, H d = none → d ≠ a → Q .non (upd (upd (upd H d (exd d [(x, v)])) a (exo a C (some d))) d (exd d [(y, u), (x, v)]))
section
variable {CX : CXT} {P : Program} {w : World} {K : PySem.W.Frag} {mg : Str → Option Value} {base : Heap} {C f c cc : Addr} {fd : FuncData} {qual : Str}
theorem ok_BadValue (M : SupC P K mg C f c cc "__init__" qual (defArgs (met (top 12) 0)) (defBody (met (top 12) 0)) (defScope (met (top 12) 0)) fd) (no : PySem.W.findIn K (.ref C) "part" = some none) :
    FnOk P w K mg base CX 1 f fd ["self", "part"] (spI1 C "part") := by
  refine sup_ok (N := ["self", "part", "__class__"]) (p4 := ⟨26, 8, 26, 30⟩) (pl := fun _ => _) M (NdefX.nscope_by (by decide +kernel)) rfl rfl rfl rfl (fun vs H Q E ⟨a, v, e, _⟩ => by rw [e]; rfl) (fun A outer s H vs Q E hr ⟨a, v, e, ha, q⟩ => ?_) (fun env => rfl) (fun env => rfl) (fun env => rfl) (fun env h => ?_) (fun env => rfl)
  · subst e
    refine ⟨a, [v], _, _, rfl, ha, pa_cons (pe_var (i := 1) rfl (.inl rfl)) pa_nil, pss_one (ps_ost (pe_var (i := 0) rfl (.inl rfl)) (pe_var (i := 1) rfl (.inl rfl)) rfl), ?_⟩
    exact ⟨v, rfl, Nat.le_add_left 1 999, ha, v, rfl, .ref a, rfl, a, C, rfl, M.T, no, .inl ⟨ha, fun dx n ne => q dx n ne⟩⟩
  · unfold interactive
    rw [h]
    rfl
theorem ok_TooMany (M : SupC P K mg C f c cc "__init__" qual (defArgs (met (top 16) 0)) (defBody (met (top 16) 0)) (defScope (met (top 16) 0)) fd) (no : PySem.W.findIn K (.ref C) "what" = some none) (no2 : PySem.W.findIn K (.ref C) "most" = some none) :
    FnOk P w K mg base CX 1 f fd ["self", "what", "most"] (spI2 C "what" "most") := by
  refine sup_ok (N := ["self", "what", "most", "__class__"]) (p4 := ⟨46, 8, 46, 36⟩) (pl := fun _ => _) M (NdefX.nscope_by (by decide +kernel)) rfl rfl rfl rfl (fun vs H Q E ⟨a, v, u, e, _⟩ => by rw [e]; rfl) (fun A outer s H vs Q E hr ⟨a, v, u, e, ha, q⟩ => ?_) (fun env => rfl) (fun env => rfl) (fun env => rfl) (fun env h => ?_) (fun env => rfl)
  · subst e
    refine ⟨a, [v, u], _, _, rfl, ha, pa_cons (pe_var (i := 1) rfl (.inl rfl)) (pa_cons (pe_var (i := 2) rfl (.inl rfl)) pa_nil), pss_cons (ps_ost (pe_var (i := 0) rfl (.inl rfl)) (pe_var (i := 1) rfl (.inl rfl)) rfl) (pss_one (ps_ost (pe_var (i := 0) rfl (.inl rfl)) (pe_var (i := 2) rfl (.inl rfl)) rfl)), ?_⟩
    refine ⟨v, rfl, u, rfl, Nat.le_add_left 2 998, ha, v, rfl, .ref a, rfl, a, C, rfl, M.T, no, .inl ⟨ha, fun dx n ne => ?_⟩⟩
    exact ⟨u, rfl, .ref a, rfl, a, C, rfl, M.T, no2, .inr ⟨dx, _, upd_same, (upd_ne ne).trans upd_same, Nat.le_add_left 1 899, q dx n ne⟩⟩
  · unfold interactive
    rw [h]
    rfl
end
end K20

end
section
set_option maxHeartbeats 4000001
/-! DL9: raise C(..) of an own exception. -/
namespace DL
open PySem PySem.Spec
open PyProof.Rows L2
open Evl (Ex)
/-- what an own exception's __init__ promises: the fields xs are what is given -/
def spI (C : Addr) (xs : List Str) : Sp := fun us H Q _ => ∃ (a : Addr) (vs : List V), us = .ref a :: vs ∧ vs.length = xs.length ∧ H a = some (exo a C none) ∧
  ∀ d H', H d = none → d ≠ a → H' a = some (exo a C (some d)) → H' d = some (exd d (xs.zip vs).reverse) → (∀ b, b ≠ a → b ≠ d → H' b = H b) → Q .non H'
structure ExcC (P : Program) (w : World) (K : PySem.W.Frag) (mg : Str → Option Value) (base : Heap) (x : Str) (C : Addr) (xs : List Str) : Prop where
  T : OexC K C
  gl : mg x = some (.ref C)
  ini : ∃ (f : Addr) (fd : FuncData) (ps : List Str), PySem.W.findIn K (.ref C) "__init__" = some (some (.ref f)) ∧ PySem.W.typeIn K (.ref f) = some (.type "function") ∧ FnOk P w K mg base (L2.CX P w) 1 f fd ps (spI C xs) ∧ Binds K fd ps []
section
variable [Tb]
variable {X : Cx} {W : WX} {ow : Bool} {ρ ρ' : Rho} {P : Po} {e : Expr} {es : List Expr} {ds : List D} {x : Str} {C : Addr} {xs : List Str} {p pos pos2 : Pos}
theorem atf_zip {G : Hp} : ∀ {xs : List Str} {vs : List V} {ds : List D}, Ats G vs ds → Atf G (xs.zip vs) (xs.zip ds)
  | [], _, _, _ => .nil
  | _ :: _, _, _, .nil => .nil
  | _ :: _, _, _, .cons h hs => .cons h (atf_zip hs)
theorem Atf.append {G : Hp} : ∀ {vs ws : List (Str × V)} {ds es : List (Str × D)}, Atf G vs ds → Atf G ws es → Atf G (vs ++ ws) (ds ++ es)
  | _, _, _, _, .nil, k => k
  | _, _, _, _, .cons h hs, k => .cons h (hs.append k)
theorem Atf.reverse {G : Hp} : ∀ {vs : List (Str × V)} {ds : List (Str × D)}, Atf G vs ds → Atf G vs.reverse ds.reverse
  | _, _, .nil => .nil
  | _, _, .cons h hs => by
    (rw [List.reverse_cons, List.reverse_cons])
    exact hs.reverse.append (.cons h .nil)
theorem hs_raise (tk : Takes X W) (R : ExcC X.prog X.w X.K X.mg X.base x C xs) (hr : Room 2 X.A) (ha : PAD X (e :: es) ρ ds ρ') (hl : ds.length = xs.length) (hz : ds.length ≤ 1000) (k : P.ex (.ref C) (xs.zip ds).reverse ρ') (hg : Gl X x := by rfl) (hc : X.calm = true := by rfl)
    (hdb : (x == ("__debug__" : Str)) = false := by decide) (he : starEach (e :: es) X.env = (false, eval e X.env) :: starEach es X.env := by rfl) (hpl : (backTo pos (starEach es X.env)).any (·.1) = false := by rfl) : HS X W ow (.Raise (some (.Call (.Name x p) (e :: es) [] pos)) none pos2) ρ P := by
  obtain ⟨f, fd, ps, h1, h2, h3, h4⟩ := R.ini
  refine ps_weak (ps_raise hc tk (pmk_oex (dvs := []) R.T h1 h2 h3 hr h4 .nil passF hg R.gl ha hdb he hpl)) fun Dn σ H ⟨w, Ge, He, G, hw, n, k1, k2, k3, k4, k5⟩ => ?_
  refine ⟨G, n.gh, n.sl, fun vs G1 H1 g1 a1 => ⟨by rw [a1.length]; exact hz, fun a ha => ?_⟩⟩
  refine ⟨a, vs, by rw [List.append_nil], a1.length.trans hl, upd_same, fun d H' hd hda e1 e2 e3 => ⟨rfl, d, _, e1, e2, ?_, ?_⟩⟩
  · rw [upd_ne hda] at hd
    exact hd
  · have hd1 : H1 d = none := by
      rw [upd_ne hda] at hd
      exact hd
    have eq : upd (del H' a) d (.xd (xs.zip vs).reverse) = upd H1 d (.xd (xs.zip vs).reverse) := by
      funext b
      by_cases q : b = d
      · rw [q, upd_same, upd_same]
      · rw [upd_ne q, upd_ne q]
        by_cases q2 : b = a
        · rw [q2, del_same, ha]
        · rw [del_ne q2, e3 b q2 q, upd_ne q2]
    rw [eq]
    have gr : Grow G1 H1 G1 (upd H1 d (.xd (xs.zip vs).reverse)) := Grow.fresh g1.gh hd1
    have st := g1.trans (gr.step g1.sl)
    exact k5 _ d _ _ σ G1 _ ρ' (n.step st) st.g (n.back g1 (by
      cases z : H d with
      | none => rfl
      | some o => exact absurd hd1 (g1.al d (some_ne z)))) upd_same (atf_zip a1).reverse k
end
end DL

end
section
set_option maxHeartbeats 4000001
/-! DL10: sorted(xs, key=f) with texts as keys. -/
namespace DL
open PySem PySem.Spec
open PyProof.Rows L2
section
variable {X : Cx} {pins : List (Addr × Obj)}
variable {σ : L2.St} {H : Hp} {s : Shared}
/-- a pinned record of ours is written -/
theorem Inv.repin {u : Addr} {o o' : Obj} {h' : Heap} {t' : Nat} (I : Inv X ((u, o) :: pins) σ H s) (k : ∀ b z, b ≠ u → s.heap.get? b = some z → h'.get? b = some z) (e : h'.get? u = some o') (h3 : ∀ p ∈ X.pn ++ pins, p.1 ≠ u) (hu : X.s_0.heap.objs.size ≤ u) (hd : ∀ v, o'.data ≠ .cell v) :
    Inv X ((u, o') :: pins) σ H { s with heap := h', toks := t' } := by
  obtain ⟨p1, p2, p3, p4, p5⟩ := I.pin (u, o) (List.mem_append_right _ List.mem_cons_self)
  have nc : ∀ x c, X.env.cells.lookup x = some c → c ≠ u := fun x c q z => by
    obtain ⟨v, ob, a1, a2⟩ := I.cell x c q
    rw [z, p1] at a1
    cases a1
    exact p5 v a2
  have J := (Inv.unpin I).turned (t' := t') k p2 p3 (.inr hu) nc h3
  exact Inv.pin1 J e p2 p3 p4 hd
theorem Inv.swap {p q : Addr × Obj} (I : Inv X (p :: q :: pins) σ H s) : Inv X (q :: p :: pins) σ H s := I.pins_of fun r hr => I.pin r (List.mem_append_right _ (by
  (rcases List.mem_cons.mp hr with rfl | hr)
  · exact .tail _ (.head _)
  · rcases List.mem_cons.mp hr with rfl | hr
    · exact .head _
    · exact .tail _ (.tail _ hr)))
/-- a pinned object of ours is tracked from now on -/
theorem Inv.track {a : Addr} {o : Obj} {u : HO} (I : Inv X ((a, o) :: pins) σ H s) (h0 : X.s_0.heap.objs.size ≤ a) (hp : ∀ p ∈ X.pn ++ pins, p.1 ≠ a) (new : ObjOk X.prog X.w (upd H a u) s.heap a u) : Inv X pins σ (upd H a u) s := by
  obtain ⟨p1, hn, hL, hf, hd⟩ := I.pin (a, o) (List.mem_append_right _ List.mem_cons_self)
  have lt : ∀ b z, X.s_0.heap.get? b = some z → b ≠ a := fun b z e => Nat.ne_of_lt (Nat.lt_of_lt_of_le (Heap.lt_size e) h0)
  have na : ∀ b v, H b = some v → b ≠ a := fun b v e => ne_of_none e hn
  refine ⟨I.ok, I.os, I.bare, ⟨I.base.keep, I.base.slot, fun b z e n hx => ?_, I.base.there, fun b xs e => ?_, fun b z v e => ?_, fun b ps e => ?_⟩, I.loc, I.cell, ?_, fun x c e => ?_, fun p hq => ?_, I.hok.laidN (fun _ _ e => e) hn new, I.len⟩
  · rw [upd_ne (lt b z e)]
    exact I.base.free b z e n hx
  · rw [upd_ne (na b _ (I.base.tups b xs e))]
    exact I.base.tups b xs e
  · rw [upd_ne (na b _ (I.base.frzs b z v e))]
    exact I.base.frzs b z v e
  · obtain ⟨more, q⟩ := I.base.tbls b ps e
    exact ⟨more, by rw [upd_ne (na b _ q)]; exact q⟩
  · rw [upd_ne hL.symm]
    exact I.free
  · have nc : c ≠ a := fun z => by
      obtain ⟨v, ob, a1, a2⟩ := I.cell x c e
      rw [z, p1] at a1
      cases a1
      exact hd v a2
    rw [upd_ne nc]
    exact I.freeC x c e
  · obtain ⟨q1, q2, q3⟩ := I.pin p (by
      rcases List.mem_append.mp hq with z | z
      · (exact List.mem_append_left _ z)
      · (exact List.mem_append_right _ (.tail _ z)))
    exact ⟨q1, by rw [upd_ne (hp p hq)]; exact q2, q3⟩
/-- where the sorting stands: the list at a, the store of keys at kS -/
structure KArea (X : Cx) (pins : List (Addr × Obj)) (a kS : Addr) : Prop where
  ne : kS ≠ a
  ua : X.s_0.heap.objs.size ≤ a
  uk : X.s_0.heap.objs.size ≤ kS
  pa : ∀ p ∈ X.pn ++ pins, p.1 ≠ a
  pk : ∀ p ∈ X.pn ++ pins, p.1 ≠ kS
/-- out is vs in the order of the keys ks -/
def KOut (ks : List Str) (vs out : List Value) : Prop := ∃ ps : List (Str × Value), ps.Perm (ks.zip vs) ∧ out = ps.map (·.2) ∧ ps.Pairwise fun p q => ¬ q.1.cps.toList < p.1.cps.toList
variable {a kS : Addr} {vs : List Value} {ks : List Str} {keys : Array Value} {e e1 : Nat} {P : PySem.Fin → Shared → Prop} {A : Around} {E : Value → Shared → Prop}
theorem KArea.k2 {o : Obj} (K : KArea X pins a kS) : ∀ p ∈ X.pn ++ (a, o) :: pins, p.1 ≠ kS := fun p hp => by
  (rcases List.mem_append.mp hp with z | z)
  · exact K.pk p (List.mem_append_left _ z)
  · rcases List.mem_cons.mp z with rfl | z
    · exact K.ne.symm
    · exact K.pk p (List.mem_append_right _ z)
theorem KArea.a2 {o : Obj} (K : KArea X pins a kS) : ∀ p ∈ X.pn ++ (kS, o) :: pins, p.1 ≠ a := fun p hp => by
  (rcases List.mem_append.mp hp with z | z)
  · exact K.pa p (List.mem_append_left _ z)
  · rcases List.mem_cons.mp z with rfl | z
    · exact K.ne
    · exact K.pa p (List.mem_append_right _ z)
theorem kout_of (hk : StrsAre keys.toList ks) (hl : ks.length = vs.length) {xs : Array Keyed} (hp : xs.Perm (keys.zip vs.toArray)) (hs : SortedToK strKind xs xs.size) : KOut ks vs (xs.map (·.2)).toList := by
  have h1 : xs.toList.Perm (keys.toList.zip vs) := by
    have q := Array.perm_iff_toList_perm.mp hp
    rw [ksk_zip] at q
    exact q
  have hm : ∀ p ∈ xs.toList, ∃ x t, p.1 = Value.str x t := fun p z => hk.all _ (List.of_mem_zip (h1.mem_iff.mp z : (p.1, p.2) ∈ keys.toList.zip vs)).1
  refine ⟨xs.toList.map fun p => (strOf p.1, p.2), ?_, ?_, ?_⟩
  · have h2 := h1.map fun p : Keyed => (strOf p.1, p.2)
    have e2 : (keys.toList.zip vs).map (fun p : Keyed => (strOf p.1, p.2)) = ks.zip vs := by
      have z : ∀ {ls : List Value} {xs : List Str} {us : List Value}, StrsAre ls xs → (ls.zip us).map (fun p : Keyed => (strOf p.1, p.2)) = xs.zip us := by
        intro ls xs us h
        induction h generalizing us with
        | nil => rfl
        | cons y t h ih => cases us with
          | nil => rfl
          | cons u us => exact congrArg (List.cons (y, u)) ih
      exact z hk
    rw [e2] at h2
    exact h2
  · rw [Array.toList_map, List.map_map]
    rfl
  · rw [List.pairwise_map, List.pairwise_iff_getElem]
    intro i j hi hj hij
    have hi2 : i < xs.size := by simpa using hi
    have hj2 : j < xs.size := by simpa using hj
    have q := hs i j (Nat.le_of_lt hij) hj2
    obtain ⟨x, t, ex⟩ := hm xs[i] (by simp)
    obtain ⟨y, u, ey⟩ := hm xs[j] (by simp)
    rw [KK_str hi2 (x := x) (t := t) (q := xs[i].2) (Prod.ext ex rfl), KK_str hj2 (x := y) (t := u) (q := xs[j].2) (Prod.ext ey rfl)] at q
    have q' : ¬ y.cps.toList < x.cps.toList := of_decide_eq_false q
    (simp only [Array.getElem_toList])
    rw [show strOf xs[i].1 = x by rw [ex]; rfl, show strOf xs[j].1 = y by rw [ey]; rfl]
    exact q'
theorem strs_len : ∀ {us : List Value} {xs : List Str}, StrsAre us xs → us.length = xs.length
  | _, _, .nil => rfl
  | _, _, .cons _ _ h => congrArg Nat.succ (strs_len h)
theorem key_tail {st : SortSt} (I : Inv X ((kS, seqObj "list" keys e) :: (a, seqObj "list" #[] e1) :: pins) σ H s) (K : KArea X pins a kS) (hk : StrsAre keys.toList ks) (hl : ks.length = vs.length) (h64 : vs.length < 64) (hp : (arrOf st).Perm (keys.zip vs.toArray)) (hs : SortedToK strKind (arrOf st) (arrOf st).size) (hf : failedOf st = none)
    (h : ∀ s' out c, Inv X ((a, seqObj "list" out c) :: pins) σ H s' → KOut ks vs out.toList → P (.done (.ret .none)) s') : wpAny (model X.prog X.w) A (ksk_tail a false e1 (.ref kS) st) P E s := by
  have nk := (I.pin _ (List.mem_append_right _ (.head _))).1
  have na := (I.pin _ (List.mem_append_right _ (.tail _ (.head _)))).1
  have z1 : keys.size = vs.length := by
    have q := strs_len hk
    rw [Array.length_toList] at q
    omega
  have z2 : ((arrOf st).map (·.2)).size = vs.length := by rw [Array.size_map, hp.size_eq, Array.size_zip, z1, List.size_toArray, Nat.min_self]
  have big : 64 ≤ sizeLine := by rw [sizeLine_eq]; omega
  have n1 := get?_update_seq nk fun _ => (#[] : Array Value)
  have I1 := Inv.repin I (t' := s.toks) (fun b z hb q => (Heap.get?_update_ne _ _ _ _ hb).trans q) n1 K.k2 K.uk (fun _ z => by cases z)
  have na1 := (I1.pin _ (List.mem_append_right _ (.tail _ (.head _)))).1
  have n2 := get?_update_seq na1 fun _ => (arrOf st).map (·.2)
  have I2 := Inv.repin (t' := s.toks) (Inv.unpin I1) (fun b z hb q => (Heap.get?_update_ne _ _ _ _ hb).trans q) n2 K.pa K.ua (fun _ z => by cases z)
  unfold ksk_tail
  dsimp only
  refine wpAny_bind (listUpdate_at nk rfl ?_ (by omega) (Nat.zero_le _))
  (refine wpAny_bind (wpAny_letGo ?_))
  (refine wpAny_bind (seqEpoch_at na1 rfl ?_))
  refine wpAny_bind (listUpdate_at na1 rfl ?_ (Nat.zero_le _) (by
    show ((arrOf st).map (·.2)).size ≤ _
    omega))
  rw [hf]
  (simp only [bne_self_eq_false, Bool.false_eq_true, if_false])
  exact wpAny_pure (h _ _ _ I2 (kout_of hk hl hp hs))
theorem key_kind (hk : StrsAre keys.toList ks) (h2 : 2 ≤ keys.size) : keyKind' keys = pure oneType' := by
  have e0 : keys = keys.toList.toArray := by simp
  rw [e0]
  have hl : 2 ≤ keys.toList.length := by simpa using h2
  revert hk hl
  generalize keys.toList = l
  intro hk hl
  match l, hl, hk with
  | _ :: _ :: _, _, hk => exact keyKind_strs hk
theorem key_end (I : Inv X ((kS, seqObj "list" keys e) :: (a, seqObj "list" #[] e1) :: pins) σ H s) (K : KArea X pins a kS) (hk : StrsAre keys.toList ks) (hl : ks.length = vs.length) (h64 : vs.length < 64)
    (h : ∀ s' out c, Inv X ((a, seqObj "list" out c) :: pins) σ H s' → KOut ks vs out.toList → P (.done (.ret .none)) s') : wpAny (model X.prog X.w) A (ksk_end a false vs.toArray e1 (.ref kS) keys) P E s := by
  have z1 : keys.size = vs.length := by
    have q := strs_len hk
    rw [Array.length_toList] at q
    omega
  have z2 : (keys.zip vs.toArray).size = vs.length := by rw [Array.size_zip, z1, List.size_toArray, Nat.min_self]
  unfold ksk_end
  dsimp only
  rw [if_neg (by decide : ¬ (false = true))]
  (by_cases h2 : vs.toArray.size < 2)
  · rw [if_pos h2, if_pos h2]
    (refine wpAny_bind (wpAny_pure ?_))
    rw [StateT.run_pure]
    (refine wpAny_bind (wpAny_pure ?_))
    refine key_tail I K hk hl h64 (st := SortSt.mk' general' (keys.zip vs.toArray) #[] 7 none) (Array.Perm.refl _) (fun i j q r => ?_) rfl h
    have r : j < (keys.zip vs.toArray).size := r
    rw [z2] at r
    rw [List.size_toArray] at h2
    obtain rfl : i = j := by omega
    exact KeyOrd.kle_refl _
  · rw [if_neg h2, if_neg h2]
    rw [List.size_toArray] at h2
    rw [key_kind hk (by omega)]
    (refine wpAny_bind (wpAny_pure ?_))
    have hks : KeysOf strKind (keys.zip vs.toArray) := fun p q => by
      rw [ksk_zip] at q
      obtain ⟨x, t, ex⟩ := hk.all _ (List.of_mem_zip (q : (p.1, p.2) ∈ keys.toList.zip vs)).1
      exact ⟨x.cps.toList, by rw [ex]⟩
    refine wpAny_bind (wpAny_mono (wpS_sortRunsK (κ := strKind) strKind_oneLt (a₀ := keys.zip vs.toArray) (st := SortSt.mk' oneType' (keys.zip vs.toArray) #[] 7 none) (Q := fun _ st' => ((arrOf st').Perm (keys.zip vs.toArray) ∧ SortedToK strKind (arrOf st') (keys.zip vs.toArray).size) ∧ failedOf st' = none)
      hks ⟨Array.Perm.refl _, rfl, rfl, rfl⟩ (by omega) (by omega) fun st' a1 a2 a3 => ⟨⟨a1, a3⟩, a2⟩) ?_ fun _ _ z => z)
    rintro ⟨⟨⟩, st'⟩ s' ⟨rfl, ⟨hp, hs⟩, hf⟩
    exact key_tail I K hk hl h64 hp (by rw [hp.size_eq]; exact hs) hf h
/-- what the key function does with each item -/
def Turn (X : Cx) (A : Around) (σ : L2.St) (H : Hp) (f : Value) (vs : List Value) (ks : List Str) : Prop :=
  ∀ (i : Nat) (v : Value) (k : Str), vs[i]? = some v → ks[i]? = some k → ∀ (pins : List (Addr × Obj)) (s : Shared), Inv X pins σ H s → wpAny (model X.prog X.w) A (call f [v]) (fun u s' => (∃ t, u = .str k t) ∧ Inv X pins σ H s') (fun _ _ => False) s
theorem strs_snoc {x : Str} {t : Tok} : ∀ {us : List Value} {xs : List Str}, StrsAre us xs → StrsAre (us ++ [.str x t]) (xs ++ [x])
  | _, _, .nil => .cons x t .nil
  | _, _, .cons y u h => .cons y u (strs_snoc h)
theorem key_rest {f : Value} (I : Inv X ((kS, seqObj "list" #[] 0) :: (a, seqObj "list" #[] e1) :: pins) σ H s) (K : KArea X pins a kS) (hl : ks.length = vs.length) (h64 : vs.length < 64) (tn : Turn X A σ H f vs ks)
    (h : ∀ s' out c, Inv X ((a, seqObj "list" out c) :: pins) σ H s' → KOut ks vs out.toList → P (.done (.ret .none)) s') : wpAny (model X.prog X.w) A (ksk_rest a f false vs.toArray e1 (.ref kS)) P E s := by
  have big : 64 ≤ sizeLine := by rw [sizeLine_eq]; omega
  unfold ksk_rest
  (refine wpAny_bind (wpAny_rule ?_))
  first
    | rw [List.forIn_toArray]
    | rw [← Array.forIn_toList]
  refine wpAny_bind (ksk_fold (fun i z => ∃ kA ep, Inv X ((kS, seqObj "list" kA ep) :: (a, seqObj "list" #[] e1) :: pins) σ H z ∧ StrsAre kA.toList (ks.take i)) vs 0 s ⟨#[], 0, I, .nil⟩ ?one ?all)
  case one =>
    rintro j x z hx ⟨kA, ep, J, hkA⟩
    simp only [Nat.zero_add] at hkA ⊢
    (have hj : j < vs.length := (List.getElem?_eq_some_iff.mp hx).1)
    obtain ⟨k, hkj⟩ : ∃ k, ks[j]? = some k := ⟨_, List.getElem?_eq_getElem (by omega)⟩
    have zA : kA.size ≤ vs.length := by
      have q := strs_len hkA
      rw [Array.length_toList, List.length_take] at q
      omega
    refine wpAny_bind (wpAny_attempt (wpAny_mono (tn j x k hx hkj _ z J) (fun v z2 hv => ?_) fun _ _ q => q.elim))
    obtain ⟨⟨t, rfl⟩, J2⟩ := hv
    dsimp only
    have nk := (J2.pin _ (List.mem_append_right _ (.head _))).1
    have n1 := get?_update_seq nk (·.push (.str k t))
    have J3 := Inv.repin J2 (t' := z2.toks) (fun b q hb r => (Heap.get?_update_ne _ _ _ _ hb).trans r) n1 K.k2 K.uk (fun _ q => by cases q)
    have ek : ks.take (j + 1) = ks.take j ++ [k] := by
      rw [List.take_add_one, hkj]
      rfl
    refine wpAny_bind (listUpdate_at nk rfl ?_ (by omega) (by
      show (kA.push _).size ≤ _
      rw [Array.size_push]
      omega))
    refine wpAny_pure ⟨rfl, _, _, J3, ?_⟩
    rw [ek, Array.toList_push]
    exact strs_snoc hkA
  case all =>
    rintro z ⟨kA, ep, J, hkA⟩
    have hkA' : StrsAre kA.toList ks := by
      have e3 : ks.take (0 + vs.length) = ks := List.take_of_length_le (by omega)
      rw [e3] at hkA
      exact hkA
    have nk := (J.pin _ (List.mem_append_right _ (.head _))).1
    refine wpAny_bind (listItems_at nk rfl ?_)
    exact key_end J K hkA' hl h64 h
theorem pins_lt (I : Inv X pins σ H s) : ∀ p ∈ X.pn ++ pins, p.1 < s.heap.objs.size := fun p hp => Heap.lt_size (I.pin p hp).1
theorem pin_new {o : Obj} {t' : Nat} (I : Inv X pins σ H s) (hd : ∀ v, o.data ≠ .cell v) (hfr : o.isFreed = false := by rfl) : Inv X ((s.heap.objs.size, o) :: pins) σ H { s with heap := s.heap.push o, toks := t' } :=
  Inv.pin1 (I.kept (t' := t') fun b z q => Heap.get?_push_of_some _ q) (Heap.get?_push_size _ hfr) (I.hok.fresh (Nat.le_refl _)) (Nat.ne_of_gt I.lt) (I.nofs (Nat.le_refl _)) hd
theorem key_tree {f : Value} {n : Nat} (I : Inv X ((a, seqObj "list" vs.toArray n) :: pins) σ H s) (ua : X.s_0.heap.objs.size ≤ a) (pa : ∀ p ∈ X.pn ++ pins, p.1 ≠ a) (hl : ks.length = vs.length) (h64 : vs.length < 64) (tn : Turn X A σ H f vs ks)
    (h : ∀ s' out c, Inv X ((a, seqObj "list" out c) :: pins) σ H s' → KOut ks vs out.toList → P (.done (.ret .none)) s') : wpAny (model X.prog X.w) A (ksk_tree a f false) P E s := by
  have big : 64 ≤ sizeLine := by rw [sizeLine_eq]; omega
  have na := (I.pin _ (List.mem_append_right _ (.head _))).1
  have n1 := get?_update_seq na fun _ => (#[] : Array Value)
  have I1 := Inv.repin I (t' := s.toks) (fun b z hb q => (Heap.get?_update_ne _ _ _ _ hb).trans q) n1 pa ua (fun _ z => by cases z)
  have I2 := I1.kept (t' := s.toks) (h' := (s.heap.update a (Obj.mapSeq fun _ => (#[] : Array Value))).push (seqObj "tuple" vs.toArray 0)) fun b z q => Heap.get?_push_of_some _ q
  have I3 := pin_new (o := seqObj "list" #[] 0) (t' := s.toks) I2 fun _ z => by cases z
  unfold ksk_tree
  refine wpAny_bind (listItems_at na rfl ?_)
  refine wpAny_bind (listUpdate_at na rfl ?_ (by rw [List.size_toArray]; omega) (Nat.zero_le _))
  refine wpAny_bind (seqEpoch_at n1 rfl ?_)
  refine wpAny_bind (wpAny_newTuple ?_ (by show vs.length ≤ _; omega))
  (refine wpAny_bind (wpAny_newList ?_ (Nat.zero_le _)))
  refine wpAny_holding ?_
  have lt := pins_lt I2
  exact key_rest I3 ⟨fun z => absurd z (Nat.ne_of_gt (lt (a, _) (List.mem_append_right _ (.head _)))), ua, I2.sz, pa, fun p hp => Nat.ne_of_lt (lt p (by
    (rcases List.mem_append.mp hp with z | z)
    · (exact List.mem_append_left _ z)
    · exact List.mem_append_right _ (.tail _ z)))⟩ hl h64 tn h
theorem sorted_key {l f : Addr} {T : String} {o : Obj} {its : Array Value} {n : Nat} {Q : Value → Shared → Prop} (I : Inv X pins σ H s) (hT : T = "list" ∨ T = "tuple") (ho : s.heap.get? l = some o) (hc : o.cls = .type T) (hd : o.data = .seq its n) (hv : its.toList = vs) (hl : ks.length = vs.length) (h64 : vs.length < 64) (tn : Turn X A.in1.in1 σ H (.ref f) vs ks)
    (h : ∀ s' D out c, Inv X ((D, seqObj "list" out c) :: pins) σ H s' → X.s_0.heap.objs.size ≤ D → (∀ p ∈ X.pn ++ pins, p.1 ≠ D) → KOut ks vs out.toList → Q (.ref D) s') : wpAny (model X.prog X.w) A (call (.builtin "sorted") [.ref l] [("key", .ref f)]) Q E s := by
  subst hv
  have big : 64 ≤ sizeLine := by rw [sizeLine_eq]; omega
  have hz : its.size < 64 := by rw [← Array.length_toList]; exact h64
  refine call_function_entry_kw kind_sorted plain_sorted entry_sorted (ksk_s1 _ _) ?_
  unfold Builtin.«sorted»
  (refine wpAny_bind (m := checkCount "sorted" 1 1 _) (wpAny_pure ?_))
  refine wpAny_bind (wpAny_collect_seq l hT ho hc hd (fun h' k => ?_) (by omega))
  have I1 := I.kept (t' := s.toks) k
  refine wpAny_bind (wpAny_newList ?_ (by show its.toList.length ≤ _; omega))
  have I2 := pin_new (o := seqObj "list" its.toList.toArray 0) (t' := s.toks) I1 fun _ z => by cases z
  have hoL := (I2.pin _ (List.mem_append_right _ (.head _))).1
  refine wpAny_bind (wpAny_holding (wpAny_call_entry_kw slot_list_sort ⟨_, hoL, rfl⟩ entry_list_sort ?_ (ksk_l1 _ _)))
  show wpAny (model X.prog X.w) A.in1.in1 (Builtin.«list.sort» ⟨[.ref h'.objs.size], [("key", .ref f)]⟩) _ _ _
  rw [show Builtin.«list.sort» ⟨[.ref h'.objs.size], [("key", .ref f)]⟩ = ksk_tree h'.objs.size (.ref f) false from ksk_t1 _ _]
  have ne : ∀ p ∈ X.pn ++ pins, p.1 ≠ h'.objs.size := fun p hp => Nat.ne_of_lt (pins_lt I1 p hp)
  refine key_tree I2 I1.sz ne hl h64 tn fun s' out c J kq => ⟨_, rfl, ?_⟩
  exact wpAny_pure ⟨_, rfl, h s' _ out c J I1.sz ne kq⟩
end
end DL

end
section
set_option maxHeartbeats 4000001
/-! DL11: lambdas made. -/
namespace DL
open PySem PySem.Spec
open PyProof.Rows L2
open LamX (TabB ExtN CodeO)
open Evl (Ex)
section
variable [Tb]
variable {X : Cx} {pins : List (Addr × Obj)} {σ : L2.St} {G H : Hp} {s : Shared} {M : Model} {A : Around} {E : Value → Shared → Prop} {c P : Addr} {q : Str}
theorem clo_tuple {α : Type} {l : List Value} {b : Bool} {k : Value → Sem α} {Q : α → Shared → Prop} (I : Inv X pins σ H s) (h : ∀ ctv s1, Inv X pins σ H s1 → wpAny M A (k ctv) Q E s1) : wpAny M A (if b = true then (pure .none >>= k) else (newTextTuple l >>= k)) Q E s := by
  cases b with
  | true => exact wpAny_bind (wpAny_pure (h _ s I))
  | false => exact wpAny_bind (wpAny_newTextTuple (h _ _ (I.kept (t' := s.toks) fun x o z => Heap.get?_push_of_some _ z)))
/-- a table told one more, its code object frozen -/
theorem Grow.code {P c' : Addr} {tb more : Array Value} (e : Ex G H) (t : TbO G H) (hP : H P = some (.tbl tb)) (hm : (P, q) ∈ Tb.T) (hu : ∀ p ∈ Tb.T, p.1 = P → p.2 = q) (nC : H c' = none) (t2 : TriplesOk (tb ++ more).toList) (hmo : ∀ pos cv, codeAmong pos (tb ++ more).toList = some cv → codeAmong pos tb.toList = some cv ∨ cv = .ref c') :
    Grow G H (upd G c' (CodeO c' q)) (upd (upd H P (.tbl (tb ++ more))) c' (CodeO c' q)) := by
  have gP : G P = none := t.2 _ hm
  have gC : G c' = none := Evl.fresh_back e nC
  have hne : P ≠ c' := ne_of_none hP nC
  have eg : Ex G (upd G c' (CodeO c' q)) := Evl.Ex.new gC
  refine ⟨eg, fun b o hb => ?_, fun b hb => upd_ne fun z => hb (by rw [z]; exact nC), fun b o hb n => ?_, fun b hb => ?_, fun tg p hp => ?_⟩
  · by_cases z : b = c'
    · rw [z, upd_same] at hb ⊢
      exact hb
    · rw [upd_ne z] at hb
      rw [upd_ne z, upd_ne fun y => by rw [y, gP] at hb; cases hb]
      exact e b o hb
  · rw [upd_ne (ne_of_none hb nC), upd_ne fun y => n tb (by rw [y, hP] at hb; exact (Option.some.inj hb).symm)]
    exact hb
  · by_cases z : b = c'
    · rw [z, upd_same]
      exact fun y => by cases y
    · rw [upd_ne z]
      by_cases y : b = P
      · rw [y, upd_same]
        exact fun y => by cases y
      · rw [upd_ne y]
        exact hb
  · obtain ⟨ps, f1, f2, f3⟩ := tg p hp
    by_cases hb : p.1 = P
    · rw [hb, hP] at f1
      cases f1
      rw [hb, hu p hp hb]
      refine ⟨_, by rw [upd_ne hne, upd_same], t2, fun pos cv hc => ?_⟩
      rcases hmo pos cv hc with z | z
      · obtain ⟨c0, g1, g2⟩ := f3 pos cv z
        rw [hu p hp hb] at g2
        exact ⟨c0, g1, eg _ _ g2⟩
      · exact ⟨c', z, upd_same⟩
    · refine ⟨ps, by rw [upd_ne (ne_of_none f1 nC), upd_ne hb]; exact f1, f2, fun pos cv hc => ?_⟩
      obtain ⟨c0, g1, g2⟩ := f3 pos cv hc
      exact ⟨c0, g1, eg _ _ g2⟩
/-- the code object of a lambda: new, or found in the maker's table -/
theorem code_step {params : Arguments} {scope : Scope} {body : FuncBody} {pos : Pos} {fl : Nat} {nm : Str} {Q : Value → Shared → Prop} (I : Inv X pins σ H s) (TB : TabB X.base X.mg c P) (hcode : X.env.code = .ref c) (hm : (P, q) ∈ Tb.T) (hu : ∀ p ∈ Tb.T, p.1 = P → p.2 = q) (e : Ex G H) (hT : TbO G H)
    (h : ∀ c' G1 H1 s1, Inv X pins σ H1 s1 → Grow G H G1 H1 → G1 c' = some (CodeO c' q) → Q (.ref c') s1) : wpAny M A (functionCode X.env pos fl nm q params scope body) Q E s := by
  obtain ⟨tb, h1, h2, h3⟩ := hT.1 _ hm
  have at_ : s.heap.get? P = some { cls := .none, data := .fields tb } := I.hok P _ h1
  have cd := TB.code.keeps I.bk
  cases hc : codeAmong pos tb.toList with
  | some v =>
    obtain ⟨c', e1, e2⟩ := h3 pos v hc
    rw [e1] at hc
    exact wpAny_functionCode_hit hcode (cd.code at_ h2) hc (h c' G H s I (.refl e) e2)
  | none =>
    refine wpAny_functionCodeX hcode (cd.code at_ h2) (cd.tab at_) hc fun c' g tk hx hge hlt _ hrec ht _ => ?_
    obtain ⟨c2, oc, vs, t, e0, e1, e2, e3⟩ := hrec
    cases e0
    (have nC : H c' = none := I.hok.fresh hge)
    have J := LamX.inv_table (t' := tk) (more := #[rawInt pos.line, rawInt pos.col, .ref c']) (h' := g) I h1 (fun b o hb z => hx b o hb z) ht.2 hge ⟨oc, vs, t, e1, e2, e3⟩
    have el : (tb ++ #[rawInt pos.line, rawInt pos.col, .ref c']).toList = tb.toList ++ [rawInt pos.line, rawInt pos.col, .ref c'] := by simp
    exact h c' _ _ _ J (Grow.code e hT h1 hm hu nC (by rw [el]; exact PySem.TriplesOk_snoc _ _ _ _ h2) fun p2 v hv => LamX.among_app _ h2 (by rw [el] at hv; exact hv)) upd_same
omit [Tb] in
theorem lamO_ok {Pg : Program} {w : World} {H : Hp} {h : Heap} {f c' : Addr} {L : LamD} {dV pm ctv : Value} {cs : List (Str × Addr)} (e : h.get? f = some (lamObj L dV cs pm c' ctv)) : ObjOk Pg w H h f (LamO f L dV cs c') :=
  ⟨⟨pm, ctv, e⟩, ⟨_, e⟩, fun h1 h2 ⟨p, c, z⟩ k => ⟨p, c, k _ z⟩⟩
omit [Tb] in
theorem lamO_at {Pg : Program} {w : World} {H : Hp} {h : Heap} {f c' : Addr} {L : LamD} {dV : Value} {cs : List (Str × Addr)} (hok : HOk Pg w H h) (e : H f = some (LamO f L dV cs c')) : ∃ pm ctv, h.get? f = some (lamObj L dV cs pm c' ctv) := by
  obtain ⟨z, _, _⟩ := hok f _ e
  exact z
theorem lam_tail {L : LamD} {dV : Value} {pos : Pos} {fl : Nat} {Q : Value → Shared → Prop} (I : Inv X pins σ H s) (TB : TabB X.base X.mg c P) (hcode : X.env.code = .ref c) (hm : (P, L.qual) ∈ Tb.T) (hu : ∀ p ∈ Tb.T, p.1 = P → p.2 = L.qual) (e : Ex G H) (hT : TbO G H) (hfree : ∀ y ∈ L.scope.names, y.2 = .free → ∃ c, X.env.cells.lookup y.1 = some c)
    (h : ∀ f c' G1 H1 s1, Inv X pins σ H1 s1 → Grow G H G1 H1 → H f = none → G1 f = some (LamO f L dV (cloFrom X.env.cells L.scope.names []) c') → G1 c' = some (CodeO c' L.qual) → Q (.ref f) s1) :
    wpAny M A (makeTail "<lambda>" L.qual L.params (.expr L.body) L.scope X.env dV .none none pos fl) Q E s := by
  unfold makeTail
  rw [closure_ok hfree, I.ok.glob]
  refine wpAny_bind (wpAny_pure (clo_tuple I fun ctv s1 I1 => wpAny_bind (code_step I1 TB hcode hm hu e hT fun c' G1 H1 s2 I2 g1 hc => ?_)))
  obtain ⟨bm, ob, b1, b2, _, b3, b4, b5, b6, b7⟩ := TB.bm.keeps I2.bk
  have gl := I2.mod.glob.keeps I2.bk
  refine wpAny_bind (wpAny_builtinsFor gl b1 b2 b4 b5 b6 b7 (wpAny_bind (wpAny_nsGet gl (wpAny_bind (wpAny_pure (wpAny_newObj_type ?_ (by size_fits)))))))
  have nF := I2.hok.fresh (Nat.le_refl _)
  have e := Heap.get?_push_size s2.heap (o := lamObj L dV (cloFrom X.env.cells L.scope.names []) ((X.mg "__name__").getD .none) c' ctv) rfl
  have I3 := I2.laid (t' := s2.toks) (h' := s2.heap.push (lamObj L dV (cloFrom X.env.cells L.scope.names []) ((X.mg "__name__").getD .none) c' ctv)) (a := s2.heap.objs.size) (o := LamO s2.heap.objs.size L dV (cloFrom X.env.cells L.scope.names []) c') (fun b o z => Heap.get?_push_of_some _ z) (Nat.le_refl _) (lamO_ok e)
  have g2 := Grow.new (o := LamO s2.heap.objs.size L dV (cloFrom X.env.cells L.scope.names []) c') g1.gh nF
  refine h s2.heap.objs.size c' _ _ _ I3 (g1.trans g2) ?_ upd_same (g2.g _ _ hc)
  cases z : H s2.heap.objs.size with
  | none => rfl
  | some o => exact absurd nF (g1.al _ (some_ne z))
/-- the reading of a lambda expression: a new function, frozen -/
def tLamN (L : LamD) (cells : List (Str × Addr)) : TE := fun _ H Q => ∃ G, Ex G H ∧ TbO G H ∧ ∀ f c' dV G1 H1, Grow G H G1 H1 → H f = none → G1 f = some (LamO f L dV (cloFrom cells L.scope.names []) c') → G1 c' = some (CodeO c' L.qual) → DfO G1 L.dfl dV → Q (.ref f) H1
variable {params : Arguments} {body : Expr} {scope : Scope} {pos : Pos} {free : List Str}
theorem pe_lam0 (TB : TabB X.base X.mg c P) (hcode : X.env.code = .ref c) (hm : (P, X.env.qual ++ "<lambda>") ∈ Tb.T) (hu : ∀ p ∈ Tb.T, p.1 = P → p.2 = X.env.qual ++ "<lambda>") (hfree : ∀ y ∈ scope.names, y.2 = .free → X.env.scope.names.lookup y.1 = some .cell ∨ X.env.scope.names.lookup y.1 = some .free)
    (hd : defaultsOf params X.env = ([], []) := by rfl) : PE X (.Lambda params body scope pos) (tLamN ⟨X.env.qual ++ "<lambda>", params, body, scope, free, []⟩ X.env.cells) := by
  refine ⟨fun pins s σ H Q I ⟨G, eg, hT, h⟩ => ?_⟩
  rw [arm_eval_Lambda, hd]
  refine wpAny_bind (wpAny_pure (wpAny_bind (wpAny_holding (wpAny_pure ?_))))
  rw [makeFunction_eq]
  (simp only [List.zip_nil_right, List.filterMap_nil, List.isEmpty_nil, if_true, pure_bind])
  exact lam_tail (L := ⟨X.env.qual ++ "<lambda>", params, body, scope, free, []⟩) I TB hcode hm hu eg hT (fun y hy e => (hfree y hy e).elim (fun z => I.ok.has _ (.inl z)) fun z => I.ok.has _ (.inr z)) fun f c' G1 H1 s1 I1 g1 f0 f1 c1 => ⟨.ref f, H1, I1, rfl, h f c' .none G1 H1 g1 f0 f1 c1 rfl⟩
theorem pe_lam1 {d : Expr} {v : V} (TB : TabB X.base X.mg c P) (hcode : X.env.code = .ref c) (hm : (P, X.env.qual ++ "<lambda>") ∈ Tb.T) (hu : ∀ p ∈ Tb.T, p.1 = P → p.2 = X.env.qual ++ "<lambda>") (hfree : ∀ y ∈ scope.names, y.2 = .free → X.env.scope.names.lookup y.1 = some .cell ∨ X.env.scope.names.lookup y.1 = some .free)
    (hv : PE X d (tC v)) (hd : defaultsOf params X.env = ([eval d X.env], []) := by rfl) : PE X (.Lambda params body scope pos) (tLamN ⟨X.env.qual ++ "<lambda>", params, body, scope, free, [v]⟩ X.env.cells) := by
  refine ⟨fun pins s σ H Q I ⟨G, eg, hT, h⟩ => ?_⟩
  rw [arm_eval_Lambda, hd]
  refine wpAny_bind (wpAny_bind (thn (hv.run pins s σ H (fun x H1 => x = v ∧ H1 = H) I ⟨rfl, rfl⟩) fun u s1 ⟨x, H1, I1, r1, e1, e2⟩ => ?_))
  subst e1 e2
  refine wpAny_bind (wpAny_holding (wpAny_pure (wpAny_pure (wpAny_bind (wpAny_holding (wpAny_pure ?_))))))
  rw [makeFunction_eq]
  simp only [List.zip_nil_right, List.filterMap_nil, List.isEmpty_nil, List.isEmpty_cons, Bool.false_eq_true, if_false, if_true, pure_bind]
  (refine wpAny_bind (wpAny_newTextTuple ?_))
  have nT := I1.hok.fresh (Nat.le_refl _)
  have e := Heap.get?_push_size s1.heap (o := ({ cls := .type "tuple", data := .seq [u].toArray } : Obj)) rfl
  have I2 := I1.laid (t' := s1.toks) (a := s1.heap.objs.size) (o := .tup [x]) (fun b o z => Heap.get?_push_of_some _ z) (Nat.le_refl _) ⟨by show 1 ≤ sizeLine; rw [sizeLine_eq]; omega, [u], .cons r1 .nil, _, e, rfl, _, rfl⟩
  have g0 := Grow.new (o := HO.tup [x]) eg nT
  exact lam_tail (L := ⟨X.env.qual ++ "<lambda>", params, body, scope, free, [x]⟩) I2 TB hcode hm hu g0.gh (g0.tbo hT) (fun y hy e => (hfree y hy e).elim (fun z => I.ok.has _ (.inl z)) fun z => I.ok.has _ (.inr z)) fun f c' G1 H1 s2 I3 g1 f0 f1 c1 => ⟨.ref f, H1, I3, rfl, h f c' _ G1 H1 (g0.trans g1) (NdefX.upd_none f0) f1 c1 ⟨_, rfl, g1.g _ _ upd_same⟩⟩
end
end DL

end
section
set_option maxHeartbeats 4000001
/-! DL12: lambdas called. -/
namespace DL
open PySem PySem.Spec
open PyProof.Rows L2
open LamX (TabB Tabs TabS ExtN CodeO lamCx lamEnv)
/-- a lambda's names within its maker's: parameters that its maker has not, captured ones, globals -/
structure LamQ (sc scope : Scope) (N ps : List Str) : Prop where
  kind : scope.kind = .function
  co : scope.isCoroutine = false
  gen : scope.isGenerator = false
  loc : ∀ y ∈ scope.names, y.2 = .local → y.1 ∉ N
  nocell : ∀ y ∈ scope.names, y.2 ≠ .cell
  par : ∀ x ∈ ps, scope.names.lookup x = some .local
  free : ∀ y ∈ scope.names, y.2 = .free → sc.names.lookup y.1 = some .cell ∨ sc.names.lookup y.1 = some .free
def lamQB (sc scope : Scope) (N ps : List Str) : Bool :=
  decide (scope.kind = .function) && !scope.isCoroutine && !scope.isGenerator && (scope.names.all fun y => (!decide (y.2 = .local) || !decide (y.1 ∈ N)) && !decide (y.2 = .cell) && (!decide (y.2 = .free) || decide (sc.names.lookup y.1 = some .cell) || decide (sc.names.lookup y.1 = some .free))) && ps.all fun x => decide (scope.names.lookup x = some .local)
theorem lamQ_by {sc scope : Scope} {N ps : List Str} (h : lamQB sc scope N ps = true) : LamQ sc scope N ps := by
  unfold lamQB at h
  (simp only [Bool.and_eq_true, Bool.or_eq_true, Bool.not_eq_true', decide_eq_true_eq, decide_eq_false_iff_not, List.all_eq_true] at h)
  obtain ⟨⟨⟨⟨h1, h2⟩, h3⟩, h4⟩, h5⟩ := h
  exact ⟨h1, h2, h3, fun y hy e => (h4 y hy).1.1.elim (fun z => absurd e z) id, fun y hy => (h4 y hy).1.2, h5, fun y hy e => (h4 y hy).2.elim (fun z => z.elim (fun w => absurd e w) .inl) .inr⟩
section
variable {X : Cx} {pins : List (Addr × Obj)} {σ : L2.St} {H HZ : Hp} {s s1 : Shared} {A : Around} {outer : List Env} {E : XK} {scope : Scope} {ps : List Str} {us : List Value} {f c' : Addr}
theorem LamQ.has (L : LamQ X.env.scope scope X.N ps) (ok : X.Ok) : ∀ y ∈ scope.names, y.2 = .free → ∃ c, X.env.cells.lookup y.1 = some c := fun y hy e => (L.free y hy e).elim (fun k => ok.has _ (.inl k)) fun k => ok.has _ (.inr k)
/-- the lambda's frame at its entry: the maker's names, as far as the lambda has them -/
theorem lam_in {h1 : Heap} {tk : Nat} (I : Inv X pins σ H s) (L : LamQ X.env.scope scope X.N ps) (e0 : Env0 X.prog X.w X.K X.mg X.base A outer s1 HZ) (hd : A.handled = none) (un : Un (frs X.stack) [] H HZ s.heap s1.heap) (hns : h1.Ns s1.heap.objs.size fun y => (ps.zip us).reverse.lookup y)
    (kp : ∀ b o, s1.heap.get? b = some o → h1.get? b = some o) : Inv (lamCx X A outer s1 HZ E scope f c') [] σ HZ { s1 with heap := h1, toks := tk } := by
  have cm : ∀ {y c}, (cloFrom X.env.cells scope.names []).lookup y = some c → X.env.cells.lookup y = some c := fun {y c} e => NdefX.clo_cm (L.has I.ok) e
  have there : ∀ {y}, scope.names.lookup y = some .free → ∃ c, (cloFrom X.env.cells scope.names []).lookup y = some c := fun {y} q => mem_lookup (cloFrom_has (cells := X.env.cells) (acc := []) (PySem.mem_of_lookup q : (y, NameKind.free) ∈ scope.names))
  have stays : ∀ {c : Addr} {v : Option Value}, H c = none → s.heap.IsCell c v → h1.IsCell c v := fun {c v} n z => by
    obtain ⟨o, e1, e2⟩ := z
    obtain ⟨sl, q⟩ := un.any e1 n (by simp)
    exact ⟨_, kp _ _ q, e2⟩
  have no : ∀ b : Addr, b ∉ (lamCx X A outer s1 HZ E scope f c').ex := fun b z => by
    have z : b ∈ ([] : List Addr) := z
    simp at z
  refine ⟨⟨e0.mod, L.kind, rfl, rfl, Nat.le_refl _, fun y z c a b => I.ok.inj y z c (cm a) (cm b), fun y hy => ?_, fun y c z _ => (by cases (show false = true from z)), fun _ => hd, Around.frames_deeper e0.frames, .inr ⟨rfl, rfl⟩, fun b z => absurd z (no b), e0.bs, e0.bsz, fun b _ _ => no b, fun b z => absurd z (no b), e0.funs, e0.frf⟩,
    rfl, e0.bare, Un.kept kp, ⟨_, hns, fun i y v a1 a2 a3 => ?_⟩, fun y c e => ?_, e0.hok.fresh (Nat.le_refl _), fun y c e => ?_, fun q hq => (by
      have hq : q ∈ ([] : List (Addr × Obj)) := hq
      simp at hq), e0.hok.kept kp, I.len⟩
  · (have hy : scope.names.lookup y = some .cell ∨ scope.names.lookup y = some .free := hy)
    exact hy.elim (fun z => absurd rfl (L.nocell _ (PySem.mem_of_lookup z))) there
  · have a3 : Vis scope y := a3
    have a1 : X.N[i]? = some y := a1
    rcases a3 with k | k | k
    · exact absurd (List.mem_of_getElem? a1) (L.loc _ (PySem.mem_of_lookup k) rfl)
    · exact absurd rfl (L.nocell _ (PySem.mem_of_lookup k))
    · have own := L.free _ (PySem.mem_of_lookup k) rfl
      obtain ⟨m, _, hl⟩ := I.loc
      obtain ⟨u, r, q⟩ := hl i y v a1 a2 (own.elim (fun z => .inr (.inl z)) fun z => .inr (.inr z))
      obtain ⟨c2, h2⟩ := there k
      refine ⟨u, r, .inr ⟨.inr k, c2, h2, ?_⟩⟩
      rcases q with ⟨z, _⟩ | ⟨_, c3, e3, z⟩
      · have z : X.env.scope.names.lookup y = some .local := z
        rcases own with w | w <;> (have w : X.env.scope.names.lookup y = _ := w; rw [w] at z; cases z)
      · rw [cm h2] at e3
        cases e3
        exact stays (I.freeC y _ (cm h2)) z
  · obtain ⟨v, z⟩ := I.cell y c (cm e)
    exact ⟨v, stays (I.freeC y c (cm e)) z⟩
  · obtain ⟨v, o, a1, _⟩ := I.cell y c (cm e)
    exact un.free c o a1 (I.freeC y c (cm e)) (by simp)
/-- what a call binds, looked at in the state -/
def Bnd (s : Shared) (fd : FuncData) (args : List Value) (bs : List (Str × Value)) : Prop := ∀ (M : Model) (A : Around) (Q : List (Str × Value) → Shared → Prop) (E : Value → Shared → Prop), Q bs s → wpAny M A (bindArgs fd ⟨args, []⟩) Q E s
theorem Bnd.of {fd : FuncData} {args : List Value} {bs : List (Str × Value)} (h : bindArgs fd ⟨args, []⟩ = pure bs) : Bnd s fd args bs := fun M A Q E q => by
  rw [h]
  exact wpAny_pure q
theorem Bnd.dfl {fd : FuncData} {T : Addr} {o : Obj} {its : Array Value} {n : Nat} {args : List Value} {bs : List (Str × Value)} {k : Option (Array Value) → Sem (List (Str × Value))} (ho : s.heap.get? T = some o) (hd : o.data = .seq its n) (h : bindArgs fd ⟨args, []⟩ = seqItems? (.ref T) >>= k) (hk : k (some its) = pure bs) : Bnd s fd args bs := fun M A Q E q => by
  rw [h]
  (refine wpAny_bind (wpAny_seqItems ho hd ?_))
  rw [hk]
  exact wpAny_pure q
/-- the call of a lambda whose maker's frame still runs: tb reads its body over the maker's names -/
theorem lam_runL {L : LamD} {dV : Value} {k : Nat} {args : List Value} {tb : TE} {Q : VK} (I : Inv X pins σ H s) (hq : L.qual = X.env.qual ++ "<lambda>") (LQ : LamQ X.env.scope L.scope X.N ps) (e0 : Env0 X.prog X.w X.K X.mg X.base A outer s1 HZ) (un : Un (frs X.stack) [] H HZ s.heap s1.heap) (hr : Room (k + 1) A)
    (hf : HZ f = some (LamO f L dV (cloFrom X.env.cells L.scope.names []) c')) (hc : HZ c' = some (CodeO c' L.qual)) (hb : ∀ pm ctv, Bnd s1 (lamFd L dV (cloFrom X.env.cells L.scope.names []) pm (.ref c') ctv) args (ps.zip us))
    (body : Room k (A.deeper (lamEnv X L.scope s1.heap.objs.size f c')) → PE (lamCx X A outer s1 HZ E L.scope f c') L.body tb) (ht : tb σ HZ Q) :
    codeAny (model X.prog X.w) A (.call (.ref f) ⟨args, []⟩) (CR (L2.CX X.prog X.w) outer X.prog X.w HZ s1 Q E) s1 := by
  obtain ⟨lq, lp, lb, ls, lf, ld⟩ := L
  dsimp only at *
  subst hq
  obtain ⟨pm, ctv, hfo⟩ := lamO_at e0.hok hf
  have crec : s1.heap.CodeRec (.ref c') (X.env.qual ++ "<lambda>") := NdefX.codeO_at e0.hok hc
  have lim : s1.heap.NoLimit := e0.mod.nolimit.keeps fun b o e => (e0.bs b o e).1
  refine PySem.W.kla_callFunE hr.depth hfo rfl LQ.co LQ.gen rfl crec (hb pm ctv _ _ _ _ ?_)
  refine wpAny_newFunctionEnv LQ.nocell (fun ⟨n, _⟩ hy => LQ.par n (List.of_mem_zip hy).1) (fun g hns hsb => ⟨lim.fresh _ hsb, ?_⟩) LQ.kind
  have kp : ∀ b o, s1.heap.get? b = some o → g.get? b = some o := fun b o e => hsb.extBut b o (Nat.ne_of_lt (Heap.lt_size e)) (Heap.get?_push_of_some _ e)
  show codeAny _ _ (.expr lb (lamEnv X ls s1.heap.objs.size f c')) _ _
  have J : Inv (lamCx X A outer s1 HZ E ls f c') [] σ HZ { s1 with heap := g, toks := s1.toks + (ps.zip us).length } := lam_in I LQ e0 hr.hd un hns kp
  refine PySem.W.kla_codeExpr (wpAny_mono ((body (hr.deeper _)).run [] _ _ HZ Q J ht) (fun v s' z => ?_) fun e s' z => z)
  obtain ⟨w', H', J', rv, q⟩ := z
  (exact ⟨w', H', J'.os, J'.bare, J'.base, J'.hok, rv, q⟩)
/-- the call of a lambda by what its cells hold -/
theorem lam_runC {P : Program} {w : World} {K : PySem.W.Frag} {mg : Str → Option Value} {base : Heap} {L : LamD} {dV : Value} {k : Nat} {args : List Value} {tb : TE} {Q : VK} {N fr : List Str} {cl : List (Str × Addr)} {vs : List V} {ws : List (Option V)} (S : NdefX.NScope N ps fr L.scope) (e0 : Env0 P w K mg base A outer s H) (hr : Room (k + 1) A)
    (hf : H f = some (LamO f L dV cl c')) (hc : H c' = some (CodeO c' L.qual)) (C : NdefX.CellsAt cl fr ws s.heap H) (hl : vs.length = ps.length) (r : Vals vs us) (hb : ∀ pm ctv, Bnd s (lamFd L dV cl pm (.ref c') ctv) args (ps.zip us))
    (body : Room k (A.deeper (NdefX.envF ⟨"<lambda>", L.qual, L.params, [], L.scope, cl, c'⟩ f s.heap.objs.size)) → PE (NdefX.ncx (L2.CX P w) P w K mg base N ⟨"<lambda>", L.qual, L.params, [], L.scope, cl, c'⟩ f A outer s H E) L.body tb) (ht : tb (NdefX.startF N vs ws) H Q) :
    codeAny (model P w) A (.call (.ref f) ⟨args, []⟩) (CR (L2.CX P w) outer P w H s Q E) s := by
  obtain ⟨pm, ctv, hfo⟩ := lamO_at e0.hok hf
  have crec : s.heap.CodeRec (.ref c') L.qual := NdefX.codeO_at e0.hok hc
  (have lim : s.heap.NoLimit := e0.mod.nolimit.keeps fun b o e => (e0.bs b o e).1)
  refine PySem.W.kla_callFunE hr.depth hfo rfl S.co S.gen rfl crec (hb pm ctv _ _ _ _ ?_)
  refine wpAny_newFunctionEnv S.nocell (fun ⟨n, _⟩ hy => S.par n (List.of_mem_zip hy).1) (fun g hns hsb => ⟨lim.fresh _ hsb, ?_⟩) S.kind
  have kp : ∀ b o, s.heap.get? b = some o → g.get? b = some o := fun b o e => hsb.extBut b o (Nat.ne_of_lt (Heap.lt_size e)) (Heap.get?_push_of_some _ e)
  show codeAny _ _ (.expr L.body (NdefX.envF ⟨"<lambda>", L.qual, L.params, [], L.scope, cl, c'⟩ f s.heap.objs.size)) _ _
  have J : Inv (NdefX.ncx (L2.CX P w) P w K mg base N ⟨"<lambda>", L.qual, L.params, [], L.scope, cl, c'⟩ f A outer s H E) [] (NdefX.startF N vs ws) H { s with heap := g, toks := s.toks + (ps.zip us).length } :=
    NdefX.inv_startN (F := ⟨"<lambda>", L.qual, L.params, [], L.scope, cl, c'⟩) S hr.hd e0 hl r C hns kp
  refine PySem.W.kla_codeExpr (wpAny_mono ((body (hr.deeper _)).run [] _ _ H Q J ht) (fun v s' z => ?_) fun e s' z => z)
  obtain ⟨w', H', J', rv, q⟩ := z
  (exact ⟨w', H', J'.os, J'.bare, J'.base, J'.hok, rv, q⟩)
end
end DL

end
section
set_option maxHeartbeats 4000001
/-! DL13: sorted(xs, key=lambda one: ..), the keys texts. -/
namespace DL
open PySem PySem.Spec
open PyProof.Rows L2
open Evl (Ex)
open LamX (TabB Tabs TabS ExtN CodeO)
theorem perm_rel {α β : Type} {R : α → β → Prop} {ps zs : List β} (h : ps.Perm zs) : ∀ {ws : List α}, Paired R ws zs → ∃ qs : List α, qs.Perm ws ∧ Paired R qs ps := by
  induction h with
  | nil => exact fun r => ⟨_, List.Perm.refl _, r⟩
  | cons x p ih =>
    intro ws r
    cases r with
    | cons a r =>
      obtain ⟨qs, h1, h2⟩ := ih r
      exact ⟨_ :: qs, h1.cons _, .cons a h2⟩
  | swap x y l =>
    intro ws r
    cases r with
    | cons a r =>
      cases r with
      | cons b r => exact ⟨_, List.Perm.swap _ _ _, .cons b (.cons a r)⟩
  | trans _ _ ih1 ih2 =>
    intro ws r
    obtain ⟨q1, a1, a2⟩ := ih2 r
    obtain ⟨q2, b1, b2⟩ := ih1 a2
    exact ⟨q2, b1.trans a1, b2⟩
def KOutV {α : Type} (ks : List Str) (xs ys : List α) : Prop := ∃ ps : List (Str × α), ps.Perm (ks.zip xs) ∧ ys = ps.map (·.2) ∧ ps.Pairwise fun p q => ¬ q.1.cps.toList < p.1.cps.toList
theorem kout_rel {α β : Type} {R : α → β → Prop} {ks : List Str} {xs : List α} {vs out : List β} (r : Paired R xs vs) (h : KOutV ks vs out) : ∃ ys, Paired R ys out ∧ KOutV ks xs ys := by
  obtain ⟨ps, p1, p2, p3⟩ := h
  have z : ∀ {ks : List Str} {xs : List α} {vs : List β}, Paired R xs vs → Paired (fun (p : Str × α) (q : Str × β) => p.1 = q.1 ∧ R p.2 q.2) (ks.zip xs) (ks.zip vs) := by
    intro ks xs vs r
    induction r generalizing ks with
    | nil => cases ks <;> exact .nil
    | cons a r ih => cases ks with
      | nil => exact .nil
      | cons k ks => exact .cons ⟨rfl, a⟩ ih
  obtain ⟨qs, q1, q2⟩ := perm_rel p1 (z r)
  subst p2
  refine ⟨qs.map (·.2), ?_, qs, q1, rfl, ?_⟩
  · clear q1 p1 p3
    induction q2 with
    | nil => exact .nil
    | cons a r ih => exact .cons a.2 ih
  · clear q1 p1
    induction q2 with
    | nil => exact .nil
    | @cons p q l1 l2 a r ih =>
      obtain ⟨h1, h2⟩ := List.pairwise_cons.mp p3
      refine List.pairwise_cons.mpr ⟨fun x hx => ?_, ih h2⟩
      have fnd : ∀ {l1 : List (Str × α)} {l2 : List (Str × β)}, Paired (fun (p : Str × α) (q : Str × β) => p.1 = q.1 ∧ R p.2 q.2) l1 l2 → x ∈ l1 → ∃ y ∈ l2, x.1 = y.1 := by
        intro l1 l2 r hx
        induction r with
        | nil => cases hx
        | cons a r ih =>
          (rcases List.mem_cons.mp hx with rfl | hx)
          · exact ⟨_, List.mem_cons_self, a.1⟩
          · obtain ⟨y, h1, h2⟩ := ih hx
            exact ⟨y, List.mem_cons_of_mem _ h1, h2⟩
      obtain ⟨y, hy, ey⟩ := fnd r hx
      rw [ey, a.1]
      exact h1 y hy
section
variable {X : Cx} {L : LamD} {N : List Str} {one : Str} {k : Nat} {tb : TE}
/-- sorted of a list or tuple by a lambda that tells texts -/
def rKey (K : PySem.W.Frag) (L : LamD) (N : List Str) (tb : TE) : List V → List V → Hp → VK → Prop := fun vs zs H Q => ∃ (a f c' : Addr) (xs : List V) (ks : List Str), vs = [.ref a] ∧ zs = [.ref f] ∧ (SqL K H a xs ∨ SqT K H a xs) ∧ xs.length < 64 ∧ ks.length = xs.length ∧ H f = some (LamO f L .none [] c') ∧ H c' = some (CodeO c' L.qual) ∧
  (∀ (i : Nat) (y : V) (k : Str), xs[i]? = some y → ks[i]? = some k → tb (NdefX.startF N [y] []) H fun v H' => v = .str k ∧ H' = H) ∧ ∀ D ys, H D = none → KOutV ks xs ys → Q (.ref D) (upd H D (.lst ys))
theorem cr_sortedK (S : NdefX.NScope N [one] [] L.scope) (hr : Room (k + 3) X.A) (hb : ∀ (pm c' ctv : Value) (u : Value), bindArgs (lamFd L .none [] pm c' ctv) ⟨[u], []⟩ = pure [(one, u)])
    (body : ∀ (A : Around) (outer : List Env) (s : Shared) (H : Hp) (E : XK) (f c' : Addr), Room k (A.deeper (NdefX.envF ⟨"<lambda>", L.qual, L.params, [], L.scope, [], c'⟩ f s.heap.objs.size)) → PE (NdefX.ncx (L2.CX X.prog X.w) X.prog X.w X.K X.mg X.base N ⟨"<lambda>", L.qual, L.params, [], L.scope, [], c'⟩ f A outer s H E) L.body tb) :
    CallRK X (.builtin "sorted") ["key"] (rKey X.K L N tb) := by
  intro pins s σ H vs zs us ws Q I r rz ⟨a, f, c', xs, ks, e1, e2, hs, h64, hl, hf, hc, hbd, hq⟩
  subst e1 e2
  obtain rfl := Vals.ref1 r
  obtain rfl := Vals.ref1 rz
  obtain ⟨T, o, its, n, hT, ho, ho1, ho2, rv⟩ : ∃ (T : String) (o : Obj) (its : List Value) (n : Nat), (T = "list" ∨ T = "tuple") ∧ s.heap.get? a = some o ∧ o.cls = .type T ∧ o.data = .seq its.toArray n ∧ Vals xs its := by
    rcases hs with z | z
    · obtain ⟨its, rv, ⟨o, n, g1, g2, g3, g4⟩, _⟩ := I.list z
      exact ⟨_, o, its, n, .inl rfl, g1, g2, g4, rv⟩
    · obtain ⟨its, rv, ⟨o, g1, g2, n, g3⟩, _⟩ := I.tuple z
      exact ⟨_, o, its, n, .inr rfl, g1, g2, g3, rv⟩
  have lv := rv.length
  have hr2 : Room (k + 1) X.A.in1.in1 := (hr : Room (k + 1 + 1 + 1) X.A).in1.in1
  have tn : Turn X X.A.in1.in1 σ H (.ref f) its ks := by
    intro i v kk hv hk pins' s' I'
    obtain ⟨y, hy, ry⟩ : ∃ y, xs[i]? = some y ∧ RelV y v := by
      have z : ∀ {xs : List V} {us : List Value} {i : Nat} {v : Value}, Vals xs us → us[i]? = some v → ∃ y, xs[i]? = some y ∧ RelV y v := by
        intro xs us i v r
        induction r generalizing i with
        | nil => intro h; cases h
        | cons a r ih =>
          intro h
          cases i with
          | zero => cases h; exact ⟨_, rfl, a⟩
          | succ i => exact ih (i := i) h
      exact z rv hv
    have C0 : NdefX.CellsAt [] [] [] s'.heap H := ⟨rfl, fun _ _ z => (by cases z), fun _ _ _ z => (by cases z), fun i y z => (by cases z)⟩
    refine wpAny_call (codeAny_mono (lam_runC (P := X.prog) (w := X.w) (K := X.K) (mg := X.mg) (base := X.base) (args := [v]) (us := [v]) (vs := [y]) (ws := []) (E := fun _ _ _ => False) S I'.env0.in1.in1 hr2 hf hc C0 rfl (.cons ry .nil) (fun pm ctv => Bnd.of (hb pm (.ref c') ctv v)) (fun hr3 => body _ _ _ _ _ _ _ hr3) (hbd i y kk hy hk)) fun r2 s2 hq2 => ?_)
    cases r2 with
    | error e =>
      obtain ⟨_, _, _, _, _, _, _, _, _, _, _, _, z⟩ := (show L2.CX X.prog X.w X.stack H s' (fun _ _ _ => False) e s2 from hq2)
      exact z.elim
    | ok fl =>
      cases fl with
      | ret u =>
        obtain ⟨w', H', J, rw', e1, e2⟩ := I'.after (show CE X.stack X.prog X.w H s' _ u s2 from hq2)
        subst e1 e2
        obtain ⟨t, rfl⟩ := rw'
        exact ⟨⟨t, rfl⟩, J⟩
      | next => exact False.elim hq2
      | brk => exact False.elim hq2
      | cont => exact False.elim hq2
  refine sorted_key I hT ho ho1 ho2 (by simp) (hl.trans lv) (by omega) tn fun s' D out c J h0 hp ko => ?_
  obtain ⟨ys, ry, ky⟩ := kout_rel rv ko
  have hD : H D = none := (J.pin _ (List.mem_append_right _ (.head _))).2.1
  have at_ := (J.pin _ (List.mem_append_right _ (.head _))).1
  have ly : ys.length ≤ sizeLine := by
    obtain ⟨ps, p1, p2, _⟩ := ky
    rw [p2, List.length_map, p1.length_eq, List.length_zip, sizeLine_eq]
    omega
  exact ⟨.ref D, _, Inv.track (u := .lst ys) J h0 hp ⟨ly, out.toList, c, ry, by simpa using at_⟩, rfl, hq D ys hD ky⟩
end
section
variable [Tb]
theorem ats_pair {G : Hp} : ∀ {vs : List V} {ds : List D}, Ats G vs ds → Paired (fun d v => At G v d) ds vs
  | _, _, .nil => .nil
  | _, _, .cons h hs => .cons h (ats_pair hs)
theorem pair_ats {G : Hp} : ∀ {ds : List D} {vs : List V}, Paired (fun d v => At G v d) ds vs → Ats G vs ds
  | _, _, .nil => .nil
  | _, _, .cons h hs => .cons h (pair_ats hs)
variable {X : Cx} {ρ ρ' : Rho} {e : Expr} {d : D} {ds zs : List D} {ks : List Str} {one fld : Str} {p p4 p5 lpos pos kpos : Pos} {params : Arguments} {scope : Scope} {c P : Addr} {k : Nat}
theorem pso_sortedK (TB : TabB X.base X.mg c P) (hcode : X.env.code = .ref c) (hm : (P, X.env.qual ++ "<lambda>") ∈ Tb.T) (hu : ∀ p ∈ Tb.T, p.1 = P → p.2 = X.env.qual ++ "<lambda>") (hmg : X.mg "sorted" = none) (hr : Room (k + 3) X.A)
    (h : PD X e ρ d ρ') (hd : d = .lst ds ∨ d = .tup ds) (hk : ∀ (i : Nat) (x : D), ds[i]? = some x → ∃ (C : Addr) (fs : List (Str × D)) (y : Str), x = D.ins C fs ∧ Cls X.K C ∧ NoAttr X.K C fld ∧ fs.lookup fld = some (.str y) ∧ ks[i]? = some y) (hl : ks.length = ds.length) (h64 : ds.length < 64) (hz : ∀ ys, KOutV ks ds ys → ys = zs)
    (S : NdefX.NScope [one] [one] [] scope) (hb : ∀ (pm c' ctv : Value) (u : Value), bindArgs (lamFd ⟨X.env.qual ++ "<lambda>", params, .Attribute (.Name one p4) fld p5, scope, [], []⟩ .none [] pm c' ctv) ⟨[u], []⟩ = pure [(one, u)]) (hat : ∀ env : Env, attributeBase (.Name one p4) fld env (eval (.Name one p4) env) = eval (.Name one p4) env)
    (hclo : cloFrom X.env.cells scope.names [] = []) (hone : (one == ("__debug__" : Str)) = false := by decide) (hone2 : (one == ("__classdict__" : Str)) = false := by decide) (hdf : defaultsOf params X.env = ([], []) := by rfl) (hg : Gl X "sorted" := by rfl)
    (he : backTo pos (starEach [e] X.env) = (false, eval e X.env) :: backTo pos (starEach [] X.env) := by rfl) (hst : starEach [e] X.env = (false, eval e X.env) :: starEach [] X.env := by rfl) (hpl : (backTo pos (starEach [e] X.env)).any (·.1) = false := by rfl) (hall : (backToKw pos (keywordEach [⟨some "key", .Lambda params (.Attribute (.Name one p4) fld p5) scope lpos, kpos⟩] X.env)).all (·.1.isSome) = true := by rfl)
    (hnone : (backToKw pos (keywordEach [⟨some "key", .Lambda params (.Attribute (.Name one p4) fld p5) scope lpos, kpos⟩] X.env)).any (·.1.isNone) = false := by rfl) (hks : (backToKw pos (keywordEach [⟨some "key", .Lambda params (.Attribute (.Name one p4) fld p5) scope lpos, kpos⟩] X.env)).filterMap (·.1) = (["key"] : List Str) := by rfl) :
    PS_ X (.Call (.Name "sorted" p) [e] [⟨some "key", .Lambda params (.Attribute (.Name one p4) fld p5) scope lpos, kpos⟩] pos) ρ (.own zs) ρ' := by
  have hlam := pe_lam0 (X := X) (params := params) (body := .Attribute (.Name one p4) fld p5) (scope := scope) (pos := lpos) (free := []) TB hcode hm hu (fun y hy e => by
    have z := S.free y hy e
    simp at z) hdf
  have hc := cr_sortedK (X := X) (L := ⟨X.env.qual ++ "<lambda>", params, .Attribute (.Name one p4) fld p5, scope, [], []⟩) (N := [one]) (one := one) (k := k) (tb := tFld X.K (tVar 0) fld) S hr hb fun A outer s H E f c' hr2 => by
    exact pe_fld (pe_var (i := 0) (x := one) rfl (.inl (S.par one (by simp))) hone hone2) (hat _)
  refine pe_weak (pe_callBK (x := "sorted") hc hg hmg bootn_sorted (pad_one h hst) (pk_cons hlam pk_nil) (by decide) (by decide) he hpl hall hnone hks) fun σ H Q ⟨G, e1, s, kq⟩ => ⟨G, e1, s, fun vs G1 H1 g1 a1 => ?_⟩
  refine ⟨G1, g1.gh, g1.sl.tb, fun f c' dV G2 H2 gr f0 f1 c1 hD => ?_⟩
  have hD : dV = .none := hD
  subst hD
  rw [hclo] at f1
  have f1 := gr.gh _ _ f1
  have c1 := gr.gh _ _ c1
  cases a1 with
  | @cons v0 _ _ _ a1 ar =>
    cases ar
    obtain ⟨a, xs, rfl, hs, hx⟩ : ∃ a xs, v0 = V.ref a ∧ (SqL X.K H2 a xs ∨ SqT X.K H2 a xs) ∧ Ats G1 xs ds := by
      rcases hd with rfl | rfl
      · cases a1 with
        | lst hg1 hs1 => exact ⟨_, _, rfl, .inl (.inl (.inl (gr.gh _ _ (gr.g _ _ hg1)))), hs1⟩
      · cases a1 with
        | tup hg1 hs1 => exact ⟨_, _, rfl, .inr (.inl (.inl (gr.gh _ _ (gr.g _ _ hg1)))), hs1⟩
    refine ⟨a, f, c', xs, ks, rfl, rfl, hs, by rw [hx.length]; exact h64, hl.trans hx.length.symm, f1, c1, fun i y kk hy hkk => ?_, fun Dn ys hDn ky => ?_⟩
    · obtain ⟨x, hx1, hx2⟩ := hx.getv hy
      obtain ⟨C, fs, y2, rfl, q1, q2, q3, q4⟩ := hk i x hx1
      rw [hkk] at q4
      cases q4
      cases hx2 with
      | ins hg1 hs1 =>
        obtain ⟨v, l1, l2⟩ := hs1.look q3
        cases l2
        exact ⟨_, rfl, _, _, _, _, _, rfl, gr.gh _ _ (gr.g _ _ hg1), q1, q2, l1, rfl, rfl⟩
    · obtain ⟨es, r1, r2⟩ := kout_rel (R := fun d v => At G1 v d) (ats_pair hx) ky
      have r1 := pair_ats r1
      rw [hz es r2] at r1
      have hn1 : H1 Dn = none := by
        cases z : H1 Dn with
        | none => rfl
        | some o => exact absurd hDn (gr.al _ (some_ne z))
      have hn0 : H Dn = none := by
        cases z : H Dn with
        | none => rfl
        | some o => exact absurd hn1 (g1.al _ (some_ne z))
      have g2 := gr.trans (Grow.fresh (o := HO.lst ys) gr.gh hDn)
      have st := g1.trans (g2.step g1.sl)
      refine kq (.ref Dn) G2 (upd H2 Dn (.lst ys)) st (.own (Evl.fresh_back gr.gh hDn) upd_same (r1.ex gr.g)) fun _ => ⟨Dn, rfl, hn0, fun m => ?_⟩
      obtain ⟨_, o, ho, _⟩ := g1.sl.mine m
      rw [hn1] at ho
      cases ho
end
end DL

end
section
set_option maxHeartbeats 4000001
/-! K5: tasks; round_in, need_tasks, need_order. -/
namespace K20
open PySem PySem.Spec
open PyProof.Rows L2 DL
/-- a plain task -/
structure Tk where
  name : Str
  period : Nat
  offset : Nat
  due : Nat
  least : Nat
  most : Option Nat
def optD : Option Nat → D
  | none => .non
  | some n => .int n
def tfs (t : Tk) : List (Str × D) := [("name", .str t.name), ("period", .int t.period), ("offset", .int t.offset), ("due", .int t.due), ("least", .int t.least), ("most", optD t.most)]
def tkD (C : Addr) (t : Tk) : D := .ins C (tfs t)
structure TaskC (K : PySem.W.Frag) (C : Addr) : Prop where
  cp : ClsP K C
  cl : Cls K C
  name : NoAttr K C "name"
  period : NoAttr K C "period"
  offset : NoAttr K C "offset"
  due : NoAttr K C "due"
  least : NoAttr K C "least"
  most : NoAttr K C "most"
def exM : List (Str × D) := [("most", .int 600), ("what", .str "round")]
def exV (x : Str) : List (Str × D) := [("part", .str x)]
/-- the least number that all divide, while it is at most 600 -/
def rnd : Nat → List Nat → Option Nat
  | f, [] => some f
  | f, p :: ps => if 600 < f / Nat.gcd f p * p then none else rnd (f / Nat.gcd f p * p) ps
section
variable [Tb]
variable {P : Program} {w : World} {K : PySem.W.Frag} {mg : Str → Option Value} {base : Heap} {f : Addr} {fd : FuncData} {CT : Addr}
theorem takes_def {N : List Str} {qual : Str} {scope : Scope} {cdv : Value} {A : Around} {outer : List Env} {s : Shared} {H : Hp} {E : XK} : Takes (cxOf (L2.CX P w) P w K mg base N qual scope f cdv A outer s H E) (fun cls d _ H => E cls d H) := takes_of rfl rfl rfl rfl
/-! ### round_in -/
theorem sc_round_in : FnScope ["tasks", "found", "one"] ["tasks"] (defScope (top 25)) := ⟨rfl, rfl, rfl, by decide +kernel, rfl, by decide +kernel, by decide +kernel⟩
def g_round_in (CT : Addr) (ds : List D) (z : Option Nat) : Prop := ∃ ts : List Tk, ds = [.tup (ts.map (tkD CT))] ∧ (∀ t ∈ ts, 0 < t.period ∧ t.period ≤ 600) ∧ z = rnd 1 (ts.map (·.period))
theorem ok_round_in {CM : Addr} (F : FnP K "round_in" (top 25) f fd) (B : Bn mg) (C : Cs mg) (T : TaskC K CT) (F1 : Def P w K mg base "common_part" 1 (spD 2 (fun ds r => f_common_part ds r) NoX)) (R : ExcC P w K mg base "TooMany" CM ["what", "most"]) :
    FnOk P w K mg base (L2.CX P w) 3 f fd ["tasks"] (spD 1 (fun ds r => ∃ n, g_round_in CT ds (some n) ∧ r = .int n) (fun ds cls fs => g_round_in CT ds none ∧ cls = .ref CM ∧ fs = exM)) := by
  have key : ∀ (cdv : Value) (A : Around) (outer : List Env) (s : Shared) (H : Hp) (E : XK) (ts : List Tk), Room 2 (A.deeper (envOfC "round_in" (defScope (top 25)) s.heap.objs.size f cdv)) → (∀ t ∈ ts, 0 < t.period ∧ t.period ≤ 600) → ∀ P0 : Po, (∀ n ρ, rnd 1 (ts.map (·.period)) = some n → P0.rt (.int n) ρ) → (∀ ρ, rnd 1 (ts.map (·.period)) = none → P0.ex (.ref CM) exM ρ) →
      HSs (cxOf (L2.CX P w) P w K mg base ["tasks", "found", "one"] "round_in" (defScope (top 25)) f cdv A outer s H E) (fun cls xd _ H' => E cls xd H') false (defBody (top 25)) (Gen [.tup (ts.map (tkD CT))] ["tasks", "found", "one"]) P0 := by
    intro cdv A outer s H E ts hr ht P0 h1 h2
    refine hss_then (hs_set 1 pd_int rfl sc_round_in.nd) ?_
    refine hss_cons (M := fun ρ => ∃ (n : Nat) (o : Option S), ρ = [some (.d (.tup (ts.map (tkD CT)))), some (.d (.int n)), o] ∧ rnd 1 (ts.map (·.period)) = some n) (hs_for PassesOwn.leaving rfl (pid_tup (pd_name 0))
      (fun i ρ => ∃ (n : Nat) (o : Option S), ρ = [some (.d (.tup (ts.map (tkD CT)))), some (.d (.int n)), o] ∧ 0 < n ∧ n ≤ 600 ∧ rnd 1 (ts.map (·.period)) = rnd n ((ts.drop i).map (·.period))) ⟨1, none, rfl, by decide, by decide, rfl⟩ (fun i d ρi hd hI => ?_) fun ρn hI => ?_) fun ρ hI => ?_
    · obtain ⟨n, o, rfl, hn, hn6, hrn⟩ := hI
      rw [List.getElem?_map] at hd
      obtain ⟨t, ht1, rfl⟩ := Option.map_eq_some_iff.mp hd
      have htm := ht t (List.mem_of_getElem? ht1)
      have hdrop : ts.drop i = t :: ts.drop (i + 1) := by
        have hi := get_of_le ht1
        rw [List.drop_eq_getElem_cons hi]
        congr 1
        rw [List.getElem?_eq_getElem hi] at ht1
        exact Option.some.inj ht1
      rw [hdrop, List.map_cons] at hrn
      have gp : 0 < Nat.gcd n t.period := Nat.gcd_pos_of_pos_left _ hn
      have gd : Nat.gcd n t.period ∣ n := Nat.gcd_dvd_left _ _
      have q0 : 0 < n / Nat.gcd n t.period := Nat.div_pos (Nat.le_of_dvd hn gd) gp
      have q6 : n / Nat.gcd n t.period ≤ 600 := Nat.le_trans (Nat.div_le_self _ _) hn6
      have g6 : Nat.gcd n t.period ≤ 600 := Nat.le_trans (Nat.le_of_dvd hn gd) hn6
      have m0 : 0 < n / Nat.gcd n t.period * t.period := Nat.mul_pos q0 htm.1
      refine ⟨[2], _, pgd_name 2 sc_round_in.nd, .inl rfl, ?_⟩
      refine hss_then (ρ1 := [some (.d (.tup (ts.map (tkD CT)))), some (.d (.int ((n / Nat.gcd n t.period * t.period : Nat) : Int))), some (.d (tkD CT t))]) (hs_set 1 (d := .int ((n / Nat.gcd n t.period * t.period : Nat) : Int)) (PD.is (pd_mul (pd_fdiv (pd_name 1) (pd_call F1 (hr.mono (by decide)) (pad_cons (pd_name 1) (pad_one (pd_fld (pd_name 2) T.cl T.period rfl))) rfl ⟨n, t.period, rfl, hn, rfl⟩) ?_) (pd_fld (pd_name 2) T.cl T.period rfl) ?_) ?_) rfl sc_round_in.nd) ?_
      · exact ⟨by omega, by omega⟩
      · exact .inl ⟨by omega, by omega⟩
      · rw [Int.natCast_mul, Int.natCast_ediv]
      · refine hss_one (hs_if (ptd_gt (pd_name 1) (pd_cI C.round)) (fun hc => ?_) fun hc => ?_)
        · have hc : (600 : Int) < (n / Nat.gcd n t.period * t.period : Nat) := of_decide_eq_true hc
          refine hss_one (hs_raise takes_def R hr (pad_cons pd_str (pad_one (pd_cI C.round))) rfl (by decide) (h2 _ ?_))
          rw [hrn]
          exact if_pos (by omega)
        · have hc : ¬ (600 : Int) < (n / Nat.gcd n t.period * t.period : Nat) := of_decide_eq_false hc
          refine hss_nil ⟨_, _, rfl, m0, by omega, ?_⟩
          rw [hrn]
          exact if_neg (by omega)
    · obtain ⟨n, o, rfl, _, _, hrn⟩ := hI
      refine ⟨n, o, rfl, hrn.trans ?_⟩
      rw [List.length_map, List.drop_length]
      rfl
    · obtain ⟨n, o, rfl, hrn⟩ := hI
      exact hss_one (hs_ret (pd_name 1) (h1 n _ hrn))
  refine def_ok F sc_round_in rfl fun cdv A outer s H E ds hr hl => ⟨fun r ⟨n, ⟨ts, e1, e2, e3⟩, e4⟩ => ?_, fun cls fs ⟨⟨ts, e1, e2, e3⟩, e4, e5⟩ => ?_⟩
  · subst e1 e4
    exact key cdv A outer s H E ts hr e2 _ (fun m ρ h => by rw [← e3] at h; cases h; rfl) fun ρ h => by rw [← e3] at h; cases h
  · subst e1 e4 e5
    exact key cdv A outer s H E ts hr e2 _ (fun m ρ h => by rw [← e3] at h; cases h) fun ρ h => ⟨rfl, rfl⟩
end
end K20

end
section
set_option maxHeartbeats 4000001
/-! K6: need_tasks. -/
namespace K20
open PySem PySem.Spec
open PyProof.Rows L2 DL
/-! ### tasks by names -/
theorem asc_pw : ∀ {xs : List Str}, asc xs = true → xs.Pairwise fun a b => ltS a b = true
  | [], _ => .nil
  | [x], _ => by simp
  | x :: y :: r, h => by
    have h' : (ltS x y && asc (y :: r)) = true := h
    rw [Bool.and_eq_true] at h'
    have ih := asc_pw (xs := y :: r) h'.2
    refine List.pairwise_cons.mpr ⟨fun z hz => ?_, ih⟩
    rcases List.mem_cons.mp hz with e | e
    · rw [e]
      exact h'.1
    · exact lt_tr h'.1 ((List.pairwise_cons.mp ih).1 z e)
theorem asc_nodup {xs : List Str} (h : asc (srtS xs) = true) : xs.Nodup := (srtS_perm xs).nodup_iff.mp ((asc_pw h).imp fun {a b} q z => by
  subst z
  have q : ltCps a.cps.toList a.cps.toList = true := q
  rw [lt_irr] at q
  cases q)
def tsrt (ts : List Tk) : List Tk := ts.mergeSort fun a b => leS a.name b.name
theorem tsrt_perm (ts : List Tk) : (tsrt ts).Perm ts := List.mergeSort_perm ts _
theorem tsrt_pw (ts : List Tk) : (tsrt ts).Pairwise fun a b => leS a.name b.name = true := List.pairwise_mergeSort (fun a b c => leS_tr a.name b.name c.name) (fun a b => leS_tot a.name b.name) ts
theorem perm_pwT : ∀ {xs ys : List Tk}, xs.Perm ys → (xs.Pairwise fun a b => leS a.name b.name = true) → (ys.Pairwise fun a b => leS a.name b.name = true) → (xs.map (·.name)).Nodup → xs = ys
  | [], ys, p, _, _, _ => (List.nil_perm.mp p).symm
  | x :: xs, [], p, _, _, _ => by
    have := p.length_eq
    cases this
  | x :: xs, y :: ys, p, h1, h2, nd => by
    have e : x = y := by
      have m1 : y ∈ x :: xs := p.mem_iff.mpr List.mem_cons_self
      have m2 : x ∈ y :: ys := p.mem_iff.mp List.mem_cons_self
      rcases List.mem_cons.mp m1 with e | m1
      · exact e.symm
      · rcases List.mem_cons.mp m2 with e | m2
        · exact e
        · have q := leS_anti ((List.pairwise_cons.mp h1).1 y m1) ((List.pairwise_cons.mp h2).1 x m2)
          have nd' : (x.name :: xs.map (·.name)).Nodup := nd
          exact absurd (List.mem_map.mpr ⟨y, m1, q.symm⟩) (List.nodup_cons.mp nd').1
    subst e
    have nd' : (x.name :: xs.map (·.name)).Nodup := nd
    rw [perm_pwT (List.Perm.cons_inv p) (List.pairwise_cons.mp h1).2 (List.pairwise_cons.mp h2).2 (List.nodup_cons.mp nd').2]
theorem zip_map {α β γ : Type} (f : α → β) (g : α → γ) : ∀ l : List α, (l.map f).zip (l.map g) = l.map fun x => (f x, g x)
  | [] => rfl
  | x :: l => congrArg ((f x, g x) :: ·) (zip_map f g l)
theorem pair_fun {α β : Type} {g : α → β} : ∀ {l : List α} {m : List β}, Paired (fun x y => y = g x) l m → m = l.map g
  | _, _, .nil => rfl
  | _, _, .cons h r => by rw [h, pair_fun r]; rfl
theorem fun_pair {α β : Type} (g : α → β) : ∀ l : List α, Paired (fun x y => y = g x) l (l.map g)
  | [] => .nil
  | x :: l => .cons rfl (fun_pair g l)
theorem tsrt_uniq {CT : Addr} {ts : List Tk} (h : asc (srtS (ts.map (·.name))) = true) {ys : List D} (k : KOutV (ts.map (·.name)) (ts.map (tkD CT)) ys) : ys = (tsrt ts).map (tkD CT) := by
  obtain ⟨ps, p1, p2, p3⟩ := k
  rw [zip_map] at p1
  obtain ⟨qs, q1, q2⟩ := perm_rel p1 (fun_pair (fun t : Tk => (t.name, tkD CT t)) ts)
  have e := pair_fun q2
  subst e
  rw [List.pairwise_map] at p3
  have nd := asc_nodup h
  have e : qs = tsrt ts := perm_pwT (q1.trans (tsrt_perm ts).symm) (p3.imp fun {a b} z => by
    show leS a.name b.name = true
    unfold leS ltS
    rw [Bool.not_eq_true', ltCps_eq]
    exact decide_eq_false z) (tsrt_pw ts) ((q1.map _).nodup_iff.mpr nd)
  rw [p2, List.map_map, e]
  rfl
/-! ### lists and tuples alike -/
section
variable [Tb]
variable {X : Cx} {ρ ρ' : Rho} {e tg : Expr} {d : D} {ds : List D} {p pos : Pos}
def Seq (d : D) (ds : List D) : Prop := d = .lst ds ∨ d = .tup ds
theorem pid_seq (h : PD X e ρ d ρ') (hd : Seq d ds) : PID X tg e ρ ds ρ' := by
  rcases hd with rfl | rfl
  · exact pid_list h
  · exact pid_tup h
theorem pd_lenD (hm : X.mg "len" = none) (h : PD X e ρ d ρ') (hd : Seq d ds) (hg : Gl X "len" := by rfl) (he : starEach [e] X.env = (false, eval e X.env) :: starEach [] X.env := by rfl) : PD X (.Call (.Name "len" p) [e] [] pos) ρ (.int ds.length) ρ' := by
  rcases hd with rfl | rfl
  · exact pd_lenL hm h hg he
  · exact pd_lenT hm h hg he
def fldOf (x : Str) : D → Option D
  | .ins _ fs => fs.lookup x
  | _ => none
theorem fld_map {CT : Addr} {x : Str} {g : Tk → D} (h : ∀ t, (tfs t).lookup x = some (g t)) : ∀ ts : List Tk, (ts.map (tkD CT)).filterMap (fldOf x) = ts.map g
  | [] => rfl
  | t :: ts => by
    rw [List.map_cons, List.filterMap_cons, show fldOf x (tkD CT t) = some (g t) from h t]
    exact congrArg (g t :: ·) (fld_map h ts)
theorem fm_map {α β : Type} (g : α → β) : ∀ l : List α, l.filterMap (fun x => some (g x)) = l.map g
  | [] => rfl
  | x :: l => congrArg (g x :: ·) (fm_map g l)
/-! ### need_tasks -/
/-- what stands in lists that are asked -/
def El (CT : Addr) (d : D) : Prop := (∃ t, d = tkD CT t) ∨ d = .non ∨ ∃ ds, d = .tup ds
def isTk : D → Bool
  | .ins _ _ => true
  | _ => false
structure TaskK (K : PySem.W.Frag) (mg : Str → Option Value) (CT : Addr) : Prop extends TaskC K CT where
  gl : mg "Task" = some (.ref CT)
  none : PySem.W.kitOne K (.type "NoneType") (.ref CT) = some false
  tup : PySem.W.kitOne K (.type "tuple") (.ref CT) = some false
variable {P : Program} {w : World} {K : PySem.W.Frag} {mg : Str → Option Value} {base : Heap} {f : Addr} {fd : FuncData} {CT : Addr} {b : Expr} {ρ1 : Rho} {p2 : Pos}
theorem pd_isTask (B : Bn X.mg) (T : TaskK X.K X.mg CT) (k : El CT d) (h : PD X e ρ d ρ1) (hg : Gl X "isinstance" := by rfl) (hg2 : Gl X "Task" := by rfl) (he : starEach [e, .Name "Task" p2] X.env = (false, eval e X.env) :: starEach [.Name "Task" p2] X.env := by rfl) : PD X (.Call (.Name "isinstance" p) [e, .Name "Task" p2] [] pos) ρ (.bl (isTk d)) ρ1 := by
  have t : PD X (.Name "Task" p2) ρ1 (.rf CT) ρ1 := pd_glob (v := .ref CT) T.gl rfl (fun _ => .rf CT) hg2
  rcases k with ⟨t', rfl⟩ | rfl | ⟨ds, rfl⟩
  · exact pd_isi B.isinstance h t (.ins _ T.cp.ci) (.rf _) (by unfold PySem.W.kitOne; rw [if_pos (by simp)]; rfl) hg he rfl
  · exact pd_isi B.isinstance h t .non (.rf _) T.none hg he rfl
  · exact pd_isi B.isinstance h t (.tup _) (.rf _) T.tup hg he rfl
theorem sc_need_tasks : FnScope ["tasks", "one", "told"] ["tasks"] (defScope (top 23)) := ⟨rfl, rfl, rfl, by decide +kernel, rfl, by decide +kernel, by decide +kernel⟩
def good (ts : List Tk) : Prop := 1 ≤ ts.length ∧ ts.length ≤ 5 ∧ asc (srtS (ts.map (·.name))) = true ∧ ∀ t ∈ ts, 0 < t.period ∧ t.period ≤ 600
def need1 (CT : Addr) (ds : List D) (z : Option Nat) (ts : List Tk) : Prop := ∃ d, ds = [d] ∧ Seq d (ts.map (tkD CT)) ∧ good ts ∧ rnd 1 ((tsrt ts).map (·.period)) = z
inductive Bad (K : PySem.W.Frag) (CT : Addr) : D → Prop where
  | no {d : D} (h : Ok K d) (l : isL d = false) : Bad K CT d
  | el {d : D} {xs : List D} (o : Ok K d) (h : Seq d xs) (e : ∀ x ∈ xs, El CT x) (n : ¬ ((1 ≤ xs.length ∧ xs.length ≤ 5) ∧ (xs.map isTk).all id = true)) : Bad K CT d
  | nm {d : D} {ts : List Tk} (o : Ok K d) (h : Seq d (ts.map (tkD CT))) (l : 1 ≤ ts.length ∧ ts.length ≤ 5) (n : asc (srtS (ts.map (·.name))) = false) : Bad K CT d
/-- a def that makes lambdas: its code object, the table of those that it makes -/
structure FnT (K : PySem.W.Frag) (mg : Str → Option Value) (base : Heap) (x : Str) (st : Stmt) (f c P : Addr) (fd : FuncData) : Prop where
  fn : ∃ (oc dV kV doc pm ct : Value) (od an : Option Addr) (osl : Array (Option Value)), fd = PySem.W.fnOf x x (defArgs st) (defBody st) (defScope st) dV kV doc pm an (.ref c) ct ∧ K.lookup f = some ⟨oc, od, .func fd, osl⟩
  cd : PySem.W.codeIn K (.ref c) x = true
  tb : LamX.TabB base mg c P
  tm : (P, x ++ ".<locals>." ++ "<lambda>") ∈ Tb.T
  tu : ∀ p ∈ Tb.T, p.1 = P → p.2 = x ++ ".<locals>." ++ "<lambda>"
theorem isL_seq {d : D} (h : isL d = true) : ∃ xs, Seq d xs := by
  cases d with
  | lst xs => exact ⟨xs, .inl rfl⟩
  | tup xs => exact ⟨xs, .inr rfl⟩
  | _ => cases h
theorem seq_isL {d : D} {xs : List D} (h : Seq d xs) : isL d = true := by rcases h with rfl | rfl <;> rfl
theorem ok_need_tasks {c PT CB CM : Addr} (F : FnT K mg base "need_tasks" (top 23) f c PT fd) (B : Bn mg) (C : Cs mg) (T : TaskK K mg CT) (F1 : Def P w K mg base "is_listed" 1 (spD 1 (fun ds r => f_is_listed ds K r) NoX)) (F2 : Def P w K mg base "are_unlike" 2 (spD 1 (fun ds r => f_are_unlike ds r) NoX))
    (F3 : Def P w K mg base "round_in" 3 (spD 1 (fun ds r => ∃ n, g_round_in CT ds (some n) ∧ r = .int n) (fun ds cls fs => g_round_in CT ds none ∧ cls = .ref CM ∧ fs = exM))) (R : ExcC P w K mg base "BadValue" CB ["part"]) :
    FnOk P w K mg base (L2.CX P w) 4 f fd ["tasks"] (spD 1 (fun ds r => ∃ ts n, need1 CT ds (some n) ts ∧ r = .tup ((tsrt ts).map (tkD CT)))
      (fun ds cls fs => (∃ d, ds = [d] ∧ Bad K CT d ∧ cls = .ref CB ∧ fs = exV "tasks") ∨ ∃ ts, need1 CT ds none ts ∧ cls = .ref CM ∧ fs = exM)) := by
  obtain ⟨oc, dV, kV, doc, pm, ct, od, an, osl, rfl, lk⟩ := F.fn
  refine def_okV lk F.cd sc_need_tasks rfl fun A outer s H E ds hr hl => ?_
  -- the first test, of a list or tuple
  have all1 : ∀ {d : D} {xs : List D}, Ok K d → Seq d xs → (∀ x ∈ xs, El CT x) → ∀ (P0 : Po), (((1 ≤ xs.length ∧ xs.length ≤ 5) ∧ (xs.map isTk).all id = true) → HSs (cxOf (L2.CX P w) P w K mg base ["tasks", "one", "told"] "need_tasks" (defScope (top 23)) f (.ref c) A outer s H E) (fun cls xd _ H' => E cls xd H') false ((defBody (top 23)).drop 1) (Gen [d] ["tasks", "one", "told"]) P0) →
      (¬ ((1 ≤ xs.length ∧ xs.length ≤ 5) ∧ (xs.map isTk).all id = true) → ∀ ρ, P0.ex (.ref CB) (exV "tasks") ρ) → HSs (cxOf (L2.CX P w) P w K mg base ["tasks", "one", "told"] "need_tasks" (defScope (top 23)) f (.ref c) A outer s H E) (fun cls xd _ H' => E cls xd H') false (defBody (top 23)) (Gen [d] ["tasks", "one", "told"]) P0 := by
    intro d xs o hd he P0 k1 k2
    have tr : (!(isL d) || (!(decide ((1 : Int) ≤ xs.length) && decide ((xs.length : Int) ≤ 5)) || !((xs.map isTk).all id))) = !decide ((1 ≤ xs.length ∧ xs.length ≤ 5) ∧ (xs.map isTk).all id = true) := by
      rw [seq_isL hd, Bool.eq_iff_iff]
      simp only [Bool.not_true, Bool.false_or, Bool.or_eq_true, Bool.not_eq_true', Bool.and_eq_false_iff, decide_eq_false_iff_not]
      constructor
      · rintro (h | h) ⟨⟨h1, h2⟩, h3⟩
        · rcases h with h | h <;> omega
        · rw [h3] at h
          cases h
      · intro h
        by_cases h1 : 1 ≤ xs.length
        · by_cases h2 : xs.length ≤ 5
          · cases h3 : (xs.map isTk).all id with
            | true => exact absurd ⟨⟨h1, h2⟩, h3⟩ h
            | false => exact .inr rfl
          · exact .inl (.inr (by omega))
        · exact .inl (.inl (by omega))
    refine hss_leave (k1 := !(isL d) || (!(decide ((1 : Int) ≤ xs.length) && decide ((xs.length : Int) ≤ 5)) || !((xs.map isTk).all id))) (ρ1 := Gen [d] ["tasks", "one", "told"]) (pwd_pt (pwd_orB (ptd_not (ptd_val (pd_call F1 (hr.mono (by decide)) (pad_one (pd_name 0)) rfl ⟨d, rfl, o, rfl⟩))) fun _ => pwd_orB (ptd_not (ptd_leLe pd_int (pd_lenD B.len (pd_name 0) hd) (pd_cI C.tasks))) fun h5 => pwd_or1 (ptd_not (ptd_val (pd_all (bs := xs.map isTk) rfl B.all (PD.is (pd_frz (pso_lc (own := [("one", 1)]) (fun d => some (.bl (isTk d))) rfl sc_need_tasks.nd (pid_seq (pd_name 0) hd) (blkOk_by (show blkC ["tasks", "one", "told"] (defScope (top 23)) _ _ = true by decide +kernel)) (fun x hx => ⟨[1], _, true, fun _ _ _ _ _ => pgd_name 1 sc_need_tasks.nd, by decide, rfl, ptsd_nil, fun _ => ⟨_, fun _ _ _ _ _ => pd_isTask B T (he x hx) (pd_name 1), rfl⟩, fun z => by cases z⟩) (hl := ?_))) ?_)))))) (fun hk => ?_) fun hk => ?_
    · have h5' := h5
      simp only [Bool.not_eq_false', Bool.and_eq_true, decide_eq_true_eq] at h5'
      omega
    · rw [List.map_map]
      exact congrArg D.lst (fm_map (fun d => D.bl (isTk d)) xs)
    · rw [tr, Bool.not_eq_true', decide_eq_false_iff_not] at hk
      exact hss_one (hs_raise takes_def R (hr.mono (by decide)) (pad_one pd_str) rfl (by decide) (k2 hk _))
    · rw [tr, Bool.not_eq_false', decide_eq_true_eq] at hk
      exact k1 hk
  -- what stands behind it
  have rest : ∀ {d : D} {ts : List Tk}, Ok K d → Seq d (ts.map (tkD CT)) → ts.length ≤ 5 → (∀ t ∈ ts, 0 < t.period ∧ t.period ≤ 600) ∨ asc (srtS (ts.map (·.name))) = false → ∀ (P0 : Po), (asc (srtS (ts.map (·.name))) = false → ∀ ρ, P0.ex (.ref CB) (exV "tasks") ρ) → (asc (srtS (ts.map (·.name))) = true → (∀ n ρ, rnd 1 ((tsrt ts).map (·.period)) = some n → P0.rt (.tup ((tsrt ts).map (tkD CT))) ρ) ∧ (rnd 1 ((tsrt ts).map (·.period)) = none → ∀ ρ, P0.ex (.ref CM) exM ρ)) →
      HSs (cxOf (L2.CX P w) P w K mg base ["tasks", "one", "told"] "need_tasks" (defScope (top 23)) f (.ref c) A outer s H E) (fun cls xd _ H' => E cls xd H') false ((defBody (top 23)).drop 1) (Gen [d] ["tasks", "one", "told"]) P0 := by
    intro d ts o hd h5 hp P0 k1 k2
    refine hss_leave (k1 := !asc (srtS (ts.map (·.name)))) (ρ1 := Gen [d] ["tasks", "one", "told"]) (ptd_not (ptd_val (pd_call F2 (hr.mono (by decide)) (pad_one (pd_frz (pso_lc (own := [("one", 1)]) (fldOf "name") rfl sc_need_tasks.nd (pid_seq (pd_name 0) hd) (blkOk_by (show blkC ["tasks", "one", "told"] (defScope (top 23)) _ _ = true by decide +kernel)) (fun x hx => ?_) (hl := ?_)))) rfl ⟨ts.map (·.name), ?_, ?_, rfl⟩))) (fun hk => ?_) fun hk => ?_
    · obtain ⟨t, _, rfl⟩ := List.mem_map.mp hx
      exact ⟨[1], _, true, fun _ _ _ _ _ => pgd_name 1 sc_need_tasks.nd, by decide, rfl, ptsd_nil, fun _ => ⟨_, fun _ _ _ _ _ => pd_fld (pd_name 1) T.cl T.name rfl, rfl⟩, fun z => by cases z⟩
    · rw [List.length_map]
      omega
    · rw [fld_map (g := fun t => .str t.name) (fun t => rfl), List.map_map]
      rfl
    · rw [List.length_map]
      omega
    · rw [Bool.not_eq_true'] at hk
      exact hss_one (hs_raise takes_def R (hr.mono (by decide)) (pad_one pd_str) rfl (by decide) (k1 hk _))
    · rw [Bool.not_eq_false'] at hk
      obtain ⟨q1, q2⟩ := k2 hk
      have hp : ∀ t ∈ ts, 0 < t.period ∧ t.period ≤ 600 := hp.elim id fun z => by rw [hk] at z; cases z
      have hp' : ∀ t ∈ tsrt ts, 0 < t.period ∧ t.period ≤ 600 := fun t ht => hp t ((tsrt_perm ts).mem_iff.mp ht)
      refine hss_then (hs_set 2 (pd_tupleL B.tuple (pd_frz (pso_sortedK F.tb rfl F.tm F.tu B.sorted hr (pd_name 0) hd (ks := ts.map (·.name)) (fun i x hx => ?_) (by rw [List.length_map, List.length_map]) (by rw [List.length_map]; omega) (fun ys hy => tsrt_uniq hk hy) (NdefX.nscope_by (by decide +kernel)) (fun _ _ _ _ => rfl) (fun _ => rfl) rfl))) rfl sc_need_tasks.nd) ?_
      · rw [List.getElem?_map] at hx
        obtain ⟨t, ht1, rfl⟩ := Option.map_eq_some_iff.mp hx
        exact ⟨CT, tfs t, t.name, rfl, T.cl, T.name, rfl, by rw [List.getElem?_map, ht1]; rfl⟩
      · have per : ∀ n : Option Nat, rnd 1 ((tsrt ts).map (·.period)) = n → g_round_in CT [.tup ((tsrt ts).map (tkD CT))] n := fun n hn => ⟨tsrt ts, rfl, hp', hn.symm⟩
        cases hn : rnd 1 ((tsrt ts).map (·.period)) with
        | some n => exact hss_then (hs_drop (pd_call F3 (hr.mono (by decide)) (pad_one (pd_name 2)) rfl ⟨n, per _ hn, rfl⟩) rfl) (hss_one (hs_ret (pd_name 2) (q1 n _ hn)))
        | none => exact hss_cons (M := fun _ => False) (hs_dropX (px_call takes_def F3 (hr.mono (by decide)) (pad_one (pd_name 2)) rfl ⟨per _ hn, rfl, rfl⟩) (q2 hn _)) fun _ z => z.elim
  have tks : ∀ {xs : List D}, (∀ x ∈ xs, El CT x) → (xs.map isTk).all id = true → ∃ ts : List Tk, xs = ts.map (tkD CT) := by
    intro xs
    induction xs with
    | nil => exact fun _ _ => ⟨[], rfl⟩
    | cons x xs ih =>
      intro he ha
      have ha : (isTk x && (xs.map isTk).all id) = true := ha
      rw [Bool.and_eq_true] at ha
      obtain ⟨ts, e⟩ := ih (fun y hy => he y (List.mem_cons_of_mem _ hy)) ha.2
      rcases he x List.mem_cons_self with ⟨t, rfl⟩ | rfl | ⟨ds, rfl⟩
      · exact ⟨t :: ts, by rw [e]; rfl⟩
      · cases ha.1
      · cases ha.1
  have elt : ∀ ts : List Tk, ∀ x ∈ ts.map (tkD CT), El CT x := fun ts x hx => by
    (obtain ⟨t, _, rfl⟩ := List.mem_map.mp hx)
    exact .inl ⟨t, rfl⟩
  have alt : ∀ ts : List Tk, ((ts.map (tkD CT)).map isTk).all id = true := fun ts => by
    rw [List.all_eq_true]
    intro x hx
    (obtain ⟨y, hy, rfl⟩ := List.mem_map.mp hx)
    obtain ⟨t, _, rfl⟩ := List.mem_map.mp hy
    rfl
  have okS : ∀ {d : D} {xs : List D}, Seq d xs → Ok K d := fun {d xs} h => by
    rcases h with rfl | rfl
    · exact .lst _
    · exact .tup _
  refine ⟨fun r hf => ?_, fun cls fs hf => ?_⟩
  · obtain ⟨ts, n, ⟨d, e1, e2, ⟨g1, g2, g3, g4⟩, e4⟩, e5⟩ := hf
    subst e1 e5
    refine all1 (okS e2) e2 (elt ts) _ (fun _ => rest (okS e2) e2 g2 (.inl g4) _ (fun z => by rw [g3] at z; cases z) fun _ => ⟨fun m ρ _ => rfl, fun z => by rw [e4] at z; cases z⟩) fun z => absurd ⟨⟨by rw [List.length_map]; exact g1, by rw [List.length_map]; exact g2⟩, alt ts⟩ z
  · rcases hf with ⟨d, e1, e2, e3, e4⟩ | ⟨ts, ⟨d, e1, e2, ⟨g1, g2, g3, g4⟩, e4⟩, e5, e6⟩
    · subst e1 e3 e4
      cases e2 with
      | no o l =>
        exact hss_leave (k1 := true) (ρ1 := Gen [d] ["tasks", "one", "told"]) (pwd_pt (pwd_or1T (ptd_not (ptd_val (PD.is (pd_call F1 (hr.mono (by decide)) (pad_one (pd_name 0)) rfl ⟨d, rfl, o, rfl⟩) (congrArg D.bl l)))))) (fun _ => hss_one (hs_raise takes_def R (hr.mono (by decide)) (pad_one pd_str) rfl (by decide) ⟨rfl, rfl⟩)) fun z => by cases z
      | @el xs o h e n => exact all1 o h e _ (fun z => absurd z n) fun _ ρ => ⟨rfl, rfl⟩
      | @nm ts o h l n =>
        exact all1 o h (elt ts) _ (fun _ => rest o h l.2 (.inr n) _ (fun _ ρ => ⟨rfl, rfl⟩) fun z => by rw [n] at z; cases z) fun z => absurd ⟨⟨by rw [List.length_map]; exact l.1, by rw [List.length_map]; exact l.2⟩, alt ts⟩ z
    · subst e1 e5 e6
      refine all1 (okS e2) e2 (elt ts) _ (fun _ => rest (okS e2) e2 g2 (.inl g4) _ (fun z => by rw [g3] at z; cases z) fun _ => ⟨fun m ρ z => (by rw [e4] at z; cases z), fun _ ρ => ⟨rfl, rfl⟩⟩) fun z => absurd ⟨⟨by rw [List.length_map]; exact g1, by rw [List.length_map]; exact g2⟩, alt ts⟩ z
end
end K20

end
section
set_option maxHeartbeats 4000001
/-! DL14: sorted of a tuple of texts. -/
namespace DL
open PySem PySem.Spec
open PyProof.Rows L2
open Evl (Ex)
section
variable {X : Cx}
theorem strs_of {us : List Value} {xs : List Str} (h : Vals (xs.map V.str) us) : StrsAre us xs := by
  induction xs generalizing us with
  | nil => cases h; exact .nil
  | cons x xs ih =>
    cases h with
    | cons a r =>
      obtain ⟨t, rfl⟩ := a
      exact .cons x t (ih r)
theorem vals_of {us : List Value} {xs : List Str} (h : StrsAre us xs) : Vals (xs.map V.str) us := by
  induction h with
  | nil => exact .nil
  | cons y t h ih => exact .cons ⟨t, rfl⟩ ih
def rSortT (K : PySem.W.Frag) : List V → Hp → VK → Prop := fun vs H Q => ∃ (a : Addr) (xs : List Str), vs = [V.ref a] ∧ SqT K H a (xs.map V.str) ∧ xs.length < 64 ∧ ∀ (ys : List Str) (p : Addr), ys.Perm xs → sortedS ys = true → H p = none → Q (.ref p) (upd H p (.lst (ys.map V.str)))
theorem cr_sortedT : CallR X (.builtin "sorted") (rSortT X.K) := by
  intro pins s σ H vs us Q I r ⟨a, xs, e1, hs, h64, hq⟩
  subst e1
  obtain rfl := Vals.ref1 r
  have big : 64 ≤ sizeLine := by rw [sizeLine_eq]; omega
  obtain ⟨its, rv, ⟨o, g1, g2, n, g3⟩, _⟩ := I.tuple hs
  have sv := strs_of rv
  have lv := rv.length
  rw [List.length_map] at lv
  (refine Calls.call_function_entry kind_sorted plain_sorted entry_sorted (args_sorted1 _) ?_)
  unfold Builtin.«sorted»
  (refine wpAny_bind (m := checkCount "sorted" 1 1 _) (wpAny_pure ?_))
  refine wpAny_bind (wpAny_collect_seq a (.inr rfl) g1 g2 g3 (fun h' k => ?_) (by rw [List.size_toArray]; omega))
  have el : its.toArray.toList = its := by simp
  rw [el]
  have I1 := I.kept (t' := s.toks) k
  refine wpAny_bind (wpAny_newList ?_ (by omega))
  have hoL : (h'.push (seqObj "list" its.toArray 0)).get? h'.objs.size = some (seqObj "list" its.toArray 0) := Heap.get?_push_size _ rfl
  refine wpAny_bind (wpAny_holding (wpAny_call_entry slot_list_sort ⟨_, hoL, rfl⟩ entry_list_sort ?_ (args_list_sort _)))
  refine list_sort_treeK strKind_oneLt hoL sv.keysOf (fun v₁ v₂ rest e => keyKind_strs (by rw [← e]; exact sv)) (by omega) fun st' hp hsr => ⟨_, rfl, ?_⟩
  obtain ⟨ys, k1, k2, k3⟩ := sorted_out_str sv hp hsr
  obtain ⟨e, he⟩ := sortedHeap_at (out := (arrOf st').map (·.2)) hoL
  have fr := I1.hok.fresh (Nat.le_refl _)
  have ly : (ys.map V.str).length ≤ sizeLine := by
    (rw [List.length_map, k2.length_eq])
    omega
  refine wpAny_pure ⟨_, rfl, .ref _, _, I1.laid (t' := s.toks) (a := h'.objs.size) (o := .lst (ys.map V.str)) (fun b z q => ?_) (Nat.le_refl _) ⟨ly, _, e, vals_of k1, by rw [Array.toArray_toList]; exact he⟩, rfl, hq ys _ k2 k3 fr⟩
  have hlt : b < h'.objs.size := Heap.lt_size q
  (rw [sortedHeap_old (Nat.ne_of_lt hlt) (by rw [size_push']; exact Nat.lt_succ_of_lt hlt)])
  (exact Heap.get?_push_of_some _ q)
end
section
variable [Tb]
variable {X : Cx} {ρ ρ' : Rho} {e : Expr} {p pos : Pos}
theorem pso_sortedST {xs zs : List Str} (hm : X.mg "sorted" = none) (h : PD X e ρ (.tup (xs.map D.str)) ρ') (hl : xs.length < 64) (hz : ∀ ys : List Str, ys.Perm xs → sortedS ys = true → ys = zs) (hg : Gl X "sorted" := by rfl) (he : starEach [e] X.env = (false, eval e X.env) :: starEach [] X.env := by rfl) : PS_ X (.Call (.Name "sorted" p) [e] [] pos) ρ (.own (zs.map D.str)) ρ' :=
  pso_callB cr_sortedT hm (pad_one h he) (fun G H vs e a Q k => by
    cases a with
    | cons a1 r =>
      cases r
      cases a1 with
      | tup hg ha =>
        rw [ats_str ha] at hg
        refine ⟨_, xs, rfl, .inl (.inl (e _ _ hg)), hl, fun ys q h1 h2 h3 => ?_⟩
        rw [hz ys h1 h2]
        exact k q _ h3 (ats_of (fun x => At.str x) zs)) bootn_sorted hg (he := he)
end
end DL

end
section
set_option maxHeartbeats 4000001
/-! K7: need_order. -/
namespace K20
open PySem PySem.Spec
open PyProof.Rows L2 DL
theorem letters_le {c : Nat} (h : c ∈ letters.cps.toList) : 97 ≤ c ∧ c ≤ 122 := by
  have all : letters.cps.toList.all (fun c => decide (97 ≤ c) && decide (c ≤ 122)) = true := by decide +kernel
  have q := List.all_eq_true.mp all c h
  (simp only [Bool.and_eq_true, decide_eq_true_eq] at q)
  exact q
theorem name_ok {x : Str} (h : isNameS x = true) : PyData.strOk x = true := by
  unfold isNameS at h
  (simp only [Bool.and_eq_true, List.all_eq_true, decide_eq_true_eq] at h)
  obtain ⟨_, h⟩ := h
  unfold PyData.strOk
  rw [Array.all_eq_true_iff_forall_mem]
  intro c hc
  have q := letters_le (h c (by simpa using hc))
  (exact decide_eq_true (by omega))
theorem toPys_str : ∀ xs : List Str, toPys (xs.map D.str) = some (xs.map PyData.str)
  | [] => rfl
  | x :: xs => by
    rw [List.map_cons]
    unfold toPys
    rw [toPys_str xs]
    rfl
theorem toPy_strs (xs : List Str) : toPy (.lst (xs.map D.str)) = some (.list (xs.map PyData.str)) := by
  unfold toPy
  rw [toPys_str]
  rfl
theorem eqv_strs : ∀ xs ys : List Str, PyData.eqvAll (xs.map PyData.str) (ys.map PyData.str) = decide (xs = ys)
  | [], [] => by decide
  | [], _ :: _ => by
    rw [decide_eq_false (by simp)]
    rfl
  | _ :: _, [] => by
    rw [decide_eq_false (by simp)]
    rfl
  | x :: xs, y :: ys => by
    show (PyData.eqv (.str x) (.str y) && PyData.eqvAll (xs.map PyData.str) (ys.map PyData.str)) = _
    rw [eqv_strs xs ys, Bool.eq_iff_iff]
    show ((x == y) && _) = true ↔ _
    simp
theorem lay_strs : ∀ {xs : List Str}, (∀ x ∈ xs, isNameS x = true) → PyData.canLayAll0 (xs.map PyData.str) = true
  | [], _ => rfl
  | x :: xs, h => by
    show (PyData.canLay0 (.str x) && PyData.canLayAll0 (xs.map PyData.str)) = true
    rw [lay_strs fun y hy => h y (List.mem_cons_of_mem _ hy), Bool.and_true]
    exact name_ok (h x List.mem_cons_self)
theorem dep_strs : ∀ xs : List Str, PyData.depthAll (xs.map PyData.str) = 0
  | [] => rfl
  | x :: xs => by
    show max (PyData.depth (.str x)) (PyData.depthAll (xs.map PyData.str)) = 0
    rw [dep_strs xs]
    rfl
theorem shaped_strs {xs : List Str} (h : ∀ x ∈ xs, isNameS x = true) : SeqAt.shaped (.list (xs.map PyData.str)) = true := by
  unfold SeqAt.shaped
  rw [Bool.and_eq_true, decide_eq_true_eq]
  refine ⟨lay_strs h, ?_⟩
  show PyData.depthAll (xs.map PyData.str) + 1 ≤ 64
  rw [dep_strs]
  decide
section
variable [Tb]
variable {P : Program} {w : World} {K : PySem.W.Frag} {mg : Str → Option Value} {base : Heap} {f : Addr} {fd : FuncData} {CT : Addr}
theorem sc_need_order : FnScope ["tasks", "order", "names", "one"] ["tasks", "order"] (defScope (top 24)) := ⟨rfl, rfl, rfl, by decide +kernel, rfl, by decide +kernel, by decide +kernel⟩
theorem pso_sortedSeq {X : Cx} {ρ ρ' : Rho} {e : Expr} {p pos : Pos} {d : D} {xs zs : List Str} (hm : X.mg "sorted" = none) (h : PD X e ρ d ρ') (hd : Seq d (xs.map D.str)) (hl : xs.length < 64) (hz : ∀ ys : List Str, ys.Perm xs → sortedS ys = true → ys = zs) (hg : Gl X "sorted" := by rfl) (he : starEach [e] X.env = (false, eval e X.env) :: starEach [] X.env := by rfl) : PS_ X (.Call (.Name "sorted" p) [e] [] pos) ρ (.own (zs.map D.str)) ρ' := by
  rcases hd with rfl | rfl
  · exact pso_sortedS hm h hl hz hg he
  · exact pso_sortedST hm h hl hz hg he
/-- what is no order of the names ns -/
inductive BadO (K : PySem.W.Frag) (ns : List Str) : D → Prop where
  | no {d : D} (h : Ok K d) (l : isL d = false) : BadO K ns d
  | el {d : D} {xs : List D} (h : Seq d xs) (l : xs.length ≤ 1000) (o : ∀ x ∈ xs, Ok K x) (n : (xs.map isName).all id = false) : BadO K ns d
  | nm {d : D} {os : List Str} (h : Seq d (os.map D.str)) (l : os.length < 64) (o : ∀ x ∈ os, isNameS x = true ∧ x.length ≤ 1000) (n : srtS os ≠ ns) : BadO K ns d
theorem ok_need_order {CB : Addr} (F : FnP K "need_order" (top 24) f fd) (B : Bn mg) (T : TaskK K mg CT) (F1 : Def P w K mg base "is_listed" 1 (spD 1 (fun ds r => f_is_listed ds K r) NoX)) (F2 : Def P w K mg base "is_name" 1 (spD 1 (fun ds r => f_is_name ds K r) NoX)) (R : ExcC P w K mg base "BadValue" CB ["part"]) :
    FnOk P w K mg base (L2.CX P w) 3 f fd ["tasks", "order"] (spD 2 (fun _ _ => False) (fun ds cls fs => ∃ (ts : List Tk) (d : D), ds = [.tup (ts.map (tkD CT)), d] ∧ ts.length ≤ 1000 ∧ (∀ t ∈ ts, isNameS t.name = true) ∧ BadO K (ts.map (·.name)) d ∧ cls = .ref CB ∧ fs = exV "order")) := by
  refine def_ok F sc_need_order rfl fun cdv A outer s H E ds hr hl => ⟨fun r z => z.elim, fun cls fs ⟨ts, d, e1, e2, e3, e4, e5, e6⟩ => ?_⟩
  subst e1 e5 e6
  refine hss_then (hs_setLc 2 (own := [("one", 3)]) (fldOf "name") rfl sc_need_order.nd (pid_tup (pd_name 0)) (blkOk_by (show blkC ["tasks", "order", "names", "one"] (defScope (top 24)) _ _ = true by decide +kernel)) (fun x hx => ?_) rfl ?_) ?_
  · obtain ⟨t, _, rfl⟩ := List.mem_map.mp hx
    exact ⟨[3], _, true, fun _ _ _ _ _ => pgd_name 3 sc_need_order.nd, by decide, rfl, ptsd_nil, fun _ => ⟨_, fun _ _ _ _ _ => pd_fld (pd_name 3) T.cl T.name rfl, rfl⟩, fun z => by cases z⟩
  · rw [List.length_map]
    omega
  rw [fld_map (g := fun t => .str t.name) (fun t => rfl), show ts.map (fun t => D.str t.name) = (ts.map (·.name)).map D.str from by rw [List.map_map]; rfl]
  have ls : ∀ {d : D} {xs : List D}, Seq d xs → Ok K d := fun {d xs} h => by
    rcases h with rfl | rfl
    · exact .lst _
    · exact .tup _
  cases e4 with
  | no o l =>
    exact hss_leave (k1 := true) (pwd_pt (pwd_or1T (ptd_not (ptd_val (PD.is (pd_call F1 (hr.mono (by decide)) (pad_one (pd_name 1)) rfl ⟨d, rfl, o, rfl⟩) (congrArg D.bl l)))))) (fun _ => hss_one (hs_raise takes_def R hr (pad_one pd_str) rfl (by decide) ⟨rfl, rfl⟩)) fun z => by cases z
  | @el xs h l o n =>
    refine hss_leave (k1 := true) (pwd_pt (pwd_or (ptd_not (ptd_val (PD.is (pd_call F1 (hr.mono (by decide)) (pad_one (pd_name 1)) rfl ⟨d, rfl, ls h, rfl⟩) (congrArg D.bl (seq_isL h))))) (pwd_or1T (ptd_not (ptd_val (PD.is (pd_all (bs := xs.map isName) rfl B.all (PD.is (pd_frz (pso_lc (own := [("one", 3)]) (fun d => some (.bl (isName d))) rfl sc_need_order.nd (pid_seq (pd_name 1) h) (blkOk_by (show blkC ["tasks", "order", "names", "one"] (defScope (top 24)) _ _ = true by decide +kernel)) (fun x hx => ⟨[3], _, true, fun _ _ _ _ _ => pgd_name 3 sc_need_order.nd, by decide, rfl, ptsd_nil, fun _ => ⟨_, fun _ _ _ _ _ => pd_call F2 (hr.mono (by decide)) (pad_one (pd_name 3)) rfl ⟨x, rfl, o x hx, rfl⟩, rfl⟩, fun z => by cases z⟩) (hl := by omega))) ?_)) (congrArg D.bl n))))))) (fun _ => hss_one (hs_raise takes_def R hr (pad_one pd_str) rfl (by decide) ⟨rfl, rfl⟩)) fun z => by cases z
    rw [List.map_map]
    exact congrArg D.lst (fm_map (fun d => D.bl (isName d)) xs)
  | @nm os h l o n =>
    have o1 : ∀ x ∈ os.map D.str, Ok K x := fun x hx => by
      (obtain ⟨y, hy, rfl⟩ := List.mem_map.mp hx)
      exact .str y (o y hy).2
    have al : (((os.map D.str).map isName).all id) = true := by
      rw [List.all_eq_true]
      intro z hz
      obtain ⟨x, hx, rfl⟩ := List.mem_map.mp hz
      (obtain ⟨y, hy, rfl⟩ := List.mem_map.mp hx)
      exact (o y hy).1
    have so : ∀ x ∈ srtS os, isNameS x = true := fun x hx => (o x ((srtS_perm os).mem_iff.mp hx)).1
    have ns : ∀ x ∈ ts.map (·.name), isNameS x = true := fun x hx => by
      obtain ⟨t, ht, rfl⟩ := List.mem_map.mp hx
      exact e3 t ht
    have ne : (!PyData.eqv (.list ((srtS os).map PyData.str)) (.list ((ts.map (·.name)).map PyData.str))) = true := by
      show (!PyData.eqvAll _ _) = true
      rw [eqv_strs, decide_eq_false n]
      rfl
    have q := ptd_neD (X := cxOf (L2.CX P w) P w K mg base ["tasks", "order", "names", "one"] "need_order" (defScope (top 24)) f cdv A outer s H E) (pos := ⟨87, 75, 87, 97⟩) (pd_frz (pso_sortedSeq (p := ⟨87, 75, 87, 81⟩) (pos := ⟨87, 75, 87, 88⟩) B.sorted (pd_name 1 (pos := ⟨87, 82, 87, 87⟩) (ρ := [some (.d (.tup (ts.map (tkD CT)))), some (.d d), some (.own ((ts.map (·.name)).map D.str)), none])) h l fun ys p h => srtS_uniq p h)) (pd_nameF 2 (pos := ⟨87, 92, 87, 97⟩) rfl) hr.units (toPy_strs _) (toPy_strs _) (shaped_strs so) (shaped_strs ns)
    rw [ne] at q
    refine hss_leave (k1 := true) (pwd_pt (pwd_or (ptd_not (ptd_val (PD.is (pd_call F1 (hr.mono (by decide)) (pad_one (pd_name 1)) rfl ⟨d, rfl, ls h, rfl⟩) (congrArg D.bl (seq_isL h))))) (pwd_or (ptd_not (ptd_val (PD.is (pd_all (bs := (os.map D.str).map isName) rfl B.all (PD.is (pd_frz (pso_lc (own := [("one", 3)]) (fun d => some (.bl (isName d))) rfl sc_need_order.nd (pid_seq (pd_name 1) h) (blkOk_by (show blkC ["tasks", "order", "names", "one"] (defScope (top 24)) _ _ = true by decide +kernel)) (fun x hx => ⟨[3], _, true, fun _ _ _ _ _ => pgd_name 3 sc_need_order.nd, by decide, rfl, ptsd_nil, fun _ => ⟨_, fun _ _ _ _ _ => pd_call F2 (hr.mono (by decide)) (pad_one (pd_name 3)) rfl ⟨x, rfl, o1 x hx, rfl⟩, rfl⟩, fun z => by cases z⟩) (hl := ?_))) ?_)) (congrArg D.bl al)))) (pwd_or1 q)))) (fun _ => hss_one (hs_raise takes_def R hr (pad_one pd_str) rfl (by decide) ⟨rfl, rfl⟩)) fun z => by cases z
    · rw [List.length_map]
      omega
    · rw [List.map_map]
      exact congrArg D.lst (fm_map (fun d => D.bl (isName d)) (os.map D.str))
end
end K20

end
section
set_option maxHeartbeats 4000001
/-! K8: sorted lists of triples (int, text, int). -/
namespace K20
open PySem PySem.Spec
open PyProof.Rows L2 DL
abbrev T3 := Int × Str × Int
def Lt3 (p q : T3) : Prop := p.1 < q.1 ∨ (p.1 = q.1 ∧ (ltS p.2.1 q.2.1 = true ∨ (p.2.1 = q.2.1 ∧ p.2.2 < q.2.2)))
def lt3 (p q : T3) : Bool := if p.1 = q.1 then (if p.2.1 = q.2.1 then decide (p.2.2 < q.2.2) else ltS p.2.1 q.2.1) else decide (p.1 < q.1)
theorem ltS_irr (a : Str) : ltS a a = false := lt_irr _
theorem lt3_iff {p q : T3} : lt3 p q = true ↔ Lt3 p q := by
  unfold lt3 Lt3
  by_cases h : p.1 = q.1
  · rw [if_pos h]
    by_cases h2 : p.2.1 = q.2.1
    · rw [if_pos h2, decide_eq_true_eq]
      constructor
      · exact fun z => .inr ⟨h, .inr ⟨h2, z⟩⟩
      · rintro (z | ⟨_, z | ⟨_, z⟩⟩)
        · omega
        · rw [h2, ltS_irr] at z
          cases z
        · exact z
    · rw [if_neg h2]
      constructor
      · exact fun z => .inr ⟨h, .inl z⟩
      · rintro (z | ⟨_, z | ⟨z, _⟩⟩)
        · omega
        · exact z
        · exact absurd z h2
  · rw [if_neg h, decide_eq_true_eq]
    constructor
    · exact .inl
    · rintro (z | ⟨z, _⟩)
      · exact z
      · exact absurd z h
theorem lt3_no {p q : T3} : lt3 p q = false ↔ ¬ Lt3 p q := by
  rw [← lt3_iff]
  cases lt3 p q <;> simp
theorem ltS_tri (a b : Str) : ltS a b = true ∨ a = b ∨ ltS b a = true := by
  cases h : ltS a b with
  | true => exact .inl rfl
  | false =>
    cases h2 : ltS b a with
    | true => exact .inr (.inr rfl)
    | false => exact .inr (.inl (str_ext (lt_tot h h2)))
theorem ltS_tr {a b c : Str} (h : ltS a b = true) (k : ltS b c = true) : ltS a c = true := lt_tr h k
theorem swo3 {α : Type} (k : α → T3) : SrtO.Swo fun v u => lt3 (k v) (k u) := by
  refine ⟨fun x y h => ?_, fun z y x h2 h1 => ?_⟩
  · rw [lt3_iff] at h
    rw [lt3_no]
    rintro (g | ⟨g, g2⟩)
    · rcases h with h | ⟨h, _⟩ <;> omega
    · rcases h with h | ⟨h, h2⟩
      · omega
      · rcases h2 with h2 | ⟨h2, h3⟩
        · rcases g2 with g2 | ⟨g2, _⟩
          · have q := ltS_tr h2 g2
            rw [ltS_irr] at q
            cases q
          · rw [g2, ltS_irr] at h2
            cases h2
        · rcases g2 with g2 | ⟨_, g3⟩
          · rw [h2, ltS_irr] at g2
            cases g2
          · omega
  · rw [lt3_no] at h1 h2 ⊢
    intro h
    generalize k x = a at *
    generalize k y = b at *
    generalize k z = c at *
    obtain ⟨a1, a2, a3⟩ := a
    obtain ⟨b1, b2, b3⟩ := b
    obtain ⟨c1, c2, c3⟩ := c
    unfold Lt3 at *
    dsimp only at *
    have n1 : ¬ a1 < b1 := fun q => h1 (.inl q)
    have n2 : ¬ b1 < c1 := fun q => h2 (.inl q)
    rcases h with h | ⟨h, h'⟩
    · omega
    · have e1 : a1 = b1 := by omega
      have e2 : b1 = c1 := by omega
      have m1 : ¬ ltS a2 b2 = true := fun q => h1 (.inr ⟨e1, .inl q⟩)
      have m2 : ¬ ltS b2 c2 = true := fun q => h2 (.inr ⟨e2, .inl q⟩)
      rcases ltS_tri a2 b2 with q | q | q
      · exact m1 q
      · rcases h' with h' | ⟨h', h''⟩
        · exact m2 (q ▸ h')
        · have r1 : ¬ a3 < b3 := fun r => h1 (.inr ⟨e1, .inr ⟨q, r⟩⟩)
          have r2 : ¬ b3 < c3 := fun r => h2 (.inr ⟨e2, .inr ⟨q ▸ h', r⟩⟩)
          omega
      · rcases h' with h' | ⟨h', _⟩
        · exact m2 (ltS_tr q h')
        · exact m2 (h' ▸ q)
def IsTrip (h : Heap) (v : Value) (p : T3) : Prop := ∃ a o t u z n, v = .ref a ∧ h.get? a = some o ∧ o.cls = .type "tuple" ∧ o.data = .seq #[.int p.1 t, .str p.2.1 u, .int p.2.2 z] n
section
variable {prog : Program} {w : World}
variable {A : Around} {s : Shared}
theorem trip_cmp {vs : List Value} {k : Value → T3} (hp : ∀ v ∈ vs, IsTrip s.heap v (k v)) : SrtO.Cmp prog w A s (tuples' true) (fun p => p.1 ∈ vs) (SrtO.lt2 fun v u => lt3 (k v) (k u)) := by
  intro p q hm hm'
  show wpAny (model prog w) A (keyLt' (tuples' true) p.1 q.1) (fun r s' => s' = s ∧ r = lt3 (k p.1) (k q.1)) (fun _ _ => False) s
  obtain ⟨a, o, t, u, z, n, e, ho, hc, hd⟩ := hp _ hm
  obtain ⟨a', o', t', u', z', n', e', ho', hc', hd'⟩ := hp _ hm'
  generalize k p.1 = x at hd ⊢
  generalize k q.1 = y at hd' ⊢
  obtain ⟨x1, x2, x3⟩ := x
  obtain ⟨y1, y2, y3⟩ := y
  rw [e, e']
  (refine PySem.W.kat_lt ho hd ho' hd' ?_)
  show PySem.W.KatLex prog w A true (decide (3 < 3)) _ [(.int x1 t, .int y1 t'), (.str x2 u, .str y2 u'), (.int x3 z, .int y3 z')] 0 s
  refine PySem.W.kat_cons (SeqAt.EqAt.int_int x1 t y1 t' prog w _ _ ?_)
  (refine PySem.W.kat_go (fun e1 => ?_) (fun e1 => ?_))
  · have e1 : x1 = y1 := by simpa using e1
    refine PySem.W.kat_yes (PySem.W.kat_cons (SeqAt.EqAt.str_str x2 u y2 u' prog w _ _ ?_))
    (refine PySem.W.kat_go (fun e2 => ?_) (fun e2 => ?_))
    · have e2 : x2 = y2 := by simpa using e2
      refine PySem.W.kat_yes (PySem.W.kat_cons (SeqAt.EqAt.int_int x3 z y3 z' prog w _ _ ?_))
      have v : lt3 (x1, x2, x3) (y1, y2, y3) = decide (x3 < y3) := by
        unfold lt3
        rw [if_pos e1, if_pos e2]
      refine PySem.W.kat_go (fun e3 => ?_) (fun e3 => ?_)
      · have e3 : x3 = y3 := by simpa using e3
        refine PySem.W.kat_yes (PySem.W.kat_nil ⟨rfl, ?_⟩)
        rw [v, e3]
        exact (decide_eq_false (Int.lt_irrefl _)).symm
      · refine PySem.W.kat_no (PySem.W.kat_one _ _ (PyProof.Rows.lt_int ?_))
        exact (show s = s ∧ decide (x3 < y3) = lt3 (x1, x2, x3) (y1, y2, y3) from ⟨rfl, v.symm⟩)
    · have e2 : ¬ x2 = y2 := by simpa using e2
      have v : lt3 (x1, x2, x3) (y1, y2, y3) = decide (x2.cps.toList < y2.cps.toList) := by
        unfold lt3
        rw [if_pos e1, if_neg e2]
        unfold ltS
        rw [ltCps_eq]
      refine PySem.W.kat_no (PySem.W.kat_one _ _ (PyProof.Rows.lt_str ?_))
      exact (show s = s ∧ decide (x2.cps.toList < y2.cps.toList) = lt3 (x1, x2, x3) (y1, y2, y3) from ⟨rfl, v.symm⟩)
  · have e1 : ¬ x1 = y1 := by simpa using e1
    have v : lt3 (x1, x2, x3) (y1, y2, y3) = decide (x1 < y1) := by
      unfold lt3
      rw [if_neg e1]
    exact PySem.W.kat_no (oneLt_int ⟨rfl, v.symm⟩)
theorem trip_firsts {h : Heap} {k : Value → T3} : ∀ {vs : List Value}, (∀ v ∈ vs, IsTrip h v (k v)) → ∃ fs : List Value, PySem.W.KatTups h vs fs ∧ fs.length = vs.length ∧ ∀ f ∈ fs, ∃ x t, f = Value.int x t
  | [], _ => ⟨[], PySem.W.KatTups.nil, rfl, fun _ hm => by simp at hm⟩
  | v :: vs, hp => by
    obtain ⟨fs, h1, h2, h3⟩ := trip_firsts (vs := vs) fun x hx => hp x (List.mem_cons_of_mem _ hx)
    obtain ⟨a, o, t, u, z, n, e, ho, hc, hd⟩ := hp v List.mem_cons_self
    subst e
    refine ⟨.int (k (.ref a)).1 t :: fs, PySem.W.KatTups.cons ho hc hd rfl h1, congrArg Nat.succ h2, fun f hf => ?_⟩
    (rcases List.mem_cons.mp hf with rfl | hf)
    · exact ⟨_, t, rfl⟩
    · exact h3 f hf
theorem trip_sortable {a : Addr} {vs : List Value} {k : Value → T3} (h0 : 0 < vs.length) (hp : ∀ v ∈ vs, IsTrip s.heap v (k v)) (ha : ∀ o, s.heap.get? a = some o → o.cls ≠ .type "tuple") : SrtO.SortableO prog w A s a vs fun v u => lt3 (k v) (k u) := by
  intro g keep
  have hp2 : ∀ v ∈ vs, IsTrip g v (k v) := fun v hm => by
    obtain ⟨b, o, t, u, z, n, e, ho, hc, hd⟩ := hp v hm
    exact ⟨b, o, t, u, z, n, e, keep b o (fun q => by subst q; exact ha o ho hc) ho, hc, hd⟩
  obtain ⟨fs, h1, h2, h3⟩ := trip_firsts hp2
  refine ⟨tuples' true, fun Q E hq => ?_, trip_cmp hp2⟩
  refine PySem.W.kat_kind (T := .type "int") h1 (by omega) (fun f hf => ?_) (by rfl) ?_
  · obtain ⟨x, t, rfl⟩ := h3 f hf
    exact PySem.W.Looks.now
  · rw [show (Value.type "int" != Value.type "tuple") = true by decide]
    exact hq
end
def rSort3 (K : PySem.W.Frag) : List V → Hp → VK → Prop := fun vs H Q => ∃ (a : Addr) (xs : List V) (k : V → T3), vs = [V.ref a] ∧ SqL K H a xs ∧ (∀ x ∈ xs, ∃ t, x = V.ref t ∧ H t = some (.tup [.int (k x).1, .str (k x).2.1, .int (k x).2.2])) ∧
  ∀ ys p, ys.Perm xs → SrtO.Srtd (fun v u => lt3 (k v) (k u)) ys → H p = none → Q (.ref p) (upd H p (.lst ys))
theorem cr_sorted3 {X : Cx} : CallR X (.builtin "sorted") (rSort3 X.K) := by
  intro pins s σ H vs us Q I r ⟨a, xs, k, e0, hs, hx, hq⟩
  subst e0
  obtain rfl := Vals.ref1 r
  (obtain ⟨its, rv, hl, hz⟩ := I.list hs)
  obtain ⟨e1, e2⟩ := refs_back rv fun x m => by
    obtain ⟨t, e, _⟩ := hx x m
    exact ⟨t, e⟩
  have tr : ∀ v ∈ its, IsTrip s.heap v (k (backV v)) := fun v hv => by
    obtain ⟨t, rfl⟩ := e2 v hv
    (have hm : V.ref t ∈ xs := by rw [e1]; exact List.mem_map.mpr ⟨_, hv, rfl⟩)
    obtain ⟨t', e, ht⟩ := hx _ hm
    cases e
    (obtain ⟨_, its2, r2, o, ho, hc, n, hd⟩ := I.hok _ _ ht)
    cases r2 with
    | cons q1 r2 =>
      cases r2 with
      | cons q2 r2 =>
        cases r2 with
        | cons q3 r2 =>
          cases r2
          obtain ⟨t1, rfl⟩ := q1
          obtain ⟨t2, rfl⟩ := q2
          obtain ⟨t3, rfl⟩ := q3
          exact ⟨t, o, t1, t2, t3, n, rfl, ho, hc, hd⟩
  refine SrtO.sorted_ord (swo3 fun v => k (backV v)) hl.isList (by rw [← rv.length]; exact hz) (fun h2 h₁ b hb kk => ?_) fun out h1 h2 => ?_
  · refine trip_sortable (s := { s with heap := h₁ }) (by omega) (fun v hv => ?_) fun o e => ?_
    · obtain ⟨c, o, t, u, z, n, e, ho, hc, hd⟩ := tr v hv
      exact ⟨c, o, t, u, z, n, e, (kk _ _ ho).2, hc, hd⟩
    · have e' : some o = some (seqObj "list" its.toArray 0) := e.symm.trans hb
      cases e'
      exact fun c => absurd (Value.type.inj c) (by decide)
  · (have h3 : ∀ u ∈ out, ∃ a, u = Value.ref a := fun u hu => e2 u (h2.perm.mem_iff.mp hu))
    have pb : (out.map backV).Perm xs := by
      rw [e1]
      exact h2.perm.map backV
    obtain ⟨n, hn⟩ := sortedAll_at s.heap its out.toArray
    refine ⟨.ref _, upd H (s.heap.objs.size + 1) (.lst (out.map backV)), I.laid (t' := s.toks) (fun b o e => sortedAll_old e) (Nat.le_succ _) ⟨?_, out, n, vals_back h3, hn⟩, rfl, hq _ _ pb (SrtO.srtd_map h1) (I.hok.fresh (Nat.le_succ _))⟩
    rw [pb.length_eq]
    exact hz
/-! ### over data -/
def trD (p : T3) : D := .tup [.int p.1, .str p.2.1, .int p.2.2]
def le3 (p q : T3) : Bool := !lt3 q p
def srt3 (l : List T3) : List T3 := l.mergeSort le3
theorem le3_tr (a b c : T3) (h1 : le3 a b = true) (h2 : le3 b c = true) : le3 a c = true := by
  unfold le3 at *
  rw [Bool.not_eq_true'] at *
  exact (swo3 id).tr a b c h1 h2
theorem le3_tot (a b : T3) : (le3 a b || le3 b a) = true := by
  unfold le3
  cases h : lt3 b a with
  | false => rfl
  | true => rw [show lt3 a b = false from (swo3 id).asym b a h]; rfl
theorem le3_anti {a b : T3} (h1 : le3 a b = true) (h2 : le3 b a = true) : a = b := by
  unfold le3 at *
  rw [Bool.not_eq_true', lt3_no] at *
  obtain ⟨a1, a2, a3⟩ := a
  obtain ⟨b1, b2, b3⟩ := b
  unfold Lt3 at *
  dsimp only at *
  have e1 : a1 = b1 := by
    have p1 : ¬ b1 < a1 := fun q => h1 (.inl q)
    have p2 : ¬ a1 < b1 := fun q => h2 (.inl q)
    omega
  have e2 : a2 = b2 := by
    rcases ltS_tri a2 b2 with q | q | q
    · exact absurd (.inr ⟨e1, .inl q⟩) h2
    · exact q
    · exact absurd (.inr ⟨e1.symm, .inl q⟩) h1
  have e3 : a3 = b3 := by
    have p1 : ¬ b3 < a3 := fun q => h1 (.inr ⟨e1.symm, .inr ⟨e2.symm, q⟩⟩)
    have p2 : ¬ a3 < b3 := fun q => h2 (.inr ⟨e1, .inr ⟨e2, q⟩⟩)
    omega
  rw [e1, e2, e3]
theorem perm_pw3 : ∀ {xs ys : List T3}, xs.Perm ys → (xs.Pairwise fun a b => le3 a b = true) → (ys.Pairwise fun a b => le3 a b = true) → xs = ys
  | [], ys, p, _, _ => (List.nil_perm.mp p).symm
  | x :: xs, [], p, _, _ => by
    have := p.length_eq
    cases this
  | x :: xs, y :: ys, p, h1, h2 => by
    have e : x = y := by
      rcases List.mem_cons.mp (p.mem_iff.mpr (List.mem_cons_self (a := y))) with e | m1
      · exact e.symm
      · rcases List.mem_cons.mp (p.mem_iff.mp (List.mem_cons_self (a := x))) with e | m2
        · exact e
        · exact le3_anti ((List.pairwise_cons.mp h1).1 y m1) ((List.pairwise_cons.mp h2).1 x m2)
    subst e
    rw [perm_pw3 (List.Perm.cons_inv p) (List.pairwise_cons.mp h1).2 (List.pairwise_cons.mp h2).2]
theorem srt3_uniq {xs ys : List T3} (p : ys.Perm xs) (h : ys.Pairwise fun a b => le3 a b = true) : ys = srt3 xs := perm_pw3 (p.trans (List.mergeSort_perm xs le3).symm) h (List.pairwise_mergeSort le3_tr le3_tot xs)
section
variable [Tb]
theorem pair_mapL {α β γ : Type} {R : β → γ → Prop} (g : α → β) : ∀ {l : List α} {m : List γ}, Paired R (l.map g) m → Paired (fun x y => R (g x) y) l m
  | [], _, .nil => .nil
  | _ :: _, _, .cons h r => .cons h (pair_mapL g r)
theorem pair_mapR {α β γ : Type} {R : β → γ → Prop} (g : α → β) : ∀ {l : List α} {m : List γ}, Paired (fun x y => R (g x) y) l m → Paired R (l.map g) m
  | [], _, .nil => .nil
  | _ :: _, _, .cons h r => .cons h (pair_mapR g r)
def rd3 (H : Hp) : V → T3
  | .ref t => match H t with
    | some (.tup [.int x, .str n, .int y]) => (x, n, y)
    | _ => (0, ⟨#[]⟩, 0)
  | _ => (0, ⟨#[]⟩, 0)
theorem rd3_at {G H : Hp} (e : Evl.Ex G H) {v : V} {p : T3} (h : At G v (trD p)) : rd3 H v = p ∧ ∃ t, v = .ref t ∧ H t = some (.tup [.int p.1, .str p.2.1, .int p.2.2]) := by
  cases h with
  | tup hg hs =>
    cases hs with
    | cons h1 hs =>
      cases h1
      cases hs with
      | cons h2 hs =>
        cases h2
        cases hs with
        | cons h3 hs =>
          cases h3
          cases hs
          have z := e _ _ hg
          refine ⟨?_, _, rfl, z⟩
          show (match H _ with | some (HO.tup [V.int x, V.str n, V.int y]) => (x, n, y) | _ => ((0 : Int), (⟨#[]⟩ : Str), (0 : Int))) = p
          rw [z]
theorem pso_sorted3 {X : Cx} {ρ ρ' : Rho} {e : Expr} {p pos : Pos} {ps : List T3} (hm : X.mg "sorted" = none) (h : PD X e ρ (.lst (ps.map trD)) ρ') (hg : Gl X "sorted" := by rfl) (he : starEach [e] X.env = (false, eval e X.env) :: starEach [] X.env := by rfl) : PS_ X (.Call (.Name "sorted" p) [e] [] pos) ρ (.own ((srt3 ps).map trD)) ρ' :=
  pso_callB cr_sorted3 hm (pad_one h he) (fun G H vs e a Q k => by
    cases a with
    | cons a1 r =>
      cases r
      cases a1 with
      | @lst a xs _ hg ha =>
        have pr : Paired (fun p v => At G v (trD p)) ps xs := pair_mapL trD (ats_pair ha)
        refine ⟨_, xs, rd3 H, rfl, .inl (.inl (e _ _ hg)), fun x hx => ?_, fun ys q h1 h2 h3 => ?_⟩
        · obtain ⟨i, hi⟩ := List.getElem?_of_mem hx
          obtain ⟨d, q1, q2⟩ := ha.getv hi
          rw [List.getElem?_map] at q1
          obtain ⟨p, _, rfl⟩ := Option.map_eq_some_iff.mp q1
          obtain ⟨r1, t, r2, r3⟩ := rd3_at e q2
          rw [r1]
          exact ⟨t, r2, r3⟩
        · obtain ⟨qs, q1, q2⟩ := perm_rel h1 pr
          have em : ys.map (rd3 H) = qs := by
            clear q1 h1 h2
            induction q2 with
            | nil => rfl
            | cons a r ih => rw [List.map_cons, ih, (rd3_at e a).1]
          have pw : qs.Pairwise fun a b => le3 a b = true := by
            rw [← em]
            refine List.pairwise_map.mpr (h2.imp fun {a b} z => ?_)
            unfold le3
            rw [show lt3 (rd3 H b) (rd3 H a) = false from z]
            rfl
          have eq := srt3_uniq q1 pw
          subst eq
          exact k q _ h3 (pair_ats (pair_mapR trD q2))) bootn_sorted hg (he := he)
end
end K20

end
section
set_option maxHeartbeats 4000001
/-! DL15: enumerate(range(a, b, c)). -/
namespace DL
open PySem PySem.Spec
open PyProof.Rows L2
section
variable {prog : Program}
variable {w : World}
theorem draws_range {A : Around} (hh : A.handled = none) (it : Addr) (lo c : Int) (n : Nat) : Draws prog w A it [it] n (fun i v => ∃ t, v = .int (lo + (i : Nat) * c) t) (fun i h => IsRangeIter h it (lo + (i : Nat) * c) ((n : Int) - (i : Nat)) c) where
  live := fun i h st => ⟨_, st⟩
  frame := fun i h h' st k => k it (by simp) _ st
  item := fun i s Q E hi st hQ => by
    have hT : s.TypeIs (.ref it) "range_iterator" := ⟨_, st, rfl⟩
    (unfold Builtin.SmallTypes.nextOf)
    refine wpAny_bind (wpAny_callSpecial?_slot (name := Str.ofString "__next__") hT F.slot_range_iterator_next (call_meets F.slot_range_iterator_next hT F.entry_range_iterator_next (F.args_range_iterator_next_1 _) (AutoRange.range_iterator___next___range_iterator_1 it (lo + (i : Nat) * c) ((n : Int) - (i : Nat)) c (by omega)) ⟨st, ?_⟩))
    refine wpAny_pure (hQ _ _ _ ⟨_, rfl⟩ ?_ ((Heap.SameBut.update ..).trans (Heap.SameBut.update ..)))
    have e1 : lo + ((i + 1 : Nat) : Int) * c = lo + (i : Nat) * c + c := by
      rw [Int.natCast_add, Int.add_mul]
      omega
    have e2 : (n : Int) - ((i + 1 : Nat) : Int) = (n : Int) - (i : Nat) - 1 := by omega
    show IsRangeIter _ it (lo + ((i + 1 : Nat) : Int) * c) ((n : Int) - ((i + 1 : Nat) : Int)) c
    rw [e1, e2]
    exact Heap.get?_update_self _ (Heap.get?_update_self _ st rfl) rfl
  done := fun s Q E st hE => by
    have hT : s.TypeIs (.ref it) "range_iterator" := ⟨_, st, rfl⟩
    (unfold Builtin.SmallTypes.nextOf)
    refine wpAny_bind (wpAny_callSpecial?_slot (name := Str.ofString "__next__") hT F.slot_range_iterator_next (wpAny_call_entry F.slot_range_iterator_next hT F.entry_range_iterator_next ?_ (F.args_range_iterator_next_1 _)))
    (show wpAny _ _ (field (.ref it) 0 >>= _) _ _ s)
    refine wpAny_bind (wpAny_field st rfl (x := rawInt (lo + (n : Nat) * c)) rfl ?_)
    refine wpAny_bind (m := field (.ref it) 1) (wpAny_field st rfl (x := rawInt ((n : Int) - (n : Nat))) rfl ?_)
    refine wpAny_bind (m := field (.ref it) 2) (wpAny_field st rfl (x := rawInt c) rfl ?_)
    show wpAny _ _ (if (n : Int) - (n : Nat) ≤ 0 then _ else _) _ _ s
    rw [if_pos (by omega)]
    (refine wpAny_bind (wpAny_rule (wpAny_bind ?_)))
    (show wpAny _ _ (newExc (.type "StopIteration") [] >>= _) _ _ _)
    refine wpAny_bind ?_
    simp only [newExc, newTuple]
    (refine wpAny_bind (wpAny_newObj_type ?_ (by size_fits)))
    (refine wpAny_bind (m := firstArgMember _ _) (wpAny_of_eq (a := Value.none) (by first | rfl | (simp only [firstArgMember]; rfl)) ?_))
    (refine wpAny_newObj_type ?_ (by size_fits))
    simp only [raiseNew]
    (refine wpAny_bind (wpAny_handled ?_))
    first | rw [show A.in1.handled = none from hh] | rw [hh]
    exact wpAny_bind (wpAny_pure (wpAny_throw (hE _ _ (((Heap.ExtBut.refl it s.heap).push _).push _) ⟨_, Heap.get?_push_size _ rfl, rfl⟩)))
theorem begins_range (r : Addr) (a b c : Int) (t u v : Tok) (hs : Builtin.Range.small a b c = true) : Begins (.ref r) { cls := .type "range_iterator", dict := none, data := .fields #[rawInt a, rawInt (Builtin.Range.rangeSize a b c), rawInt c], slots := #[] } fun h => IsRange h r a b c t u v where
  iter := fun prog w A E s Q hr h => wpAny_pyIter_range hr hs h
  keeps := fun h h' x k => k r _ x
  free := rfl
theorem enum_new {v : Value} {o : Obj} {H : Heap → Prop} (B : Begins v o H) :
    Meets (Builtin.«enumerate.__new__» ⟨[.type "enumerate", v], []⟩) (fun _ R s => H s.heap ∧ R (.ok (.ret (.ref (s.heap.push o).objs.size))) { s with heap := (s.heap.push o).push { cls := .type "enumerate", data := .fields #[.none, .bool false, .ref s.heap.objs.size, rawInt 0, .none, .none] } }) :=
  .of_wp fun prog w A R s h => by
    (obtain ⟨hp, g, d, tk, os⟩ := s)
    obtain ⟨h1, h⟩ := h
    have hsub := sub_enumerate
    have q1 : ∀ {A' : Around} {E : Value → Shared → Prop} {Q : Value → Shared → Prop}, Q (.ref hp.objs.size) ⟨hp.push o, g, d, tk, os⟩ → wpAny (model prog w) A' (pyIter v) Q E ⟨hp, g, d, tk, os⟩ := fun q => B.iter prog w _ _ ⟨hp, g, d, tk, os⟩ _ h1 q
    wp_walk using q1
    (refine wpAny_stack_any fun st => wpAny_pure ?_)
    split
    · rename_i c _ _ _ _ _
      (cases (c == Value.type "enumerate"))
      · wp_walk using q1
        exact ⟨_, rfl, h⟩
      · wp_walk using q1
        exact ⟨_, rfl, h⟩
    · wp_walk using q1
      exact ⟨_, rfl, h⟩
theorem call_enumB {A : Around} {E : Value → Shared → Prop} {s : Shared} {v : Value} {o : Obj} {H : Heap → Prop} {Q : Value → Shared → Prop} (B : Begins v o H) (h1 : H s.heap)
    (h : ∀ g, IsEnum g (s.heap.objs.size + 1) s.heap.objs.size 0 .none → g.get? s.heap.objs.size = some o → (∀ b o, s.heap.get? b = some o → g.get? b = some o) → Q (.ref (s.heap.objs.size + 1)) { s with heap := g }) :
    wpAny (model prog w) A (call (.type "enumerate") [v]) Q E s := by
  refine callType_new F.called_enumerate (by decide) (F.typeCall_enumerate_1 _) (F.newCall_enumerate_1 _) (fun obj => F.args_object_init_2 obj _) F.entry_enumerate_new (enum_new B) ⟨h1, ?_⟩
  (have hz : (s.heap.push o).objs.size = s.heap.objs.size + 1 := Heap.size_push ..)
  show _ ∧ _
  rw [hz]
  have he := Heap.get?_push_size (s.heap.push o) (o := ({ cls := .type "enumerate", data := .fields #[.none, .bool false, .ref s.heap.objs.size, rawInt 0, .none, .none] } : Obj)) rfl
  rw [hz] at he
  exact ⟨⟨_, he, rfl⟩, h _ he (Heap.get?_push_of_some _ (Heap.get?_push_size _ B.free)) fun b o x => Heap.get?_push_of_some _ (Heap.get?_push_of_some _ x)⟩
end
/-- lo, lo + c, .., each with its number, in new pairs -/
def IteR (lo c : Int) (n : Nat) : It := ⟨fun i _ => i < n, fun i H v H' => ∃ T, v = .ref T ∧ H T = none ∧ H' = upd H T (.tup [.int (i : Nat), .int (lo + (i : Nat) * c)]), fun i _ => n ≤ i⟩
theorem turn_enumR {P : Program} {w : World} {K : PySem.W.Frag} {elts : List Expr} {kk : Nat} {tpos : Pos} (e it : Addr) (lo c : Int) (n : Nat) :
    L2.Turn P w K (.Tuple elts kk tpos) (IteR lo c n) [e, it] e (fun i h => (∃ old, IsEnum h e it ((i : Nat) : Int) old) ∧ IsRangeIter h it (lo + (i : Nat) * c) ((n : Int) - (i : Nat)) c ∧ e ≠ it ∧ i ≤ n) where
  mem := by simp
  obj := fun i h ⟨⟨old, he⟩, hi, _⟩ b hb => by
    rcases (by simpa using hb : b = e ∨ b = it) with z | z
    · rw [z]
      exact ⟨_, he, fun v q => nomatch q⟩
    · rw [z]
      exact ⟨_, hi, fun v q => nomatch q⟩
  keep := fun i h h' ⟨⟨old, he⟩, hi, hne⟩ k => ⟨⟨old, k e (by simp) _ he⟩, k it (by simp) _ hi, hne⟩
  item := by
    intro X hP hw hK hc i pins s σ H E I hf ⟨⟨old, he⟩, hit, hne, hin⟩ hg
    subst hP hw hK
    (have hel : e < s.heap.objs.size := Heap.lt_size he)
    have hil : it < s.heap.objs.size := Heap.lt_size hit
    refine wpAny_pyNext_enum_itemC (draws_range (show X.A.in1.handled = none from I.ok.hd hc) it lo c n) he hit hg hne (by simpa using hne) fun x h' tk ⟨t, ex⟩ ho hit' hT hsz hk => ?_
    subst ex
    refine ⟨_, rfl, wpAny_letOwnedTupleGo_enum (s := { s with heap := h', toks := tk + 1 }) ho fun h'' he' sb => ?_⟩
    have hT2 := (sb.2 _ (Nat.ne_of_gt hel)).trans hT
    have new : ObjOk X.prog X.w (upd H s.heap.objs.size (.tup [.int (i : Nat), .int (lo + (i : Nat) * c)])) h'' s.heap.objs.size (.tup [.int (i : Nat), .int (lo + (i : Nat) * c)]) :=
      ⟨by show 2 ≤ sizeLine; decide, _, .cons ⟨_, rfl⟩ (.cons ⟨t, rfl⟩ .nil), ⟨_, hT2, rfl, _, rfl⟩⟩
    have I1 : Inv X pins σ (upd H s.heap.objs.size (.tup [.int (i : Nat), .int (lo + (i : Nat) * c)])) { s with heap := h'', toks := tk + 1 } :=
      I.turnedNew (ch := [e, it]) (fun b ob hb q => (sb.2 b (fun z => hb (by simp [z]))).trans (hk b ob (fun z => hb (by simp [z])) (fun z => hb (by simp [z])) q)) hf (Nat.le_refl _) new
    refine ⟨.ref s.heap.objs.size, _, I1, rfl, ⟨_, rfl, I.hok.fresh (Nat.le_refl _), rfl⟩, ⟨⟨.int (lo + (i : Nat) * c) t, ?_⟩, (sb.2 it (Ne.symm hne)).trans hit', hne, hg⟩, fun b hb => ?_⟩
    · (have e1 : ((i + 1 : Nat) : Int) = (i : Int) + 1 := by omega)
      rw [e1]
      exact he'
    · have lt : b < s.heap.objs.size := by
        rcases (by simpa using hb : b = e ∨ b = it) with z | z
        · rw [z]; exact hel
        · rw [z]; exact hil
      rw [upd_ne (Nat.ne_of_lt lt)]
      exact (hf b hb).1
  done := by
    intro X hP hw hK hc i pins s σ H E I hf ⟨⟨old, he⟩, hit, hne, hin⟩ hg
    subst hP hw hK
    (obtain ⟨f0, f1, f2, f3, f4, f5⟩ := hf it (by simp))
    have en : i = n := Nat.le_antisymm hin hg
    subst en
    exact wpAny_pyNext_enum_endD (draws_range (show X.A.in1.handled = none from I.ok.hd hc) it lo c i) he hit fun h' eb => ⟨rfl, I.turned (t' := s.toks) (fun b o hb q => eb b o hb q) f0 f1 f3 f4 f5⟩
  self := fun A i s Q E ⟨⟨_, he⟩, _⟩ h => wpAny_pyIter_enum he h
def iEnumR (ta : TA) : TI := fun σ H R => ta σ H fun vs H1 => ∃ (i j c : Int) (n : Nat), vs = [.int i, .int j, .int c] ∧ RgC i j c n ∧ R (IteR i c n) H1
theorem pi_enumR {X : Cx} {a b c : Expr} {ta : TA} {p pos p2 pos2 tpos : Pos} {elts : List Expr} {kk : Nat} (hg : Gl X "enumerate") (hm : X.mg "enumerate" = none) (hg2 : Gl X "range") (hm2 : X.mg "range" = none) (ha : PA X [a, b, c] ta)
    (hs : starEach [a, b, c] X.env = (false, eval a X.env) :: starEach [b, c] X.env := by rfl) (hpl : (backTo pos2 (starEach [b, c] X.env)).any (·.1) = false := by rfl)
    (ho : starEach [.Call (.Name "range" p2) [a, b, c] [] pos2] X.env = (false, eval (.Call (.Name "range" p2) [a, b, c] [] pos2) X.env) :: starEach [] X.env := by rfl) :
    PI X (.Tuple elts kk tpos) (.Call (.Name "enumerate" p) [.Call (.Name "range" p2) [a, b, c] [] pos2] [] pos) (iEnumR ta) := by
  (refine ⟨fun pins s σ H R I h => ?_⟩)
  refine Call_ (ld_blt I hg hm boot_enumerate (PyProof.Rows.callWith_type1 (args_cons (Call_ (ld_blt I hg2 hm2 boot_range (PyProof.Rows.callWith_type1 (thn (ha.run pos2 pins s σ H _ I h) fun us s1 ⟨vs, H1, I1, r1, q1⟩ => ?_) hs hpl))) ho) ho rfl))
  (obtain ⟨i, j, k, n, e, ⟨c0, c1, c2, c3⟩, q⟩ := q1)
  subst e
  cases r1 with
  | cons x1 r1 =>
    cases r1 with
    | cons x2 r1 =>
      cases r1 with
      | cons x3 r1 =>
        cases r1
        obtain ⟨t, rfl⟩ := x1
        obtain ⟨u, rfl⟩ := x2
        obtain ⟨v, rfl⟩ := x3
        (refine call_range_3 c0 ?_ (.inl (PyProof.noPylong_small c1)))
        refine args_nil ?_
        have I2 : Inv X pins σ H1 { s1 with heap := s1.heap.push { cls := .type "range", data := .fields #[.int i t, .int j u, .int k v] } } := I1.kept (t' := s1.toks) fun b o e => Heap.get?_push_of_some _ e
        refine call_enumB (begins_range _ i j k t u v c2) (IsRange.new ..) fun g he hit hk => wpAny_pyIter_enum he ?_
        have I3 := I2.kept (t' := s1.toks) hk
        (have e1 : i + ((0 : Nat) : Int) * k = i := by simp)
        (have e2 : (n : Int) - ((0 : Nat) : Int) = Builtin.Range.rangeSize i j k := by rw [c3]; simp)
        refine ⟨_, [_, _], _, _, H1, rfl, I3, turn_enumR _ _ i k n, ⟨⟨.none, he⟩, ?_, Nat.succ_ne_self _, Nat.zero_le _⟩, fun b hb => ?_, q⟩
        · show IsRangeIter _ _ (i + ((0 : Nat) : Int) * k) ((n : Int) - ((0 : Nat) : Int)) k
          rw [e1, e2]
          exact hit
        · have le : (s1.heap.push ({ cls := .type "range", data := .fields #[.int i t, .int j u, .int k v] } : Obj)).objs.size ≤ b := by
            (rcases List.mem_cons.mp hb with z | z)
            · rw [z]; exact Nat.le_succ _
            · rw [List.mem_singleton.mp z]; exact Nat.le_refl _
          exact I2.fpOk le (I2.hok.fresh le)
section
variable [Tb]
variable {X : Cx} {ρ ρ1 ρ2 ρ3 : Rho} {a b c : Expr}
def enrD (lo c : Int) (n : Nat) : List D := (List.range n).map fun i : Nat => .tup [.int (i : Nat), .int (lo + (i : Nat) * c)]
theorem pid_enumR {i j k : Int} {n : Nat} {p pos p2 pos2 tpos : Pos} {elts : List Expr} {kk : Nat} (hm : X.mg "enumerate" = none) (hm2 : X.mg "range" = none) (ha : PAD X [a, b, c] ρ [.int i, .int j, .int k] ρ1) (hn : RgC i j k n) (hg : Gl X "enumerate" := by rfl) (hg2 : Gl X "range" := by rfl)
    (hs : starEach [a, b, c] X.env = (false, eval a X.env) :: starEach [b, c] X.env := by rfl) (hpl : (backTo pos2 (starEach [b, c] X.env)).any (·.1) = false := by rfl)
    (ho : starEach [.Call (.Name "range" p2) [a, b, c] [] pos2] X.env = (false, eval (.Call (.Name "range" p2) [a, b, c] [] pos2) X.env) :: starEach [] X.env := by rfl) :
    PID X (.Tuple elts kk tpos) (.Call (.Name "enumerate" p) [.Call (.Name "range" p2) [a, b, c] [] pos2] [] pos) ρ (enrD i k n) ρ1 :=
  pi_weak (pi_enumR hg hm hg2 hm2 ha hs hpl ho) fun σ H R ⟨G, e, s, kq⟩ => ⟨G, e, s, fun vs G' H' g at_ => by
    cases at_ with
    | cons a1 r =>
      cases r with
      | cons a2 r =>
        cases r with
        | cons a3 r =>
          cases r
          cases a1
          cases a2
          cases a3
          refine ⟨i, j, k, n, rfl, hn, kq _ G' H' g fun G1 H1 m e1 e2 => ⟨fun d hd => ?_, fun hl => ?_⟩⟩
          · unfold enrD at hd
            rw [List.getElem?_map] at hd
            obtain ⟨q, hq, rfl⟩ := Option.map_eq_some_iff.mp hd
            have hq2 := List.getElem?_eq_some_iff.mp hq
            obtain ⟨h1, h2⟩ := hq2
            rw [List.getElem_range] at h2
            subst h2
            rw [List.length_range] at h1
            refine ⟨h1, fun x H'' hy => ?_⟩
            obtain ⟨T, rfl, hT, rfl⟩ := hy
            exact pair_new e2 hT (.int _) (.int _)
          · unfold enrD at hl
            rw [List.length_map, List.length_range] at hl
            exact hl⟩
end
end DL

end
section
set_option maxHeartbeats 4000001
/-! K9: releases. -/
namespace K20
open PySem PySem.Spec
open PyProof.Rows L2 DL
def cntR (t : Tk) (u : Nat) : Nat := (Builtin.Range.rangeSize t.offset u t.period).toNat
theorem cntR_le (t : Tk) (u : Nat) : cntR t u ≤ u + t.offset := by
  have q := rangeSize_toNat_le (t.offset : Int) u t.period
  unfold cntR
  omega
theorem rgc_of {t : Tk} {u : Nat} (h1 : 0 < t.period) (h2 : t.period ≤ 600) (h3 : t.offset ≤ 600) (h4 : u ≤ 1000000) : RgC t.offset u t.period (cntR t u) := by
  have q := rangeSize_toNat (t.offset : Int) u t.period
  have l := cntR_le t u
  refine ⟨by omega, by omega, ?_, q⟩
  unfold Builtin.Range.small Builtin.Range.rangeFitsLong
  unfold cntR at l
  rw [if_pos (show (t.period : Int) > 0 by omega)]
  simp only [Bool.and_eq_true, Bool.or_eq_true, decide_eq_true_eq]
  omega
def relT (u : Nat) (t : Tk) : List T3 := (List.range (cntR t u)).map fun i : Nat => ((t.offset : Int) + (i : Int) * t.period, t.name, (i : Int))
section
variable [Tb]
variable {P : Program} {w : World} {K : PySem.W.Frag} {mg : Str → Option Value} {base : Heap} {f : Addr} {fd : FuncData} {CT : Addr}
theorem sc_releases_in : FnScope ["tasks", "until", "found", "one", "number", "at"] ["tasks", "until"] (defScope (top 29)) := ⟨rfl, rfl, rfl, by decide +kernel, rfl, by decide +kernel, by decide +kernel⟩
def g_releases_in (CT : Addr) (ds : List D) (r : D) : Prop := ∃ (ts : List Tk) (u : Nat), ds = [.tup (ts.map (tkD CT)), .int u] ∧ ts.length ≤ 5 ∧ u ≤ 1000 ∧ (∀ t ∈ ts, 0 < t.period ∧ t.period ≤ 600 ∧ t.offset ≤ 600) ∧ r = .lst ((srt3 (ts.flatMap (relT u))).map trD)
theorem relT_len (u : Nat) (t : Tk) (h : t.offset ≤ 600) (hu : u ≤ 1000) : (relT u t).length ≤ 1600 := by
  unfold relT
  (rw [List.length_map, List.length_range])
  have := cntR_le t u
  omega
theorem flat_len {α β : Type} {g : α → List β} {m : Nat} : ∀ {l : List α}, (∀ x ∈ l, (g x).length ≤ m) → (l.flatMap g).length ≤ l.length * m
  | [], _ => by simp
  | x :: l, h => by
    have a := h x List.mem_cons_self
    have b := flat_len (l := l) fun y hy => h y (List.mem_cons_of_mem _ hy)
    rw [List.flatMap_cons, List.length_append, List.length_cons, Nat.succ_mul]
    omega
theorem ok_releases_in (F : FnP K "releases_in" (top 29) f fd) (B : Bn mg) (T : TaskC K CT) : FnOk P w K mg base (L2.CX P w) 1 f fd ["tasks", "until"] (spD 2 (fun ds r => g_releases_in CT ds r) NoX) := by
  refine def_ok F sc_releases_in rfl fun cdv A outer s H E ds hr hl => ⟨fun r ⟨ts, u, e1, e2, e3, e4, e5⟩ => ?_, fun cls fs z => z.elim⟩
  subst e1 e5
  refine hss_then (hs_setS 2 (pso_lst pad_nil) rfl sc_releases_in.nd) ?_
  refine hss_cons (M := fun ρ => ∃ o1 o2 o3, ρ = [some (.d (.tup (ts.map (tkD CT)))), some (.d (.int u)), some (.own ((ts.flatMap (relT u)).map trD)), o1, o2, o3]) (hs_for PassesOwn.leaving rfl (pid_tup (pd_name 0))
    (fun i ρ => ∃ o1 o2 o3, ρ = [some (.d (.tup (ts.map (tkD CT)))), some (.d (.int u)), some (.own (((ts.take i).flatMap (relT u)).map trD)), o1, o2, o3]) ⟨none, none, none, rfl⟩ (fun i d ρi hd hI => ?_) fun ρn hI => ?_) fun ρ hI => ?_
  · obtain ⟨o1, o2, o3, rfl⟩ := hI
    rw [List.getElem?_map] at hd
    obtain ⟨t, ht1, rfl⟩ := Option.map_eq_some_iff.mp hd
    have htm := e4 t (List.mem_of_getElem? ht1)
    refine ⟨[3], _, pgd_name 3 sc_releases_in.nd, .inl rfl, ?_⟩
    refine hss_one (hs_drop (pd_extend 2 ⟨_, rfl, rfl, _, rfl⟩ (dt := (relT u t).map trD) (PD.is (pd_frz (pso_lc (own := [("number", 4), ("at", 5)]) (fun d => match d with | .tup [.int n, .int x] => some (trD (x, t.name, n)) | _ => none) rfl sc_releases_in.nd (pid_enumR B.enumerate B.range (pad_cons (pd_fld (pd_name 3) T.cl T.offset rfl) (pad_cons (pd_name 1) (pad_one (pd_fld (pd_name 3) T.cl T.period rfl)))) (rgc_of htm.1 htm.2.1 htm.2.2 (by omega))) (blkOk_by (show blkC ["tasks", "until", "found", "one", "number", "at"] (defScope (top 29)) _ _ = true by decide +kernel)) (fun x hx => ?_) (hl := ?_))) ?_) rfl ?_) ?_)
    · unfold enrD at hx
      obtain ⟨q, _, rfl⟩ := List.mem_map.mp hx
      exact ⟨[4, 5], _, true, fun _ _ _ _ _ => pgd_tup rfl (pgds_cons (pgd_name 4 sc_releases_in.nd) (pgds_cons (pgd_name 5 sc_releases_in.nd) pgds_nil)), by decide, rfl, ptsd_nil, fun _ => ⟨_, fun _ _ _ _ _ => pd_tup (pad_cons (pd_name 5) (pad_cons (pd_fld (pd_name 3) T.cl T.name rfl) (pad_one (pd_name 4)))) (hl := Nat.le_of_ble_eq_true rfl), rfl⟩, fun z => by cases z⟩
    · unfold enrD
      (rw [List.length_map, List.length_range])
      have := cntR_le t u
      omega
    · unfold enrD
      rw [List.filterMap_map, relT, List.map_map, ← List.filterMap_eq_map]
      rfl
    · have q := flat_len (g := relT u) (m := 1600) (l := ts.take i) fun x hx => relT_len u x (e4 x (List.mem_of_mem_take hx)).2.2 (by omega)
      have q2 := relT_len u t htm.2.2 (by omega)
      have q3 : (ts.take i).length ≤ 5 := Nat.le_trans (by rw [List.length_take]; omega) e2
      have q4 : (ts.take i).length * 1600 ≤ 5 * 1600 := Nat.mul_le_mul_right 1600 q3
      rw [List.length_map, List.length_map]
      omega
    · refine ⟨some (.d (tkD CT t)), o2, o3, ?_⟩
      rw [List.take_add_one, ht1, List.flatMap_append, List.map_append, Option.toList_some, List.flatMap_singleton]
      rfl
  · obtain ⟨o1, o2, o3, rfl⟩ := hI
    refine ⟨o1, o2, o3, ?_⟩
    (rw [List.length_map, List.take_length])
  · obtain ⟨o1, o2, o3, rfl⟩ := hI
    exact hss_one (hs_ret (pd_frz (pso_sorted3 B.sorted (pd_nameF 2 rfl))) rfl)
end
end K20

end
section
set_option maxHeartbeats 4000001
/-! K10: round_of, releases. -/
namespace K20
open PySem PySem.Spec
open PyProof.Rows L2 DL
section
variable [Tb]
variable {P : Program} {w : World} {K : PySem.W.Frag} {mg : Str → Option Value} {base : Heap} {f : Addr} {fd : FuncData} {CT CB CM : Addr}
theorem sc_round_of : FnScope ["tasks"] ["tasks"] (defScope (top 30)) := ⟨rfl, rfl, rfl, by decide +kernel, rfl, by decide +kernel, by decide +kernel⟩
def g_need (CT : Addr) (ds : List D) (r : D) : Prop := ∃ ts n, need1 CT ds (some n) ts ∧ r = .tup ((tsrt ts).map (tkD CT))
def x_need (K : PySem.W.Frag) (CT CB CM : Addr) (ds : List D) (cls : Value) (fs : List (Str × D)) : Prop := (∃ d, ds = [d] ∧ Bad K CT d ∧ cls = .ref CB ∧ fs = exV "tasks") ∨ ∃ ts, need1 CT ds none ts ∧ cls = .ref CM ∧ fs = exM
theorem tsrt_ok {ts : List Tk} (h : good ts) : ∀ t ∈ tsrt ts, 0 < t.period ∧ t.period ≤ 600 := fun t m => h.2.2.2 t ((tsrt_perm ts).mem_iff.mp m)
theorem ok_round_of (F : FnP K "round_of" (top 30) f fd) (F1 : Def P w K mg base "need_tasks" 4 (spD 1 (g_need CT) (x_need K CT CB CM)))
    (F2 : Def P w K mg base "round_in" 3 (spD 1 (fun ds r => ∃ n, g_round_in CT ds (some n) ∧ r = .int n) (fun ds cls fs => g_round_in CT ds none ∧ cls = .ref CM ∧ fs = exM))) :
    FnOk P w K mg base (L2.CX P w) 5 f fd ["tasks"] (spD 1 (fun ds r => ∃ ts n, need1 CT ds (some n) ts ∧ r = .int n) (x_need K CT CB CM)) := by
  refine def_ok F sc_round_of rfl fun cdv A outer s H E ds hr hl => ⟨fun r ⟨ts, n, h, e⟩ => ?_, fun cls fs z => ?_⟩
  · subst e
    obtain ⟨d, rfl, h2, h3, h4⟩ := id h
    exact hss_one (hs_ret (pd_call F2 (hr.mono (by decide)) (pad_one (pd_call F1 (hr.mono (by decide)) (pad_one (pd_name 0)) rfl ⟨ts, n, h, rfl⟩)) rfl ⟨n, ⟨tsrt ts, rfl, tsrt_ok h3, h4.symm⟩, rfl⟩) rfl)
  · have key : ∃ d, ds = [d] := by rcases z with ⟨d, h, _⟩ | ⟨ts, ⟨d, h, _⟩, _⟩ <;> exact ⟨d, h⟩
    obtain ⟨d, rfl⟩ := key
    exact hss_one (hs_retX (px_callA F2 (hr.mono (by decide)) (pax_here (px_call takes_def F1 (hr.mono (by decide)) (pad_one (pd_name 0)) rfl z) fun t ht => pa_no t ht)) ⟨rfl, rfl⟩)
end
end K20

end
section
set_option maxHeartbeats 4000001
/-! K11: releases. -/
namespace K20
open PySem PySem.Spec
open PyProof.Rows L2 DL
section
variable [Tb]
variable {P : Program} {w : World} {K : PySem.W.Frag} {mg : Str → Option Value} {base : Heap} {f : Addr} {fd : FuncData} {CT CB CM : Addr}
theorem sc_releases : FnScope ["tasks", "until", "told"] ["tasks", "until"] (defScope (top 31)) := ⟨rfl, rfl, rfl, by decide +kernel, rfl, by decide +kernel, by decide +kernel⟩
def g_releases (CT : Addr) (ds : List D) (r : D) : Prop := ∃ (d : D) (u : Nat) (ts : List Tk) (n : Nat), ds = [d, .int u] ∧ need1 CT [d] (some n) ts ∧ u ≤ 1000 ∧ (∀ t ∈ ts, t.offset ≤ 600) ∧ r = .tup ((srt3 ((tsrt ts).flatMap (relT u))).map trD)
def x_releases (K : PySem.W.Frag) (CT CB CM : Addr) (ds : List D) (cls : Value) (fs : List (Str × D)) : Prop := ∃ d u, ds = [d, u] ∧ (x_need K CT CB CM [d] cls fs ∨ (∃ ts n, need1 CT [d] (some n) ts) ∧ Ok K u ∧ betw 0 1000000 u = false ∧ cls = .ref CB ∧ fs = exV "until")
theorem ok_releases (F : FnP K "releases" (top 31) f fd) (B : Bn mg) (C : Cs mg) (F1 : Def P w K mg base "need_tasks" 4 (spD 1 (g_need CT) (x_need K CT CB CM)))
    (F2 : Def P w K mg base "is_between" 2 (spD 3 (fun ds r => f_is_between ds K r) NoX)) (F3 : Def P w K mg base "releases_in" 1 (spD 2 (fun ds r => g_releases_in CT ds r) NoX)) (R : ExcC P w K mg base "BadValue" CB ["part"]) :
    FnOk P w K mg base (L2.CX P w) 5 f fd ["tasks", "until"] (spD 2 (g_releases CT) (x_releases K CT CB CM)) := by
  refine def_ok F sc_releases rfl fun cdv A outer s H E ds hr hl => ⟨fun r ⟨d, u, ts, n, e1, e2, e3, e4, e5⟩ => ?_, fun cls fs ⟨d, u, e1, z⟩ => ?_⟩
  · subst e1 e5
    obtain ⟨d', h1, h2, h3, h4⟩ := id e2
    refine hss_then (hs_set 2 (pd_call F1 (hr.mono (by decide)) (pad_one (pd_name 0)) rfl ⟨ts, n, e2, rfl⟩) rfl sc_releases.nd) ?_
    refine hss_leave (k1 := false) (ptd_not (ptd_val (PD.is (pd_call F2 (hr.mono (by decide)) (pad_cons (pd_name 1) (pad_cons pd_int (pad_one (pd_cI C.moment)))) rfl ⟨_, _, _, rfl, .int _, rfl⟩) (show D.bl _ = D.bl true from congrArg D.bl ?_)))) (fun z => by cases z) fun _ => ?_
    · unfold betw
      (simp only [Bool.and_eq_true, decide_eq_true_eq])
      omega
    · exact hss_one (hs_ret (pd_tupleL B.tuple (pd_call F3 (hr.mono (by decide)) (pad_cons (pd_name 2) (pad_one (pd_name 1))) rfl ⟨tsrt ts, u, rfl, by rw [(tsrt_perm ts).length_eq]; exact h3.2.1, e3, fun t m => ⟨(tsrt_ok h3 t m).1, (tsrt_ok h3 t m).2, e4 t ((tsrt_perm ts).mem_iff.mp m)⟩, rfl⟩)) rfl)
  · subst e1
    rcases z with z | ⟨⟨ts, n, h⟩, o, b, e2, e3⟩
    · exact hss_cons (M := fun _ => False) (hs_setX 2 (px_call takes_def F1 (hr.mono (by decide)) (pad_one (pd_name 0)) rfl z) ⟨rfl, rfl⟩ sc_releases.nd) fun _ q => q.elim
    · subst e2 e3
      refine hss_then (hs_set 2 (pd_call F1 (hr.mono (by decide)) (pad_one (pd_name 0)) rfl ⟨ts, n, h, rfl⟩) rfl sc_releases.nd) ?_
      refine hss_leave (k1 := true) (ptd_not (ptd_val (PD.is (pd_call F2 (hr.mono (by decide)) (pad_cons (pd_name 1) (pad_cons pd_int (pad_one (pd_cI C.moment)))) rfl ⟨_, _, _, rfl, o, rfl⟩) (show D.bl _ = D.bl false from congrArg D.bl b)))) (fun _ => hss_one (hs_raise takes_def R (hr.mono (by decide)) (pad_one pd_str) rfl (by decide) ⟨rfl, rfl⟩)) fun z => by cases z
end
end K20

end
section
set_option maxHeartbeats 4000001
/-! DL16: attribute targets in a tuple of targets. -/
namespace DL
open PySem PySem.Spec
open PyProof.Rows L2
variable {X : Cx} {o : Expr} {f : Str} {pos : Pos}
def gFld (K : PySem.W.Frag) (ta : TE) (f : Str) : TG := fun v σ H Q => ta σ H fun x H1 => ∃ a C dx fs, x = .ref a ∧ H1 a = some (.ins C dx fs) ∧ Cls K C ∧ NoAttr K C f ∧ fs.length < 1000 ∧ Q σ (upd H1 a (.ins C dx (putF f v fs)))
theorem pg_fld {ta : TE} (ha : PE X o ta) : PG X (.Attribute o f pos) (gFld X.K ta f) := by
  (refine ⟨fun pins s σ H v u Q I r h => ?_⟩)
  rw [assign_Attribute]
  refine wpAny_bind (wpAny_holding (thn (ha.run pins s σ H _ I h) fun ov s1 ⟨x, H1, I1, r1, a, C, dx, fs, ex, ea, c, n, l, q⟩ => ?_))
  subst ex
  obtain rfl : ov = Value.ref a := r1
  refine wpAny_bind (wpAny_standAt (wpAny_bind (wpAny_holding (setattr_ok I1 ea c n l r fun s3 I3 => ?_))))
  exact wpAny_release ⟨σ, _, I3, q⟩
open Evl (Ex)
def putD (f : Str) (v : D) : List (Str × D) → List (Str × D)
  | [] => [(f, v)]
  | (g, x) :: r => if g = f then (g, v) :: r else (g, x) :: putD f v r
section
variable [Tb]
theorem Atf.put {G : Hp} {f : Str} {v : V} {d : D} (h : At G v d) : ∀ {vs : List (Str × V)} {fs : List (Str × D)}, Atf G vs fs → Atf G (putF f v vs) (putD f d fs)
  | _, _, .nil => .cons h .nil
  | _, _, .cons (x := g) a r => by
    unfold putF putD
    by_cases z : g = f
    · rw [if_pos z, if_pos z]
      exact .cons h r
    · rw [if_neg z, if_neg z]
      exact .cons a (r.put h)
theorem Atf.length {G : Hp} : ∀ {vs : List (Str × V)} {fs : List (Str × D)}, Atf G vs fs → vs.length = fs.length
  | _, _, .nil => rfl
  | _, _, .cons a r => congrArg (· + 1) r.length
variable {ρ ρ' ρ1 ρ2 : Rho} {C : Addr} {fs : List (Str × D)} {ds : List D} {d : D} {e : Expr} {W : WX} {ow : Bool} {P : Po}
theorem obj_at {σ : L2.St} {G H : Hp} {n : Nat} (s : Slots G H σ ρ) (e : Ex G H) (hi : ρ[n]? = some (some (.obj C fs))) : ∃ q dx vs, σ[n]? = some (some (.ref q)) ∧ G q = none ∧ H q = some (.ins C dx vs) ∧ Atf G vs fs ∧
    ∀ vs' fs', Atf G vs' fs' → Step σ ρ (ρ.set n (some (.obj C fs'))) G H G (upd H q (.ins C dx vs')) := by
  obtain ⟨v, h1, h2⟩ := s.at_ n _ hi
  cases h2 with
  | @obj q0 _ dx vs0 _ hg hh hs =>
    refine ⟨_, _, _, h1, hg, hh, hs, fun vs' ds' a => ?_⟩
    refine GrowO.step (s0 := .obj C fs) ⟨Ex.refl _, fun a u ha => ?_, fun _ _ _ => rfl, fun a o h t m => ?_, fun a h => ?_, fun t => tabs_upd t hh fun _ z => by cases z⟩ s hi rfl h1 rfl (.obj hg upd_same a)
    · rw [upd_ne fun z => by rw [z, hg] at ha; cases ha]
      exact e a u ha
    · rw [upd_ne m]
      exact h
    · by_cases z : a = q0
      · rw [z, upd_same]
        exact fun y => by cases y
      · rw [upd_ne z]
        exact h
/-- targets on own things: the slots' values stay -/
def rGo (ρ : Rho) (d : D) (ρ' : Rho) : TG := fun v σ H Q => ∃ G, Ex G H ∧ Slots G H σ ρ ∧ At G v d ∧ ∀ G' H', Step σ ρ ρ' G H G' H' → Q σ H'
def rGos (ρ : Rho) (ds : List D) (ρ' : Rho) : TGs := fun vs σ H Q => ∃ G, Ex G H ∧ Slots G H σ ρ ∧ Ats G vs ds ∧ ∀ G' H', Step σ ρ ρ' G H G' H' → Q σ H'
theorem pgo_fld (n : Nat) {nm : Str} {q : Pos} (c : Cls X.K C) (na : NoAttr X.K C f) (hl : fs.length < 1000) (e1 : ρ[n]? = some (some (.obj C fs))) (hN : X.N[n]? = some nm := by rfl) (hv : Vis X.env.scope nm := by first | exact Or.inl rfl | exact Or.inr (Or.inl rfl) | exact Or.inr (Or.inr rfl))
    (hd : (nm == ("__debug__" : Str)) = false := by decide) (hcd : (nm == ("__classdict__" : Str)) = false := by decide) : PG X (.Attribute (.Name nm q) f pos) (rGo ρ d (ρ.set n (some (.obj C (putD f d fs))))) :=
  pg_weak (pg_fld (pe_var (i := n) hN hv hd hcd)) fun v σ H Q ⟨G, e, s, a, k⟩ => by
    obtain ⟨q, dx, vs, b1, hg, hh, ha, st⟩ := obj_at s e e1
    exact ⟨.ref q, b1, q, C, dx, vs, rfl, hh, c, na, by rw [ha.length]; exact hl, k G _ (st _ _ (ha.put a))⟩
theorem pgos_nil : PGs X [] (rGos ρ [] ρ) := pgs_weak pgs_nil fun vs σ H Q ⟨G, e, s, a, k⟩ => by
  cases a
  exact ⟨rfl, k G H ⟨Ex.refl _, e, fun _ _ _ => rfl, fun _ _ h _ _ => h, fun _ h => h, s, fun i t a b => ⟨t, a, b⟩⟩⟩
theorem pgos_cons {tg : Expr} {ts : List Expr} (h : PG X tg (rGo ρ d ρ1)) (hr : PGs X ts (rGos ρ1 ds ρ2)) (hs : (assignEach (tg :: ts) X.env).map (·.2) = assign tg X.env :: (assignEach ts X.env).map (·.2) := by rfl) : PGs X (tg :: ts) (rGos ρ (d :: ds) ρ2) :=
  pgs_weak (pgs_cons h hr hs) fun vs σ H Q ⟨G, e, s, a, k⟩ => by
    cases a with
    | cons a1 a2 =>
      exact ⟨_, _, rfl, G, e, s, a1, fun G1 H1 g1 => ⟨G1, g1.gh, g1.sl, a2.ex g1.g, fun G2 H2 g2 => k G2 H2 (g1.trans g2)⟩⟩
theorem pgo_tup {ts : List Expr} {k : Nat} (hc : X.calm = true) (h : PGs X ts (rGos ρ ds ρ')) (hl : ts.length = ds.length := by rfl) (hn : (assignEach ts X.env).length = ts.length := by rfl) (hst : (assignEach ts X.env).findIdx? (·.1) = none := by rfl) : PG X (.Tuple ts k pos) (rGo ρ (.tup ds) ρ') :=
  pg_weak (pg_tup (n := ts.length) hc h hn hst) fun v σ H Q ⟨G, e, s, a, k⟩ => by
    cases a with
    | tup hg ha => exact ⟨_, _, rfl, .inl (.inl (e _ _ hg)), by rw [hl, ha.length], G, e, s, ha, k⟩
/-- targets on own things -/
theorem hs_unpO {tg : Expr} (h : PD X e ρ d ρ1) (hg : PG X tg (rGo ρ1 d ρ2)) (k : P.nx ρ2) (hs : swapsWithSole [tg] e pos.line X.env = pure false := by rfl) (hw : swappedStores [tg] e X.env = pure none := by rfl)
    (h1 : (assignEach [tg] X.env).map (·.2) = [assign tg X.env] := by rfl) : HS X W ow (.Assign [tg] e pos) ρ P :=
  ps_weak (ps_asg h hg hs hw h1) fun Dn σ H ⟨w, Ge, He, G, hw, nw, k1, _⟩ => ⟨G, nw.gh, nw.sl, fun v G1 H1 g1 a1 => ⟨G1, g1.gh, g1.sl, a1, fun G2 H2 g2 => k1 σ G2 H2 _ ((nw.step g1).step g2) (g1.g.trans g2.g) k⟩⟩
end
end DL

end
section
set_option maxHeartbeats 4000001
/-! DL17: defs whose first argument is one's own; instances made. -/
namespace DL
open PySem PySem.Spec
open PyProof.Rows L2
open Evl (Ex)
section
variable [Tb]
/-- what a def promises whose first argument is one's own (s0 before, s1 behind); it raises where Fx says so -/
def spOX (n : Nat) (Fn : S → List D → D → S → Prop) (Fx : S → List D → Value → List (Str × D) → Prop) : Sp := fun vs H Q E => ∃ G p ws s0 ds, TbO G H ∧ vs = .ref p :: ws ∧ Ex G H ∧ s0.me = true ∧ Sl G H (.ref p) s0 ∧ Ats G ws ds ∧ ds.length = n ∧
  ((∃ r s1, Fn s0 ds r s1 ∧ s1.me = true ∧ ∀ v G' H', GrowO p G H G' H' → Sl G' H' (.ref p) s1 → At G' v r → Q v H') ∨
   ∃ cls fs, Fx s0 ds cls fs ∧ ∀ xd vs' G' H', GrowO p G H G' H' → H xd = none → H' xd = some (.xd vs') → Atf G' vs' fs → E cls (some xd) H')
def NoXO : S → List D → Value → List (Str × D) → Prop := fun _ _ _ _ => False
theorem spO_of {n : Nat} {Fn : S → List D → D → S → Prop} {vs : List V} {H : Hp} {Q : VK} {E : XK} (h : spO n Fn vs H Q E) : spOX n Fn NoXO vs H Q E := by
  obtain ⟨G, p, ws, s0, ds, r, s1, t, e1, e2, m0, sl, a, hl, hf, m1, k⟩ := h
  exact ⟨G, p, ws, s0, ds, t, e1, e2, m0, sl, a, hl, .inl ⟨r, s1, hf, m1, k⟩⟩
/-- the slots at such a def's entry -/
def GenO (s0 : S) (ds : List D) (N : List Str) : Rho := some s0 :: (ds.map (fun d => some (S.d d)) ++ List.replicate (N.length - (ds.length + 1)) none)
theorem genO_get {s0 s : S} {ds : List D} {N : List Str} {i : Nat} (q : (GenO s0 ds N)[i]? = some (some s)) : (i = 0 ∧ s = s0) ∨ ∃ j d, i = j + 1 ∧ ds[j]? = some d ∧ s = .d d := by
  cases i with
  | zero =>
    cases q
    exact .inl ⟨rfl, rfl⟩
  | succ j =>
    right
    have q : (ds.map (fun d => some (S.d d)) ++ List.replicate (N.length - (ds.length + 1)) none)[j]? = some (some s) := q
    by_cases hi : j < ds.length
    · rw [List.getElem?_append_left (by rw [List.length_map]; exact hi), List.getElem?_map] at q
      cases ed : ds[j]? with
      | none =>
        rw [ed] at q
        cases q
      | some d0 =>
        rw [ed] at q
        cases q
        exact ⟨j, d0, rfl, ed, rfl⟩
    · rw [List.getElem?_append_right (by rw [List.length_map]; omega)] at q
      have z2 := List.eq_of_mem_replicate (List.mem_of_getElem? q)
      cases z2
theorem Slots.entryO {G H : Hp} {N : List Str} {p : Addr} {ws : List V} {ds : List D} {s0 : S} (tb : TbO G H) (sl : Sl G H (.ref p) s0) (a : Ats G ws ds) : Slots G H (L2.start N (.ref p :: ws)) (GenO s0 ds N) := by
  have st : L2.start N (.ref p :: ws) = some (.ref p) :: (ws.map some ++ List.replicate (N.length - (ds.length + 1)) none) := by
    unfold L2.start
    rw [List.length_cons, a.length]
    rfl
  refine ⟨?_, fun i s q => ?_, fun i j s t q e1 m1 e2 m2 e3 e4 => ?_, tb⟩
  · rw [st]
    unfold GenO
    rw [List.length_cons, List.length_cons, List.length_append, List.length_append, List.length_map, List.length_map, a.length, List.length_replicate, List.length_replicate]
  · rcases genO_get q with ⟨rfl, rfl⟩ | ⟨j, d, rfl, ed, rfl⟩
    · exact ⟨.ref p, by rw [st]; rfl, sl⟩
    · obtain ⟨v, h1, h2⟩ := a.get ed
      have hi : j < ws.length := by
        rcases Nat.lt_or_ge j ws.length with h | h
        · exact h
        · rw [List.getElem?_eq_none h] at h1
          cases h1
      refine ⟨v, ?_, .d h2⟩
      rw [st, List.getElem?_cons_succ, List.getElem?_append_left (by rw [List.length_map]; exact hi), List.getElem?_map, h1]
      rfl
  · rcases genO_get e1 with ⟨rfl, rfl⟩ | ⟨_, d, rfl, _, rfl⟩
    · rcases genO_get e2 with ⟨rfl, rfl⟩ | ⟨_, d, rfl, _, rfl⟩
      · rfl
      · cases m2
    · cases m1
/-- a def whose first argument is one's own, by its body -/
theorem def_okO {Pg : Program} {w : World} {K : PySem.W.Frag} {mg : Str → Option Value} {base : Heap} {nm qual : Str} {params : Arguments} {body : List Stmt} {scope : Scope} {f : Addr} {fd : FuncData} {N ps : List Str} {k n : Nat} {Fn : S → List D → D → S → Prop} {Fx : S → List D → Value → List (Str × D) → Prop}
    (F : FunD K nm qual params body scope [] [] f fd) (Sc : FnScope N ps scope) (hn : ps.length = n + 1)
    (hb : ∀ (cdv : Value) (A : Around) (outer : List Env) (s : Shared) (H : Hp) (E : XK) (s0 : S) (ds : List D), Room k (A.deeper (envOfC qual scope s.heap.objs.size f cdv)) → ds.length = n → s0.me = true →
      (∀ r s1, Fn s0 ds r s1 → s1.me = true → HSs (cxOf (L2.CX Pg w) Pg w K mg base N qual scope f cdv A outer s H E) (fun cls xd _ H' => E cls xd H') true body (GenO s0 ds N) { nx := fun ρ => r = .non ∧ ρ[0]? = some (some s1), rt := fun d ρ => d = r ∧ ρ[0]? = some (some s1) }) ∧
      (∀ cls fs, Fx s0 ds cls fs → HSs (cxOf (L2.CX Pg w) Pg w K mg base N qual scope f cdv A outer s H E) (fun cls xd _ H' => E cls xd H') true body (GenO s0 ds N) { ex := fun c z _ => c = cls ∧ z = fs })) :
    FnOk Pg w K mg base (L2.CX Pg w) (k + 1) f fd ps (spOX n Fn Fx) := by
  (obtain ⟨oc, od, dV, kV, doc, pm, an, cdv, ct, osl, rfl, lk, hcd, _, _⟩ := F.ex)
  refine fn_of lk hcd Sc (fun vs H Q E h => ?_) (fun A outer s H vs Q E hr h => ?_)
  · obtain ⟨G, p, ws, s0, ds, _, e1, _, _, _, a, hl, _⟩ := h
    rw [e1, List.length_cons, a.length, hl, hn]
  · obtain ⟨G, p, ws, s0, ds, tb, e1, e, m0, sl0, a, hl, hh⟩ := h
    subst e1
    obtain ⟨b1, b2⟩ := hb cdv A outer s H E s0 ds hr hl m0
    have now : Now (some p) G H G H (L2.start N (.ref p :: ws)) (GenO s0 ds N) := by
      refine ⟨⟨Ex.refl G, e, fun _ _ _ => rfl, fun _ _ h _ _ => h, fun _ h => h⟩, Slots.entryO tb sl0 a, fun x m => ?_, fun b z => ?_⟩
      · obtain ⟨i, s', q1, q2, q3⟩ := m
        rcases genO_get q1 with ⟨rfl, rfl⟩ | ⟨_, d, rfl, _, rfl⟩
        · have q3 : some (some (V.ref p)) = some (some (V.ref x)) := q3
          cases q3
          exact .inl rfl
        · cases q2
      · cases z
        rfl
    have grow : ∀ {σ' : L2.St} {G' H' : Hp} {ρ' : Rho}, Now (some p) G H G' H' σ' ρ' → GrowO p G H G' H' := fun n => ⟨n.g, n.gh, fun a h z => n.nw a h fun y => z (Option.some.inj y).symm, fun a o h t z => n.kp a o h t fun y => z (Option.some.inj y).symm, n.al, fun _ => n.sl.tb.1⟩
    have back : ∀ {σ' : L2.St} {G' H' : Hp} {ρ' : Rho} {s1 : S}, Now (some p) G H G' H' σ' ρ' → ρ'[0]? = some (some s1) → Sl G' H' (.ref p) s1 := fun n h => by
      obtain ⟨v, h1, h2⟩ := n.sl.at_ 0 _ h
      rw [n.fx p rfl] at h1
      cases h1
      exact h2
    rcases hh with ⟨r, s1, hf, m1, kq⟩ | ⟨cls, fs, hf, ke⟩
    · refine ⟨_, b1 r s1 hf m1, some p, G, H, G, rfl, now, fun σ' G' H' ρ' n' _ z => ?_, fun v σ' G' H' d ρ' n' _ at_ z => ?_, fun _ _ _ _ _ _ z => z.elim, fun _ _ _ _ _ _ z => z.elim, fun _ _ _ _ _ _ _ _ _ _ _ _ _ z => z.elim⟩
      · obtain ⟨z1, z2⟩ := z
        subst z1
        exact kq .non G' H' (grow n') (back n' z2) .non
      · obtain ⟨z1, z2⟩ := z
        subst z1
        exact kq v G' H' (grow n') (back n' z2) at_
    · refine ⟨_, b2 cls fs hf, some p, G, H, G, rfl, now, fun _ _ _ _ _ _ z => z.elim, fun _ _ _ _ _ _ _ _ _ z => z.elim, fun _ _ _ _ _ _ z => z.elim, fun _ _ _ _ _ _ z => z.elim, fun c xd vs z σ' G' H' ρ' n' _ h1 h2 h3 y => ?_⟩
      obtain ⟨y1, y2⟩ := y
      subst y1 y2
      exact ke xd vs G' H' (grow n') h1 h2 h3
/-! ### instances made -/
theorem GrowO.fresh {p : Addr} {o : HO} {G H G' H' : Hp} (hp : H p = none) (g : GrowO p G (upd H p o) G' H') : Grow G H G' H' := by
  have ne : ∀ {a : Addr}, H a ≠ none → a ≠ p := fun h z => h (by rw [z]; exact hp)
  exact ⟨g.g, g.gh, fun a h => g.nw a (by rw [upd_ne (ne h)]; exact h) (ne h), fun a u h n => g.kp a u (by rw [upd_ne (ne (some_ne h))]; exact h) n (ne (some_ne h)), fun a h => g.al a (by rw [upd_ne (ne h)]; exact h), fun t => g.tb (t.ext (Evl.Ex.refl _) fun b ps z => Evl.Ex.new hp b _ z)⟩
/-- an instance of one's own, frozen at once -/
theorem pd_frzI {X : Cx} {a : Expr} {ρ ρ' : Rho} {C : Addr} {fs : List (Str × D)} (h : PS_ X a ρ (.obj C fs) ρ') : PD X a ρ (.ins C fs) ρ' := pe_weak h fun σ H Q ⟨G, e, s, k⟩ => ⟨G, e, s, fun v G' H' st sl fr => by
  obtain ⟨p, rfl, hn, hm⟩ := fr rfl
  cases sl with
  | @obj _ _ dx vs _ hg hh hs =>
    refine k (.ref p) (upd G' p (.ins C dx vs)) H' ?_ (.ins upd_same (hs.ex (Evl.Ex.new hg)))
    refine ⟨st.g.trans (Evl.Ex.new hg), fun b u hb => ?_, fun x hx m => ?_, st.kp, st.al, ⟨st.sl.len, fun i s e => ?_, st.sl.ne, st.sl.tb.upd hg hh fun _ z => by cases z⟩, st.me⟩
    · by_cases q : b = p
      · rw [q, upd_same] at hb
        rw [q, ← hb]
        exact hh
      · rw [upd_ne q] at hb
        exact st.gh b u hb
    · rw [upd_ne fun q => hx (by rw [q]; exact hn)]
      exact st.nw x hx m
    · obtain ⟨w, e1, e2⟩ := st.sl.at_ i s e
      have out : ∀ {q : Addr}, w = .ref q → s.me = true → q ≠ p := fun hw hs z => hm ⟨i, s, e, hs, by rw [← z, ← hw]; exact e1⟩
      refine ⟨w, e1, ?_⟩
      cases e2 with
      | d h => exact .d (h.ex (Evl.Ex.new hg))
      | own hg' hh' hs' => exact .own (by rw [upd_ne (out rfl rfl)]; exact hg') hh' (hs'.ex (Evl.Ex.new hg))
      | obj hg' hh' hs' => exact .obj (by rw [upd_ne (out rfl rfl)]; exact hg') hh' (hs'.ex (Evl.Ex.new hg))⟩
/-- a class of the text, and what its __init__ promises -/
structure MkC (P : Program) (w : World) (K : PySem.W.Frag) (mg : Str → Option Value) (base : Heap) (x : Str) (C : Addr) (k n : Nat) (Fn : S → List D → D → S → Prop) (Fx : S → List D → Value → List (Str × D) → Prop) : Prop where
  gl : mg x = some (.ref C)
  ini : ∃ (f : Addr) (fd : FuncData) (ps : List Str), Mk K C f ∧ FnOk P w K mg base (L2.CX P w) k f fd ps (spOX n Fn Fx) ∧ Binds K fd ps []
section
variable {X : Cx} {ρ ρ' : Rho} {e : Expr} {es : List Expr} {ds : List D} {x : Str} {C : Addr} {k n : Nat} {Fn : S → List D → D → S → Prop} {Fx : S → List D → Value → List (Str × D) → Prop} {fs : List (Str × D)} {p pos : Pos}
/-- what is given to __init__ -/
theorem make_in {G H : Hp} {vs : List V} {y dx : Addr} (t : TbO G H) (g : Ex G H) (a : Ats G vs ds) (hy : H y = none) (hd : H dx = none) (ne : dx ≠ y) :
    TbO G (upd (upd H dx (.own y)) y (.ins C dx [])) ∧ Ex G (upd (upd H dx (.own y)) y (.ins C dx [])) ∧ Sl G (upd (upd H dx (.own y)) y (.ins C dx [])) (.ref y) (.obj C []) ∧ (upd H dx (.own y)) y = none ∧ Grow G H G (upd H dx (.own y)) := by
  have hy' : (upd H dx (.own y)) y = none := (upd_ne ne.symm).trans hy
  have g1 : Grow G H G (upd H dx (.own y)) := Grow.fresh g hd
  have g2 : Grow G (upd H dx (.own y)) G (upd (upd H dx (.own y)) y (.ins C dx [])) := Grow.fresh g1.gh hy'
  exact ⟨(g1.trans g2).tbo t, g2.gh, .obj (Evl.fresh_back g hy) upd_same .nil, hy', g1⟩
theorem none_back {σ : L2.St} {ρ ρ' : Rho} {G H G' H' : Hp} (s : Step σ ρ ρ' G H G' H') {a : Addr} (h : H' a = none) : H a = none := by
  cases q : H a with
  | none => rfl
  | some o => exact absurd h (s.al a (some_ne q))
theorem pso_make (M : MkC X.prog X.w X.K X.mg X.base x C k n Fn Fx) (hr : Room (k + 1) X.A) (ha : PAD X (e :: es) ρ ds ρ') (hl : ds.length = n) (hf : Fn (.obj C []) ds .non (.obj C fs)) (hg : Gl X x := by rfl) (hdb : (x == ("__debug__" : Str)) = false := by decide)
    (he : starEach (e :: es) X.env = (false, eval e X.env) :: starEach es X.env := by rfl) (hpl : (backTo pos (starEach es X.env)).any (·.1) = false := by rfl) : PS_ X (.Call (.Name x p) (e :: es) [] pos) ρ (.obj C fs) ρ' := by
  obtain ⟨f, fd, ps, hM, hF, hb⟩ := M.ini
  refine pe_weak (pe_make hM hF hr hg M.gl hb .nil passF ha hdb he hpl) fun σ H Q ⟨G, e1, s, q⟩ => ⟨G, e1, s, fun vs G1 H1 g1 a1 y dx hy hd ne => ?_⟩
  obtain ⟨t1, t2, t3, hy', g2⟩ := make_in (C := C) g1.sl.tb g1.gh a1 hy hd ne
  rw [List.append_nil]
  refine ⟨G1, y, vs, .obj C [], ds, t1, rfl, t2, rfl, t3, a1, hl, .inl ⟨.non, .obj C fs, hf, rfl, fun v G2 H2 g3 sl2 a2 => ⟨by cases a2; rfl, q (.ref y) G2 H2 (g1.trans ((g2.trans (g3.fresh hy')).step g1.sl)) sl2 fun _ => ⟨y, rfl, none_back g1 hy, ps_new g1.sl hy⟩⟩⟩⟩
theorem px_make {E : XK} (tk : Takes X (fun c d _ H => E c d H)) (M : MkC X.prog X.w X.K X.mg X.base x C k n Fn Fx) (hr : Room (k + 1) X.A) {cls : Value} (ha : PAD X (e :: es) ρ ds ρ') (hl : ds.length = n) (hf : Fx (.obj C []) ds cls fs) (hg : Gl X x := by rfl) (hdb : (x == ("__debug__" : Str)) = false := by decide)
    (he : starEach (e :: es) X.env = (false, eval e X.env) :: starEach es X.env := by rfl) (hpl : (backTo pos (starEach es X.env)).any (·.1) = false := by rfl) : PX X (fun c d _ H => E c d H) (.Call (.Name x p) (e :: es) [] pos) ρ cls fs ρ' := by
  obtain ⟨f, fd, ps, hM, hF, hb⟩ := M.ini
  refine pe_weak (pe_make hM hF hr hg M.gl hb .nil (passes_call tk fun _ _ _ _ z => z) ha hdb he hpl) fun σ H Q ⟨G, e1, s, q⟩ => ⟨G, e1, s, fun vs G1 H1 g1 a1 y dx hy hd ne => ?_⟩
  obtain ⟨t1, t2, t3, hy', g2⟩ := make_in (C := C) g1.sl.tb g1.gh a1 hy hd ne
  rw [List.append_nil]
  refine ⟨G1, y, vs, .obj C [], ds, t1, rfl, t2, rfl, t3, a1, hl, .inr ⟨cls, fs, hf, fun xd vs' G2 H2 g3 h1 h2 h3 => ?_⟩⟩
  have hx1 : (upd H1 dx (.own y)) xd = none := NdefX.upd_none h1
  exact q xd vs' G2 H2 (g1.trans ((g2.trans (g3.fresh hy')).step g1.sl)) (none_back g1 (NdefX.upd_none hx1)) h2 h3
/-! ### keywords -/
def PKD (X : Cx) (kws : List Keyword) (ρ : Rho) (ds : List D) (ρ' : Rho) : Prop := PK X kws (rA ρ ds ρ')
theorem pk_weak {kws : List Keyword} {t t' : TA} (h : PK X kws t) (w : ∀ σ H Q, t' σ H Q → t σ H Q) : PK X kws t' := ⟨fun pos pins s σ H Q I q => h.run pos pins s σ H Q I (w σ H Q q)⟩
theorem pkd_nil : PKD X [] ρ [] ρ := pk_weak pk_nil fun σ H Q ⟨G, e1, s, q⟩ => q [] G H ((Grow.refl e1).step s) .nil
theorem pkd_cons {kws : List Keyword} {nm : Option Str} {d : D} {ρ1 : Rho} (ha : PD X e ρ d ρ1) (hr : PKD X kws ρ1 ds ρ') : PKD X (⟨nm, e, p⟩ :: kws) ρ (d :: ds) ρ' :=
  pk_weak (pk_cons ha hr) fun σ H Q ⟨G, e1, s, q⟩ => ⟨G, e1, s, fun v G1 H1 g1 a1 => ⟨G1, g1.gh, g1.sl, fun vs G2 H2 g2 a2 => q _ G2 H2 (g1.trans g2) (.cons (a1.ex g2.g) a2)⟩⟩
theorem Ats.reverse {G : Hp} : ∀ {vs : List V} {ds : List D}, Ats G vs ds → Ats G vs.reverse ds.reverse
  | _, _, .nil => .nil
  | _, _, .cons h hs => by
    (rw [List.reverse_cons, List.reverse_cons])
    exact hs.reverse.append (.cons h .nil)
/-- C(k = v, ..), the keywords in the order that is the parameters' reversed -/
theorem pso_makeRev {kws : List Keyword} {ks ps : List Str} {f : Addr} {fd : FuncData} {g : List Value → List Value → List Value} (hM : Mk X.K C f) (hF : FnOk X.prog X.w X.K X.mg X.base (L2.CX X.prog X.w) k f fd ps (spOX n Fn Fx)) (hb : KBn X.K fd ps 1 ks g fun vs zs => vs ++ zs.reverse) (hr : Room (k + 1) X.A) (hm : X.mg x = some (.ref C)) (hk : PKD X kws ρ ds ρ') (hl : ds.length = n) (hz : ds.length = ks.length) (hf : Fn (.obj C []) ds.reverse .non (.obj C fs)) (hg : Gl X x := by rfl)
    (hall : (backToKw pos (keywordEach kws X.env)).all (·.1.isSome) = true := by rfl) (hks : (backToKw pos (keywordEach kws X.env)).filterMap (·.1) = ks := by rfl) (hdb : (x == ("__debug__" : Str)) = false := by decide)
    (hpl : ((backTo pos (starEach [] X.env)).any (·.1) || (backToKw pos (keywordEach kws X.env)).any (·.1.isNone)) = false := by rfl) : PS_ X (.Call (.Name x p) [] kws pos) ρ (.obj C fs) ρ' := by
  refine pe_weak (pe_makeK0 hM hF hr hg hm hb passF hk hall hks hdb hpl) fun σ H Q ⟨G, e1, s, q⟩ => ⟨G, e1, s, fun zs G1 H1 g1 a1 => ⟨rfl, a1.length.trans hz, fun y dx hy hd ne => ?_⟩⟩
  obtain ⟨t1, t2, t3, hy', g2⟩ := make_in (C := C) g1.sl.tb g1.gh a1 hy hd ne
  refine ⟨G1, y, zs.reverse, .obj C [], ds.reverse, t1, rfl, t2, rfl, t3, a1.reverse, by rw [List.length_reverse]; exact hl, .inl ⟨.non, .obj C fs, hf, rfl, fun v G2 H2 g3 sl2 a2 => ⟨by cases a2; rfl, q (.ref y) G2 H2 (g1.trans ((g2.trans (g3.fresh hy')).step g1.sl)) sl2 fun _ => ⟨y, rfl, none_back g1 hy, ps_new g1.sl hy⟩⟩⟩⟩
end
end
end DL

end
section
set_option maxHeartbeats 4000001
/-! K12: Task. -/
namespace K20
open PySem PySem.Spec
open PyProof.Rows L2 DL
section
variable [Tb]
variable {P : Program} {w : World} {K : PySem.W.Frag} {mg : Str → Option Value} {base : Heap} {f : Addr} {fd : FuncData} {CT CB CM : Addr}
theorem lp {f : Str} {v : D} {k : Nat} : ∀ {fs : List (Str × D)}, fs.length < k → (putD f v fs).length < k + 1
  | [], h => by
    show 1 < k + 1
    have h : 0 < k := h
    omega
  | (g, x) :: r, h => by
    have h : r.length + 1 < k := h
    unfold putD
    by_cases z : g = f
    · rw [if_pos z]
      show r.length + 1 < k + 1
      omega
    · rw [if_neg z]
      have := lp (f := f) (v := v) (k := k - 1) (fs := r) (by omega)
      show (putD f v r).length + 1 < k + 1
      omega
theorem lp0 {k : Nat} (h : 0 < k) : ([] : List (Str × D)).length < k := h
theorem sc_init : FnScope ["self", "name", "period", "offset", "due", "least", "most"] ["self", "name", "period", "offset", "due", "least", "most"] (defScope sInit) := ⟨rfl, rfl, rfl, by decide +kernel, rfl, by decide +kernel, by decide +kernel⟩
def asI : D → Int
  | .int i => i
  | _ => 0
theorem betw_int {lo hi : Int} {d : D} (h : betw lo hi d = true) : ∃ i, d = .int i ∧ lo ≤ i ∧ i ≤ hi := by
  cases d with
  | int i =>
    have h : (decide (lo ≤ i) && decide (i ≤ hi)) = true := h
    rw [Bool.and_eq_true, decide_eq_true_eq, decide_eq_true_eq] at h
    exact ⟨i, rfl, h.1, h.2⟩
  | _ => cases h
/-- the first part that is none -/
def chk (n p o d l m : D) : Option Str :=
  if isName n = false then some "name" else if betw 1 600 p = false then some "period" else if betw 0 600 o = false then some "offset" else
  if betw 1 (asI p) d = false then some "due" else if betw 1 100000000 l = false then some "least" else if (!(isN m) && !(betw (asI l) 100000000 m)) = true then some "most" else none
def okT (t : Tk) : Prop := isNameS t.name = true ∧ 1 ≤ t.period ∧ t.period ≤ 600 ∧ t.offset ≤ 600 ∧ 1 ≤ t.due ∧ t.due ≤ t.period ∧ 1 ≤ t.least ∧ t.least ≤ 100000000 ∧ ∀ m, t.most = some m → t.least ≤ m ∧ m ≤ 100000000
def tvs (t : Tk) : List D := [.str t.name, .int t.period, .int t.offset, .int t.due, .int t.least, optD t.most]
def fnT (CT : Addr) (s0 : S) (ds : List D) (r : D) (s1 : S) : Prop := s0 = .obj CT [] ∧ r = .non ∧ ∃ t, ds = tvs t ∧ okT t ∧ s1 = .obj CT (tfs t)
def fxT (K : PySem.W.Frag) (CT CB : Addr) (s0 : S) (ds : List D) (cls : Value) (fs : List (Str × D)) : Prop := s0 = .obj CT [] ∧ ∃ n p o d l m x, ds = [n, p, o, d, l, m] ∧ (∀ z ∈ ds, Ok K z) ∧ chk n p o d l m = some x ∧ cls = .ref CB ∧ fs = exV x
theorem optD_isN (m : Option Nat) : isN (optD m) = m.isNone := by cases m <;> rfl
theorem chk_ok {t : Tk} (h : okT t) : chk (.str t.name) (.int t.period) (.int t.offset) (.int t.due) (.int t.least) (optD t.most) = none := by
  obtain ⟨h1, h2, h3, h4, h5, h6, h7, h8, h9⟩ := h
  have b : ∀ {lo hi : Int} {i : Nat}, lo ≤ i → (i : Int) ≤ hi → betw lo hi (.int i) ≠ false := fun {lo hi i} a c => by
    show (decide (lo ≤ (i : Int)) && decide ((i : Int) ≤ hi)) ≠ false
    rw [decide_eq_true a, decide_eq_true c]
    decide
  unfold chk
  rw [if_neg (by show isNameS t.name ≠ false; rw [h1]; decide), if_neg (b (by omega) (by omega)), if_neg (b (by omega) (by omega)), if_neg (b (by omega) (by show (t.due : Int) ≤ t.period; omega)), if_neg (b (by omega) (by omega)), if_neg]
  cases q : t.most with
  | none =>
    show ¬ (!true && !(betw (t.least : Int) 100000000 .non)) = true
    rw [Bool.not_true, Bool.false_and]
    decide
  | some m =>
    obtain ⟨m1, m2⟩ := h9 m q
    show ¬ (true && !(betw (t.least : Int) 100000000 (.int m))) = true
    cases z : betw (t.least : Int) 100000000 (.int m) with
    | true => decide
    | false => exact absurd z (b (by omega) (by omega))
theorem tvs_ok {t : Tk} (h : okT t) : ∀ z ∈ tvs t, Ok K z := by
  intro z hz
  have hs : t.name.length ≤ 1000 := by
    have h1 := h.1
    unfold isNameS at h1
    (simp only [Bool.and_eq_true, decide_eq_true_eq] at h1)
    omega
  simp only [tvs, List.mem_cons, List.not_mem_nil, or_false] at hz
  rcases hz with rfl | rfl | rfl | rfl | rfl | rfl
  · exact .str _ hs
  · exact .int _
  · exact .int _
  · exact .int _
  · exact .int _
  · cases t.most with
    | none => exact .non
    | some m => exact .int _
theorem ok_init (F : FunD K "__init__" "Task.__init__" (defArgs sInit) (defBody sInit) (defScope sInit) [] [] f fd) (C : Cs mg) (T : TaskC K CT) (F1 : Def P w K mg base "is_name" 1 (spD 1 (fun ds r => f_is_name ds K r) NoX)) (F2 : Def P w K mg base "is_between" 2 (spD 3 (fun ds r => f_is_between ds K r) NoX)) (R : ExcC P w K mg base "BadValue" CB ["part"]) :
    FnOk P w K mg base (L2.CX P w) 3 f fd ["self", "name", "period", "offset", "due", "least", "most"] (spOX 6 (fnT CT) (fxT K CT CB)) := by
  have key : ∀ (cdv : Value) (A : Around) (outer : List Env) (s : Shared) (H : Hp) (E : XK) (n p o d l m : D), Room 2 (A.deeper (envOfC "Task.__init__" (defScope sInit) s.heap.objs.size f cdv)) → (∀ z ∈ [n, p, o, d, l, m], Ok K z) → ∀ P0 : Po,
      (∀ x ρ, chk n p o d l m = some x → P0.ex (.ref CB) (exV x) ρ) → (chk n p o d l m = none → P0.nx [some (.obj CT [("name", n), ("period", p), ("offset", o), ("due", d), ("least", l), ("most", m)]), some (.d n), some (.d p), some (.d o), some (.d d), some (.d l), some (.d m)]) →
      HSs (cxOf (L2.CX P w) P w K mg base ["self", "name", "period", "offset", "due", "least", "most"] "Task.__init__" (defScope sInit) f cdv A outer s H E) (fun cls xd _ H' => E cls xd H') true (defBody sInit) (GenO (.obj CT []) [n, p, o, d, l, m] ["self", "name", "period", "offset", "due", "least", "most"]) P0 := by
    intro cdv A outer s H E n p o d l m hr ok P0 h1 h2
    refine hss_leave (ρ1 := GenO (.obj CT []) [n, p, o, d, l, m] ["self", "name", "period", "offset", "due", "least", "most"]) (ptd_not (ptd_val (pd_call F1 (hr.mono (by decide)) (pad_one (pd_name 1)) rfl ⟨n, rfl, ok _ (by simp), rfl⟩))) (fun hk => ?_) fun hk => ?_
    · rw [Bool.not_eq_true'] at hk
      refine hss_one (hs_raise takes_def R (hr.mono (by decide)) (pad_one pd_str) rfl (by decide) (h1 _ _ ?_))
      unfold chk
      rw [if_pos hk]
    rw [Bool.not_eq_false'] at hk
    have c1 : ¬ isName n = false := by rw [hk]; decide
    refine hss_leave (ρ1 := GenO (.obj CT []) [n, p, o, d, l, m] ["self", "name", "period", "offset", "due", "least", "most"]) (ptd_not (ptd_val (pd_call F2 (hr.mono (by decide)) (pad_cons (pd_name 2) (pad_cons pd_int (pad_one (pd_cI C.round)))) rfl ⟨p, _, _, rfl, ok _ (by simp), rfl⟩))) (fun hk => ?_) fun hk => ?_
    · rw [Bool.not_eq_true'] at hk
      refine hss_one (hs_raise takes_def R (hr.mono (by decide)) (pad_one pd_str) rfl (by decide) (h1 _ _ ?_))
      unfold chk
      rw [if_neg c1, if_pos hk]
    rw [Bool.not_eq_false'] at hk
    have c2 : ¬ betw 1 600 p = false := by rw [hk]; decide
    obtain ⟨pi, rfl, _, _⟩ := betw_int hk
    refine hss_leave (ρ1 := GenO (.obj CT []) [n, .int pi, o, d, l, m] ["self", "name", "period", "offset", "due", "least", "most"]) (ptd_not (ptd_val (pd_call F2 (hr.mono (by decide)) (pad_cons (pd_name 3) (pad_cons pd_int (pad_one (pd_cI C.round)))) rfl ⟨o, _, _, rfl, ok _ (by simp), rfl⟩))) (fun hk => ?_) fun hk => ?_
    · rw [Bool.not_eq_true'] at hk
      refine hss_one (hs_raise takes_def R (hr.mono (by decide)) (pad_one pd_str) rfl (by decide) (h1 _ _ ?_))
      unfold chk
      rw [if_neg c1, if_neg c2, if_pos hk]
    rw [Bool.not_eq_false'] at hk
    have c3 : ¬ betw 0 600 o = false := by rw [hk]; decide
    refine hss_leave (ρ1 := GenO (.obj CT []) [n, .int pi, o, d, l, m] ["self", "name", "period", "offset", "due", "least", "most"]) (ptd_not (ptd_val (pd_call F2 (hr.mono (by decide)) (pad_cons (pd_name 4) (pad_cons pd_int (pad_one (pd_name 2)))) rfl ⟨d, _, _, rfl, ok _ (by simp), rfl⟩))) (fun hk => ?_) fun hk => ?_
    · rw [Bool.not_eq_true'] at hk
      refine hss_one (hs_raise takes_def R (hr.mono (by decide)) (pad_one pd_str) rfl (by decide) (h1 _ _ ?_))
      unfold chk
      rw [if_neg c1, if_neg c2, if_neg c3]
      exact if_pos hk
    rw [Bool.not_eq_false'] at hk
    have c4 : ¬ betw 1 (asI (.int pi)) d = false := by
      show ¬ betw 1 pi d = false
      rw [hk]
      decide
    refine hss_leave (ρ1 := GenO (.obj CT []) [n, .int pi, o, d, l, m] ["self", "name", "period", "offset", "due", "least", "most"]) (ptd_not (ptd_val (pd_call F2 (hr.mono (by decide)) (pad_cons (pd_name 5) (pad_cons pd_int (pad_one (pd_cI C.work)))) rfl ⟨l, _, _, rfl, ok _ (by simp), rfl⟩))) (fun hk => ?_) fun hk => ?_
    · rw [Bool.not_eq_true'] at hk
      refine hss_one (hs_raise takes_def R (hr.mono (by decide)) (pad_one pd_str) rfl (by decide) (h1 _ _ ?_))
      unfold chk
      rw [if_neg c1, if_neg c2, if_neg c3, if_neg c4, if_pos hk]
    rw [Bool.not_eq_false'] at hk
    have c5 : ¬ betw 1 100000000 l = false := by rw [hk]; decide
    obtain ⟨li, rfl, _, _⟩ := betw_int hk
    refine hss_leave (ρ1 := GenO (.obj CT []) [n, .int pi, o, d, .int li, m] ["self", "name", "period", "offset", "due", "least", "most"]) (pwd_pt (pwd_andB (ptd_notN (pd_name 6)) fun _ => pwd_and1 (ptd_not (ptd_val (pd_call F2 (hr.mono (by decide)) (pad_cons (pd_name 6) (pad_cons (pd_name 5) (pad_one (pd_cI C.work)))) rfl ⟨m, _, _, rfl, ok _ (by simp), rfl⟩))))) (fun hk => ?_) fun hk => ?_
    · refine hss_one (hs_raise takes_def R (hr.mono (by decide)) (pad_one pd_str) rfl (by decide) (h1 _ _ ?_))
      unfold chk
      rw [if_neg c1, if_neg c2, if_neg c3, if_neg c4, if_neg c5]
      exact if_pos hk
    have c6 : chk n (.int pi) o d (.int li) m = none := by
      unfold chk
      rw [if_neg c1, if_neg c2, if_neg c3, if_neg c4, if_neg c5]
      refine if_neg ?_
      show ¬ (!(isN m) && !(betw li 100000000 m)) = true
      rw [hk]
      decide
    refine hss_then (hs_unpO (pd_tup (pad_cons (pd_name 1) (pad_cons (pd_name 2) (pad_one (pd_name 3)))) (by show 3 ≤ 100000; decide)) (pgo_tup rfl (pgos_cons (pgo_fld 0 T.cl T.name (lp0 (by decide)) rfl) (pgos_cons (pgo_fld 0 T.cl T.period (lp (lp0 (by decide))) rfl) (pgos_cons (pgo_fld 0 T.cl T.offset (lp (lp (lp0 (by decide)))) rfl) pgos_nil)))) rfl) ?_
    exact hss_one (hs_unpO (pd_tup (pad_cons (pd_name 4) (pad_cons (pd_name 5) (pad_one (pd_name 6)))) (by show 3 ≤ 100000; decide)) (pgo_tup rfl (pgos_cons (pgo_fld 0 T.cl T.due (lp (lp (lp (lp0 (by decide))))) rfl) (pgos_cons (pgo_fld 0 T.cl T.least (lp (lp (lp (lp (lp0 (by decide)))))) rfl) (pgos_cons (pgo_fld 0 T.cl T.most (lp (lp (lp (lp (lp (lp0 (by decide))))))) rfl) pgos_nil)))) (h2 c6))
  refine def_okO F sc_init rfl fun cdv A outer s H E s0 ds hr hl hm => ⟨fun r s1 ⟨e0, er, t, e1, e2, e3⟩ m1 => ?_, fun cls fs ⟨e0, n, p, o, d, l, m, x, e1, e2, e3, e4, e5⟩ => ?_⟩
  · subst e0 er e1 e3
    exact key cdv A outer s H E _ _ _ _ _ _ hr (tvs_ok e2) _ (fun x ρ z => by rw [chk_ok e2] at z; cases z) fun _ => ⟨rfl, rfl⟩
  · subst e0 e1 e4 e5
    exact key cdv A outer s H E _ _ _ _ _ _ hr e2 _ (fun x ρ z => by rw [e3] at z; cases z; exact ⟨rfl, rfl⟩) fun z => by rw [e3] at z; cases z
end
end K20

end
section
set_option maxHeartbeats 4000001
/-! DL18: == and != by an own __eq__, whatever it answers. -/
namespace DL
open PySem PySem.Spec
open PyProof.Rows L2
open Evl (Ex)
section
variable {prog : Program} {w : World} {A : Around} {E : Value → Shared → Prop} {s : Shared} {K : PySem.W.Frag} {x C f : Addr} {ox : Obj} {od : Option Obj} {u ty : Value}
theorem rc_any {op : CmpOp} {Q : Value → Shared → Prop} (hu : A.units < cLine) (k : K.In s.heap) (J : PySem.W.InstAt s.heap x ox C od) (hty : PySem.W.Looks (model prog w) s.heap (typeOf u) ty) (hn : PySem.W.notFirst K C ty = true)
    (here : wpAny (model prog w) A (tryCompare (.ref x) (cmpInfo op).2.1 u) (fun r t => ∃ v, r = some v ∧ Q v t) E s) : wpAny (model prog w) A (richCompare op (.ref x) u) Q E s := by
  unfold richCompare
  simp only [oneThing_ref]
  (refine wpAny_holding (wpAny_bind (wpAny_cRoomFor hu ?_)))
  refine wpAny_bind (J.type.here (wpAny_bind (hty.here ?_)))
  split
  · rename_i q
    have no : PySem.W.subIn K ty (.ref C) = some false := by
      rcases Bool.or_eq_true_iff.mp hn with z | z
      · rw [beq_iff_eq.mp z] at q
        simp at q
      · exact beq_iff_eq.mp z
    refine wpAny_bind ((PySem.W.looks_subIn k no).here ?_)
    (simp only [Bool.false_eq_true, if_false])
    refine wpAny_bind (wpAny_mono here (fun r t z => ?_) fun _ _ z => z)
    obtain ⟨v, rfl, hq⟩ := z
    exact wpAny_pure hq
  · (refine wpAny_bind (wpAny_pure ?_))
    (simp only [Bool.false_eq_true, if_false])
    refine wpAny_bind (wpAny_mono here (fun r t z => ?_) fun _ _ z => z)
    obtain ⟨v, rfl, hq⟩ := z
    exact wpAny_pure hq
/-- object.__ne__ turns round what an own __eq__ answers -/
theorem try_ne {Q : Option Value → Shared → Prop} (k : K.In s.heap) (J : PySem.W.InstAt s.heap x ox C od) (hu : A.units + 1 < cLine) (hne : PySem.W.findIn K (.ref C) "__ne__" = some (some (.builtin "object.__ne__"))) (ho : PySem.W.mroIn K C (.type "object") = some true)
    (heq : PySem.W.findIn K (.ref C) "__eq__" = some (some (.ref f))) (hf : PySem.W.isFn K (.ref f) = true) (h : wpAny (model prog w) A.in1 (call (.ref f) [.ref x, u]) (fun v t => ∃ b, v = .bool b ∧ Q (some (.bool (!b))) t) E s) :
    wpAny (model prog w) A (tryCompare (.ref x) "__ne__" u) Q E s := by
  have sp : PySem.W.Looks (model prog w) s.heap (specialOf (.ref x) "__ne__") (some (.builtin "object.__ne__")) := J.type.andThen (PySem.W.looks_findIn k hne)
  have inst : PySem.W.Looks (model prog w) s.heap (isInstance (.ref x) (.type "object")) true := J.type.andThen (PySem.W.looks_mroIn k ho)
  unfold tryCompare
  refine wpAny_bind (NtL.csib sp (PySem.F.cmp_object.ne.bind _) (wpAny_call (codeAny_call_builtin PySem.F.cmp_object.ne.plain PySem.F.cmpEntry_ne (@PySem.W.check_slot (model prog w) _ _ _ "object.__ne__" "object" "__ne__" (.ref x) [u] [] _ (by decide +kernel) (by decide +kernel) inst (PySem.F.cmpArgs_ne _ _) ?_))))
  (unfold Builtin.«object.__ne__»)
  repeat (first
    | with_reducible refine wpAny_cRoomFor (show A.in1.units < cLine from hu) ?_
    | (refine wpAny_bind (m := callSpecialIfBound? (.ref x) (Str.ofString "__eq__") [u]) (PySem.W.ifBound_K k J heq hf (wpAny_mono h (fun r t z => by
        obtain ⟨b, rfl, q⟩ := z
        repeat (first | exact wpAny_pure q | exact wpAny_truthy_bool (wpAny_pure q) | (refine wpAny_bind (m := truthy (.bool _)) (wpAny_truthy_bool ?_)) | wp_step)) fun _ _ z => z)))
    | wp_step)
end
section
variable {X : Cx} {CX : CXT} {n : Nat} {f C : Addr} {fd : FuncData} {ps : List Str} {sp : Sp} {E : XK} {pins : List (Addr × Obj)} {σ : L2.St} {H : Hp} {s : Shared}
theorem run_in {A : Around} {Q : VK} {us : List Value} {vs : List V} (F : FnOk X.prog X.w X.K X.mg X.base CX n f fd ps sp) (hr : Room n A) (e0 : Env0 X.prog X.w X.K X.mg X.base A X.stack s H) (hb : Binds X.K fd ps []) (hx : Passes CX X E) (I : Inv X pins σ H s) (r : Vals vs us) (h : sp vs H Q E) :
    wpAny (model X.prog X.w) A (call (.ref f) us) (EP X pins σ Q) X.xe s := by
  have hl : us.length = ps.length := r.length.symm.trans (F.len _ _ _ _ h)
  (have b := hb s us I.kIn (by rw [List.append_nil]; exact hl))
  rw [List.append_nil] at b
  refine wpAny_call (codeAny_mono (F.run A X.stack s H ⟨us, []⟩ us vs Q E hr e0 b r h) fun o t z => ?_)
  cases o with
  | error e => exact hx pins σ H s e t I z
  | ok fl =>
    cases fl with
    | ret u => exact I.after z
    | _ => exact False.elim z
/-- x == y, x an instance of the class at C -/
def rEqD (K : PySem.W.Frag) (C : Addr) (sp : Sp) (E : XK) : R2 := fun x y H Q => ∃ a dx vs ty, x = .ref a ∧ H a = some (.ins C dx vs) ∧ TyX K H y ty ∧ PySem.W.notFirst K C ty = true ∧ sp [x, y] H Q E
theorem op_eqI (hs : PySem.W.findIn X.K (.ref C) "__eq__" = some (some (.ref f))) (hf : PySem.W.isFn X.K (.ref f) = true) (F : FnOk X.prog X.w X.K X.mg X.base CX n f fd ps sp) (hr : Room n X.A) (hb : Binds X.K fd ps []) (hx : Passes CX X E) : OpR X (compareOp .Eq) (rEqD X.K C sp E) := by
  (intro pins s σ H x y v u Q I rx ry h)
  obtain ⟨a, dx, vs, ty, rfl, ha, hty, hn, q⟩ := h
  (cases (show v = Value.ref a from rx))
  obtain ⟨mA, J0, _⟩ := ins_get I.hok ha
  obtain ⟨od, J, _⟩ := J0.look
  obtain ⟨P, kx, hP, _⟩ := kit_of I ry hty
  obtain ⟨m, hF⟩ := I.fr
  show wpAny (model X.prog X.w) X.A (richCompare .Eq (.ref a) u) (EP X pins σ Q) X.xe s
  refine PySem.W.cmp_K (op := .Eq) (tb := ty) hr.units0 hF I.ok.mod.kin J (kx.ty _ _ I.kIn hP) hn hs hf ?_
  refine wpAny_mono (run_in (us := [.ref a, u]) (vs := [.ref a, y]) F hr I.env0 hb hx I (.cons rfl (.cons ry .nil)) q) (fun w t z => ?_) fun _ _ z => z
  (obtain ⟨z', H', I', rz, qz⟩ := z)
  exact SlX.cmpback rz ⟨z', H', I', rz, qz⟩
def rNeD (K : PySem.W.Frag) (C : Addr) (sp : Sp) (E : XK) : R2 := fun x y H Q => ∃ a dx vs ty, x = .ref a ∧ H a = some (.ins C dx vs) ∧ TyX K H y ty ∧ PySem.W.notFirst K C ty = true ∧ sp [x, y] H (fun z H' => ∃ b, z = .bl b ∧ Q (.bl (!b)) H') E
theorem op_neI (hs : PySem.W.findIn X.K (.ref C) "__eq__" = some (some (.ref f))) (hf : PySem.W.isFn X.K (.ref f) = true) (hne : PySem.W.findIn X.K (.ref C) "__ne__" = some (some (.builtin "object.__ne__"))) (ho : PySem.W.mroIn X.K C (.type "object") = some true)
    (F : FnOk X.prog X.w X.K X.mg X.base CX n f fd ps sp) (hr : Room (n + 1) X.A) (hb : Binds X.K fd ps []) (hx : Passes CX X E) : OpR X (compareOp .NotEq) (rNeD X.K C sp E) := by
  (intro pins s σ H x y v u Q I rx ry h)
  obtain ⟨a, dx, vs, ty, rfl, ha, hty, hn, q⟩ := h
  (cases (show v = Value.ref a from rx))
  obtain ⟨mA, J0, _⟩ := ins_get I.hok ha
  obtain ⟨od, J, _⟩ := J0.look
  obtain ⟨P, kx, hP, _⟩ := kit_of I ry hty
  show wpAny (model X.prog X.w) X.A (richCompare .NotEq (.ref a) u) (EP X pins σ Q) X.xe s
  refine rc_any (op := .NotEq) hr.units0 I.kIn J (kx.ty _ _ I.kIn hP) hn ?_
  refine try_ne I.kIn J (hu_of hr) hne ho hs hf ?_
  refine wpAny_mono (run_in (us := [.ref a, u]) (vs := [.ref a, y]) F (Room.in1 hr) I.env0.in1 hb hx I (.cons rfl (.cons ry .nil)) q) (fun w t z => ?_) fun _ _ z => z
  obtain ⟨z', H', I', rz, b, eb, qz⟩ := z
  subst eb
  cases (show w = Value.bool b from rz)
  exact ⟨b, rfl, _, rfl, V.bl (!b), H', I', rfl, qz⟩
end
end DL

end
section
set_option maxHeartbeats 4000001
/-! K13: Task.__eq__; tasks compared. -/
namespace DL
open PySem PySem.Spec
open PyProof.Rows L2
open Evl (Ex)
section
variable [Tb]
variable {X : Cx} {ρ ρ1 ρ2 : Rho} {a b e : Expr} {x y z d : D} {pos : Pos} {k1 : Bool}
/-- a two-place operation on data that may ask for the tables -/
def ODt (r : R2) (x y z : D) : Prop := ∀ G H v w, TbO G H → Ex G H → At G v x → At G w y → ∀ Q : VK, (∀ u G' H', Grow G H G' H' → At G' u z → Q u H') → r v w H Q
theorem pd_cmpT {op : CmpOp} {r : R2} (ho : OpR X (compareOp op) r) (ha : PD X a ρ x ρ1) (hb : PD X b ρ1 y ρ2) (h : ODt r x y z) (hm : behindInMarks op b = false) : PD X (.Compare a [op] [b] pos) ρ z ρ2 :=
  pe_weak (pe_cmpR ho ha hb hm) fun σ H Q ⟨G, e1, s, k⟩ => ⟨G, e1, s, fun v G1 H1 g1 a1 => ⟨G1, g1.gh, g1.sl, fun w G2 H2 g2 a2 => h G2 H2 v w g2.sl.tb g2.gh (a1.ex g2.g) a2 Q fun u G3 H3 g3 a3 => k u G3 H3 ((g1.trans g2).trans (g3.step g2.sl)) a3⟩⟩
theorem ptd_cmpT {op : CmpOp} {r : R2} (ho : OpR X (compareOp op) r) (ha : PD X a ρ x ρ1) (hb : PD X b ρ1 y ρ2) (h : ODt r x y (.bl k1)) (hm : behindInMarks op b = false) : PTD X (.Compare a [op] [b] pos) ρ k1 ρ2 :=
  pt_weak (pt_cmpR ho ha hb hm) fun σ H Q ⟨G, e1, s, k⟩ => ⟨G, e1, s, fun v G1 H1 g1 a1 => ⟨G1, g1.gh, g1.sl, fun w G2 H2 g2 a2 => h G2 H2 v w g2.sl.tb g2.gh (a1.ex g2.g) a2 _ fun u G3 H3 g3 a3 => by
    cases a3
    exact ⟨k1, rfl, k G3 H3 ((g1.trans g2).trans (g3.step g2.sl))⟩⟩⟩
/-- a class with an own __eq__ and no own __ne__ -/
structure EqC (P : Program) (w : World) (K : PySem.W.Frag) (mg : Str → Option Value) (base : Heap) (C : Addr) (k : Nat) (Fn : List D → D → Prop) : Prop where
  ne : PySem.W.findIn K (.ref C) "__ne__" = some (some (.builtin "object.__ne__"))
  ob : PySem.W.mroIn K C (.type "object") = some true
  eq : ∃ (f : Addr) (fd : FuncData) (ps : List Str), PySem.W.findIn K (.ref C) "__eq__" = some (some (.ref f)) ∧ PySem.W.isFn K (.ref f) = true ∧ FnOk P w K mg base (L2.CX P w) k f fd ps (spD 2 Fn NoX) ∧ Binds K fd ps []
variable {C : Addr} {fs : List (Str × D)} {k : Nat} {Fn : List D → D → Prop} {t : Value}
theorem od_eqOwn {K : PySem.W.Frag} (hf : Fn [.ins C fs, y] z) (ty : TyD K y t) (hn : PySem.W.notFirst K C t = true) : ODt (rEqD K C (spD 2 Fn NoX) fun _ _ _ => False) (.ins C fs) y z := fun G H v w tb e a1 a2 Q q => by
  cases a1 with
  | ins hg hs => exact ⟨_, _, _, t, rfl, e _ _ hg, ty.tyx e a2, hn, G, [.ins C fs, y], tb, e, .cons (.ins hg hs) (.cons a2 .nil), rfl, .inl ⟨z, hf, q⟩⟩
theorem od_neOwn {K : PySem.W.Frag} (hf : Fn [.ins C fs, y] (.bl k1)) (ty : TyD K y t) (hn : PySem.W.notFirst K C t = true) : ODt (rNeD K C (spD 2 Fn NoX) fun _ _ _ => False) (.ins C fs) y (.bl (!k1)) := fun G H v w tb e a1 a2 Q q => by
  cases a1 with
  | ins hg hs =>
    refine ⟨_, _, _, t, rfl, e _ _ hg, ty.tyx e a2, hn, G, [.ins C fs, y], tb, e, .cons (.ins hg hs) (.cons a2 .nil), rfl, .inl ⟨.bl k1, hf, fun u G' H' g a3 => ?_⟩⟩
    cases a3
    exact ⟨k1, rfl, q _ G' H' g (.bl _)⟩
theorem ptd_eqC (M : EqC X.prog X.w X.K X.mg X.base C k Fn) (hr : Room k X.A) (ha : PD X a ρ (.ins C fs) ρ1) (hb : PD X b ρ1 y ρ2) (hf : Fn [.ins C fs, y] (.bl k1)) (ty : TyD X.K y t) (hn : PySem.W.notFirst X.K C t = true) : PTD X (.Compare a [.Eq] [b] pos) ρ k1 ρ2 := by
  obtain ⟨f, fd, ps, h1, h2, hF, hB⟩ := M.eq
  exact ptd_cmpT (op_eqI h1 h2 hF hr hB passF) ha hb (od_eqOwn hf ty hn) (nomark _)
theorem ptd_neC (M : EqC X.prog X.w X.K X.mg X.base C k Fn) (hr : Room (k + 1) X.A) (ha : PD X a ρ (.ins C fs) ρ1) (hb : PD X b ρ1 y ρ2) (hf : Fn [.ins C fs, y] (.bl k1)) (ty : TyD X.K y t) (hn : PySem.W.notFirst X.K C t = true) : PTD X (.Compare a [.NotEq] [b] pos) ρ (!k1) ρ2 := by
  obtain ⟨f, fd, ps, h1, h2, hF, hB⟩ := M.eq
  exact ptd_cmpT (op_neI h1 h2 M.ne M.ob hF hr hB passF) ha hb (od_neOwn hf ty hn) (nomark _)
end
end DL
namespace K20
open PySem PySem.Spec
open PyProof.Rows L2 DL
section
variable [Tb]
variable {P : Program} {w : World} {K : PySem.W.Frag} {mg : Str → Option Value} {base : Heap} {f : Addr} {fd : FuncData} {CT CB CM : Addr}
theorem sc_eq : FnScope ["self", "other", "mine"] ["self", "other"] (defScope sEq) := ⟨rfl, rfl, rfl, by decide +kernel, rfl, by decide +kernel, by decide +kernel⟩
def optP : Option Nat → PyData
  | none => .none
  | some n => .int n
def pT (t : Tk) : PyData := .tuple [.str t.name, .int t.period, .int t.offset, .int t.due, .int t.least, optP t.most]
theorem pT_of (t : Tk) : toPy (.tup (tvs t)) = some (pT t) := by
  unfold pT tvs
  cases t.most <;> rfl
theorem pT_shaped {t : Tk} (h : isNameS t.name = true) : SeqAt.shaped (pT t) = true := by
  unfold SeqAt.shaped
  rw [Bool.and_eq_true, decide_eq_true_eq]
  unfold pT
  constructor
  · show (PyData.canLay0 (.str t.name) && PyData.canLayAll0 [.int t.period, .int t.offset, .int t.due, .int t.least, optP t.most]) = true
    rw [show PyData.canLay0 (.str t.name) = true from name_ok h]
    cases t.most <;> rfl
  · cases t.most with
    | none => exact (by decide : 1 ≤ 64)
    | some m => exact (by decide : 1 ≤ 64)
def f_eqT (CT : Addr) (ds : List D) (r : D) : Prop := ∃ t d, ds = [tkD CT t, d] ∧ isNameS t.name = true ∧ ((∃ u, d = tkD CT u ∧ isNameS u.name = true ∧ r = .bl (PyData.eqv (pT t) (pT u))) ∨ ((∃ xs, d = .tup xs) ∧ r = .bl false))
theorem ok_eq (F : FunD K "__eq__" "Task.__eq__" (defArgs sEq) (defBody sEq) (defScope sEq) [] [] f fd) (B : Bn mg) (T : TaskK K mg CT) : FnOk P w K mg base (L2.CX P w) 1 f fd ["self", "other"] (spD 2 (f_eqT CT) NoX) := by
  refine def_ok F sc_eq rfl fun cdv A outer s H E ds hr hl => ⟨fun r ⟨t, d, e1, ht, h⟩ => ?_, fun cls fs z => z.elim⟩
  subst e1
  have six : ∀ {N : Nat} {x : Str} {u : Tk} {X : Cx} {ρ : Rho} {p1 p2 p3 p4 p5 p6 q1 q2 q3 q4 q5 q6 pp : Pos} {m} (hT : TaskC X.K CT), PD X (.Name x p1) ρ (tkD CT u) ρ → PD X (.Name x p2) ρ (tkD CT u) ρ → PD X (.Name x p3) ρ (tkD CT u) ρ → PD X (.Name x p4) ρ (tkD CT u) ρ → PD X (.Name x p5) ρ (tkD CT u) ρ → PD X (.Name x p6) ρ (tkD CT u) ρ →
      PD X (.Tuple [.Attribute (.Name x p1) "name" q1, .Attribute (.Name x p2) "period" q2, .Attribute (.Name x p3) "offset" q3, .Attribute (.Name x p4) "due" q4, .Attribute (.Name x p5) "least" q5, .Attribute (.Name x p6) "most" q6] m pp) ρ (.tup (tvs u)) ρ := by
    intro N x u X ρ p1 p2 p3 p4 p5 p6 q1 q2 q3 q4 q5 q6 pp m hT h1 h2 h3 h4 h5 h6
    exact pd_tup (pad_cons (pd_fld h1 hT.cl hT.name rfl) (pad_cons (pd_fld h2 hT.cl hT.period rfl) (pad_cons (pd_fld h3 hT.cl hT.offset rfl) (pad_cons (pd_fld h4 hT.cl hT.due rfl) (pad_cons (pd_fld h5 hT.cl hT.least rfl) (pad_one (pd_fld h6 hT.cl hT.most rfl))))))) (by show 6 ≤ 100000; decide)
  rcases h with ⟨u, e2, hu, e3⟩ | ⟨⟨xs, e2⟩, e3⟩
  · subst e2 e3
    refine hss_leave (k1 := false) (ρ1 := Gen [tkD CT t, tkD CT u] ["self", "other", "mine"]) (ptd_not (ptd_val (pd_isTask B T (.inl ⟨u, rfl⟩) (pd_name 1)))) (fun z => by cases z) fun _ => ?_
    refine hss_then (hs_set 2 (six (N := 0) T.toTaskC (pd_name 0) (pd_name 0) (pd_name 0) (pd_name 0) (pd_name 0) (pd_name 0)) rfl sc_eq.nd) ?_
    exact hss_one (hs_ret (pd_eqD (pd_name 2) (six (N := 0) T.toTaskC (pd_name 1) (pd_name 1) (pd_name 1) (pd_name 1) (pd_name 1) (pd_name 1)) hr.units (pT_of t) (pT_of u) (pT_shaped ht) (pT_shaped hu)) rfl)
  · subst e2 e3
    exact hss_leave (k1 := true) (ρ1 := Gen [tkD CT t, .tup xs] ["self", "other", "mine"]) (ptd_not (ptd_val (pd_isTask B T (.inr (.inr ⟨xs, rfl⟩)) (pd_name 1)))) (fun _ => hss_one (hs_ret pd_bl rfl)) fun z => by cases z
theorem eqv_self {t : Tk} (h : isNameS t.name = true) : PyData.eqv (pT t) (pT t) = true := eqv_same (pT_shaped h)
end
end K20

end
section
set_option maxHeartbeats 4000001
/-! K14: what the asked defs raise (printed by genasks.py). -/
namespace DL
open PySem PySem.Spec
open PyProof.Rows L2
open Evl (Ex)
section
variable [Tb]
variable {X : Cx} {W : WX} {ow : Bool} {ρ ρ' : Rho} {P : Po} {tg e : Expr} {pos : Pos} {cls : Value} {fs : List (Str × D)}
/-- targets = what raises -/
theorem hs_unpX {g : TG} (h : PX X W e ρ cls fs ρ') (hg : PG X tg g) (k : P.ex cls fs ρ') (hs : swapsWithSole [tg] e pos.line X.env = pure false := by rfl) (hw : swappedStores [tg] e X.env = pure none := by rfl)
    (h1 : (assignEach [tg] X.env).map (·.2) = [assign tg X.env] := by rfl) : HS X W ow (.Assign [tg] e pos) ρ P :=
  ps_weak (ps_asg h hg hs hw h1) fun Dn σ H ⟨w, Ge, He, G, hw, n, k1, k2, k3, k4, k5⟩ => ⟨G, n.gh, n.sl, fun xd vs G' H' g h1 h2 h3 => k5 cls xd vs fs σ G' H' ρ' (n.step g) g.g (n.back g h1) h2 h3 k⟩
theorem pg_none : PG X tg fun _ _ _ _ => False := ⟨fun _ _ _ _ _ _ _ _ _ h => h.elim⟩
end
end DL
namespace K20
open PySem PySem.Spec
open PyProof.Rows L2 DL
section
variable [Tb]
variable {P : Program} {w : World} {K : PySem.W.Frag} {mg : Str → Option Value} {base : Heap} {f : Addr} {fd : FuncData} {CT CB CM : Addr}
def x_order (K : PySem.W.Frag) (CT CB : Addr) (ds : List D) (cls : Value) (fs : List (Str × D)) : Prop := ∃ (ts : List Tk) (d : D), ds = [.tup (ts.map (tkD CT)), d] ∧ ts.length ≤ 1000 ∧ (∀ t ∈ ts, isNameS t.name = true) ∧ BadO K (ts.map (·.name)) d ∧ cls = .ref CB ∧ fs = exV "order"
/-- the first argument is no list of tasks, or their round is too great -/
def x_ask (K : PySem.W.Frag) (CT CB CM : Addr) (ds : List D) (cls : Value) (fs : List (Str × D)) : Prop := ∃ d rest, ds = d :: rest ∧ x_need K CT CB CM [d] cls fs
/-- .. or the second one is no order of them -/
def x_asko (K : PySem.W.Frag) (CT CB CM : Addr) (ds : List D) (cls : Value) (fs : List (Str × D)) : Prop := ∃ d o rest, ds = d :: o :: rest ∧ (x_need K CT CB CM [d] cls fs ∨ ∃ ts n, need1 CT [d] (some n) ts ∧ (∀ t ∈ ts, isNameS t.name = true) ∧ BadO K ((tsrt ts).map (·.name)) o ∧ cls = .ref CB ∧ fs = exV "order")
def spN (n : Nat) : (List D → Value → List (Str × D) → Prop) → Sp := fun Fx => spD n (fun _ _ => False) Fx
theorem order_in {ts : List Tk} {z : Option Nat} {d o : D} (h : need1 CT [d] z ts) (hn : ∀ t ∈ ts, isNameS t.name = true) (b : BadO K ((tsrt ts).map (·.name)) o) : x_order K CT CB [.tup ((tsrt ts).map (tkD CT)), o] (.ref CB) (exV "order") := by
  obtain ⟨d', _, _, ⟨_, g2, _⟩, _⟩ := h
  exact ⟨tsrt ts, o, rfl, by rw [(tsrt_perm ts).length_eq]; omega, fun t m => hn t ((tsrt_perm ts).mem_iff.mp m), b, rfl, rfl⟩

theorem sc_planned : FnScope ["tasks", "order", "told"] ["tasks", "order"] (defScope (top 50)) := ⟨rfl, rfl, rfl, by decide +kernel, rfl, by decide +kernel, by decide +kernel⟩
theorem ok_planned (F : FnP K "planned" (top 50) f fd) (F1 : Def P w K mg base "need_tasks" 4 (spD 1 (g_need CT) (x_need K CT CB CM))) (F3 : Def P w K mg base "need_order" 3 (spD 2 (fun _ _ => False) (x_order K CT CB))) {k0 n0 : Nat} {G0 : List D → D → Prop} {X0 : List D → Value → List (Str × D) → Prop} (hk0 : k0 ≤ 4) (F0 : Def P w K mg base "planned_in" k0 (spD n0 G0 X0)) :
    FnOk P w K mg base (L2.CX P w) 5 f fd ["tasks", "order"] (spN 2 (x_asko K CT CB CM)) := by
  refine def_ok F sc_planned rfl fun cdv A outer s H E ds hr hl => ⟨fun r z => z.elim, fun cls fs ⟨d, o, rest, e1, z⟩ => ?_⟩
  subst e1
  obtain rfl : rest = [] := by
    have hl' : rest.length = 0 := by simpa using hl
    exact List.length_eq_zero_iff.mp hl'
  rcases z with z | ⟨ts, n, h, hn, b, e2, e3⟩
  · exact hss_cons (M := fun _ => False) (hs_setX 2 (px_call takes_def F1 (hr.mono (by decide)) (pad_one (pd_name 0)) rfl z) ⟨rfl, rfl⟩ sc_planned.nd) fun _ q => q.elim
  · subst e2 e3
    refine hss_then (hs_set 2 (pd_call F1 (hr.mono (by decide)) (pad_one (pd_name 0)) rfl ⟨ts, n, h, rfl⟩) rfl sc_planned.nd) ?_
    exact hss_one (hs_retX (px_callA F0 (hr.mono hk0) (pax_later (pd_name 2) (pax_here (px_call takes_def F3 (hr.mono (by decide)) (pad_cons (pd_name 2) (pad_one (pd_name 1))) rfl (order_in h hn b)) fun t ht => pa_no t ht))) ⟨rfl, rfl⟩)
theorem sc_answers : FnScope ["tasks", "order", "told", "its", "walk", "one", "found", "until", "moments", "times", "number", "at"] ["tasks", "order"] (defScope (top 51)) := ⟨rfl, rfl, rfl, by decide +kernel, rfl, by decide +kernel, by decide +kernel⟩
theorem ok_answers (F : FnP K "answers" (top 51) f fd) (F1 : Def P w K mg base "need_tasks" 4 (spD 1 (g_need CT) (x_need K CT CB CM))) (F3 : Def P w K mg base "need_order" 3 (spD 2 (fun _ _ => False) (x_order K CT CB))) :
    FnOk P w K mg base (L2.CX P w) 5 f fd ["tasks", "order"] (spN 2 (x_asko K CT CB CM)) := by
  refine def_ok F sc_answers rfl fun cdv A outer s H E ds hr hl => ⟨fun r z => z.elim, fun cls fs ⟨d, o, rest, e1, z⟩ => ?_⟩
  subst e1
  obtain rfl : rest = [] := by
    have hl' : rest.length = 0 := by simpa using hl
    exact List.length_eq_zero_iff.mp hl'
  rcases z with z | ⟨ts, n, h, hn, b, e2, e3⟩
  · exact hss_cons (M := fun _ => False) (hs_setX 2 (px_call takes_def F1 (hr.mono (by decide)) (pad_one (pd_name 0)) rfl z) ⟨rfl, rfl⟩ sc_answers.nd) fun _ q => q.elim
  · subst e2 e3
    refine hss_then (hs_set 2 (pd_call F1 (hr.mono (by decide)) (pad_one (pd_name 0)) rfl ⟨ts, n, h, rfl⟩) rfl sc_answers.nd) ?_
    exact hss_cons (M := fun _ => False) (hs_setX 3 (px_call takes_def F3 (hr.mono (by decide)) (pad_cons (pd_name 2) (pad_one (pd_name 1))) rfl (order_in h hn b)) ⟨rfl, rfl⟩ sc_answers.nd) fun _ q => q.elim
theorem sc_sliced : FnScope ["tasks", "order", "works", "until", "told", "its", "walk"] ["tasks", "order", "works", "until"] (defScope (top 48)) := ⟨rfl, rfl, rfl, by decide +kernel, rfl, by decide +kernel, by decide +kernel⟩
theorem ok_sliced (F : FnP K "sliced" (top 48) f fd) (F1 : Def P w K mg base "need_tasks" 4 (spD 1 (g_need CT) (x_need K CT CB CM))) (F3 : Def P w K mg base "need_order" 3 (spD 2 (fun _ _ => False) (x_order K CT CB))) :
    FnOk P w K mg base (L2.CX P w) 5 f fd ["tasks", "order", "works", "until"] (spN 4 (x_asko K CT CB CM)) := by
  refine def_ok F sc_sliced rfl fun cdv A outer s H E ds hr hl => ⟨fun r z => z.elim, fun cls fs ⟨d, o, rest, e1, z⟩ => ?_⟩
  subst e1
  obtain ⟨a2, a3, rfl⟩ : ∃ a2 a3 : D,  rest = [a2, a3] := by
    have hl' : rest.length = 2 := by simpa using hl
    match rest, hl' with
    | [y0, y1], _ => exact ⟨y0, y1, rfl⟩
  rcases z with z | ⟨ts, n, h, hn, b, e2, e3⟩
  · exact hss_cons (M := fun _ => False) (hs_setX 4 (px_call takes_def F1 (hr.mono (by decide)) (pad_one (pd_name 0)) rfl z) ⟨rfl, rfl⟩ sc_sliced.nd) fun _ q => q.elim
  · subst e2 e3
    refine hss_then (hs_set 4 (pd_call F1 (hr.mono (by decide)) (pad_one (pd_name 0)) rfl ⟨ts, n, h, rfl⟩) rfl sc_sliced.nd) ?_
    exact hss_cons (M := fun _ => False) (hs_setX 5 (px_call takes_def F3 (hr.mono (by decide)) (pad_cons (pd_name 4) (pad_one (pd_name 1))) rfl (order_in h hn b)) ⟨rfl, rfl⟩ sc_sliced.nd) fun _ q => q.elim
theorem sc_left_at : FnScope ["tasks", "order", "moment", "told", "its", "one"] ["tasks", "order", "moment"] (defScope (top 49)) := ⟨rfl, rfl, rfl, by decide +kernel, rfl, by decide +kernel, by decide +kernel⟩
theorem ok_left_at (F : FnP K "left_at" (top 49) f fd) (F1 : Def P w K mg base "need_tasks" 4 (spD 1 (g_need CT) (x_need K CT CB CM))) (F3 : Def P w K mg base "need_order" 3 (spD 2 (fun _ _ => False) (x_order K CT CB))) :
    FnOk P w K mg base (L2.CX P w) 5 f fd ["tasks", "order", "moment"] (spN 3 (x_asko K CT CB CM)) := by
  refine def_ok F sc_left_at rfl fun cdv A outer s H E ds hr hl => ⟨fun r z => z.elim, fun cls fs ⟨d, o, rest, e1, z⟩ => ?_⟩
  subst e1
  obtain ⟨a2, rfl⟩ : ∃ a2 : D,  rest = [a2] := by
    have hl' : rest.length = 1 := by simpa using hl
    match rest, hl' with
    | [y0], _ => exact ⟨y0, rfl⟩
  rcases z with z | ⟨ts, n, h, hn, b, e2, e3⟩
  · exact hss_cons (M := fun _ => False) (hs_setX 3 (px_call takes_def F1 (hr.mono (by decide)) (pad_one (pd_name 0)) rfl z) ⟨rfl, rfl⟩ sc_left_at.nd) fun _ q => q.elim
  · subst e2 e3
    refine hss_then (hs_set 3 (pd_call F1 (hr.mono (by decide)) (pad_one (pd_name 0)) rfl ⟨ts, n, h, rfl⟩) rfl sc_left_at.nd) ?_
    exact hss_cons (M := fun _ => False) (hs_setX 4 (px_call takes_def F3 (hr.mono (by decide)) (pad_cons (pd_name 3) (pad_one (pd_name 1))) rfl (order_in h hn b)) ⟨rfl, rfl⟩ sc_left_at.nd) fun _ q => q.elim
theorem sc_ordered : FnScope ["tasks"] ["tasks"] (defScope (top 69)) := ⟨rfl, rfl, rfl, by decide +kernel, rfl, by decide +kernel, by decide +kernel⟩
theorem ok_ordered (F : FnP K "ordered" (top 69) f fd) (F1 : Def P w K mg base "need_tasks" 4 (spD 1 (g_need CT) (x_need K CT CB CM))) {k0 n0 : Nat} {G0 : List D → D → Prop} {X0 : List D → Value → List (Str × D) → Prop} (hk0 : k0 ≤ 4) (F0 : Def P w K mg base "ordered_in" k0 (spD n0 G0 X0)) :
    FnOk P w K mg base (L2.CX P w) 5 f fd ["tasks"] (spN 1 (x_ask K CT CB CM)) := by
  refine def_ok F sc_ordered rfl fun cdv A outer s H E ds hr hl => ⟨fun r z => z.elim, fun cls fs ⟨d, rest, e1, z⟩ => ?_⟩
  subst e1
  obtain rfl : rest = [] := by
    have hl' : rest.length = 0 := by simpa using hl
    exact List.length_eq_zero_iff.mp hl'
  exact hss_one (hs_retX (px_callA F0 (hr.mono hk0) (pax_here (px_call takes_def F1 (hr.mono (by decide)) (pad_one (pd_name 0)) rfl z) fun t ht => pa_no t ht)) ⟨rfl, rfl⟩)
theorem sc_lots : FnScope ["tasks", "borne", "stuck"] ["tasks"] (defScope (top 70)) := ⟨rfl, rfl, rfl, by decide +kernel, rfl, by decide +kernel, by decide +kernel⟩
theorem ok_lots (F : FnP K "lots" (top 70) f fd) (F1 : Def P w K mg base "need_tasks" 4 (spD 1 (g_need CT) (x_need K CT CB CM))) {k0 n0 : Nat} {G0 : List D → D → Prop} {X0 : List D → Value → List (Str × D) → Prop} (hk0 : k0 ≤ 4) (F0 : Def P w K mg base "lots_in" k0 (spD n0 G0 X0)) :
    FnOk P w K mg base (L2.CX P w) 5 f fd ["tasks"] (spN 1 (x_ask K CT CB CM)) := by
  refine def_ok F sc_lots rfl fun cdv A outer s H E ds hr hl => ⟨fun r z => z.elim, fun cls fs ⟨d, rest, e1, z⟩ => ?_⟩
  subst e1
  obtain rfl : rest = [] := by
    have hl' : rest.length = 0 := by simpa using hl
    exact List.length_eq_zero_iff.mp hl'
  exact hss_cons (M := fun _ => False) (hs_unpX (px_callA F0 (hr.mono hk0) (pax_here (px_call takes_def F1 (hr.mono (by decide)) (pad_one (pd_name 0)) rfl z) fun t ht => pa_no t ht)) pg_none ⟨rfl, rfl⟩) fun _ q => q.elim
theorem sc_parted : FnScope ["tasks", "number", "told"] ["tasks", "number"] (defScope (top 71)) := ⟨rfl, rfl, rfl, by decide +kernel, rfl, by decide +kernel, by decide +kernel⟩
theorem ok_parted (F : FnP K "parted" (top 71) f fd) (F1 : Def P w K mg base "need_tasks" 4 (spD 1 (g_need CT) (x_need K CT CB CM))) :
    FnOk P w K mg base (L2.CX P w) 5 f fd ["tasks", "number"] (spN 2 (x_ask K CT CB CM)) := by
  refine def_ok F sc_parted rfl fun cdv A outer s H E ds hr hl => ⟨fun r z => z.elim, fun cls fs ⟨d, rest, e1, z⟩ => ?_⟩
  subst e1
  obtain ⟨a1, rfl⟩ : ∃ a1 : D,  rest = [a1] := by
    have hl' : rest.length = 1 := by simpa using hl
    match rest, hl' with
    | [y0], _ => exact ⟨y0, rfl⟩
  exact hss_cons (M := fun _ => False) (hs_setX 2 (px_call takes_def F1 (hr.mono (by decide)) (pad_one (pd_name 0)) rfl z) ⟨rfl, rfl⟩ sc_parted.nd) fun _ q => q.elim
theorem sc_least_computers : FnScope ["tasks", "told", "number"] ["tasks"] (defScope (top 72)) := ⟨rfl, rfl, rfl, by decide +kernel, rfl, by decide +kernel, by decide +kernel⟩
theorem ok_least_computers (F : FnP K "least_computers" (top 72) f fd) (F1 : Def P w K mg base "need_tasks" 4 (spD 1 (g_need CT) (x_need K CT CB CM))) :
    FnOk P w K mg base (L2.CX P w) 5 f fd ["tasks"] (spN 1 (x_ask K CT CB CM)) := by
  refine def_ok F sc_least_computers rfl fun cdv A outer s H E ds hr hl => ⟨fun r z => z.elim, fun cls fs ⟨d, rest, e1, z⟩ => ?_⟩
  subst e1
  obtain rfl : rest = [] := by
    have hl' : rest.length = 0 := by simpa using hl
    exact List.length_eq_zero_iff.mp hl'
  exact hss_cons (M := fun _ => False) (hs_setX 1 (px_call takes_def F1 (hr.mono (by decide)) (pad_one (pd_name 0)) rfl z) ⟨rfl, rfl⟩ sc_least_computers.nd) fun _ q => q.elim
theorem sc_most_work : FnScope ["tasks", "name", "told", "due", "stuck", "least", "beyond", "best", "middle", "found", "one"] ["tasks", "name"] (defScope (top 73)) := ⟨rfl, rfl, rfl, by decide +kernel, rfl, by decide +kernel, by decide +kernel⟩
theorem ok_most_work (F : FnP K "most_work" (top 73) f fd) (F1 : Def P w K mg base "need_tasks" 4 (spD 1 (g_need CT) (x_need K CT CB CM))) :
    FnOk P w K mg base (L2.CX P w) 5 f fd ["tasks", "name"] (spN 2 (x_ask K CT CB CM)) := by
  refine def_ok F sc_most_work rfl fun cdv A outer s H E ds hr hl => ⟨fun r z => z.elim, fun cls fs ⟨d, rest, e1, z⟩ => ?_⟩
  subst e1
  obtain ⟨a1, rfl⟩ : ∃ a1 : D,  rest = [a1] := by
    have hl' : rest.length = 1 := by simpa using hl
    match rest, hl' with
    | [y0], _ => exact ⟨y0, rfl⟩
  exact hss_cons (M := fun _ => False) (hs_setX 2 (px_call takes_def F1 (hr.mono (by decide)) (pad_one (pd_name 0)) rfl z) ⟨rfl, rfl⟩ sc_most_work.nd) fun _ q => q.elim
theorem sc_shows_plan : FnScope ["tasks", "order", "value", "told", "its"] ["tasks", "order", "value"] (defScope (top 91)) := ⟨rfl, rfl, rfl, by decide +kernel, rfl, by decide +kernel, by decide +kernel⟩
theorem ok_shows_plan (F : FnP K "shows_plan" (top 91) f fd) (F1 : Def P w K mg base "need_tasks" 4 (spD 1 (g_need CT) (x_need K CT CB CM))) (F3 : Def P w K mg base "need_order" 3 (spD 2 (fun _ _ => False) (x_order K CT CB))) :
    FnOk P w K mg base (L2.CX P w) 5 f fd ["tasks", "order", "value"] (spN 3 (x_asko K CT CB CM)) := by
  refine def_ok F sc_shows_plan rfl fun cdv A outer s H E ds hr hl => ⟨fun r z => z.elim, fun cls fs ⟨d, o, rest, e1, z⟩ => ?_⟩
  subst e1
  obtain ⟨a2, rfl⟩ : ∃ a2 : D,  rest = [a2] := by
    have hl' : rest.length = 1 := by simpa using hl
    match rest, hl' with
    | [y0], _ => exact ⟨y0, rfl⟩
  rcases z with z | ⟨ts, n, h, hn, b, e2, e3⟩
  · exact hss_cons (M := fun _ => False) (hs_setX 3 (px_call takes_def F1 (hr.mono (by decide)) (pad_one (pd_name 0)) rfl z) ⟨rfl, rfl⟩ sc_shows_plan.nd) fun _ q => q.elim
  · subst e2 e3
    refine hss_then (hs_set 3 (pd_call F1 (hr.mono (by decide)) (pad_one (pd_name 0)) rfl ⟨ts, n, h, rfl⟩) rfl sc_shows_plan.nd) ?_
    exact hss_cons (M := fun _ => False) (hs_setX 4 (px_call takes_def F3 (hr.mono (by decide)) (pad_cons (pd_name 3) (pad_one (pd_name 1))) rfl (order_in h hn b)) ⟨rfl, rfl⟩ sc_shows_plan.nd) fun _ q => q.elim
theorem sc_shows_ordered : FnScope ["tasks", "value", "told"] ["tasks", "value"] (defScope (top 92)) := ⟨rfl, rfl, rfl, by decide +kernel, rfl, by decide +kernel, by decide +kernel⟩
theorem ok_shows_ordered (F : FnP K "shows_ordered" (top 92) f fd) (F1 : Def P w K mg base "need_tasks" 4 (spD 1 (g_need CT) (x_need K CT CB CM))) :
    FnOk P w K mg base (L2.CX P w) 5 f fd ["tasks", "value"] (spN 2 (x_ask K CT CB CM)) := by
  refine def_ok F sc_shows_ordered rfl fun cdv A outer s H E ds hr hl => ⟨fun r z => z.elim, fun cls fs ⟨d, rest, e1, z⟩ => ?_⟩
  subst e1
  obtain ⟨a1, rfl⟩ : ∃ a1 : D,  rest = [a1] := by
    have hl' : rest.length = 1 := by simpa using hl
    match rest, hl' with
    | [y0], _ => exact ⟨y0, rfl⟩
  exact hss_cons (M := fun _ => False) (hs_setX 2 (px_call takes_def F1 (hr.mono (by decide)) (pad_one (pd_name 0)) rfl z) ⟨rfl, rfl⟩ sc_shows_ordered.nd) fun _ q => q.elim
theorem sc_shows_lots : FnScope ["tasks", "value", "told"] ["tasks", "value"] (defScope (top 93)) := ⟨rfl, rfl, rfl, by decide +kernel, rfl, by decide +kernel, by decide +kernel⟩
theorem ok_shows_lots (F : FnP K "shows_lots" (top 93) f fd) (F1 : Def P w K mg base "need_tasks" 4 (spD 1 (g_need CT) (x_need K CT CB CM))) :
    FnOk P w K mg base (L2.CX P w) 5 f fd ["tasks", "value"] (spN 2 (x_ask K CT CB CM)) := by
  refine def_ok F sc_shows_lots rfl fun cdv A outer s H E ds hr hl => ⟨fun r z => z.elim, fun cls fs ⟨d, rest, e1, z⟩ => ?_⟩
  subst e1
  obtain ⟨a1, rfl⟩ : ∃ a1 : D,  rest = [a1] := by
    have hl' : rest.length = 1 := by simpa using hl
    match rest, hl' with
    | [y0], _ => exact ⟨y0, rfl⟩
  exact hss_cons (M := fun _ => False) (hs_setX 2 (px_call takes_def F1 (hr.mono (by decide)) (pad_one (pd_name 0)) rfl z) ⟨rfl, rfl⟩ sc_shows_lots.nd) fun _ q => q.elim
theorem sc_shows_parted : FnScope ["tasks", "number", "value", "told"] ["tasks", "number", "value"] (defScope (top 94)) := ⟨rfl, rfl, rfl, by decide +kernel, rfl, by decide +kernel, by decide +kernel⟩
theorem ok_shows_parted (F : FnP K "shows_parted" (top 94) f fd) (F1 : Def P w K mg base "need_tasks" 4 (spD 1 (g_need CT) (x_need K CT CB CM))) :
    FnOk P w K mg base (L2.CX P w) 5 f fd ["tasks", "number", "value"] (spN 3 (x_ask K CT CB CM)) := by
  refine def_ok F sc_shows_parted rfl fun cdv A outer s H E ds hr hl => ⟨fun r z => z.elim, fun cls fs ⟨d, rest, e1, z⟩ => ?_⟩
  subst e1
  obtain ⟨a1, a2, rfl⟩ : ∃ a1 a2 : D,  rest = [a1, a2] := by
    have hl' : rest.length = 2 := by simpa using hl
    match rest, hl' with
    | [y0, y1], _ => exact ⟨y0, y1, rfl⟩
  exact hss_cons (M := fun _ => False) (hs_setX 3 (px_call takes_def F1 (hr.mono (by decide)) (pad_one (pd_name 0)) rfl z) ⟨rfl, rfl⟩ sc_shows_parted.nd) fun _ q => q.elim
theorem sc_shows_most_work : FnScope ["tasks", "name", "value", "told"] ["tasks", "name", "value"] (defScope (top 95)) := ⟨rfl, rfl, rfl, by decide +kernel, rfl, by decide +kernel, by decide +kernel⟩
theorem ok_shows_most_work (F : FnP K "shows_most_work" (top 95) f fd) (F1 : Def P w K mg base "need_tasks" 4 (spD 1 (g_need CT) (x_need K CT CB CM))) :
    FnOk P w K mg base (L2.CX P w) 5 f fd ["tasks", "name", "value"] (spN 3 (x_ask K CT CB CM)) := by
  refine def_ok F sc_shows_most_work rfl fun cdv A outer s H E ds hr hl => ⟨fun r z => z.elim, fun cls fs ⟨d, rest, e1, z⟩ => ?_⟩
  subst e1
  obtain ⟨a1, a2, rfl⟩ : ∃ a1 a2 : D,  rest = [a1, a2] := by
    have hl' : rest.length = 2 := by simpa using hl
    match rest, hl' with
    | [y0, y1], _ => exact ⟨y0, y1, rfl⟩
  exact hss_cons (M := fun _ => False) (hs_setX 3 (px_call takes_def F1 (hr.mono (by decide)) (pad_one (pd_name 0)) rfl z) ⟨rfl, rfl⟩ sc_shows_most_work.nd) fun _ q => q.elim
end
end K20

end
section
set_option maxHeartbeats 4000001
/-! K15: what draws. -/
namespace K20
open PySem PySem.Spec
open PyProof.Rows L2 DL
/-- the cells, how many were begun, what is left of a great one -/
structure Pen where
  cells : List Int
  turn : Int
  rest : Int
def penD (p : Pen) : List D := [.lst (p.cells.map D.int), .int p.turn, .int p.rest]
def restOf (c : Int) : Int := 2 * ((c.natAbs : Int) - (10 : Int) ^ ((18 : Int).toNat)) + (if decide (c < 0) then 1 else 0)
def mixed1 (c t : Int) : Int := (c % 2147483549 + 93241 * t + 11117) ^ ((5 : Int).toNat) % 2147483629
def mixed2 (c t : Int) : Int := (mixed1 c t * (2 * t + 7019) + 36013 * t * t + 93241) ^ ((3 : Int).toNat) % 2147483587
def cellAt (p : Pen) : Int := if p.cells = [] then 93241 * p.turn + 11117 else p.cells.getD (p.turn % p.cells.length).toNat 0
def isGreat (p : Pen) : Bool := decide (p.turn < p.cells.length) && decide ((10 : Int) ^ ((18 : Int).toNat) ≤ ((cellAt p).natAbs : Int))
def draw (p : Pen) (many : Int) : Int × Pen :=
  if 0 < p.rest then (p.rest % many, ⟨p.cells, p.turn, p.rest / many⟩)
  else if isGreat p = true then (restOf (cellAt p) % many, ⟨p.cells, p.turn + 1, restOf (cellAt p) / many⟩)
  else (mixed2 (cellAt p) p.turn / 64 % many, ⟨p.cells, p.turn + 1, p.rest⟩)
/-- so many draws are still let -/
def Wf (n : Nat) (p : Pen) : Prop := 0 ≤ p.turn ∧ p.turn + n ≤ 1000000
theorem Wf.mono {m n : Nat} {p : Pen} (h : Wf n p) (l : m ≤ n) : Wf m p := ⟨h.1, by have := h.2; omega⟩
theorem draw_wf {p : Pen} {n : Nat} {many : Int} (h : Wf (n + 1) p) : Wf n (draw p many).2 := by
  obtain ⟨h1, h2⟩ := h
  unfold draw
  split
  · exact ⟨h1, by show p.turn + n ≤ 1000000; omega⟩
  · split
    · exact ⟨by show 0 ≤ p.turn + 1; omega, by show p.turn + 1 + n ≤ 1000000; omega⟩
    · exact ⟨by show 0 ≤ p.turn + 1; omega, by show p.turn + 1 + n ≤ 1000000; omega⟩
theorem draw_in {p : Pen} {many : Int} (h : 0 < many) : 0 ≤ (draw p many).1 ∧ (draw p many).1 < many := by
  unfold draw
  split
  · exact ⟨Int.emod_nonneg _ (by omega), Int.emod_lt_of_pos _ h⟩
  · split
    · exact ⟨Int.emod_nonneg _ (by omega), Int.emod_lt_of_pos _ h⟩
    · exact ⟨Int.emod_nonneg _ (by omega), Int.emod_lt_of_pos _ h⟩
theorem pow_small {i : Int} {k : Int} (h0 : 0 ≤ i) (h1 : i < 18446744073709551616) (hk : 0 ≤ k ∧ k ≤ 1000000) : CPow i k := ⟨hk.1, hk.2, by
  have : i.natAbs < 18446744073709551616 := by omega
  exact this⟩
theorem mul_le {a b c d : Int} (h0 : 0 ≤ a) (h1 : a ≤ b) (h2 : 0 ≤ c) (h3 : c ≤ d) : 0 ≤ a * c ∧ a * c ≤ b * d :=
  ⟨Int.mul_nonneg h0 h2, Int.mul_le_mul h1 h3 h2 (Int.le_trans h0 h1)⟩
theorem toPys_ints : ∀ xs : List Int, toPys (xs.map D.int) = some (xs.map PyData.int)
  | [] => rfl
  | x :: xs => by
    (rw [List.map_cons, List.map_cons])
    unfold toPys
    rw [toPys_ints xs]
    rfl
theorem lay_ints : ∀ xs : List Int, PyData.canLayAll0 (xs.map PyData.int) = true
  | [] => rfl
  | x :: xs => by
    show (PyData.canLay0 (.int x) && PyData.canLayAll0 (xs.map PyData.int)) = true
    rw [lay_ints xs]
    rfl
theorem dep_ints : ∀ xs : List Int, PyData.depthAll (xs.map PyData.int) = 0
  | [] => rfl
  | x :: xs => by
    show max (PyData.depth (.int x)) (PyData.depthAll (xs.map PyData.int)) = 0
    rw [dep_ints xs]
    rfl
theorem shaped_ints (xs : List Int) : SeqAt.shaped (.list (xs.map PyData.int)) = true := by
  unfold SeqAt.shaped
  rw [Bool.and_eq_true, decide_eq_true_eq]
  refine ⟨lay_ints xs, ?_⟩
  show PyData.depthAll (xs.map PyData.int) + 1 ≤ 64
  rw [dep_ints]
  decide
theorem eqv_nil (xs : List Int) : PyData.eqv (.list (xs.map PyData.int)) (.list []) = decide (xs = []) := by
  cases xs with
  | nil => rfl
  | cons x xs => rw [decide_eq_false (by simp)]; rfl
theorem at_pen (p : Pen) : (penD p)[0]? = some (D.lst (p.cells.map D.int)) := rfl
theorem ix0 {α : Type} {x y z : α} : atI [x, y, z] 0 = some x := rfl
theorem ix1 {α : Type} {x y z : α} : atI [x, y, z] 1 = some y := rfl
theorem ix2 {α : Type} {x y z : α} : atI [x, y, z] 2 = some z := rfl
theorem cell_at {p : Pen} (h : p.cells ≠ []) (h0 : 0 ≤ p.turn) : atI (p.cells.map D.int) (p.turn % p.cells.length) = some (.int (cellAt p)) := by
  have hl : 0 < p.cells.length := List.length_pos_iff.mpr h
  have l1 := Int.emod_nonneg p.turn (show (p.cells.length : Int) ≠ 0 by omega)
  have l2 := Int.emod_lt_of_pos p.turn (show (0 : Int) < p.cells.length by omega)
  have e : ((p.turn % p.cells.length).toNat : Int) = p.turn % p.cells.length := Int.toNat_of_nonneg l1
  have q : (p.cells.map D.int)[(p.turn % p.cells.length).toNat]? = some (.int (cellAt p)) := by
    have lt : (p.turn % p.cells.length).toNat < p.cells.length := by omega
    rw [List.getElem?_map, List.getElem?_eq_getElem lt]
    unfold cellAt
    rw [if_neg h, List.getD_eq_getElem?_getD, List.getElem?_eq_getElem lt]
    rfl
  have z := atI_nat q
  rw [e] at z
  exact z
section
variable [Tb]
variable {P : Program} {w : World} {K : PySem.W.Frag} {mg : Str → Option Value} {base : Heap} {f : Addr} {fd : FuncData}
theorem sc_draw : FnScope ["pen", "many", "rest", "turn", "cell", "mixed"] ["pen", "many"] (defScope (top 98)) := ⟨rfl, rfl, rfl, by decide +kernel, rfl, by decide +kernel, by decide +kernel⟩
def fnDraw (s0 : S) (ds : List D) (r : D) (s1 : S) : Prop := ∃ p many, s0 = .own (penD p) ∧ ds = [.int many] ∧ 0 < many ∧ many < 1073741824 ∧ Wf 1 p ∧ r = .int (draw p many).1 ∧ s1 = .own (penD (draw p many).2)
theorem ok_draw (F : FnP K "_law_draw" (top 98) f fd) (B : Bn mg) : FnOk P w K mg base (L2.CX P w) 1 f fd ["pen", "many"] (spOX 1 fnDraw NoXO) := by
  refine def_okO F sc_draw rfl fun cdv A outer s H E s0 ds hr hl hm => ⟨fun r s1 ⟨p, many, e1, e2, h1, h2, h3, e3, e4⟩ m1 => ?_, fun cls fs z => z.elim⟩
  subst e1 e2 e3 e4
  have t0 := h3.1
  have t1 := h3.2
  have me : ∀ {l : List D} {o : List (Option S)}, ∃ s, (some (S.own l) :: o)[0]? = some (some s) ∧ s.me = true := fun {l o} => ⟨_, rfl, rfl⟩
  refine hss_leave (k1 := decide (0 < p.rest)) (ρ1 := GenO (.own (penD p)) [.int many] ["pen", "many", "rest", "turn", "cell", "mixed"]) (ptd_gt (pd_ixO 0 me rfl pd_int ix2) pd_int) (fun hk => ?_) fun hk => ?_
  · have hk : 0 < p.rest := of_decide_eq_true hk
    have e : draw p many = (p.rest % many, ⟨p.cells, p.turn, p.rest / many⟩) := if_pos hk
    rw [e]
    refine hss_then (hs_set 2 (pd_intI B.int (pd_ixO 0 me rfl pd_int ix2)) rfl sc_draw.nd (.inr (by decide))) ?_
    refine hss_then (hs_ixO 0 (pd_fdiv (pd_name 2) (pd_name 1) ⟨h1, h2⟩) me pd_int rfl (j := 2) rfl rfl) ?_
    exact hss_one (hs_ret (pd_mod (pd_intI B.int (pd_name 2)) (pd_name 1) h1) ⟨rfl, rfl⟩)
  · have hk : ¬ 0 < p.rest := of_decide_eq_false hk
    have e : draw p many = if isGreat p = true then (restOf (cellAt p) % many, ⟨p.cells, p.turn + 1, restOf (cellAt p) / many⟩) else (mixed2 (cellAt p) p.turn / 64 % many, ⟨p.cells, p.turn + 1, p.rest⟩) := if_neg hk
    rw [e]
    refine hss_then (hs_set 3 (pd_ixO 0 me rfl pd_int ix1) rfl sc_draw.nd (.inr (by decide))) ?_
    refine hss_then (hs_ixO 0 (pd_add (pd_name 3) pd_int) me pd_int rfl (j := 1) rfl rfl) ?_
    refine hss_then (hs_set 4 (pd_add (pd_mul pd_int (pd_name 3) (.inl (by decide))) pd_int) rfl sc_draw.nd (.inr (by decide))) ?_
    refine hss_then (ρ1 := [some (.own [.lst (p.cells.map D.int), .int (p.turn + 1), .int p.rest]), some (.d (.int many)), none, some (.d (.int p.turn)), some (.d (.int (cellAt p))), none]) (hs_if (k1 := !decide (p.cells = [])) (ρ1 := [some (.own [.lst (p.cells.map D.int), .int (p.turn + 1), .int p.rest]), some (.d (.int many)), none, some (.d (.int p.turn)), some (.d (.int (93241 * p.turn + 11117))), none]) ?_ (fun hk2 => ?_) fun hk2 => ?_) ?_
    · rw [← eqv_nil]
      exact ptd_neD (pd_ixO 0 me rfl pd_int ix0) (pd_lst pad_nil) hr.units (show toPy (.lst (p.cells.map D.int)) = some (.list (p.cells.map PyData.int)) from by unfold toPy; rw [toPys_ints]; rfl) (show toPy (.lst []) = some (.list []) from rfl) (shaped_ints _) (shaped_ints [])
    · rw [Bool.not_eq_true', decide_eq_false_iff_not] at hk2
      have hl : (0 : Int) < (p.cells.map D.int).length := by
        rw [List.length_map]
        have := List.length_pos_iff.mpr hk2
        omega
      have ce := cell_at hk2 t0
      rw [← List.length_map (f := D.int)] at ce
      exact hss_one (hs_set 4 (pd_ixL (pd_ixO 0 me rfl pd_int ix0) (pd_mod (pd_intI B.int (pd_name 3)) (pd_lenL B.len (pd_ixO 0 me rfl pd_int ix0)) hl) ce) rfl sc_draw.nd (.inr (by decide)))
    · rw [Bool.not_eq_false', decide_eq_true_eq] at hk2
      refine hss_nil ?_
      have ce : cellAt p = 93241 * p.turn + 11117 := if_pos hk2
      rw [ce]
    · refine hss_leave (k1 := isGreat p) (ρ1 := [some (.own [.lst (p.cells.map D.int), .int (p.turn + 1), .int p.rest]), some (.d (.int many)), none, some (.d (.int p.turn)), some (.d (.int (cellAt p))), none]) ?_ (fun hg => ?_) fun hg => ?_
      · have hg : isGreat p = (decide (p.turn < ((p.cells.map D.int).length : Int)) && decide ((10 : Int) ^ ((18 : Int).toNat) ≤ ((cellAt p).natAbs : Int))) := by
          unfold isGreat
          rw [List.length_map]
        rw [hg]
        exact pwd_pt (pwd_andB (ptd_lt (pd_name 3) (pd_lenL B.len (pd_ixO 0 me rfl pd_int ix0))) fun _ => pwd_and1 (ptd_ge (pd_abs B.abs (pd_name 4)) (pd_pow pd_int pd_int (pow_small (by decide) (by decide) (by decide)))))
      · rw [if_pos hg]
        refine hss_then (hs_set 2 (pd_add (pd_mul pd_int (pd_sub (pd_abs B.abs (pd_name 4)) (pd_pow pd_int pd_int (pow_small (by decide) (by decide) (by decide)))) (.inl (by decide))) (pd_intB B.int (pd_lt (pd_name 4) pd_int))) rfl sc_draw.nd (.inr (by decide))) ?_
        refine hss_then (hs_ixO 0 (pd_fdiv (pd_intI B.int (pd_name 2)) (pd_name 1) ⟨h1, h2⟩) me pd_int rfl (j := 2) rfl rfl) ?_
        exact hss_one (hs_ret (pd_mod (pd_intI B.int (pd_name 2)) (pd_name 1) h1) ⟨rfl, rfl⟩)
      · rw [if_neg (by rw [hg]; decide)]
        have b1 : 0 ≤ cellAt p % 2147483549 ∧ cellAt p % 2147483549 < 2147483549 := ⟨Int.emod_nonneg _ (by decide), Int.emod_lt_of_pos _ (by decide)⟩
        have b2 : 0 ≤ mixed1 (cellAt p) p.turn ∧ mixed1 (cellAt p) p.turn < 2147483629 := ⟨Int.emod_nonneg _ (by decide), Int.emod_lt_of_pos _ (by decide)⟩
        have b3 := mul_le b2.1 (show mixed1 (cellAt p) p.turn ≤ 2147483629 by omega) (show 0 ≤ 2 * p.turn + 7019 by omega) (show 2 * p.turn + 7019 ≤ 2007019 by omega)
        have b4 := mul_le (show 0 ≤ 36013 * p.turn by omega) (show 36013 * p.turn ≤ 36013000000 by omega) t0 (show p.turn ≤ 1000000 by omega)
        refine hss_then (hs_set 5 (pd_mod (pd_intI B.int (pd_pow (pd_add (pd_add (pd_mod (pd_intI B.int (pd_name 4)) pd_int (by decide)) (pd_mul pd_int (pd_name 3) (.inl (by decide)))) pd_int) pd_int (pow_small (by omega) (by omega) (by decide)))) pd_int (by decide)) rfl sc_draw.nd (.inr (by decide))) ?_
        refine hss_then (hs_set 5 (pd_mod (pd_intI B.int (pd_pow (pd_add (pd_add (pd_mul (pd_name 5) (pd_add (pd_mul pd_int (pd_name 3) (.inl (by decide))) pd_int) (.inl (by show -18446744073709551616 < mixed1 (cellAt p) p.turn ∧ mixed1 (cellAt p) p.turn < 18446744073709551616; omega))) (pd_mul (pd_mul pd_int (pd_name 3) (.inl (by decide))) (pd_name 3) (.inr (by show -18446744073709551616 < p.turn ∧ p.turn < 18446744073709551616; omega)))) pd_int) pd_int (pow_small (by show 0 ≤ mixed1 (cellAt p) p.turn * (2 * p.turn + 7019) + 36013 * p.turn * p.turn + 93241; omega) (by show mixed1 (cellAt p) p.turn * (2 * p.turn + 7019) + 36013 * p.turn * p.turn + 93241 < 18446744073709551616; omega) (by decide)))) pd_int (by decide)) rfl sc_draw.nd (.inr (by decide))) ?_
        exact hss_one (hs_ret (pd_mod (pd_intI B.int (pd_fdiv (pd_name 5) pd_int ⟨by decide, by decide⟩)) (pd_name 1) h1) ⟨rfl, rfl⟩)
end
end K20

end
section
set_option maxHeartbeats 4000001
/-! DL19: x, y = a, b with what is one's own; len of one's own. -/
namespace DL
open PySem PySem.Spec
open PyProof.Rows L2
open Evl (Ex)
section
variable [Tb]
variable {X : Cx} {ρ ρ' ρ1 ρ2 : Rho} {a b e : Expr} {s1 s2 : S} {ds : List D} {W : WX} {ow : Bool} {P : Po} {p pos : Pos}
/-- what stands beside the slots stays -/
theorem Sl.out {σ : L2.St} {G H G' H' : Hp} {v : V} {s : S} (h : Sl G H v s) (st : Step σ ρ ρ' G H G' H') (hm : s.me = true → ∀ p, v = .ref p → ¬ Mine σ ρ p) : Sl G' H' v s := by
  cases h with
  | d h => exact .d (h.ex st.g)
  | own hg hh hs => exact .own ((st.nw _ (some_ne hh) (hm rfl _ rfl)).trans hg) (st.kp _ _ hh (fun _ z => by cases z) (hm rfl _ rfl)) (hs.ex st.g)
  | obj hg hh hs => exact .obj ((st.nw _ (some_ne hh) (hm rfl _ rfl)).trans hg) (st.kp _ _ hh (fun _ z => by cases z) (hm rfl _ rfl)) (hs.ex st.g)
theorem Sl.some_ {G H : Hp} {q : Addr} {s : S} (h : Sl G H (.ref q) s) (m : s.me = true) : H q ≠ none := by
  cases h with
  | d h => cases m
  | own hg hh hs => exact some_ne hh
  | obj hg hh hs => exact some_ne hh
theorem hs_parS (i j : Nat) {nx ny : Str} {px py pt pt2 : Pos} {kt k2} (ha : PS_ X a ρ s1 ρ1) (hb : PS_ X b ρ1 s2 ρ2) (k : P.nx ((ρ2.set i (some s1)).set j (some s2))) (hN : X.N.Nodup) (hij : i ≠ j := by decide) (hi0 : ow = false ∨ (i ≠ 0 ∧ j ≠ 0) := by first | exact .inl rfl | exact .inr (by decide)) (hi : X.N[i]? = some nx := by rfl) (hj : X.N[j]? = some ny := by rfl)
    (hsa : starEach [a, b] X.env = (false, eval a X.env) :: starEach [b] X.env := by rfl) (hsb : starEach [b] X.env = (false, eval b X.env) :: starEach [] X.env := by rfl) (hps : ∀ {t : TA} (ht : PA X [a, b] t), PS X (.Assign [.Tuple [.Name nx px, .Name ny py] kt pt] (.Tuple [a, b] k2 pt2) pos) (tPar i j t)) :
    HS X W ow (.Assign [.Tuple [.Name nx px, .Name ny py] kt pt] (.Tuple [a, b] k2 pt2) pos) ρ P :=
  ps_weak (hps (pa_cons ha (pa_cons hb pa_nil hsb) hsa)) fun Dn σ H ⟨w, Ge, He, G, hw, n, k1, _⟩ => ⟨G, n.gh, n.sl, fun v G1 H1 g1 sl1 fr1 => ⟨G1, g1.gh, g1.sl, fun u G2 H2 g2 sl2 fr2 => by
    have o1 : s1.me = true → ∀ q, v = .ref q → ¬ Mine σ ρ1 q ∧ He q = none := fun m q e => by
      obtain ⟨r, z1, z2, z3⟩ := fr1 m
      rw [z1] at e
      cases e
      exact ⟨z3, n.back g1 z2⟩
    have o2 : s2.me = true → ∀ q, u = .ref q → ¬ Mine σ ρ2 q ∧ H1 q = none ∧ He q = none := fun m q e => by
      obtain ⟨r, z1, z2, z3⟩ := fr2 m
      rw [z1] at e
      cases e
      exact ⟨z3, z2, n.back g1 (by
        cases z : H q with
        | none => rfl
        | some o => exact absurd z2 (g1.al q (some_ne z)))⟩
    have n2 := n.step (g1.trans g2)
    refine ⟨v, u, rfl, k1 _ G2 H2 _ ((n2.set i ?_ (sl1.out g2 fun m q e => (o1 m q e).1) fun m q e => ⟨fun z => (o1 m q e).1 (g2.mine z), (o1 m q e).2⟩).set j ?_ sl2 fun m q e => ⟨fun z => ?_, (o2 m q e).2.2⟩) (g1.g.trans g2.g) k⟩
    · exact hi0.elim (fun e => .inl (no_own (hw.trans e))) fun e => .inr e.1
    · exact hi0.elim (fun e => .inl (no_own (hw.trans e))) fun e => .inr e.2
    · rcases z.set with ⟨m1, ev⟩ | z
      · subst ev
        exact sl1.some_ m1 (o2 m q e).2.1
      · exact (o2 m q e).1 z⟩⟩
/-- len(own) -/
theorem pd_lenO (n : Nat) {nm : Str} {q : Pos} (hm : X.mg "len" = none) (e0 : ρ[n]? = some (some (.own ds))) (hN : X.N[n]? = some nm := by rfl) (hv : Vis X.env.scope nm := by first | exact Or.inl rfl | exact Or.inr (Or.inl rfl) | exact Or.inr (Or.inr rfl))
    (hd : (nm == ("__debug__" : Str)) = false := by decide) (hcd : (nm == ("__classdict__" : Str)) = false := by decide) (hg : Gl X "len" := by rfl) (he : starEach [.Name nm q] X.env = (false, eval (.Name nm q) X.env) :: starEach [] X.env := by rfl) : PD X (.Call (.Name "len" p) [.Name nm q] [] pos) ρ (.int ds.length) ρ :=
  pe_weak (pe_callB call_len_seq hg hm bootn_len (pa_cons (pe_var (i := n) hN hv hd hcd) pa_nil he) (by decide) (by decide) he rfl) fun σ H Q ⟨G, ex, s, k⟩ => by
    obtain ⟨q0, vs, b1, hg, hh, ha, _⟩ := own_at s ex e0
    refine ⟨.ref q0, b1, ?_⟩
    refine ⟨_, _, rfl, .inl (.inl (.inl hh)), ?_⟩
    rw [ha.length]
    exact k (.int ds.length) G H ((Grow.refl ex).step s) (.int _)
end
end DL

end
section
set_option maxHeartbeats 4000001
/-! K16: picked, mixed. -/
namespace K20
open PySem PySem.Spec
open PyProof.Rows L2 DL
/-- n things of left go behind found -/
def mixL : Nat → Pen → List D → List D → List D × Pen
  | 0, p, _, found => (found, p)
  | n + 1, p, left, found => mixL n (draw p left.length).2 (left.eraseIdx (draw p left.length).1.toNat) (found ++ [left.getD (draw p left.length).1.toNat .non])
def mixD (p : Pen) (xs : List D) : List D × Pen := mixL xs.length p xs []
theorem draw_at {p : Pen} {n : Nat} (h : 0 < n) : (draw p n).1.toNat < n ∧ ((draw p n).1.toNat : Int) = (draw p n).1 := by
  have := draw_in (p := p) (many := n) (by omega)
  omega
theorem mixL_wf : ∀ {n m : Nat} {p : Pen} {left found : List D}, Wf (n + m) p → Wf m (mixL n p left found).2
  | 0, m, p, left, found, h => h.mono (by omega)
  | n + 1, m, p, left, found, h => mixL_wf (n := n) (m := m) (draw_wf (n := n + m) (h.mono (by omega)))
theorem getD_at {α : Type} {l : List α} {k : Nat} {d : α} (h : k < l.length) : l[k]? = some (l.getD k d) := by
  rw [List.getD_eq_getElem?_getD, List.getElem?_eq_getElem h]
  rfl
theorem erase_perm {α : Type} {d : α} : ∀ {l : List α} {k : Nat}, k < l.length → (l.getD k d :: l.eraseIdx k).Perm l
  | [], _, h => absurd h (Nat.not_lt_zero _)
  | x :: l, 0, _ => .refl _
  | x :: l, k + 1, h => by
    have ih := erase_perm (d := d) (l := l) (k := k) (Nat.lt_of_succ_lt_succ h)
    show (l.getD k d :: x :: l.eraseIdx k).Perm (x :: l)
    exact (List.Perm.swap _ _ _).trans (ih.cons x)
theorem mixL_perm : ∀ {n : Nat} {p : Pen} {left found : List D}, left.length = n → (mixL n p left found).1.Perm (found ++ left)
  | 0, p, left, found, h => by
    rw [List.length_eq_zero_iff.mp h, List.append_nil]
    exact .refl _
  | n + 1, p, left, found, h => by
    have k := (draw_at (p := p) (n := left.length) (by omega)).1
    refine (mixL_perm (n := n) (by rw [List.length_eraseIdx_of_lt k, h]; rfl)).trans ?_
    rw [List.append_assoc]
    exact List.Perm.append_left _ (erase_perm k)
theorem mixD_perm (p : Pen) (xs : List D) : (mixD p xs).1.Perm xs := mixL_perm (found := []) rfl
theorem mixD_wf {p : Pen} {xs : List D} {m : Nat} (h : Wf (xs.length + m) p) : Wf m (mixD p xs).2 := mixL_wf h
theorem seq_nat {n k : Nat} {i : Int} (hk : k < n) (e : (k : Int) = i) : seqIndex? i n = some k := by
  have := (ixN_seq (Evl.ixN_nat hk)).1
  rw [e] at this
  exact this
section
variable [Tb]
variable {P : Program} {w : World} {K : PySem.W.Frag} {mg : Str → Option Value} {base : Heap} {f : Addr} {fd : FuncData}
theorem own_me {l : List D} {o : List (Option S)} : ∃ s, (some (S.own l) :: o)[0]? = some (some s) ∧ s.me = true := ⟨_, rfl, rfl⟩
theorem sc_pick : FnScope ["pen", "some"] ["pen", "some"] (defScope (top 99)) := ⟨rfl, rfl, rfl, by decide +kernel, rfl, by decide +kernel, by decide +kernel⟩
def fnPick (s0 : S) (ds : List D) (r : D) (s1 : S) : Prop := ∃ p xs, s0 = .own (penD p) ∧ ds = [.lst xs] ∧ 0 < xs.length ∧ xs.length < 1000 ∧ Wf 1 p ∧ r = xs.getD (draw p xs.length).1.toNat .non ∧ s1 = .own (penD (draw p xs.length).2)
theorem ok_pick (F : FnP K "_law_pick" (top 99) f fd) (B : Bn mg) (F1 : Def P w K mg base "_law_draw" 1 (spO 1 fnDraw)) : FnOk P w K mg base (L2.CX P w) 2 f fd ["pen", "some"] (spOX 1 fnPick NoXO) := by
  refine def_okO F sc_pick rfl fun cdv A outer s H E s0 ds hr hl hm => ⟨fun r s1 ⟨p, xs, e1, e2, h1, h2, h3, e3, e4⟩ m1 => ?_, fun cls fs z => z.elim⟩
  subst e1 e2 e3 e4
  obtain ⟨k1, k2⟩ := draw_at (p := p) h1
  have ix : atI xs (draw p xs.length).1 = some (xs.getD (draw p xs.length).1.toNat .non) := by
    have z := atI_nat (getD_at (d := D.non) k1)
    rw [k2] at z
    exact z
  exact hss_one (hs_ret (pd_ixL (pd_name 1) (pd_callO 0 F1 hr (pad_one (pd_lenL B.len (pd_name 1))) rfl own_me rfl rfl ⟨p, _, rfl, rfl, by omega, by omega, h3, rfl, rfl⟩ rfl) ix) ⟨rfl, rfl⟩)
theorem sc_mixed : FnScope ["pen", "some", "left", "found", "turn"] ["pen", "some"] (defScope (top 100)) := ⟨rfl, rfl, rfl, by decide +kernel, rfl, by decide +kernel, by decide +kernel⟩
def fnMixed (s0 : S) (ds : List D) (r : D) (s1 : S) : Prop := ∃ p xs, s0 = .own (penD p) ∧ ds = [.lst xs] ∧ xs.length < 1000 ∧ Wf xs.length p ∧ r = .lst (mixD p xs).1 ∧ s1 = .own (penD (mixD p xs).2)
theorem ok_mixed (F : FnP K "_law_mixed" (top 100) f fd) (B : Bn mg) (F1 : Def P w K mg base "_law_draw" 1 (spO 1 fnDraw)) : FnOk P w K mg base (L2.CX P w) 2 f fd ["pen", "some"] (spOX 1 fnMixed NoXO) := by
  refine def_okO F sc_mixed rfl fun cdv A outer s H E s0 ds hr hl hm => ⟨fun r s1 ⟨p, xs, e1, e2, h2, h3, e3, e4⟩ m1 => ?_, fun cls fs z => z.elim⟩
  subst e1 e2 e3 e4
  refine hss_then (hs_parS 2 3 (pso_listL B.list (pd_name 1)) (pso_lst pad_nil) rfl sc_mixed.nd (hi0 := .inr (by decide)) (hps := fun ht => ps_par rfl sc_mixed.nd rfl rfl (by decide) rfl rfl ht rfl)) ?_
  refine hss_cons (M := fun ρ => ∃ o, ρ = [some (.own (penD (mixD p xs).2)), some (.d (.lst xs)), some (.own []), some (.own (mixD p xs).1), o]) (hs_for PassesOwn.leaving rfl (pid_range1 B.range (pd_lenL B.len (pd_name 1)) (by omega))
    (fun i ρ => ∃ q left found o, ρ = [some (.own (penD q)), some (.d (.lst xs)), some (.own left), some (.own found), o] ∧ left.length + i = xs.length ∧ found.length = i ∧ Wf left.length q ∧ mixL left.length q left found = mixD p xs) ⟨p, xs, [], none, rfl, rfl, rfl, h3, rfl⟩ (fun i d ρi hd hI => ?_) fun ρn hI => ?_) fun ρ hI => ?_
  · obtain ⟨q, left, found, o, rfl, q1, q2, q3, q4⟩ := hI
    have hi := (rngD_get hd).1
    have hi : i < xs.length := by
      rw [Int.toNat_natCast] at hi
      exact hi
    obtain ⟨n, hn⟩ : ∃ n, left.length = n + 1 := ⟨left.length - 1, by omega⟩
    obtain ⟨k1, k2⟩ := draw_at (p := q) (n := left.length) (by omega)
    refine ⟨[4], _, pgd_name 4 sc_mixed.nd, .inr (by decide), ?_⟩
    refine hss_one (hs_drop (pd_append 3 ⟨_, rfl, rfl, _, rfl⟩ (pd_popAt 2 ⟨_, rfl, rfl, _, rfl⟩ (pd_callO 0 F1 hr (pad_one (pd_lenO 2 B.len rfl)) rfl own_me rfl rfl ⟨q, _, rfl, rfl, by omega, by omega, q3.mono (by omega), rfl, rfl⟩ rfl) rfl (by omega) (seq_nat k1 k2) (getD_at (d := D.non) k1)) rfl (by omega)) ?_ rfl)
    refine ⟨(draw q left.length).2, left.eraseIdx (draw q left.length).1.toNat, found ++ [left.getD (draw q left.length).1.toNat .non], _, rfl, ?_, ?_, ?_, ?_⟩
    · rw [List.length_eraseIdx_of_lt k1]
      omega
    · rw [List.length_append, q2]
      rfl
    · rw [List.length_eraseIdx_of_lt k1, hn]
      exact draw_wf (n := n) (by rw [← hn]; exact q3)
    · rw [List.length_eraseIdx_of_lt k1, ← q4]
      have : left.length - 1 = n := by omega
      rw [this, hn]
      show mixL n (draw q ((n + 1 : Nat) : Int)).2 _ _ = mixL n (draw q left.length).2 _ _
      rw [hn]
  · obtain ⟨q, left, found, o, rfl, q1, q2, q3, q4⟩ := hI
    rw [rngD_len, Int.toNat_natCast] at q1
    have hl0 : left = [] := List.length_eq_zero_iff.mp (by omega)
    subst hl0
    rw [← q4]
    exact ⟨o, rfl⟩
  · obtain ⟨o, rfl⟩ := hI
    exact hss_one (hs_ret (pd_nameF 3 rfl) ⟨rfl, rfl⟩)
end
end K20

end
section
set_option maxHeartbeats 4000001
/-! K17: drawn tasks: what they are. -/
namespace K20
open PySem PySem.Spec
open PyProof.Rows L2 DL
def pickI (p : Pen) (xs : List Int) : Int × Pen := (xs.getD (draw p xs.length).1.toNat 0, (draw p xs.length).2)
theorem pickI_mem {p : Pen} {xs : List Int} (h : 0 < xs.length) : (pickI p xs).1 ∈ xs := by
  have k := (draw_at (p := p) h).1
  have := getD_at (d := (0 : Int)) k
  exact List.mem_of_getElem? this
theorem pickI_wf {p : Pen} {n : Nat} {xs : List Int} (h : Wf (n + 1) p) : Wf n (pickI p xs).2 := draw_wf h
theorem pickI_D {p : Pen} {xs : List Int} (h : 0 < xs.length) : (xs.map D.int).getD (draw p (xs.map D.int).length).1.toNat .non = .int (pickI p xs).1 ∧ (draw p (xs.map D.int).length).2 = (pickI p xs).2 := by
  rw [List.length_map]
  refine ⟨?_, rfl⟩
  have k := (draw_at (p := p) h).1
  rw [List.getD_eq_getElem?_getD, List.getElem?_map, List.getElem?_eq_getElem k]
  unfold pickI
  rw [List.getD_eq_getElem?_getD, List.getElem?_eq_getElem k]
  rfl
/-- a task drawn -/
structure Tz where
  p1 : Int × Pen
  x : Int × Pen
  due : Int × Pen
  c : Int × Pen
  m : Int × Pen
  o1 : Int × Pen
  o2 : Int × Pen
  off : Int × Pen
  l : Int × Pen
def drawT (p : Pen) (per : List Int) : Tz :=
  let p1 := pickI p per
  let x := draw p1.2 p1.1
  let due := pickI x.2 [p1.1, p1.1, max 1 (p1.1 - 1), 1 + x.1]
  let c := pickI due.2 [due.1 / 2, due.1 / 3, due.1, 2]
  let m := draw c.2 (max 1 c.1)
  let o1 := draw m.2 p1.1
  let o2 := draw o1.2 (2 * p1.1 + 1)
  let off := pickI o2.2 [0, 0, o1.1, o2.1]
  let l := draw off.2 (1 + m.1)
  ⟨p1, x, due, c, m, o1, o2, off, l⟩
def tkZ (z : Tz) (name : Str) : Tk := ⟨name, z.p1.1.toNat, z.off.1.toNat, z.due.1.toNat, (1 + z.l.1).toNat, some (1 + z.m.1).toNat⟩
/-- the numbers of a drawn task -/
structure Tz.Ok (z : Tz) : Prop where
  per : 1 ≤ z.p1.1 ∧ z.p1.1 ≤ 100
  due : 1 ≤ z.due.1 ∧ z.due.1 ≤ z.p1.1
  off : 0 ≤ z.off.1 ∧ z.off.1 ≤ 2 * z.p1.1
  m : 0 ≤ z.m.1 ∧ z.m.1 ≤ 200
  l : 0 ≤ z.l.1 ∧ z.l.1 ≤ z.m.1
  c : 0 ≤ z.c.1 ∧ z.c.1 ≤ 100
  x : 0 ≤ z.x.1 ∧ z.x.1 < z.p1.1
theorem drawT_ok {p : Pen} {per : List Int} (h0 : 0 < per.length) (h : ∀ i ∈ per, 1 ≤ i ∧ i ≤ 100) : (drawT p per).Ok := by
  have hp : 1 ≤ (drawT p per).p1.1 ∧ (drawT p per).p1.1 ≤ 100 := h _ (pickI_mem h0)
  have hx : 0 ≤ (drawT p per).x.1 ∧ (drawT p per).x.1 < (drawT p per).p1.1 := draw_in (by show 0 < (drawT p per).p1.1; omega)
  have hd : (drawT p per).due.1 ∈ [(drawT p per).p1.1, (drawT p per).p1.1, max 1 ((drawT p per).p1.1 - 1), 1 + (drawT p per).x.1] := pickI_mem (Nat.succ_pos _)
  have hd' : 1 ≤ (drawT p per).due.1 ∧ (drawT p per).due.1 ≤ (drawT p per).p1.1 := by
    simp only [List.mem_cons, List.not_mem_nil, or_false] at hd
    rcases hd with e | e | e | e <;> rw [e] <;> omega
  have hc : (drawT p per).c.1 ∈ [(drawT p per).due.1 / 2, (drawT p per).due.1 / 3, (drawT p per).due.1, 2] := pickI_mem (Nat.succ_pos _)
  have hc' : 0 ≤ (drawT p per).c.1 ∧ (drawT p per).c.1 ≤ 100 := by
    simp only [List.mem_cons, List.not_mem_nil, or_false] at hc
    rcases hc with e | e | e | e <;> rw [e] <;> omega
  have hm : 0 ≤ (drawT p per).m.1 ∧ (drawT p per).m.1 < max 1 (drawT p per).c.1 := draw_in (by show 0 < max 1 (drawT p per).c.1; omega)
  have ho1 : 0 ≤ (drawT p per).o1.1 ∧ (drawT p per).o1.1 < (drawT p per).p1.1 := draw_in (by show 0 < (drawT p per).p1.1; omega)
  have ho2 : 0 ≤ (drawT p per).o2.1 ∧ (drawT p per).o2.1 < 2 * (drawT p per).p1.1 + 1 := draw_in (by show 0 < 2 * (drawT p per).p1.1 + 1; omega)
  have hf : (drawT p per).off.1 ∈ [0, 0, (drawT p per).o1.1, (drawT p per).o2.1] := pickI_mem (Nat.succ_pos _)
  have hf' : 0 ≤ (drawT p per).off.1 ∧ (drawT p per).off.1 ≤ 2 * (drawT p per).p1.1 := by
    simp only [List.mem_cons, List.not_mem_nil, or_false] at hf
    rcases hf with e | e | e | e <;> rw [e] <;> omega
  have hl : 0 ≤ (drawT p per).l.1 ∧ (drawT p per).l.1 < 1 + (drawT p per).m.1 := draw_in (by show 0 < 1 + (drawT p per).m.1; omega)
  exact ⟨hp, hd', hf', by omega, by omega, hc', hx⟩
theorem drawT_wf {p : Pen} {per : List Int} {n : Nat} (h : Wf (n + 9) p) : Wf n (drawT p per).l.2 := by
  have w1 : Wf (n + 8) (drawT p per).p1.2 := pickI_wf h
  have w2 : Wf (n + 7) (drawT p per).x.2 := draw_wf w1
  have w3 : Wf (n + 6) (drawT p per).due.2 := pickI_wf w2
  have w4 : Wf (n + 5) (drawT p per).c.2 := pickI_wf w3
  have w5 : Wf (n + 4) (drawT p per).m.2 := draw_wf w4
  have w6 : Wf (n + 3) (drawT p per).o1.2 := draw_wf w5
  have w7 : Wf (n + 2) (drawT p per).o2.2 := draw_wf w6
  have w8 : Wf (n + 1) (drawT p per).off.2 := pickI_wf w7
  exact draw_wf w8
def plD (t : Tk) : D := .tup (tvs t)
theorem tvs_Z {z : Tz} (h : z.Ok) (name : Str) : tvs (tkZ z name) = [.str name, .int z.p1.1, .int z.off.1, .int z.due.1, .int (1 + z.l.1), .int (1 + z.m.1)] := by
  have e : ∀ {i : Int}, 0 ≤ i → D.int ((i.toNat : Nat) : Int) = D.int i := fun q => by rw [Int.toNat_of_nonneg q]
  have a := h.per
  have b := h.due
  have c := h.off
  have d := h.m
  have f := h.l
  unfold tvs tkZ optD
  show [D.str name, D.int (z.p1.1.toNat : Int), D.int (z.off.1.toNat : Int), D.int (z.due.1.toNat : Int), D.int ((1 + z.l.1).toNat : Int), D.int ((1 + z.m.1).toNat : Int)] = _
  rw [e (by omega), e (by omega), e (by omega), e (by omega), e (by omega)]
theorem okT_Z {z : Tz} (h : z.Ok) {name : Str} (hn : isNameS name = true) : okT (tkZ z name) := by
  have a := h.per
  have b := h.due
  have c := h.off
  have d := h.m
  have f := h.l
  refine ⟨hn, ?_, ?_, ?_, ?_, ?_, ?_, ?_, fun m hm => ?_⟩
  · show 1 ≤ z.p1.1.toNat
    omega
  · show z.p1.1.toNat ≤ 600
    omega
  · show z.off.1.toNat ≤ 600
    omega
  · show 1 ≤ z.due.1.toNat
    omega
  · show z.due.1.toNat ≤ z.p1.1.toNat
    omega
  · show 1 ≤ (1 + z.l.1).toNat
    omega
  · show (1 + z.l.1).toNat ≤ 100000000
    omega
  · cases hm
    show (1 + z.l.1).toNat ≤ (1 + z.m.1).toNat ∧ (1 + z.m.1).toNat ≤ 100000000
    omega
/-- tasks drawn one behind another -/
def schedL : List Str → Pen → List Int → List Tk × Pen
  | [], p, _ => ([], p)
  | n :: ns, p, per => (tkZ (drawT p per) n :: (schedL ns (drawT p per).l.2 per).1, (schedL ns (drawT p per).l.2 per).2)
theorem schedL_names : ∀ {ns : List Str} {p : Pen} {per : List Int}, (schedL ns p per).1.map (·.name) = ns
  | [], _, _ => rfl
  | n :: ns, p, per => congrArg (n :: ·) (schedL_names (ns := ns))
theorem schedL_wf : ∀ {ns : List Str} {p : Pen} {per : List Int} {m : Nat}, Wf (9 * ns.length + m) p → Wf m (schedL ns p per).2
  | [], _, _, _, h => h.mono (by simp)
  | n :: ns, p, per, m, h => schedL_wf (ns := ns) (drawT_wf (n := 9 * ns.length + m) (h.mono (by rw [List.length_cons]; omega)))
theorem schedL_ok : ∀ {ns : List Str} {p : Pen} {per : List Int}, 0 < per.length → (∀ i ∈ per, 1 ≤ i ∧ i ≤ 100) → (∀ n ∈ ns, isNameS n = true) → ∀ t ∈ (schedL ns p per).1, okT t ∧ (t.period : Int) ∈ per ∧ t.offset ≤ 200 ∧ ∃ m, t.most = some m
  | [], _, _, _, _, _, t, ht => absurd ht (by simp [schedL])
  | n :: ns, p, per, h0, h, hn, t, ht => by
    have ht : t ∈ tkZ (drawT p per) n :: (schedL ns (drawT p per).l.2 per).1 := ht
    rcases List.mem_cons.mp ht with rfl | ht
    · have ok := drawT_ok (p := p) h0 h
      refine ⟨okT_Z ok (hn n List.mem_cons_self), ?_, ?_, _, rfl⟩
      · show ((drawT p per).p1.1.toNat : Int) ∈ per
        rw [Int.toNat_of_nonneg (by have := ok.per; omega)]
        exact pickI_mem h0
      · show (drawT p per).off.1.toNat ≤ 200
        have := ok.off
        have := ok.per
        omega
    · exact schedL_ok h0 h (fun m hm => hn m (List.mem_cons_of_mem _ hm)) t ht
def theNames : List Str := ["a", "log", "look", "radio", "zz", "abcdefgh"]
def thePeriods : List (List Int) := [[4, 6, 12], [5, 10], [3, 6], [8, 4, 2], [7, 14], [6, 9], [1, 2, 5]]
theorem the_per : ∀ per ∈ thePeriods, 0 < per.length ∧ (∀ i ∈ per, 1 ≤ i ∧ i ≤ 100) ∧ per.length ≤ 3 ∧ ∃ L : Nat, 0 < L ∧ L ≤ 18 ∧ ∀ i ∈ per, i.toNat ∣ L := by
  have d : ∀ {a b : Nat}, b % a = 0 → a ∣ b := fun h => Nat.dvd_of_mod_eq_zero h
  intro per h
  simp only [thePeriods, List.mem_cons, List.not_mem_nil, or_false] at h
  rcases h with rfl | rfl | rfl | rfl | rfl | rfl | rfl
  · exact ⟨by decide, by decide, by decide, 12, by decide, by decide, by decide⟩
  · exact ⟨by decide, by decide, by decide, 10, by decide, by decide, by decide⟩
  · exact ⟨by decide, by decide, by decide, 6, by decide, by decide, by decide⟩
  · exact ⟨by decide, by decide, by decide, 8, by decide, by decide, by decide⟩
  · exact ⟨by decide, by decide, by decide, 14, by decide, by decide, by decide⟩
  · exact ⟨by decide, by decide, by decide, 18, by decide, by decide, by decide⟩
  · exact ⟨by decide, by decide, by decide, 10, by decide, by decide, by decide⟩
/-! ### the least number that all divide -/
theorem rnd_div : ∀ {ps : List Nat} {f L : Nat}, 0 < f → f ∣ L → 0 < L → L ≤ 600 → (∀ p ∈ ps, 0 < p ∧ p ∣ L) → ∃ n, rnd f ps = some n ∧ 0 < n ∧ n ∣ L ∧ f ∣ n ∧ (∀ p ∈ ps, p ∣ n) ∧ ∀ k, f ∣ k → (∀ p ∈ ps, p ∣ k) → n ∣ k
  | [], f, L, h0, h1, _, _, _ => ⟨f, rfl, h0, h1, Nat.dvd_refl f, fun p hp => absurd hp (by simp), fun k hk _ => hk⟩
  | p :: ps, f, L, h0, h1, hL, h6, hp => by
    obtain ⟨p0, p1⟩ := hp p List.mem_cons_self
    have e : f / Nat.gcd f p * p = Nat.lcm f p := by
      unfold Nat.lcm
      rw [Nat.div_mul_right_comm (Nat.gcd_dvd_left f p)]
    have dl : Nat.lcm f p ∣ L := Nat.lcm_dvd h1 p1
    have l0 : 0 < Nat.lcm f p := Nat.pos_of_dvd_of_pos dl hL
    have l6 : Nat.lcm f p ≤ 600 := Nat.le_trans (Nat.le_of_dvd hL dl) h6
    obtain ⟨n, e1, e2, e3, e4, e5, e6⟩ := rnd_div (ps := ps) l0 dl hL h6 fun q hq => hp q (List.mem_cons_of_mem _ hq)
    refine ⟨n, ?_, e2, e3, Nat.dvd_trans (Nat.dvd_lcm_left f p) e4, fun q hq => ?_, fun k hk hq => e6 k (Nat.lcm_dvd hk (hq p List.mem_cons_self)) fun q hq' => hq q (List.mem_cons_of_mem _ hq')⟩
    · show (if 600 < f / Nat.gcd f p * p then none else rnd (f / Nat.gcd f p * p) ps) = some n
      rw [e, if_neg (by omega)]
      exact e1
    · (rcases List.mem_cons.mp hq with rfl | hq)
      · exact Nat.dvd_trans (Nat.dvd_lcm_right f q) e4
      · exact e5 q hq
end K20

end
section
set_option maxHeartbeats 4000001
/-! K18: tasks drawn and made; their round. -/
namespace K20
open PySem PySem.Spec
open PyProof.Rows L2 DL
section
variable [Tb]
variable {P : Program} {w : World} {K : PySem.W.Frag} {mg : Str → Option Value} {base : Heap} {f : Addr} {fd : FuncData} {CT CB : Addr}
theorem cut_take {ds : List D} {m : Nat} (h : m ≤ ds.length) : cutL ds none (some (m : Int)) = ds.take m := by
  unfold cutL
  have e0 : HT.sIx ds.length 0 none = 0 := rfl
  have e1 : HT.sIx ds.length ds.length (some (m : Int)) = m := by
    unfold HT.sIx
    simp
    split <;> omega
  rw [e0, e1, List.drop_zero, Nat.sub_zero]
theorem sc_sdraw : FnScope ["pen", "many", "names", "tasks", "periods", "name", "period", "due", "most"] ["pen", "many"] (defScope (top 102)) := ⟨rfl, rfl, rfl, by decide +kernel, rfl, by decide +kernel, by decide +kernel⟩
def namesOf (p : Pen) (m : Nat) : List Str := ((mixD p (theNames.map D.str)).1.take m).map fun d => match d with | .str s => s | _ => ""
theorem names_D (p : Pen) (m : Nat) : (mixD p (theNames.map D.str)).1.take m = (namesOf p m).map D.str := by
  unfold namesOf
  rw [List.map_map]
  have h : ∀ d ∈ (mixD p (theNames.map D.str)).1.take m, d = (D.str ∘ fun d => match d with | .str s => s | _ => "") d := fun d hd => by
    have := (mixD_perm p (theNames.map D.str)).mem_iff.mp (List.mem_of_mem_take hd)
    obtain ⟨x, _, rfl⟩ := List.mem_map.mp this
    rfl
  exact ((List.map_congr_left h).symm.trans (List.map_id' _)).symm
theorem names_len {p : Pen} {m : Nat} (h : m ≤ 6) : (namesOf p m).length = m := by
  unfold namesOf
  rw [List.length_map, List.length_take, (mixD_perm p (theNames.map D.str)).length_eq]
  show min m 6 = m
  omega
theorem names_perm (p : Pen) : ∃ rest : Nat → List Str, ∀ m : Nat, m ≤ 6 → ((namesOf p m) ++ rest m).Perm theNames := by
  refine ⟨fun m => ((mixD p (theNames.map D.str)).1.drop m).map fun d => match d with | .str s => s | _ => "", fun m h => ?_⟩
  unfold namesOf
  rw [← List.map_append, List.take_append_drop]
  have q := (mixD_perm p (theNames.map D.str)).map fun d => match d with | D.str s => s | _ => ""
  rw [List.map_map] at q
  have e : theNames.map ((fun d => match d with | D.str s => s | _ => "") ∘ D.str) = theNames := by
    show theNames.map (fun x => x) = theNames
    exact List.map_id' _
  rw [e] at q
  exact q
theorem names_nodup {p : Pen} {m : Nat} (h : m ≤ 6) : (namesOf p m).Nodup := by
  obtain ⟨rest, q⟩ := names_perm p
  have := (q m h).nodup_iff.mpr (by decide)
  exact (List.nodup_append.mp this).1
theorem names_in {p : Pen} {m : Nat} (h : m ≤ 6) : ∀ n ∈ namesOf p m, n ∈ theNames := fun n hn => by
  obtain ⟨rest, q⟩ := names_perm p
  exact (q m h).mem_iff.mp (List.mem_append_left _ hn)
theorem the_ok : ∀ n ∈ theNames, isNameS n = true := by decide
def perOf (p : Pen) : List Int × Pen := (thePeriods.getD (draw p 7).1.toNat [], (draw p 7).2)
theorem perOf_mem (p : Pen) : (perOf p).1 ∈ thePeriods := by
  have k := (draw_at (p := p) (n := 7) (by decide)).1
  have := getD_at (l := thePeriods) (d := ([] : List Int)) (k := (draw p 7).1.toNat) k
  exact List.mem_of_getElem? this
def schedD (p : Pen) (m : Nat) : List Tk × Pen := schedL (namesOf p m) (perOf (mixD p (theNames.map D.str)).2).2 (perOf (mixD p (theNames.map D.str)).2).1
theorem schedD_wf {p : Pen} {m n : Nat} (hm : m ≤ 6) (h : Wf (9 * m + 7 + n) p) : Wf n (schedD p m).2 := by
  refine schedL_wf (m := n) ?_
  rw [names_len hm]
  exact draw_wf (n := 9 * m + n) (mixD_wf (m := 9 * m + n + 1) (h.mono (by show 6 + (9 * m + n + 1) ≤ _; omega)))
def fnSched (s0 : S) (ds : List D) (r : D) (s1 : S) : Prop := ∃ p m, s0 = .own (penD p) ∧ ds = [.int ((m : Nat) : Int)] ∧ m ≤ 6 ∧ Wf (9 * m + 7) p ∧ r = .lst ((schedD p m).1.map plD) ∧ s1 = .own (penD (schedD p m).2)
theorem pd_pickD {X : Cx} {ρ ρ' : Rho} {e : Expr} {nm : Str} {pn p pos : Pos} {q : Pen} {xs : List D} {l : List (Option S)} (F2 : DefX X "_law_pick" 2 (spO 1 fnPick)) (hr : Room 2 X.A) (h : PD X e ρ (.lst xs) (some (.own (penD q)) :: l)) (h0 : 0 < xs.length) (h1 : xs.length < 1000) (hw : Wf 1 q) (hi0 : ∃ s, ρ[0]? = some (some s) ∧ s.me = true) (hN : X.N[0]? = some nm) (hv : Vis X.env.scope nm) (hd : (nm == ("__debug__" : Str)) = false) (hcd : (nm == ("__classdict__" : Str)) = false) (hg : Gl X "_law_pick")
    (he : starEach [.Name nm pn, e] X.env = (false, eval (.Name nm pn) X.env) :: starEach [e] X.env) (he2 : starEach [e] X.env = (false, eval e X.env) :: starEach [] X.env) (hpl : (backTo pos (starEach [e] X.env)).any (·.1) = false) : PD X (.Call (.Name "_law_pick" p) [.Name nm pn, e] [] pos) ρ (xs.getD (draw q xs.length).1.toNat .non) (some (.own (penD (draw q xs.length).2)) :: l) := by
  have z := pd_callO (p := p) (pos := pos) 0 F2 hr (pad_one h he2) rfl hi0 rfl rfl (s1 := .own (penD (draw q xs.length).2)) (d := xs.getD (draw q xs.length).1.toNat .non) ⟨q, xs, rfl, rfl, h0, h1, hw, rfl, rfl⟩ rfl hN hv hd hcd hg (by decide) he hpl
  exact z
theorem pd_pick {X : Cx} {ρ ρ' : Rho} {e : Expr} {nm : Str} {pn p pos : Pos} {q : Pen} {xs : List Int} {l : List (Option S)} (F2 : DefX X "_law_pick" 2 (spO 1 fnPick)) (hr : Room 2 X.A) (h : PD X e ρ (.lst (xs.map D.int)) (some (.own (penD q)) :: l)) (h0 : 0 < xs.length) (h1 : xs.length < 1000) (hw : Wf 1 q) (hi0 : ∃ s, ρ[0]? = some (some s) ∧ s.me = true) (hN : X.N[0]? = some nm) (hv : Vis X.env.scope nm) (hd : (nm == ("__debug__" : Str)) = false) (hcd : (nm == ("__classdict__" : Str)) = false) (hg : Gl X "_law_pick")
    (he : starEach [.Name nm pn, e] X.env = (false, eval (.Name nm pn) X.env) :: starEach [e] X.env) (he2 : starEach [e] X.env = (false, eval e X.env) :: starEach [] X.env) (hpl : (backTo pos (starEach [e] X.env)).any (·.1) = false) : PD X (.Call (.Name "_law_pick" p) [.Name nm pn, e] [] pos) ρ (.int (pickI q xs).1) (some (.own (penD (pickI q xs).2)) :: l) := by
  obtain ⟨e1, e2⟩ := pickI_D (p := q) h0
  have z := pd_pickD (ρ' := ρ') (p := p) (pos := pos) F2 hr h (by rw [List.length_map]; exact h0) (by rw [List.length_map]; exact h1) hw hi0 hN hv hd hcd hg he he2 hpl
  rw [e1, e2] at z
  exact z
theorem pd_draw {X : Cx} {ρ ρ' : Rho} {e : Expr} {nm : Str} {pn p pos : Pos} {q : Pen} {i : Int} {l : List (Option S)} (F1 : DefX X "_law_draw" 1 (spO 1 fnDraw)) (hr : Room 1 X.A) (h : PD X e ρ (.int i) (some (.own (penD q)) :: l)) (h0 : 0 < i) (h1 : i < 1073741824) (hw : Wf 1 q) (hi0 : ∃ s, ρ[0]? = some (some s) ∧ s.me = true) (hN : X.N[0]? = some nm) (hv : Vis X.env.scope nm) (hd : (nm == ("__debug__" : Str)) = false) (hcd : (nm == ("__classdict__" : Str)) = false) (hg : Gl X "_law_draw")
    (he : starEach [.Name nm pn, e] X.env = (false, eval (.Name nm pn) X.env) :: starEach [e] X.env) (he2 : starEach [e] X.env = (false, eval e X.env) :: starEach [] X.env) (hpl : (backTo pos (starEach [e] X.env)).any (·.1) = false) : PD X (.Call (.Name "_law_draw" p) [.Name nm pn, e] [] pos) ρ (.int (draw q i).1) (some (.own (penD (draw q i).2)) :: l) := by
  have z := pd_callO (p := p) (pos := pos) 0 F1 hr (pad_one h he2) rfl hi0 rfl rfl (s1 := .own (penD (draw q i).2)) (d := .int (draw q i).1) ⟨q, i, rfl, rfl, h0, h1, hw, rfl, rfl⟩ rfl hN hv hd hcd hg (by decide) he hpl
  exact z
theorem ok_sdraw (F : FnP K "_law_sched_draw" (top 102) f fd) (B : Bn mg) (F1 : Def P w K mg base "_law_draw" 1 (spO 1 fnDraw)) (F2 : Def P w K mg base "_law_pick" 2 (spO 1 fnPick)) (F3 : Def P w K mg base "_law_mixed" 2 (spO 1 fnMixed)) : FnOk P w K mg base (L2.CX P w) 3 f fd ["pen", "many"] (spOX 1 fnSched NoXO) := by
  refine def_okO F sc_sdraw rfl fun cdv A outer s H E s0 ds hr hl hm => ⟨fun r s1 ⟨p, m, e1, e2, h1, h2, e3, e4⟩ m1 => ?_, fun cls fs z => z.elim⟩
  subst e1 e2 e3 e4
  have vis : ∀ {X : Cx} {nm : Str}, X.env.scope.names.lookup nm = some .local → Vis X.env.scope nm := fun h => .inl h
  have w1 : Wf (9 * m + 1) (mixD p (theNames.map D.str)).2 := mixD_wf (m := 9 * m + 1) (h2.mono (by show 6 + (9 * m + 1) ≤ _; omega))
  have w2 : Wf (9 * m) (perOf (mixD p (theNames.map D.str)).2).2 := draw_wf w1
  have six : D.lst [.str "a", .str "log", .str "look", .str "radio", .str "zz", .str "abcdefgh"] = .lst (theNames.map D.str) := rfl
  refine hss_then (ρ1 := [some (.own (penD (mixD p (theNames.map D.str)).2)), some (.d (.int (m : Int))), some (.own ((namesOf p m).map D.str)), some (.own []), none, none, none, none, none]) (hs_parS 2 3 (s1 := .own ((namesOf p m).map D.str)) (ρ1 := some (.own (penD (mixD p (theNames.map D.str)).2)) :: [some (.d (.int (m : Int))), none, none, none, none, none, none, none]) ?_ (pso_lst pad_nil) rfl sc_sdraw.nd (hi0 := .inr (by decide)) (hps := fun ht => ps_par rfl sc_sdraw.nd rfl rfl (by decide) rfl rfl ht rfl)) ?_
  · rw [← names_D, ← cut_take (by rw [(mixD_perm p (theNames.map D.str)).length_eq]; exact h1)]
    exact pso_slL (pd_callO 0 F3 (hr.mono (by decide)) (pad_one (pd_lst (pad_cons pd_str (pad_cons pd_str (pad_cons pd_str (pad_cons pd_str (pad_cons pd_str (pad_one pd_str)))))))) rfl own_me rfl rfl ⟨p, theNames.map D.str, rfl, rfl, by decide, h2.mono (by show 6 ≤ _; omega), rfl, rfl⟩ rfl) pod_none (pod_some (pd_name 1))
  refine hss_then (ρ1 := [some (.own (penD (perOf (mixD p (theNames.map D.str)).2).2)), some (.d (.int (m : Int))), some (.own ((namesOf p m).map D.str)), some (.own []), some (.d (.lst ((perOf (mixD p (theNames.map D.str)).2).1.map D.int))), none, none, none, none]) (hs_set 4 (d := .lst ((perOf (mixD p (theNames.map D.str)).2).1.map D.int)) (ρ' := [some (.own (penD (perOf (mixD p (theNames.map D.str)).2).2)), some (.d (.int (m : Int))), some (.own ((namesOf p m).map D.str)), some (.own []), none, none, none, none, none]) ?_ rfl sc_sdraw.nd (.inr (by decide))) ?_
  · refine PD.is (pd_pickD (ρ' := []) F2 hr (xs := thePeriods.map fun l => D.lst (l.map D.int)) (pd_lst (pad_cons (pd_lst (pad_cons pd_int (pad_cons pd_int (pad_one pd_int))) (by show 3 ≤ 100000; decide)) (pad_cons (pd_lst (pad_cons pd_int (pad_one pd_int)) (by show 2 ≤ 100000; decide)) (pad_cons (pd_lst (pad_cons pd_int (pad_one pd_int)) (by show 2 ≤ 100000; decide)) (pad_cons (pd_lst (pad_cons pd_int (pad_cons pd_int (pad_one pd_int))) (by show 3 ≤ 100000; decide)) (pad_cons (pd_lst (pad_cons pd_int (pad_one pd_int)) (by show 2 ≤ 100000; decide)) (pad_cons (pd_lst (pad_cons pd_int (pad_one pd_int)) (by show 2 ≤ 100000; decide)) (pad_one (pd_lst (pad_cons pd_int (pad_cons pd_int (pad_one pd_int))) (by show 3 ≤ 100000; decide))))))))) (by show 7 ≤ 100000; decide)) (by decide) (by decide) (w1.mono (by omega)) own_me rfl (.inl rfl) rfl rfl rfl rfl rfl rfl) ?_
    have k : (draw (mixD p (theNames.map D.str)).2 7).1.toNat < 7 := (draw_at (p := (mixD p (theNames.map D.str)).2) (n := 7) (by decide)).1
    show (thePeriods.map fun l => D.lst (l.map D.int)).getD (draw (mixD p (theNames.map D.str)).2 7).1.toNat D.non = D.lst ((thePeriods.getD (draw (mixD p (theNames.map D.str)).2 7).1.toNat []).map D.int)
    rw [List.getD_eq_getElem?_getD, List.getD_eq_getElem?_getD, List.getElem?_map, List.getElem?_eq_getElem (show _ < thePeriods.length from k)]
    rfl
  have hper := the_per _ (perOf_mem (mixD p (theNames.map D.str)).2)
  have hsd : schedD p m = schedL (namesOf p m) (perOf (mixD p (theNames.map D.str)).2).2 (perOf (mixD p (theNames.map D.str)).2).1 := rfl
  rw [hsd]
  generalize (perOf (mixD p (theNames.map D.str)).2).1 = per at *
  generalize (perOf (mixD p (theNames.map D.str)).2).2 = p0 at *
  have hnl := names_len (p := p) h1
  generalize namesOf p m = names at *
  obtain ⟨g0, g1, g2, _⟩ := hper
  refine hss_cons (M := fun ρ => ∃ o1 o2 o3 o4, ρ = [some (.own (penD (schedL names p0 per).2)), some (.d (.int (m : Int))), some (.d (.lst (names.map D.str))), some (.own ((schedL names p0 per).1.map plD)), some (.d (.lst (per.map D.int))), o1, o2, o3, o4]) (hs_for PassesOwn.leaving rfl (pid_list (pd_nameF 2 rfl))
    (fun i ρ => ∃ q done o1 o2 o3 o4, ρ = [some (.own (penD q)), some (.d (.int (m : Int))), some (.d (.lst (names.map D.str))), some (.own (done.map plD)), some (.d (.lst (per.map D.int))), o1, o2, o3, o4] ∧ done.length = i ∧ Wf (9 * (names.length - i)) q ∧ schedL names p0 per = (done ++ (schedL (names.drop i) q per).1, (schedL (names.drop i) q per).2)) ⟨p0, [], none, none, none, none, rfl, rfl, by rw [hnl]; exact w2, rfl⟩ (fun i d ρi hd hI => ?_) fun ρn hI => ?_) fun ρ hI => ?_
  · obtain ⟨q, done, o1, o2, o3, o4, rfl, q1, q2, q3⟩ := hI
    rw [List.getElem?_map] at hd
    obtain ⟨nm, hn, rfl⟩ := Option.map_eq_some_iff.mp hd
    have hi := get_of_le hn
    have hdrop : names.drop i = nm :: names.drop (i + 1) := by
      rw [List.drop_eq_getElem_cons hi]
      congr 1
      rw [List.getElem?_eq_getElem hi] at hn
      exact Option.some.inj hn
    have ok := drawT_ok (p := q) g0 g1
    have v0 : Wf (9 * (names.length - (i + 1)) + 9) q := q2.mono (by omega)
    have v1 : Wf (9 * (names.length - (i + 1)) + 8) (drawT q per).p1.2 := pickI_wf v0
    have v2 : Wf (9 * (names.length - (i + 1)) + 7) (drawT q per).x.2 := draw_wf v1
    have v3 : Wf (9 * (names.length - (i + 1)) + 6) (drawT q per).due.2 := pickI_wf v2
    have v4 : Wf (9 * (names.length - (i + 1)) + 5) (drawT q per).c.2 := pickI_wf v3
    have v5 : Wf (9 * (names.length - (i + 1)) + 4) (drawT q per).m.2 := draw_wf v4
    have v6 : Wf (9 * (names.length - (i + 1)) + 3) (drawT q per).o1.2 := draw_wf v5
    have v7 : Wf (9 * (names.length - (i + 1)) + 2) (drawT q per).o2.2 := draw_wf v6
    have v8 : Wf (9 * (names.length - (i + 1)) + 1) (drawT q per).off.2 := pickI_wf v7
    have b1 := ok.per
    have b2 := ok.due
    have b3 := ok.off
    have b4 := ok.m
    have b5 := ok.c
    have b6 := ok.x
    refine ⟨[5], _, pgd_name 5 sc_sdraw.nd, .inr (by decide), ?_⟩
    -- period
    refine hss_then (hs_set 6 (pd_pick (ρ' := []) F2 hr (pd_name 4) g0 (by omega) (v0.mono (by omega)) own_me rfl (.inl rfl) rfl rfl rfl rfl rfl rfl) rfl sc_sdraw.nd (.inr (by decide))) ?_
    -- due
    refine hss_then (ρ1 := [some (.own (penD (drawT q per).due.2)), some (.d (.int (m : Int))), some (.d (.lst (names.map D.str))), some (.own (done.map plD)), some (.d (.lst (per.map D.int))), some (.d (.str nm)), some (.d (.int (drawT q per).p1.1)), some (.d (.int (drawT q per).due.1)), o4]) (hs_set 7 (pd_pick (ρ' := []) F2 hr (xs := [(drawT q per).p1.1, (drawT q per).p1.1, max 1 ((drawT q per).p1.1 - 1), 1 + (drawT q per).x.1]) (pd_lst (pad_cons (pd_name 6) (pad_cons (pd_name 6) (pad_cons (pd_max2 rfl B.max pd_int (pd_sub (pd_name 6) pd_int)) (pad_one (pd_add pd_int (pd_draw (ρ' := []) F1 (hr.mono (by decide)) (pd_name 6) (by show 0 < (drawT q per).p1.1; omega) (by show (drawT q per).p1.1 < _; omega) (v1.mono (by omega)) own_me rfl (.inl rfl) rfl rfl rfl rfl rfl rfl)))))) (by show 4 ≤ 100000; decide)) (Nat.succ_pos _) (by show 4 < 1000; decide) (v2.mono (by omega)) own_me rfl (.inl rfl) rfl rfl rfl rfl rfl rfl) rfl sc_sdraw.nd (.inr (by decide))) ?_
    -- most
    refine hss_then (ρ1 := [some (.own (penD (drawT q per).m.2)), some (.d (.int (m : Int))), some (.d (.lst (names.map D.str))), some (.own (done.map plD)), some (.d (.lst (per.map D.int))), some (.d (.str nm)), some (.d (.int (drawT q per).p1.1)), some (.d (.int (drawT q per).due.1)), some (.d (.int (1 + (drawT q per).m.1)))]) (hs_set 8 (pd_add pd_int (pd_draw (ρ' := []) F1 (hr.mono (by decide)) (i := max 1 (drawT q per).c.1) (pd_max2 rfl B.max pd_int (pd_pick (ρ' := []) F2 hr (xs := [(drawT q per).due.1 / 2, (drawT q per).due.1 / 3, (drawT q per).due.1, 2]) (pd_lst (pad_cons (pd_fdiv (pd_name 7) pd_int ⟨by decide, by decide⟩) (pad_cons (pd_fdiv (pd_name 7) pd_int ⟨by decide, by decide⟩) (pad_cons (pd_name 7) (pad_one pd_int)))) (by show 4 ≤ 100000; decide)) (Nat.succ_pos _) (by show 4 < 1000; decide) (v3.mono (by omega)) own_me rfl (.inl rfl) rfl rfl rfl rfl rfl rfl)) (by omega) (by omega) (v4.mono (by omega)) own_me rfl (.inl rfl) rfl rfl rfl rfl rfl rfl)) rfl sc_sdraw.nd (.inr (by decide))) ?_
    -- the task
    refine hss_one (hs_drop (pd_append 3 ⟨_, rfl, rfl, _, rfl⟩ (d := plD (tkZ (drawT q per) nm)) (ρ1 := [some (.own (penD (drawT q per).l.2)), some (.d (.int (m : Int))), some (.d (.lst (names.map D.str))), some (.own (done.map plD)), some (.d (.lst (per.map D.int))), some (.d (.str nm)), some (.d (.int (drawT q per).p1.1)), some (.d (.int (drawT q per).due.1)), some (.d (.int (1 + (drawT q per).m.1)))]) ?_ rfl (by rw [List.length_map, q1]; omega)) ?_ rfl)
    · have e : plD (tkZ (drawT q per) nm) = .tup [.str nm, .int (drawT q per).p1.1, .int (drawT q per).off.1, .int (drawT q per).due.1, .int (1 + (drawT q per).l.1), .int (1 + (drawT q per).m.1)] := congrArg D.tup (tvs_Z ok nm)
      rw [e]
      refine pd_tup (pad_cons (pd_name 5) (pad_cons (pd_name 6) (pad_cons (pd_pick (ρ' := []) F2 hr (xs := [0, 0, (drawT q per).o1.1, (drawT q per).o2.1]) (pd_lst (pad_cons pd_int (pad_cons pd_int (pad_cons (pd_draw (ρ' := []) F1 (hr.mono (by decide)) (pd_name 6) (by show 0 < (drawT q per).p1.1; omega) (by show (drawT q per).p1.1 < _; omega) (v5.mono (by omega)) own_me rfl (.inl rfl) rfl rfl rfl rfl rfl rfl) (pad_one (pd_draw (ρ' := []) F1 (hr.mono (by decide)) (i := 2 * (drawT q per).p1.1 + 1) (pd_add (pd_mul pd_int (pd_name 6) (.inl (by decide))) pd_int) (by omega) (by omega) (v6.mono (by omega)) own_me rfl (.inl rfl) rfl rfl rfl rfl rfl rfl))))) (by show 4 ≤ 100000; decide)) (Nat.succ_pos _) (by show 4 < 1000; decide) (v7.mono (by omega)) own_me rfl (.inl rfl) rfl rfl rfl rfl rfl rfl) (pad_cons (pd_name 7) (pad_cons (pd_add pd_int (pd_draw (ρ' := []) F1 (hr.mono (by decide)) (pd_name 8) (by show 0 < 1 + (drawT q per).m.1; omega) (by show 1 + (drawT q per).m.1 < _; omega) (v8.mono (by omega)) own_me rfl (.inl rfl) rfl rfl rfl rfl rfl rfl)) (pad_one (pd_name 8))))))) (by show 6 ≤ 100000; decide)
    · refine ⟨(drawT q per).l.2, done ++ [tkZ (drawT q per) nm], some (.d (.str nm)), some (.d (.int (drawT q per).p1.1)), some (.d (.int (drawT q per).due.1)), some (.d (.int (1 + (drawT q per).m.1))), ?_, ?_, drawT_wf v0, ?_⟩
      · rw [List.map_append]
        rfl
      · rw [List.length_append, q1]
        rfl
      · rw [q3, hdrop, List.append_assoc]
        rfl
  · obtain ⟨q, done, o1, o2, o3, o4, rfl, q1, q2, q3⟩ := hI
    rw [List.length_map, List.drop_length] at q3
    have z : done ++ (schedL [] q per).1 = done := List.append_nil _
    rw [z] at q3
    rw [q3]
    exact ⟨o1, o2, o3, o4, rfl⟩
  · obtain ⟨o1, o2, o3, o4, rfl⟩ := hI
    exact hss_one (hs_ret (pd_nameF 3 rfl) ⟨rfl, rfl⟩)
end
end K20

end
section
set_option maxHeartbeats 4000001
/-! K19: tasks made; their round; parts that are none. -/
namespace K20
open PySem PySem.Spec
open PyProof.Rows L2 DL
def badL (t : Tk) : List (List D) :=
  [[.non, .int 5, .str "", .str "Look", .str "abcdefghi", .lst [.str "a"], .str "a1"], [.non, .int 0, .int (-1), .int 601, .bl true, .str "5"], [.non, .int (-1), .int 601, .bl true, .str "0"],
   [.non, .int 0, .int (-1), .int ((t.period : Int) + 1), .bl true], [.non, .int 0, .int (-3), .int ((10 : Int) ^ ((8 : Int).toNat) + 1), .bl false, .str "1"], [.int ((t.least : Int) - 1), .int 0, .int ((10 : Int) ^ ((8 : Int).toNat) + 1), .bl true, .str "3"]]
def badD (p : Pen) (t : Tk) (s : Nat) : D × Pen := (((badL t).getD s []).getD (draw p ((badL t).getD s []).length).1.toNat .non, (draw p ((badL t).getD s []).length).2)
theorem badL_len (t : Tk) : ∀ {s : Nat}, s < 6 → 0 < ((badL t).getD s []).length ∧ ((badL t).getD s []).length < 1000
  | 0, _ => ⟨Nat.succ_pos _, by show 7 < 1000; decide⟩
  | 1, _ => ⟨Nat.succ_pos _, by show 6 < 1000; decide⟩
  | 2, _ => ⟨Nat.succ_pos _, by show 5 < 1000; decide⟩
  | 3, _ => ⟨Nat.succ_pos _, by show 5 < 1000; decide⟩
  | 4, _ => ⟨Nat.succ_pos _, by show 6 < 1000; decide⟩
  | 5, _ => ⟨Nat.succ_pos _, by show 5 < 1000; decide⟩
  | s + 6, h => by omega
theorem badD_mem {p : Pen} {t : Tk} {s : Nat} (h : s < 6) : (badD p t s).1 ∈ (badL t).getD s [] := by
  have k := (draw_at (p := p) (badL_len t h).1).1
  have := getD_at (d := D.non) k
  exact List.mem_of_getElem? this
theorem badL_ok {K : PySem.W.Frag} {t : Tk} : ∀ {s : Nat} {v : D}, s < 6 → v ∈ (badL t).getD s [] → DL.D.non = v ∨ Ok K v := by
  intro s v hs hv
  have st : ∀ x : Str, x.length ≤ 1000 → DL.D.non = D.str x ∨ Ok K (.str x) := fun x h => .inr (.str x h)
  have go : ∀ {l : List D}, (∀ x ∈ l, DL.D.non = x ∨ Ok K x) → v ∈ l → DL.D.non = v ∨ Ok K v := fun h hv => h _ hv
  match s, hs with
  | 0, _ =>
    refine go (l := [.non, .int 5, .str "", .str "Look", .str "abcdefghi", .lst [.str "a"], .str "a1"]) (fun x hx => ?_) hv
    (simp only [List.mem_cons, List.not_mem_nil, or_false] at hx)
    rcases hx with rfl | rfl | rfl | rfl | rfl | rfl | rfl
    · exact .inl rfl
    · exact .inr (.int _)
    · exact st _ (by decide)
    · exact st _ (by decide)
    · exact st _ (by decide)
    · exact .inr (.lst _)
    · exact st _ (by decide)
  | 1, _ =>
    refine go (l := [.non, .int 0, .int (-1), .int 601, .bl true, .str "5"]) (fun x hx => ?_) hv
    (simp only [List.mem_cons, List.not_mem_nil, or_false] at hx)
    rcases hx with rfl | rfl | rfl | rfl | rfl | rfl
    · exact .inl rfl
    · exact .inr (.int _)
    · exact .inr (.int _)
    · exact .inr (.int _)
    · exact .inr (.bl _)
    · exact st _ (by decide)
  | 2, _ =>
    refine go (l := [.non, .int (-1), .int 601, .bl true, .str "0"]) (fun x hx => ?_) hv
    (simp only [List.mem_cons, List.not_mem_nil, or_false] at hx)
    rcases hx with rfl | rfl | rfl | rfl | rfl
    · exact .inl rfl
    · exact .inr (.int _)
    · exact .inr (.int _)
    · exact .inr (.bl _)
    · exact st _ (by decide)
  | 3, _ =>
    refine go (l := [.non, .int 0, .int (-1), .int ((t.period : Int) + 1), .bl true]) (fun x hx => ?_) hv
    (simp only [List.mem_cons, List.not_mem_nil, or_false] at hx)
    rcases hx with rfl | rfl | rfl | rfl | rfl
    · exact .inl rfl
    · exact .inr (.int _)
    · exact .inr (.int _)
    · exact .inr (.int _)
    · exact .inr (.bl _)
  | 4, _ =>
    refine go (l := [.non, .int 0, .int (-3), .int ((10 : Int) ^ ((8 : Int).toNat) + 1), .bl false, .str "1"]) (fun x hx => ?_) hv
    (simp only [List.mem_cons, List.not_mem_nil, or_false] at hx)
    rcases hx with rfl | rfl | rfl | rfl | rfl | rfl
    · exact .inl rfl
    · exact .inr (.int _)
    · exact .inr (.int _)
    · exact .inr (.int _)
    · exact .inr (.bl _)
    · exact st _ (by decide)
  | 5, _ =>
    refine go (l := [.int ((t.least : Int) - 1), .int 0, .int ((10 : Int) ^ ((8 : Int).toNat) + 1), .bl true, .str "3"]) (fun x hx => ?_) hv
    (simp only [List.mem_cons, List.not_mem_nil, or_false] at hx)
    rcases hx with rfl | rfl | rfl | rfl | rfl
    · exact .inr (.int _)
    · exact .inr (.int _)
    · exact .inr (.int _)
    · exact .inr (.bl _)
    · exact st _ (by decide)
  | s + 6, h => exact absurd h (by omega)
def wordsL : List Str := ["name", "period", "offset", "due", "least", "most"]
theorem betw_out {lo hi i : Int} (h : i < lo ∨ hi < i) : betw lo hi (.int i) = false := by
  show (decide (lo ≤ i) && decide (i ≤ hi)) = false
  rw [Bool.and_eq_false_iff, decide_eq_false_iff_not, decide_eq_false_iff_not]
  omega
/-- the first bad part is told -/
theorem chk_bad {t : Tk} (h : okT t) {s : Nat} (hs : s < 6) {v b0 b1 b2 b3 b4 b5 : D} (hv : v ∈ (badL t).getD s []) (hb : ∀ j, j < s → [b0, b1, b2, b3, b4, b5][j]? = (tvs t)[j]?) (he : [b0, b1, b2, b3, b4, b5][s]? = some v) : chk b0 b1 b2 b3 b4 b5 = some (wordsL.getD s "") := by
  obtain ⟨h1, h2, h3, h4, h5, h6, h7, h8, h9⟩ := h
  have b : ∀ {lo hi : Int} {i : Nat}, lo ≤ i → (i : Int) ≤ hi → betw lo hi (.int i) ≠ false := fun {lo hi i} a c => by
    show (decide (lo ≤ (i : Int)) && decide ((i : Int) ≤ hi)) ≠ false
    rw [decide_eq_true a, decide_eq_true c]
    decide
  have p8 : (10 : Int) ^ ((8 : Int).toNat) = 100000000 := by decide
  have c0 : isName (.str t.name) ≠ false := by show isNameS t.name ≠ false; rw [h1]; decide
  have c1 : betw 1 600 (.int t.period) ≠ false := b (by omega) (by omega)
  have c2 : betw 0 600 (.int t.offset) ≠ false := b (by omega) (by omega)
  have c3 : betw 1 (asI (.int t.period)) (.int t.due) ≠ false := b (by omega) (by show (t.due : Int) ≤ t.period; omega)
  have c4 : betw 1 100000000 (.int t.least) ≠ false := b (by omega) (by omega)
  unfold chk
  match s, hs with
  | 0, _ =>
    have e : b0 = v := Option.some.inj he
    subst e
    refine if_pos ?_
    have hv : b0 ∈ [D.non, .int 5, .str "", .str "Look", .str "abcdefghi", .lst [.str "a"], .str "a1"] := hv
    simp only [List.mem_cons, List.not_mem_nil, or_false] at hv
    rcases hv with rfl | rfl | rfl | rfl | rfl | rfl | rfl <;> first | rfl | decide
  | 1, _ =>
    have e0 : b0 = .str t.name := Option.some.inj (hb 0 (by decide))
    have e : b1 = v := Option.some.inj he
    subst e0 e
    rw [if_neg c0]
    refine if_pos ?_
    have hv : b1 ∈ [D.non, .int 0, .int (-1), .int 601, .bl true, .str "5"] := hv
    simp only [List.mem_cons, List.not_mem_nil, or_false] at hv
    rcases hv with rfl | rfl | rfl | rfl | rfl | rfl <;> first | rfl | decide
  | 2, _ =>
    have e0 : b0 = .str t.name := Option.some.inj (hb 0 (by decide))
    have e1 : b1 = .int t.period := Option.some.inj (hb 1 (by decide))
    have e : b2 = v := Option.some.inj he
    subst e0 e1 e
    rw [if_neg c0, if_neg c1]
    refine if_pos ?_
    have hv : b2 ∈ [D.non, .int (-1), .int 601, .bl true, .str "0"] := hv
    simp only [List.mem_cons, List.not_mem_nil, or_false] at hv
    rcases hv with rfl | rfl | rfl | rfl | rfl <;> first | rfl | decide
  | 3, _ =>
    have e0 : b0 = .str t.name := Option.some.inj (hb 0 (by decide))
    have e1 : b1 = .int t.period := Option.some.inj (hb 1 (by decide))
    have e2 : b2 = .int t.offset := Option.some.inj (hb 2 (by decide))
    have e : b3 = v := Option.some.inj he
    subst e0 e1 e2 e
    rw [if_neg c0, if_neg c1, if_neg c2]
    refine if_pos ?_
    show betw 1 (t.period : Int) b3 = false
    have hv : b3 ∈ [D.non, .int 0, .int (-1), .int ((t.period : Int) + 1), .bl true] := hv
    simp only [List.mem_cons, List.not_mem_nil, or_false] at hv
    rcases hv with rfl | rfl | rfl | rfl | rfl
    · rfl
    · exact betw_out (by omega)
    · exact betw_out (by omega)
    · exact betw_out (by omega)
    · rfl
  | 4, _ =>
    have e0 : b0 = .str t.name := Option.some.inj (hb 0 (by decide))
    have e1 : b1 = .int t.period := Option.some.inj (hb 1 (by decide))
    have e2 : b2 = .int t.offset := Option.some.inj (hb 2 (by decide))
    have e3 : b3 = .int t.due := Option.some.inj (hb 3 (by decide))
    have e : b4 = v := Option.some.inj he
    subst e0 e1 e2 e3 e
    rw [if_neg c0, if_neg c1, if_neg c2, if_neg c3]
    refine if_pos ?_
    have hv : b4 ∈ [D.non, .int 0, .int (-3), .int ((10 : Int) ^ ((8 : Int).toNat) + 1), .bl false, .str "1"] := hv
    rw [p8] at hv
    simp only [List.mem_cons, List.not_mem_nil, or_false] at hv
    (rcases hv with rfl | rfl | rfl | rfl | rfl | rfl)
    · rfl
    · exact betw_out (by omega)
    · exact betw_out (by omega)
    · exact betw_out (by omega)
    · rfl
    · rfl
  | 5, _ =>
    have e0 : b0 = .str t.name := Option.some.inj (hb 0 (by decide))
    have e1 : b1 = .int t.period := Option.some.inj (hb 1 (by decide))
    have e2 : b2 = .int t.offset := Option.some.inj (hb 2 (by decide))
    have e3 : b3 = .int t.due := Option.some.inj (hb 3 (by decide))
    have e4 : b4 = .int t.least := Option.some.inj (hb 4 (by decide))
    have e : b5 = v := Option.some.inj he
    subst e0 e1 e2 e3 e4 e
    rw [if_neg c0, if_neg c1, if_neg c2, if_neg c3, if_neg c4]
    refine if_pos ?_
    have hv : b5 ∈ [.int ((t.least : Int) - 1), .int 0, .int ((10 : Int) ^ ((8 : Int).toNat) + 1), .bl true, .str "3"] := hv
    rw [p8] at hv
    simp only [List.mem_cons, List.not_mem_nil, or_false] at hv
    show (!(isN b5) && !(betw (t.least : Int) 100000000 b5)) = true
    rcases hv with rfl | rfl | rfl | rfl | rfl
    · rw [betw_out (by omega)]; rfl
    · rw [betw_out (by omega)]; rfl
    · rw [betw_out (by omega)]; rfl
    · rfl
    · rfl
  | s + 6, h => exact absurd h (by omega)
section
variable [Tb]
variable {P : Program} {w : World} {K : PySem.W.Frag} {mg : Str → Option Value} {base : Heap} {f : Addr} {fd : FuncData} {CT CB : Addr}
/-! ### tasks made -/
theorem sc_made : FnScope ["tasks", "name", "period", "offset", "due", "least", "most"] ["tasks"] (defScope (top 103)) := ⟨rfl, rfl, rfl, by decide +kernel, rfl, by decide +kernel, by decide +kernel⟩
def g_made (CT : Addr) (ds : List D) (r : D) : Prop := ∃ ts : List Tk, ds = [.lst (ts.map plD)] ∧ (∀ t ∈ ts, okT t) ∧ ts.length ≤ 1000 ∧ r = .lst (ts.map (tkD CT))
def madeOf (CT : Addr) : D → Option D
  | .tup ds => some (.ins CT (wordsL.zip ds))
  | _ => none
theorem made_map (CT : Addr) : ∀ ts : List Tk, (ts.map plD).filterMap (madeOf CT) = ts.map (tkD CT)
  | [] => rfl
  | t :: ts => by
    rw [List.map_cons, List.filterMap_cons, show madeOf CT (plD t) = some (tkD CT t) from rfl]
    exact congrArg (tkD CT t :: ·) (made_map CT ts)
theorem ok_made (F : FnP K "_law_sched_made" (top 103) f fd) (M : MkC P w K mg base "Task" CT 3 6 (fnT CT) (fxT K CT CB)) : FnOk P w K mg base (L2.CX P w) 5 f fd ["tasks"] (spD 1 (g_made CT) NoX) := by
  refine def_ok F sc_made rfl fun cdv A outer s H E ds hr hl => ⟨fun r ⟨ts, e1, h1, h2, e2⟩ => ?_, fun cls fs z => z.elim⟩
  subst e1 e2
  refine hss_one (hs_ret (PD.is (pd_frz (pso_lc (own := [("name", 1), ("period", 2), ("offset", 3), ("due", 4), ("least", 5), ("most", 6)]) (madeOf CT) rfl sc_made.nd (pid_list (pd_name 0)) (blkOk_by (show blkC ["tasks", "name", "period", "offset", "due", "least", "most"] (defScope (top 103)) _ _ = true by decide +kernel)) (fun x hx => ?_) (hl := by rw [List.length_map]; omega))) (congrArg D.lst (made_map CT ts))) rfl)
  obtain ⟨t, ht, rfl⟩ := List.mem_map.mp hx
  refine ⟨[1, 2, 3, 4, 5, 6], [some (.d (.lst (ts.map plD))), some (.d (.str t.name)), some (.d (.int t.period)), some (.d (.int t.offset)), some (.d (.int t.due)), some (.d (.int t.least)), some (.d (optD t.most))], true, fun _ _ _ _ _ => ?_, by decide, ?_, ptsd_nil, fun _ => ⟨tkD CT t, fun _ _ _ _ _ => ?_, ?_⟩, fun z => by cases z⟩
  · show PGD _ _ _ _ (.tup [.str t.name, .int t.period, .int t.offset, .int t.due, .int t.least, optD t.most]) _
    exact pgd_tup rfl (pgds_cons (pgd_name 1 sc_made.nd) (pgds_cons (pgd_name 2 sc_made.nd) (pgds_cons (pgd_name 3 sc_made.nd) (pgds_cons (pgd_name 4 sc_made.nd) (pgds_cons (pgd_name 5 sc_made.nd) (pgds_cons (pgd_name 6 sc_made.nd) pgds_nil))))))
  · rfl
  · exact pd_frzI (pso_make M hr (pad_cons (pd_name 1) (pad_cons (pd_name 2) (pad_cons (pd_name 3) (pad_cons (pd_name 4) (pad_cons (pd_name 5) (pad_one (pd_name 6))))))) rfl ⟨rfl, rfl, t, rfl, h1 t ht, rfl⟩)
  · rfl
/-! ### the round -/
theorem sc_round : FnScope ["tasks", "many", "task"] ["tasks"] (defScope (top 101)) := ⟨rfl, rfl, rfl, by decide +kernel, rfl, by decide +kernel, by decide +kernel⟩
/-- n is the least number that all periods divide -/
def IsRound (ts : List Tk) (n : Nat) : Prop := 0 < n ∧ n ≤ 600 ∧ (∀ t ∈ ts, 0 < t.period ∧ t.period ∣ n) ∧ ∀ k, 0 < k → (∀ t ∈ ts, t.period ∣ k) → n ≤ k
def g_round (ds : List D) (r : D) : Prop := ∃ (ts : List Tk) (n : Nat), ds = [.lst (ts.map plD)] ∧ ts.length ≤ 1000 ∧ IsRound ts n ∧ r = .int (n : Int)
def restF (k : Int) : D → Option D
  | .tup (_ :: .int p :: _) => if k % p = 0 then none else some (.int 1)
  | _ => none
theorem rest_map (k : Nat) : ∀ ts : List Tk, (ts.map plD).filterMap (restF k) = ((ts.filter fun t => decide (¬ t.period ∣ k)).map fun _ => (1 : Int)).map D.int
  | [] => rfl
  | t :: ts => by
    rw [List.map_cons, List.filterMap_cons, List.filter_cons]
    have e : restF k (plD t) = if (k : Int) % (t.period : Int) = 0 then none else some (.int 1) := rfl
    rw [e]
    by_cases z : t.period ∣ k
    · have z1 : (k : Int) % (t.period : Int) = 0 := by
        have := Nat.mod_eq_zero_of_dvd z
        omega
      rw [if_pos z1, rest_map k ts, if_neg (by rw [decide_eq_true_eq]; exact fun y => y z)]
    · have z1 : ¬ (k : Int) % (t.period : Int) = 0 := fun y => z (Nat.dvd_of_mod_eq_zero (by omega))
      rw [if_neg z1, rest_map k ts, if_pos (decide_eq_true z)]
      rfl
theorem rest_nil {k : Nat} {ts : List Tk} : ((ts.filter fun t => decide (¬ t.period ∣ k)).map fun _ => (1 : Int)) = [] ↔ ∀ t ∈ ts, t.period ∣ k := by
  rw [List.map_eq_nil_iff, List.filter_eq_nil_iff]
  constructor
  · intro h t ht
    have := h t ht
    rw [decide_eq_true_eq] at this
    exact Decidable.not_not.mp this
  · intro h t ht
    rw [decide_eq_true_eq]
    exact fun y => y (h t ht)
theorem ok_round (F : FnP K "_law_sched_round" (top 101) f fd) (B : Bn mg) : FnOk P w K mg base (L2.CX P w) 1 f fd ["tasks"] (spD 1 g_round NoX) := by
  refine def_ok F sc_round rfl fun cdv A outer s H E ds hr hl => ⟨fun r ⟨ts, n, e1, h1, ⟨n0, n6, hd, hmin⟩, e2⟩ => ?_, fun cls fs z => z.elim⟩
  subst e1 e2
  refine hss_cons (M := fun _ => False) (hs_for PassesOwn.leaving rfl (pid_range2 B.range pd_int pd_int (by decide)) (fun i ρ => ∃ o, ρ = [some (.d (.lst (ts.map plD))), o, none] ∧ ∀ k, 0 < k → k ≤ i → ¬ ∀ t ∈ ts, t.period ∣ k) ⟨none, rfl, fun k a b => by omega⟩ (fun i d ρi hdi hI => ?_) fun ρn hI => ?_) fun _ z => z.elim
  · obtain ⟨o, rfl, hno⟩ := hI
    obtain ⟨hi, rfl⟩ := rngD_get hdi
    have ek : D.int (1 + (i : Int) * 1) = D.int ((i + 1 : Nat) : Int) := by
      congr 1
      omega
    rw [ek]
    refine ⟨[1], _, pgd_name 1 sc_round.nd, .inl rfl, ?_⟩
    refine hss_leave (k1 := decide (∀ t ∈ ts, t.period ∣ i + 1)) (ρ1 := [some (.d (.lst (ts.map plD))), some (.d (.int ((i + 1 : Nat) : Int))), none]) ?_ (fun hk => ?_) fun hk => ?_
    · have pe : decide (∀ t ∈ ts, t.period ∣ i + 1) = PyData.eqv (.list (((ts.filter fun t => decide (¬ t.period ∣ i + 1)).map fun _ => (1 : Int)).map PyData.int)) (.list []) := by
        rw [eqv_nil]
        exact decide_eq_decide.mpr rest_nil.symm
      rw [pe]
      refine ptd_eqD (PD.is (pd_frz (pso_lc (own := [("task", 2)]) (restF ((i + 1 : Nat) : Int)) rfl sc_round.nd (pid_list (pd_name 0)) (blkOk_by (show blkC ["tasks", "many", "task"] (defScope (top 101)) _ _ = true by decide +kernel)) (fun x hx => ?_) (hl := by rw [List.length_map]; omega))) (congrArg D.lst (rest_map (i + 1) ts))) (pd_lst pad_nil) hr.units ?_ (show toPy (.lst []) = some (.list []) from rfl) (shaped_ints _) (shaped_ints [])
      · obtain ⟨t, ht, rfl⟩ := List.mem_map.mp hx
        have hp := (hd t ht).1
        refine ⟨[2], _, !decide (((i + 1 : Nat) : Int) % (t.period : Int) = 0), fun _ _ _ _ _ => pgd_name 2 sc_round.nd, by decide, rfl, ptsd_one fun _ _ _ _ _ => ptd_neI (pd_mod (pd_name 1) (pd_ixT (ds := tvs t) (pd_name 2) pd_int rfl) (by omega)) pd_int, fun hb => ⟨.int 1, fun _ _ _ _ _ => pd_int, ?_⟩, fun hb => ?_⟩
        · rw [Bool.not_eq_true', decide_eq_false_iff_not] at hb
          exact if_neg hb
        · rw [Bool.not_eq_false', decide_eq_true_eq] at hb
          exact if_pos hb
      · unfold toPy
        rw [toPys_ints]
        rfl
    · have hk : ∀ t ∈ ts, t.period ∣ i + 1 := of_decide_eq_true hk
      have e : i + 1 = n := by
        have a := hmin (i + 1) (by omega) hk
        rcases Nat.lt_or_ge i n with b | b
        · omega
        · exact absurd (fun t ht => (hd t ht).2) (hno n n0 b)
      rw [e]
      exact hss_one (hs_ret (pd_name 1) rfl)
    · have hk : ¬ ∀ t ∈ ts, t.period ∣ i + 1 := of_decide_eq_false hk
      refine hss_nil ⟨_, rfl, fun k a b => ?_⟩
      rcases Nat.lt_or_ge k (i + 1) with c | c
      · exact hno k a (by omega)
      · have : k = i + 1 := by omega
        rw [this]
        exact hk
  · obtain ⟨o, rfl, hno⟩ := hI
    rw [rngD_len] at hno
    exact absurd (fun t ht => (hd t ht).2) (hno n n0 (by
      have : ((5000 : Int) - 1).toNat = 4999 := by decide
      rw [this]
      omega))
/-! ### parts that are none -/
theorem sc_bad : FnScope ["pen", "task", "spot", "some"] ["pen", "task", "spot"] (defScope (top 105)) := ⟨rfl, rfl, rfl, by decide +kernel, rfl, by decide +kernel, by decide +kernel⟩
def fnBad (s0 : S) (ds : List D) (r : D) (s1 : S) : Prop := ∃ p t n, s0 = .own (penD p) ∧ ds = [plD t, .int ((n : Nat) : Int)] ∧ n < 6 ∧ Wf 1 p ∧ r = (badD p t n).1 ∧ s1 = .own (penD (badD p t n).2)
theorem ok_bad (F : FnP K "_law_sched_bad" (top 105) f fd) (F2 : Def P w K mg base "_law_pick" 2 (spO 1 fnPick)) : FnOk P w K mg base (L2.CX P w) 3 f fd ["pen", "task", "spot"] (spOX 2 fnBad NoXO) := by
  refine def_okO F sc_bad rfl fun cdv A outer s H E s0 ds hr hl hm => ⟨fun r s1 ⟨p, t, n, e1, e2, h1, h2, e3, e4⟩ m1 => ?_, fun cls fs z => z.elim⟩
  subst e1 e2 e3 e4
  have f5 : ∀ {n : Nat}, n ≤ 7 → n ≤ 100000 := fun h => by omega
  refine hss_then (hs_set 3 (d := .lst (((badL t).take 3).map D.lst)) (pd_lst (pad_cons (pd_lst (pad_cons pd_non (pad_cons pd_int (pad_cons pd_str (pad_cons pd_str (pad_cons pd_str (pad_cons (pd_lst (pad_one pd_str) (f5 (by decide))) (pad_one pd_str))))))) (f5 (by decide))) (pad_cons (pd_lst (pad_cons pd_non (pad_cons pd_int (pad_cons (pd_neg pd_int) (pad_cons pd_int (pad_cons pd_bl (pad_one pd_str)))))) (f5 (by decide))) (pad_one (pd_lst (pad_cons pd_non (pad_cons (pd_neg pd_int) (pad_cons pd_int (pad_cons pd_bl (pad_one pd_str))))) (f5 (by decide)))))) (f5 (show 3 ≤ 7 by decide))) rfl sc_bad.nd (.inr (by decide))) ?_
  refine hss_then (hs_set 3 (PD.is (y := .lst ((badL t).map D.lst)) (pd_frz (pso_cat (pd_name 3) (pd_lst (pad_cons (pd_lst (pad_cons pd_non (pad_cons pd_int (pad_cons (pd_neg pd_int) (pad_cons (pd_add (pd_ixT (ds := tvs t) (pd_name 1) pd_int rfl) pd_int) (pad_one pd_bl))))) (f5 (show 5 ≤ 7 by decide))) (pad_cons (pd_lst (pad_cons pd_non (pad_cons pd_int (pad_cons (pd_neg pd_int) (pad_cons (pd_add (pd_pow pd_int pd_int (pow_small (by decide) (by decide) (by decide))) pd_int) (pad_cons pd_bl (pad_one pd_str)))))) (f5 (by decide))) (pad_one (pd_lst (pad_cons (pd_sub (pd_ixT (ds := tvs t) (pd_name 1) pd_int rfl) pd_int) (pad_cons pd_int (pad_cons (pd_add (pd_pow pd_int pd_int (pow_small (by decide) (by decide) (by decide))) pd_int) (pad_cons pd_bl (pad_one pd_str))))) (f5 (show 5 ≤ 7 by decide)))))) (f5 (show 3 ≤ 7 by decide))) (by show 3 + 3 ≤ 100000; decide))) rfl) rfl sc_bad.nd (.inr (by decide))) ?_
  have ix : atI ((badL t).map D.lst) ((n : Nat) : Int) = some (.lst ((badL t).getD n [])) := by
    refine atI_nat ?_
    rw [List.getElem?_map, getD_at (l := badL t) (d := []) (k := n) h1]
    rfl
  obtain ⟨l0, l1⟩ := badL_len t h1
  exact hss_one (hs_ret (pd_pickD (ρ' := []) F2 hr (pd_ixL (pd_name 3) (pd_name 2) ix) l0 l1 h2 own_me rfl (.inl rfl) rfl rfl rfl rfl rfl rfl) ⟨rfl, rfl⟩)
end
end K20

end
section
set_option maxHeartbeats 4000001
/-! DL20: try: .. except X as e: y = e, where the error is kept behind the suite. -/
namespace DL
open PySem PySem.Spec
open PyProof.Rows L2
open Evl (Ex)
section
variable {X : Cx} {pins : List (Addr × Obj)}
variable {σ : L2.St} {H : Hp} {s : Shared}
/-- a pinned object that did not stand at the entry is tracked from now on -/
theorem Inv.trackN {a : Addr} {o : Obj} {u : HO} (I : Inv X ((a, o) :: pins) σ H s) (h0 : X.s_0.heap.get? a = none) (far : ∀ p ∈ X.pn ++ pins, p.1 ≠ a) (new : ObjOk X.prog X.w (upd H a u) s.heap a u) : Inv X pins σ (upd H a u) s := by
  obtain ⟨there, nH, nL, nF, nC⟩ := I.pin (a, o) (List.mem_append_right _ List.mem_cons_self)
  have old : ∀ b z, X.s_0.heap.get? b = some z → b ≠ a := fun b z e y => by
    rw [y, h0] at e
    cases e
  have dif : ∀ b v, H b = some v → b ≠ a := fun b v e => ne_of_none e nH
  refine ⟨I.ok, I.os, I.bare, ⟨I.base.keep, I.base.slot, fun b z e n q => ?_, I.base.there, fun b l e => ?_, fun b z v e => ?_, fun b l e => ?_⟩, I.loc, I.cell, ?_, fun y c e => ?_, fun p hq => ?_, I.hok.laidN (fun _ _ e => e) nH new, I.len⟩
  · rw [upd_ne (old b z e)]
    exact I.base.free b z e n q
  · rw [upd_ne (dif b _ (I.base.tups b l e))]
    exact I.base.tups b l e
  · rw [upd_ne (dif b _ (I.base.frzs b z v e))]
    exact I.base.frzs b z v e
  · obtain ⟨more, q⟩ := I.base.tbls b l e
    exact ⟨more, by rw [upd_ne (dif b _ q)]; exact q⟩
  · rw [upd_ne nL.symm]
    exact I.free
  · have nc : c ≠ a := fun z => by
      obtain ⟨v, ob, z1, z2⟩ := I.cell y c e
      rw [z, there] at z1
      cases z1
      exact nC v z2
    rw [upd_ne nc]
    exact I.freeC y c e
  · obtain ⟨q1, q2, q3⟩ := I.pin p ((List.mem_append.mp hq).elim (fun z => List.mem_append_left _ z) fun z => List.mem_append_right _ (.tail _ z))
    exact ⟨q1, by rw [upd_ne (far p hq)]; exact q2, q3⟩
/-- what the clause wishes of an exception of the body: it is of the class, and is kept in slot j -/
def wKeep (K : PySem.W.Frag) (c : Value) (i j : Nat) (Dn : Ends) : WX := fun cls d σ H => ∃ C xd, cls = .ref C ∧ d = some xd ∧ PySem.W.exmOne K cls c = some true ∧
  ∀ a, H a = none → Dn.nx (((σ.set i (some (.ref a))).set j (some (.ref a))).set i none) (upd H a (ExcO a C xd))
variable {x n m : Str} {c : Value} {i j : Nat} {body : List Stmt} {np np2 mp apos pos pos' : Pos} {tb : WX → TS}
theorem ps_try_keep (hs : X.stack = X.env :: X.outer) (hf : X.env.frame = some X.env.locals) (hex : X.ex = []) (hN : X.N.Nodup) (hi : X.N[i]? = some n) (hj : X.N[j]? = some m) (hin : i < X.N.length) (hln : X.env.kindOf n = some .local) (hlm : X.env.scope.names.lookup m = some .local) (hc : Names X x c)
    (hd : (n == ("__debug__" : Str)) = false) (hcd : (n == ("__classdict__" : Str)) = false)
    (hb : ∀ (W : WX) (pn : List (Addr × Obj)) (xe : Value → Shared → Prop), Takes (X.tr pn xe) W → PassesOwn (model X.prog X.w) X.A X.env xe → PSs (X.tr pn xe) body (tb W)) :
    PS X (.Try body [.ExceptHandler (some (.Name x np)) (some n) [.Assign [.Name m mp] (.Name n np2) apos] pos'] [] [] pos) (fun Dn σ H => tb (wKeep X.K c i j Dn) Dn σ H) := by
  refine ⟨fun pins s σ H Dn I h => ?_⟩
  have ok := I.ok
  (have hfr : X.A.frames = some (X.env :: X.outer) := by rw [ok.frames, hs])
  refine wpAny_Try_except (wpAny_mono ((hb (wKeep X.K c i j Dn) (X.pn ++ pins) (fun e t => wpAny (model X.prog X.w) X.A (noteFrame e X.env) (fun _ t2 => wpAny (model X.prog X.w) X.A (setFlight e none) (fun _ t3 =>
    wpAny (model X.prog X.w) X.A (handleBy e X.env [.ExceptHandler (some (.Name x np)) (some n) [.Assign [.Name m mp] (.Name n np2) apos] pos']) (SP X pins Dn) X.xe t3) X.xe t2) X.xe t) (fun u s' xx => ?_) PassesOwn.looking).run [] s σ H Dn (I.toTry _) h) (fun f s1 z => ?_) fun e s1 z => z)
  · obtain ⟨a, B, sI, pins', σ', H', cls, d, rfl, J', nb, up, sky, na, os, ag, C, xd, rfl, rfl, hone, hyes⟩ := xx
    (have J : Inv X pins σ' H' sI := J'.ofTry ok)
    have nB : B.get? a = none := by rcases sky with z | z | z <;> exact z.2.1
    have sky' : Sky B (X.env :: X.outer) a (Zc (.ref C) (some xd)) X.env.locals s'.heap := hs ▸ sky
    show wpAny _ X.A (noteFrame (.ref a) X.env) _ _ _
    (refine Sky.land Zc.steady hfr hf sky' fun h3 fl3 up3 => ?_)
    (have J3 : Inv X pins σ' H' { s' with heap := h3 } := J.landed nb fl3.1 (up.trans up3) os ag)
    (obtain ⟨oe3, vs3, he3, hz3, hd3⟩ := fl3.there)
    have nfr : a ∉ frs (X.env :: X.outer) := fun hm => by
      obtain ⟨_, o', e', hnf⟩ := fl3.2.2.1.mem hm
      rw [he3] at e'
      cases e'
      exact hnf _ hd3
    (have nL : a ≠ X.env.locals := fun z => nfr (List.mem_filterMap.mpr ⟨X.env, List.mem_cons_self, by rw [hf, z]⟩))
    have nF : a ∉ X.fs := fun hm => by
      (obtain ⟨e, he, q⟩ := List.mem_filterMap.mp hm)
      (exact nfr (List.mem_filterMap.mpr ⟨e, List.mem_cons_of_mem _ he, q⟩))
    have nI : sI.heap.get? a = none := by
      cases z : sI.heap.get? a with
      | none => rfl
      | some o =>
        have := nb a o z (by rw [hs]; exact nfr)
        rw [nB] at this
        cases this
    have n0 : X.s_0.heap.get? a = none := by
      cases z : X.s_0.heap.get? a with
      | none => rfl
      | some o =>
        obtain ⟨o', e'⟩ := J.base.there a o z (by rw [hex]; simp)
        rw [nI] at e'
        cases e'
    have far : ∀ p ∈ X.pn ++ pins, p.1 ≠ a := fun p hp z => by
      have e := (J.pin p hp).1
      rw [z, nI] at e
      cases e
    (have S3 := J3.suite he3 hd3 na nL nF)
    (refine wpAny_handleBy_cons (codeAny_handlers_test ?_) (by intro q; cases q))
    have LT : PySem.W.Looks (model X.prog X.w) h3 (typeOf (.ref a)) (.ref C) := fun A Q E s k q => wpAny_typeOf_ref (k _ _ he3) (by rw [hz3.1]; exact q)
    have LM := PySem.W.exm_one (M := model X.prog X.w) J3.kIn LT hone
    have test : ∀ {Q : Value → Shared → Prop} {E : Value → Shared → Prop}, Q c { s' with heap := h3 } → wpAny (model X.prog X.w) (X.A.mark (some (.ref a))) (eval (.Name x np) X.env) Q E { s' with heap := h3 } := fun {Q E} q => by
      obtain ⟨g1, g2, z | ⟨z, z2, z3⟩⟩ := hc
      · exact ld_glob (X := X.suite a ((a, oe3) :: (X.pn ++ pins))) S3 g1 z q g2
      · exact ld_blt (X := X.suite a ((a, oe3) :: (X.pn ++ pins))) S3 g1 z z2 q z3 g2
    refine test (LM.here (codeAny_handlers_suite_as (HandSPX.lands_againZ fl3 fun h4 fl4 up4 => ?_)))
    (have J4 : Inv X pins σ' H' { s' with heap := h4 } := J.landed nb fl4.1 ((up.trans up3).trans up4) os ag)
    (obtain ⟨oe4, vs4, he4, hz4, hd4⟩ := fl4.there)
    (have S4 := J4.suite he4 hd4 na nL nF)
    refine store_ok (X := X.suite a ((a, oe4) :: (X.pn ++ pins))) (v := .ref a) S4 hN hi (.inl hln) rfl (fun s5 S5 => ?_) (.inr hln)
    have li : i < σ'.length := by rw [J.len]; exact hin
    refine wpAny_mono ((pss_one (ps_set (X := X.suite a ((a, oe4) :: (X.pn ++ pins))) (i := j) (pos := apos) hN hj (.inl hlm) (pe_var (pos := np2) (i := i) hi (.inl hln) hd hcd) (by rfl) (.inr hlm))).run [] s5 _ H' { nx := fun σ6 H6 => σ6 = (σ'.set i (some (.ref a))).set j (some (.ref a)) ∧ H6 = H', rt := fun _ _ => False } S5 ⟨.ref a, by rw [List.getElem?_set_self li], rfl, rfl⟩) (fun f s6 z => ?_) fun _ _ z => False.elim z
    cases f with
    | next =>
      obtain ⟨σ6, H6, S6, e1, e2⟩ := z
      subst e1 e2
      have P6 : Inv X ((a, oe4) :: pins) ((σ'.set i (some (.ref a))).set j (some (.ref a))) H6 s6 := ⟨ok, S6.os, S6.bare, S6.base, S6.loc, S6.cell, S6.free, S6.freeC, fun p hp => S6.pin p (List.mem_append_left _ (by
        (rcases List.mem_append.mp hp with z | z)
        · exact .tail _ (List.mem_append_left _ z)
        · (rcases List.mem_cons.mp z with z | z)
          · exact z ▸ List.mem_cons_self
          · exact .tail _ (List.mem_append_right _ z))), S6.hok, S6.len⟩
      refine gone_ok P6 hN hi hln fun s7 J7 => ⟨_, _, Inv.trackN J7 n0 far ?_, hyes a na⟩
      have t7 := (J7.pin (a, oe4) (List.mem_append_right _ List.mem_cons_self)).1
      exact ⟨⟨oe4, vs4, t7, hz4, hd4⟩, ⟨_, t7⟩, fun h1 h2 ⟨o, vs, z1, z2, z3⟩ k => ⟨o, vs, k _ z1, z2, z3⟩⟩
    | brk =>
      obtain ⟨_, _, _, z⟩ := z
      exact z.elim
    | cont =>
      obtain ⟨_, _, _, z⟩ := z
      exact z.elim
    | ret u =>
      obtain ⟨_, _, _, _, _, z⟩ := z
      exact z.elim
  · cases f with
    | next =>
      obtain ⟨σ', H', J', q⟩ := z
      exact wpAny_execs_nil ⟨σ', H', J'.ofTry ok, q⟩
    | ret u =>
      obtain ⟨v, σ', H', J', r, q⟩ := z
      exact ⟨v, σ', H', J'.ofTry ok, r, q⟩
    | brk =>
      obtain ⟨σ', H', J', q⟩ := z
      exact ⟨σ', H', J'.ofTry ok, q⟩
    | cont =>
      obtain ⟨σ', H', J', q⟩ := z
      (exact ⟨σ', H', J'.ofTry ok, q⟩)
end
end DL

end
section
set_option maxHeartbeats 4000001
/-! DL21: a caught error as a datum: its fields, isinstance. -/
namespace DL
open PySem PySem.Spec
open PyProof.Rows L2
open Evl (Ex)
section
variable {X : Cx} {pins : List (Addr × Obj)}
variable {σ : L2.St} {H : Hp} {s : Shared}
/-- the error's object and its dict -/
theorem exc_inst {a C xd : Addr} {vs : List (Str × V)} (I : Inv X pins σ H s) (h : H a = some (ExcO a C xd)) (hx : H xd = some (.xd vs)) : ∃ (o : Obj) (od : Obj) (m : Str → Option Value), PySem.W.InstAt s.heap a o C (some od) ∧ (∀ name, PySem.W.lookIn name od = some (m name)) ∧ ∀ n, RelO (vs.lookup n) (m n) := by
  obtain ⟨⟨o, fs, e1, e2, e3⟩, _⟩ := I.hok a _ h
  obtain ⟨m, hns, hr⟩ := (show ObjOk X.prog X.w H s.heap xd (.xd vs) from I.hok xd _ hx)
  (obtain ⟨od, ho, hl⟩ := lookIn_ns hns)
  exact ⟨o, od, m, ⟨e1, e2.1, by unfold PySem.W.notCls; rw [e3] <;> rfl, by rw [e2.2]; exact ho⟩, hl, hr⟩
def tXe (K : PySem.W.Frag) (f : Str) (te : TE) : TE := fun σ H Q => te σ H fun x H1 => ∃ a C xd vs v, x = .ref a ∧ H1 a = some (ExcO a C xd) ∧ H1 xd = some (.xd vs) ∧ XfC K C ∧ PySem.W.findIn K (.ref C) f = some none ∧ vs.lookup f = some v ∧ Q v H1
theorem pe_xe {e : Expr} {te : TE} {pos : Pos} {f : Str} (he : PE X e te) (hb : attributeBase e f X.env (eval e X.env) = eval e X.env := by rfl) : PE X (.Attribute e f pos) (tXe X.K f te) := by
  refine ⟨fun pins s σ H Q I h => attr_of hb (thn (he.run pins s σ H _ I h) fun u t ⟨x, H1, I1, rx, a, C, xd, vs, v, ex, ea, ed, T, no, l, q⟩ => ?_)⟩
  subst ex
  (obtain rfl : u = Value.ref a := rx)
  obtain ⟨o, od, m, J, hl, hr⟩ := exc_inst I1 ea ed
  obtain ⟨u, hu, ru⟩ := RelO.some_of (v := v) (o := m f) (by rw [← l]; exact hr f)
  exact HandSPX.exc_get I1.kIn J T.ga T.gg T.exC (PySem.W.findObj_own T.hdC no rfl (by rw [hl, hu])) (handed_of ru) ⟨v, H1, I1.tok _, ru, q⟩
def rIsX (K : PySem.W.Frag) : List V → Hp → VK → Prop := fun xs H Q => ∃ (a C xd : Addr) (vs : List (Str × V)) (c : V) (u : Value) (b : Bool), xs = [.ref a, c] ∧ H a = some (ExcO a C xd) ∧ H xd = some (.xd vs) ∧ ClsV c u ∧ L2.ExcC K C ∧ PySem.W.kitOne K (.ref C) u = some b ∧ Q (.bl b) H
theorem call_isX : CallR X (.builtin "isinstance") (rIsX X.K) := by
  (intro pins s σ H xs us Q I r h)
  obtain ⟨a, C, xd, vs, c, u, b, rfl, ha, hx, k, T, e, q⟩ := h
  (obtain ⟨u1, u2, rfl, r1, r2⟩ := vals2 r)
  have e2 := k.eq r2
  subst e2
  (cases (show u1 = Value.ref a from r1))
  obtain ⟨o, od, m, J, _⟩ := exc_inst I ha hx
  exact PySem.W.kia_one (PySem.W.kitx_exc (x := a) (ox := o) (od := some od) (by obtain ⟨cd, hc, _⟩ := PySem.W.any_some T.hd; rw [hc]; rfl) T.hg T.hk T.hs T.ha T.hn T.ht T.hm) I.kIn J e (fun z => nomatch z) fun tk => ⟨.bl b, H, I.tok tk, rfl, q⟩
end
section
variable [Tb]
variable {X : Cx} {ρ ρ' ρ1 ρ2 : Rho} {a b e : Expr} {y d : D} {C : Addr} {fs : List (Str × D)} {f : Str} {p pos : Pos} {k1 : Bool}
theorem pd_xe (h : PD X e ρ (.exc C fs) ρ') (T : XfC X.K C) (no : PySem.W.findIn X.K (.ref C) f = some none) (hl : fs.lookup f = some d) (hb : attributeBase e f X.env (eval e X.env) = eval e X.env := by rfl) : PD X (.Attribute e f pos) ρ d ρ' :=
  pe_weak (pe_xe h hb) fun σ H Q ⟨G, e1, s, k⟩ => ⟨G, e1, s, fun v G1 H1 g1 a1 => by
    cases a1 with
    | @exc q C' xd vs _ hq hx hs =>
      obtain ⟨v, l1, l2⟩ := hs.look hl
      exact ⟨q, C, xd, vs, v, rfl, g1.gh _ _ hq, g1.gh _ _ hx, T, no, l1, k v G1 H1 g1 l2⟩⟩
theorem pd_isX {u : Value} (hm : X.mg "isinstance" = none) (h : PD X a ρ (.exc C fs) ρ1) (h2 : PD X b ρ1 y ρ2) (T : L2.ExcC X.K C) (hu : ClD y u) (hk : PySem.W.kitOne X.K (.ref C) u = some k1) (hg : Gl X "isinstance" := by rfl) (he : starEach [a, b] X.env = (false, eval a X.env) :: starEach [b] X.env := by rfl) (he2 : starEach [b] X.env = (false, eval b X.env) :: starEach [] X.env := by rfl) (hpl : (backTo pos (starEach [b] X.env)).any (·.1) = false := by rfl) :
    PD X (.Call (.Name "isinstance" p) [a, b] [] pos) ρ (.bl k1) ρ2 :=
  pe_weak (pe_callB call_isX hg hm bootn_isinstance (pad_cons h (pad_one h2 he2) he) (by decide) (by decide) he hpl) fun σ H Q ⟨G, e1, s, k⟩ => ⟨G, e1, s, fun vs G1 H1 g1 a1 => by
    cases a1 with
    | cons a1 r =>
      cases r with
      | cons a2 r =>
        cases r
        cases a1 with
        | exc hq hx hs => exact ⟨_, C, _, _, _, u, k1, rfl, g1.gh _ _ hq, g1.gh _ _ hx, hu.v a2, T, hk, k _ G1 H1 g1 (.bl _)⟩⟩
end
end DL

end
section
set_option maxHeartbeats 4000001
/-! DL22: what is handed to a def, called there, and raises. -/
namespace DL
open PySem PySem.Spec
open PyProof.Rows L2 LamX
open Evl (Ex)
section
variable [Tb]
/-- f, called without arguments at any later state, raises cls with the fields fs, in the slots σ of the frame that handed it on -/
def CalD (P : Program) (w : World) (K : PySem.W.Frag) (mg : Str → Option Value) (base : Heap) (k : Nat) (f : Addr) (stk : List Env) (G0 H0 : Hp) (s0 : Shared) (σ : L2.St) (ρ : Rho) (cls : Value) (fs : List (Str × D)) (ρ' : Rho) : Prop :=
  ∀ (A : Around) (outer : List Env) (s1 : Shared) (G1 H1 : Hp), Env0 P w K mg base A outer s1 H1 → Un (frs stk) [] H0 H1 s0.heap s1.heap → Grow G0 H0 G1 H1 → PySem.W.FnAt f s1.heap ∧ (Room k A → ∀ E : XK,
    (∀ xd vs' G' H', Step σ ρ ρ' G1 H1 G' H' → H1 xd = none → H' xd = some (.xd vs') → Atf G' vs' fs → E cls (some xd) H') → codeAny (model P w) A (.call (.ref f) ⟨[], []⟩) (CR (L2.CX P w) outer P w H1 s1 (fun _ _ => False) E) s1)
/-- the reading of x() where x is such a one: W is wished for -/
def tAsk (f : Addr) (G0 H0 : Hp) (σL : L2.St) (ρL : Rho) (cls : Value) (fs : List (Str × D)) (ρL' : Rho) (i : Nat) (W : WX) : TE := fun σ H _ => σ[i]? = some (some (.ref f)) ∧ ∃ G1, Grow G0 H0 G1 H ∧ ∀ xd vs' G' H', Step σL ρL ρL' G1 H G' H' → H xd = none → H' xd = some (.xd vs') → Atf G' vs' fs → W cls (some xd) σ H'
section
variable {P : Program} {w : World} {K : PySem.W.Frag} {mg : Str → Option Value} {base : Heap} {k i : Nat} {f g : Addr} {outer : List Env} {G0 H0 : Hp} {s0 : Shared} {σL : L2.St} {ρL ρL' : Rho} {cls : Value} {fs : List (Str × D)} {N : List Str} {q a : Str} {sc : Scope} {cdv : Value} {A : Around} {E : XK} {pn : List (Addr × Obj)} {xe : Value → Shared → Prop} {W : WX} {p1 p2 : Pos}
theorem pe_ask (cal : CalD P w K mg base k f outer G0 H0 s0 σL ρL cls fs ρL') (tk : Takes ((cxOf (L2.CX P w) P w K mg base N q sc g cdv A outer s0 H0 E).tr pn xe) W) (hr : Room k (A.deeper (envOfC q sc s0.heap.objs.size g cdv))) (hN : N[i]? = some a) (hv : Vis sc a) (hd : (a == ("__debug__" : Str)) = false) (hcd : (a == ("__classdict__" : Str)) = false) :
    PE ((cxOf (L2.CX P w) P w K mg base N q sc g cdv A outer s0 H0 E).tr pn xe) (.Call (.Name a p1) [] [] p2) (tAsk f G0 H0 σL ρL cls fs ρL' i W) := by
  refine ⟨fun pins s σ H Q I ⟨h1, G1, gr, kq⟩ => ?_⟩
  refine wpAny_Call_Name_kw (thn ((pe_var (X := (cxOf (L2.CX P w) P w K mg base N q sc g cdv A outer s0 H0 E).tr pn xe) (pos := p1) (i := i) hN hv hd hcd).run pins s σ H (fun v H1 => v = .ref f ∧ H1 = H) I ⟨.ref f, h1, rfl, rfl⟩) fun u t ⟨v, H1, I1, r1, ev, eH⟩ => ?_)
  subst ev eH
  (obtain rfl : u = Value.ref f := r1)
  obtain ⟨fa, run⟩ := cal _ _ t G1 H1 I1.env0 I1.base gr
  refine PySem.W.callWith_F0 fa (wpAny_call (codeAny_mono (run hr (WE W σ) kq) fun o t2 z => ?_))
  cases o with
  | error e => exact passAt tk σ pins H1 t e t2 I1 z
  | ok fl =>
    cases fl with
    | ret u =>
      obtain ⟨_, _, _, _, _, _, _, z⟩ := z
      exact z.elim
    | next => exact False.elim z
    | brk => exact False.elim z
    | cont => exact False.elim z
end
/-- the error is kept, and frozen with its dict -/
theorem step_exc {σ : L2.St} {ρ ρ' : Rho} {G H G' H' : Hp} {a C xd : Addr} {vs : List (Str × V)} {fs : List (Str × D)} (st : Step σ ρ ρ' G H G' H') (ha : H' a = none) (hx0 : H xd = none) (hx : H' xd = some (.xd vs)) (hs : Atf G' vs fs) :
    ∃ G2, Step σ ρ ρ' G H G2 (upd H' a (ExcO a C xd)) ∧ At G2 (.ref a) (.exc C fs) ∧ Ex G2 (upd H' a (ExcO a C xd)) ∧ TbO G2 (upd H' a (ExcO a C xd)) := by
  have ga : G' a = none := Evl.fresh_back st.gh ha
  have nax : a ≠ xd := fun z => by rw [z, hx] at ha; cases ha
  have eG : Ex G' (upd (upd G' xd (.xd vs)) a (ExcO a C xd)) := fun b u hb => by
    have nb : b ≠ a := fun z => by rw [z, ga] at hb; cases hb
    rw [upd_ne nb]
    by_cases z : b = xd
    · rw [z] at hb ⊢
      rw [upd_same]
      have := st.gh _ _ hb
      rw [hx] at this
      exact this
    · rw [upd_ne z]
      exact hb
  have eH : Ex (upd (upd G' xd (.xd vs)) a (ExcO a C xd)) (upd H' a (ExcO a C xd)) := fun b u hb => by
    by_cases z : b = a
    · rw [z, upd_same] at hb ⊢
      exact hb
    · rw [upd_ne z] at hb ⊢
      by_cases z2 : b = xd
      · rw [z2, upd_same] at hb
        rw [z2, hx]
        exact hb
      · rw [upd_ne z2] at hb
        exact st.gh b u hb
  have eHH : Ex H' (upd H' a (ExcO a C xd)) := Evl.Ex.new ha
  have out : ∀ {b : Addr}, b ≠ a → b ≠ xd → (upd (upd G' xd (.xd vs)) a (ExcO a C xd)) b = G' b := fun n1 n2 => (upd_ne n1).trans (upd_ne n2)
  have tb : TbO (upd (upd G' xd (.xd vs)) a (ExcO a C xd)) (upd H' a (ExcO a C xd)) := ⟨st.sl.tb.1.ext eG fun b ps z => eHH b _ z, fun p hp => by
    obtain ⟨ps, e, _⟩ := st.sl.tb.1 p hp
    rw [out (fun z => by rw [z, ha] at e; cases e) fun z => by rw [z, hx] at e; cases e]
    exact st.sl.tb.2 p hp⟩
  refine ⟨_, ⟨st.g.trans eG, eH, fun b hb m => ?_, fun b o hb n m => ?_, fun b hb => Ex.ne eHH (st.al b hb), ⟨st.sl.len, fun j t e => ?_, st.sl.ne, tb⟩, st.me⟩, .exc upd_same ((upd_ne nax.symm).trans upd_same) (hs.ex eG), eH, tb⟩
  · rw [out (fun z => st.al b hb (by rw [z]; exact ha)) fun z => hb (by rw [z]; exact hx0)]
    exact st.nw b hb m
  · exact eHH b o (st.kp b o hb n m)
  · obtain ⟨v, e1, e2⟩ := st.sl.at_ j t e
    refine ⟨v, e1, ?_⟩
    cases e2 with
    | d h => exact .d (h.ex eG)
    | own hg hh hs' => exact .own ((out (fun z => by rw [z, ha] at hh; cases hh) fun z => by rw [z, hx] at hh; cases hh).trans hg) (eHH _ _ hh) (hs'.ex eG)
    | obj hg hh hs' => exact .obj ((out (fun z => by rw [z, ha] at hh; cases hh) fun z => by rw [z, hx] at hh; cases hh).trans hg) (eHH _ _ hh) (hs'.ex eG)
end
end DL

end
section
set_option maxHeartbeats 4000001
/-! K20: what is heard of a call that raises. -/
namespace K20
open PySem PySem.Spec
open PyProof.Rows L2 DL LamX
open Evl (Ex)
section
variable [Tb]
/-- the classes of errors: of a bad value, of too many; of names, misfits, nothing; the one above all -/
structure Errs (K : PySem.W.Frag) (mg : Str → Option Value) (CB CM CN CF CH CE : Addr) : Prop where
  gB : mg "BadValue" = some (.ref CB)
  gM : mg "TooMany" = some (.ref CM)
  gN : mg "NoName" = some (.ref CN)
  gF : mg "Misfit" = some (.ref CF)
  gH : mg "Nothing" = some (.ref CH)
  gE : mg "MomentError" = some (.ref CE)
  xB : XfC K CB
  xM : XfC K CM
  eB : L2.ExcC K CB
  eM : L2.ExcC K CM
  pB : PySem.W.findIn K (.ref CB) "part" = some none
  wM : PySem.W.findIn K (.ref CM) "what" = some none
  mM : PySem.W.findIn K (.ref CM) "most" = some none
  BB : PySem.W.kitOne K (.ref CB) (.ref CB) = some true
  MB : PySem.W.kitOne K (.ref CM) (.ref CB) = some false
  MN : PySem.W.kitOne K (.ref CM) (.ref CN) = some false
  MF : PySem.W.kitOne K (.ref CM) (.ref CF) = some false
  MH : PySem.W.kitOne K (.ref CM) (.ref CH) = some false
  MM : PySem.W.kitOne K (.ref CM) (.ref CM) = some true
  tB : PySem.W.exmOne K (.ref CB) (.ref CE) = some true
  tM : PySem.W.exmOne K (.ref CM) (.ref CE) = some true
/-- what is told of an error -/
inductive ErrA (CB CM : Addr) : Value → List (Str × D) → D → Prop where
  | val (x : Str) : ErrA CB CM (.ref CB) (exV x) (.tup [.str "value", .str x])
  | many : ErrA CB CM (.ref CM) exM (.tup [.str "many", .str "round", .int 600])
def nH : List Str := ["ask", "caught", "told", "error"]
theorem sc_heard : FnScope nH ["ask"] (defScope (top 104)) := ⟨rfl, rfl, rfl, by decide +kernel, rfl, by decide +kernel, by decide +kernel⟩
variable {P : Program} {w : World} {K : PySem.W.Frag} {mg : Str → Option Value} {base : Heap} {f g : Addr} {fd : FuncData} {CB CM CN CF CH CE : Addr}
/-- behind the try -/
theorem heard_rest (B : Bn mg) (ER : Errs K mg CB CM CN CF CH CE) {cdv : Value} {A : Around} {outer : List Env} {s : Shared} {H : Hp} {E : XK} {C : Addr} {fs : List (Str × D)} {ans : D} {o : Option S} (ea : ErrA CB CM (.ref C) fs ans) :
    HSs (cxOf (L2.CX P w) P w K mg base nH "_law_sched_heard" (defScope (top 104)) g cdv A outer s H E) (fun cls xd _ H' => E cls xd H') false ((defBody (top 104)).drop 2) [some (.d (.rf f)), some (.d (.exc C fs)), some (.d .non), o] { rt := fun d _ => d = ans } := by
  refine hss_leave (k1 := false) (ptd_isN (d := .exc C fs) (pd_name 1)) (fun z => by cases z) fun _ => ?_
  cases ea with
  | val x =>
    exact hss_leave (k1 := true) (ptd_val (pd_isX B.isinstance (pd_name 1) (pd_glob (v := .ref CB) ER.gB rfl fun _ => .rf CB) ER.eB (.rf _) ER.BB)) (fun _ => hss_one (hs_ret (pd_tup (pad_cons pd_str (pad_one (pd_xe (pd_name 1) ER.xB ER.pB rfl))) (by show 2 ≤ 100000; decide)) rfl)) fun z => by cases z
  | many =>
    refine hss_leave (k1 := false) (ptd_val (pd_isX B.isinstance (pd_name 1) (pd_glob (v := .ref CB) ER.gB rfl fun _ => .rf CB) ER.eM (.rf _) ER.MB)) (fun z => by cases z) fun _ => ?_
    refine hss_leave (k1 := false) (ptd_val (pd_isX B.isinstance (pd_name 1) (pd_glob (v := .ref CN) ER.gN rfl fun _ => .rf CN) ER.eM (.rf _) ER.MN)) (fun z => by cases z) fun _ => ?_
    refine hss_leave (k1 := false) (ptd_val (pd_isX B.isinstance (pd_name 1) (pd_glob (v := .ref CF) ER.gF rfl fun _ => .rf CF) ER.eM (.rf _) ER.MF)) (fun z => by cases z) fun _ => ?_
    refine hss_leave (k1 := false) (ptd_val (pd_isX B.isinstance (pd_name 1) (pd_glob (v := .ref CH) ER.gH rfl fun _ => .rf CH) ER.eM (.rf _) ER.MH)) (fun z => by cases z) fun _ => ?_
    exact hss_one (hs_ret (pd_ifT (ptd_val (pd_isX B.isinstance (pd_name 1) (pd_glob (v := .ref CM) ER.gM rfl fun _ => .rf CM) ER.eM (.rf _) ER.MM)) (pd_tup (pad_cons pd_str (pad_cons (pd_xe (pd_name 1) ER.xM ER.wM rfl) (pad_one (pd_xe (pd_name 1) ER.xM ER.mM rfl)))))) rfl)
theorem heard_run (F : FnP K "_law_sched_heard" (top 104) g fd) (B : Bn mg) (ER : Errs K mg CB CM CN CF CH CE) {A : Around} {outer : List Env} {s0 : Shared} {G0 H0 : Hp} {σL : L2.St} {ρL ρL' : Rho} {cls : Value} {fs : List (Str × D)} {ans : D} {Q : VK} {E : XK} {k : Nat}
    (hr : Room (k + 1) A) (e0 : Env0 P w K mg base A outer s0 H0) (tb : TbO G0 H0) (ex : Ex G0 H0) (sl : Slots G0 H0 σL ρL) (cal : CalD P w K mg base k f outer G0 H0 s0 σL ρL cls fs ρL') (ea : ErrA CB CM cls fs ans)
    (hq : ∀ v G' H', Step σL ρL ρL' G0 H0 G' H' → At G' v ans → Q v H') : codeAny (model P w) A (.call (.ref g) ⟨[.ref f], []⟩) (CR (L2.CX P w) outer P w H0 s0 Q E) s0 := by
  have bnd : BindsTo s0 fd ⟨[.ref f], []⟩ (List.zip (["ask"] : List Str) [Value.ref f]) := FunD.bindsA (ps := ["ask"]) F (fun kV doc pm an cdv ct us hl => by
    match us, hl with
    | [x], _ => rfl) s0 [.ref f] rfl
  (obtain ⟨oc, od, dV, kV, doc, pm, an, cdv, ct, osl, rfl, lk, hcd, _, _⟩ := F.ex)
  refine LamX.run_ofS (N := nH) (ps := ["ask"]) (us := [.ref f]) (vs := [.ref f]) lk hcd sc_heard hr e0 bnd (.cons rfl .nil) rfl fun hr' => ?_
  obtain ⟨C, rfl⟩ : ∃ C, cls = .ref C := by cases ea <;> exact ⟨_, rfl⟩
  -- the try
  have try_ := ps_try_keep (X := cxOf (L2.CX P w) P w K mg base nH "_law_sched_heard" (defScope (top 104)) g cdv A outer s0 H0 E) (c := .ref CE) (i := 3) (j := 1) (x := "MomentError") (n := "error") (m := "caught") (np := ⟨647, 11, 647, 22⟩) (np2 := ⟨648, 17, 648, 22⟩) (mp := ⟨648, 8, 648, 14⟩) (apos := ⟨648, 8, 648, 22⟩) (pos := ⟨645, 4, 648, 22⟩) (pos' := ⟨647, 4, 648, 22⟩)
    (body := [.Assign [.Name "told" ⟨646, 8, 646, 12⟩] (.Call (.Name "ask" ⟨646, 15, 646, 18⟩) [] [] ⟨646, 15, 646, 20⟩) ⟨646, 8, 646, 20⟩]) (tb := fun W D σ H => tAsk f G0 H0 σL ρL (.ref C) fs ρL' 0 W σ H fun v H' => False) rfl rfl rfl sc_heard.nd rfl rfl (show 3 < 4 by decide) rfl rfl ⟨rfl, by decide, .inl ER.gE⟩ (by decide) (by decide) (fun W pn xe tk _ => pss_one ?_)
  · have h0 : HS (cxOf (L2.CX P w) P w K mg base nH "_law_sched_heard" (defScope (top 104)) g cdv A outer s0 H0 E) (fun cls xd _ H' => E cls xd H') false ((defBody (top 104)).getD 0 (.Pass ⟨0, 0, 0, 0⟩)) (Gen [.rf f] nH) { nx := fun r => r = [some (.d (.rf f)), some (.d .non), some (.d .non), none] } :=
      hs_unp (pd_tup (pad_cons pd_non (pad_one pd_non))) (pgd_tup rfl (pgds_cons (pgd_name 1 sc_heard.nd) (pgds_cons (pgd_name 2 sc_heard.nd) pgds_nil))) rfl
    refine ⟨_, pss_cons h0 (pss_cons try_ (pss_any (α := { t : List (Str × D) // ErrA CB CM (.ref C) t ans }) fun t => heard_rest (f := f) (o := none) B ER t.2)), ?_⟩
    have ent : Slots G0 H0 (L2.start nH [.ref f]) (Gen [.rf f] nH) := Slots.entry tb (.cons (.rf f) .nil)
    have noM : ∀ {σ : L2.St} {a : Addr} {l : List (Option D)}, ¬ Mine σ (l.map fun o => o.map S.d) a := fun ⟨i, t, e1, e2, _⟩ => by
      rw [List.getElem?_map] at e1
      obtain ⟨o, _, e⟩ := Option.map_eq_some_iff.mp e1
      cases o with
      | none => cases e
      | some d =>
        cases e
        cases e2
    refine ⟨none, G0, H0, G0, rfl, ⟨⟨Ex.refl G0, ex, fun _ _ _ => rfl, fun _ _ h _ _ => h, fun _ h => h⟩, ent, fun x m => absurd m (noM (l := [some (.rf f), none, none, none])), fun _ z => by cases z⟩, fun σ1 G1 H1 ρ1 n1 g1 e1 => ?_, fun _ _ _ _ _ _ _ _ _ z => z.elim, fun _ _ _ _ _ _ z => z.elim, fun _ _ _ _ _ _ z => z.elim, fun _ _ _ _ _ _ _ _ _ _ _ _ _ z => z.elim⟩
    subst e1
    have grow : Grow G0 H0 G1 H1 := ⟨n1.g, n1.gh, fun a h => n1.nw a h fun z => (by cases z), fun a o h t => n1.kp a o h t fun z => (by cases z), n1.al, fun _ => n1.sl.tb.1⟩
    have s0f : σ1[0]? = some (some (.ref f)) := by
      obtain ⟨v, z1, z2⟩ := n1.sl.at_ 0 _ rfl
      cases z2 with
      | d z2 =>
        cases z2
        exact z1
    refine ⟨s0f, G1, grow, fun xd vs' G2 H2 st hxd hx at_ => ⟨C, xd, rfl, rfl, by cases ea <;> first | exact ER.tB | exact ER.tM, fun a ha => ?_⟩⟩
    obtain ⟨G3, st3, exa, ex3, tb3⟩ := step_exc (C := C) st ha hxd hx at_
    have len1 : σ1.length = 4 := n1.sl.len
    refine ⟨⟨fs, ea⟩, none, G3, upd H2 a (ExcO a C xd), G3, rfl, ⟨⟨Ex.refl G3, ex3, fun _ _ _ => rfl, fun _ _ h _ _ => h, fun _ h => h⟩, ⟨by rw [List.length_set, List.length_set, List.length_set]; exact len1, fun j t e => ?_, fun i j t u b e m => ?_, tb3⟩, fun x m => absurd m (noM (l := [some (.rf f), some (.exc C fs), some .non, none])), fun _ z => by cases z⟩, fun _ _ _ _ _ _ z => z.elim, fun v σ' G' H' d ρ' n' _ at2 z => ?_, fun _ _ _ _ _ _ z => z.elim, fun _ _ _ _ _ _ z => z.elim, fun _ _ _ _ _ _ _ _ _ _ _ _ _ z => z.elim⟩
    · match j, e with
      | 0, e =>
        cases e
        refine ⟨.ref f, ?_, .d (.rf f)⟩
        rw [List.getElem?_set_ne (by decide), List.getElem?_set_ne (by decide), List.getElem?_set_ne (by decide)]
        exact s0f
      | 1, e =>
        cases e
        refine ⟨.ref a, ?_, .d exa⟩
        rw [List.getElem?_set_ne (by decide), List.getElem?_set_self (by rw [List.length_set, len1]; decide)]
      | 2, e =>
        cases e
        obtain ⟨v, z1, z2⟩ := n1.sl.at_ 2 _ rfl
        cases z2 with
        | d z2 =>
          cases z2
          refine ⟨.non, ?_, .d .non⟩
          rw [List.getElem?_set_ne (by decide), List.getElem?_set_ne (by decide), List.getElem?_set_ne (by decide)]
          exact z1
      | 3, e => cases e
      | j + 4, e => cases e
    · exact absurd ⟨i, t, e, m, rfl⟩ (fun ⟨i, t, e1, e2, _⟩ => noM (σ := [some (.ref 0), some (.ref 0), some (.ref 0), some (.ref 0)]) (a := 0) (l := [some (.rf f), some (.exc C fs), some .non, none]) ⟨i, t, e1, e2, by
        match i, e1 with
        | 0, _ => rfl
        | 1, _ => rfl
        | 2, _ => rfl
        | 3, z => cases z
        | i + 4, z => cases z⟩ : ¬ ∃ (i : Nat) (s : S), [some (S.d (.rf f)), some (S.d (.exc C fs)), some (S.d .non), none][i]? = some (some s) ∧ s.me = true ∧ True = True)
    · have z : d = ans := z
      subst z
      have g3 : Grow G3 (upd H2 a (ExcO a C xd)) G' H' := ⟨n'.g, n'.gh, fun a h => n'.nw a h fun z => (by cases z), fun a o h t => n'.kp a o h t fun z => (by cases z), n'.al, fun _ => n'.sl.tb.1⟩
      exact hq v G' H' ((grow.step sl).trans (st3.trans (g3.step st3.sl))) at2
  · exact ps_weak (ps_set (i := 2) sc_heard.nd rfl (.inl rfl) (pe_ask (a := "ask") (i := 0) cal tk hr' rfl (.inl rfl) (by decide) (by decide)) rfl (.inr rfl)) fun D σ H h => h
end
end K20

end
section
set_option maxHeartbeats 4000001
/-! DL23: closures that outlive their maker. -/
namespace DL
open PySem PySem.Spec
open PyProof.Rows L2 LamX
open Evl (Ex)
section
variable {P : Program} {w : World}
variable {K : PySem.W.Frag} {mg : Str → Option Value} {base : Heap}
/-- a def runs from this very state; its end is looked at as it is -/
theorem run_ofE {CX : CXT} {k : Nat} {f : Addr} {nm qual : Str} {params : Arguments} {body : List Stmt} {scope : Scope} {dV kV doc pm cdv ct oc : Value} {an od : Option Addr} {osl : Array (Option Value)} {N ps : List Str}
    (lk : K.lookup f = some ⟨oc, od, .func (PySem.W.fnOf nm qual params body scope dV kV doc pm an cdv ct), osl⟩) (cd : PySem.W.codeIn K cdv qual = true) (S : FnScope N ps scope) {A : Around} {outer : List Env} {s : Shared} {H : Hp} {args : Args} {us : List Value} {vs : List V} {Q : VK} {E : XK}
    (hr : Room (k + 1) A) (e0 : Env0 P w K mg base A outer s H) (hb : BindsTo s (PySem.W.fnOf nm qual params body scope dV kV doc pm an cdv ct) args (ps.zip us)) (r : Vals vs us) (hl : vs.length = ps.length)
    (go : ∀ t : Shared, Room k (A.deeper (envOfC qual scope s.heap.objs.size f cdv)) → Inv (cxOf CX P w K mg base N qual scope f cdv A outer s H E) [] (L2.start N vs) H t →
      wpAny (model P w) (A.deeper (envOfC qual scope s.heap.objs.size f cdv)) (execs body (envOfC qual scope s.heap.objs.size f cdv)) (fun fl t' => ∃ u, fl = .ret u ∧ CE outer P w H s Q u t') (cxOf CX P w K mg base N qual scope f cdv A outer s H E).xe t) :
    codeAny (model P w) A (.call (.ref f) args) (CR CX outer P w H s Q E) s := by
  have inK : K.In s.heap := e0.mod.kin.keeps fun b o e => (e0.bs b o e).1
  have nolim : s.heap.NoLimit := e0.mod.nolimit.keeps fun b o e => (e0.bs b o e).1
  have kinds : ∀ y ∈ ps.zip us, scope.names.lookup y.1 = some .local ∨ (scope.names.lookup y.1 = some .cell ∧ ((cellsFrom (s.heap.objs.size + 1) scope.names []).lookup y.1).isSome = true) := fun ⟨n, v⟩ hy =>
    (S.par n (List.of_mem_zip hy).1).imp id fun q => ⟨q, PySem.W.cellsFrom_some _ _ _ (.inl q)⟩
  refine codeAny_call_function hr.depth (inK _ _ lk) rfl S.co S.gen rfl (PySem.W.codeRec_of inK cd) (hb _ _ _ _ (wpAny_newFunctionEnv_cells S.kind kinds fun env he t x => ?_))
  subst he
  refine ⟨nolim.keeps x.toInCall.keep, codeAny_func (wpAny_mono (go t (hr.deeper _) (inv_start S hr.hd e0 hl r x)) (fun fl t' z => ?_) fun e t' z => z)⟩
  obtain ⟨u, rfl, z⟩ := z
  exact z
theorem objOk_keep {H Hd : Hp} {h : Heap} (keep : ∀ a o, H a = some o → (∀ φ, o ≠ .ext φ) → Hd a = some o) : ∀ (o : HO) (a : Addr), ObjOk P w H h a o → ObjOk P w Hd h a o := by
  intro o
  induction o with
  | ins C dx fs => exact fun a ⟨z1, z⟩ => ⟨keep _ _ z1 (fun φ y => by cases y), z⟩
  | dT kvs =>
    intro a ⟨z1, z2, xs, z3, z4⟩
    refine ⟨z1, z2, xs, ?_, z4⟩
    clear z1 z2 z4
    induction z3 with
    | nil => exact .nil
    | cons y _ ih => exact .cons ⟨y.1, keep _ _ y.2.1 (fun φ q => by cases q), y.2.2⟩ ih
  | frz o u ih => exact fun a ⟨z1, z2⟩ => ⟨z1, ih a z2⟩
  | lst _ => exact fun a z => z
  | tup _ => exact fun a z => z
  | dK _ => exact fun a z => z
  | set _ _ => exact fun a z => z
  | own _ => exact fun a z => z
  | xd _ => exact fun a z => z
  | met _ _ => exact fun a z => z
  | rng _ _ => exact fun a z => z
  | tbl _ => exact fun a z => z
  | ext _ => exact fun a z => z
/-- a part of the abstract heap, without things that are told by predicates -/
theorem HOk.part {H Hd : Hp} {h : Heap} (x : HOk P w H h) (sub : ∀ a o, Hd a = some o → H a = some o) (keep : ∀ a o, H a = some o → (∀ φ, o ≠ .ext φ) → Hd a = some o) : HOk P w Hd h := fun a o e => objOk_keep keep o a (x a o (sub a o e))
end
/-- the cells of cs are out of the abstract heap -/
def outC (cs : List Addr) (H : Hp) : Hp := fun b => if b ∈ cs then none else H b
theorem outC_in {cs : List Addr} {H : Hp} {b : Addr} (h : b ∈ cs) : outC cs H b = none := if_pos h
theorem outC_out {cs : List Addr} {H : Hp} {b : Addr} (h : b ∉ cs) : outC cs H b = H b := if_neg h
theorem outC_sub {cs : List Addr} {H : Hp} {a : Addr} {o : HO} (h : outC cs H a = some o) : a ∉ cs ∧ H a = some o := by
  by_cases z : a ∈ cs
  · rw [outC_in z] at h
    cases h
  · exact ⟨z, (outC_out (H := H) z).symm.trans h⟩
mutual
/-- no caught errors, no closures within -/
def plainD : D → Bool
  | .lst ds => plainDs ds
  | .tup ds => plainDs ds
  | .ins _ fs => plainFs fs
  | .exc _ _ => false
  | .fn _ _ => false
  | .mk _ _ => false
  | _ => true
def plainDs : List D → Bool
  | [] => true
  | d :: ds => plainD d && plainDs ds
def plainFs : List (Str × D) → Bool
  | [] => true
  | (_, d) :: ds => plainD d && plainFs ds
end
section
variable [Tb]
mutual
theorem At.part {G Gd : Hp} (keep : ∀ a o, G a = some o → (∀ φ, o ≠ .ext φ) → Gd a = some o) : ∀ {v : V} {d : D}, At G v d → plainD d = true → At Gd v d
  | _, _, .non, _ => .non
  | _, _, .bl b, _ => .bl b
  | _, _, .int i, _ => .int i
  | _, _, .str x, _ => .str x
  | _, _, .ty n, _ => .ty n
  | _, _, .rf a, _ => .rf a
  | _, _, .lst h hs, p => .lst (keep _ _ h fun φ z => by cases z) (Ats.part keep hs (by unfold plainD at p; exact p))
  | _, _, .tup h hs, p => .tup (keep _ _ h fun φ z => by cases z) (Ats.part keep hs (by unfold plainD at p; exact p))
  | _, _, .ins h hs, p => .ins (keep _ _ h fun φ z => by cases z) (Atf.part keep hs (by unfold plainD at p; exact p))
  | _, _, .dic h, _ => .dic (keep _ _ h fun φ z => by cases z)
  | _, _, .exc _ _ _, p => by unfold plainD at p; cases p
  | _, _, .fn _ _ _ _ _ _ _, p => by unfold plainD at p; cases p
  | _, _, .scr h, _ => .scr (keep _ _ h fun φ z => by cases z)
  | _, _, .mk _ _ _, p => by unfold plainD at p; cases p
theorem Ats.part {G Gd : Hp} (keep : ∀ a o, G a = some o → (∀ φ, o ≠ .ext φ) → Gd a = some o) : ∀ {vs : List V} {ds : List D}, Ats G vs ds → plainDs ds = true → Ats Gd vs ds
  | _, _, .nil, _ => .nil
  | _, _, .cons h hs, p => by
    unfold plainDs at p
    rw [Bool.and_eq_true] at p
    exact .cons (At.part keep h p.1) (Ats.part keep hs p.2)
theorem Atf.part {G Gd : Hp} (keep : ∀ a o, G a = some o → (∀ φ, o ≠ .ext φ) → Gd a = some o) : ∀ {vs : List (Str × V)} {fs : List (Str × D)}, Atf G vs fs → plainFs fs = true → Atf Gd vs fs
  | _, _, .nil, _ => .nil
  | _, _, .cons h hs, p => by
    unfold plainFs at p
    rw [Bool.and_eq_true] at p
    exact .cons (At.part keep h p.1) (Atf.part keep hs p.2)
end
end
end DL

end
section
set_option maxHeartbeats 4000001
/-! DL24: a closure that outlives its maker, called; it raises. -/
namespace DL
open PySem PySem.Spec
open PyProof.Rows L2 LamX
open Evl (Ex)
/-- the cells are back -/
def inC (cs : List Addr) (H H' : Hp) : Hp := fun b => if b ∈ cs then H b else H' b
theorem inC_in {cs : List Addr} {H H' : Hp} {b : Addr} (h : b ∈ cs) : inC cs H H' b = H b := if_pos h
theorem inC_out {cs : List Addr} {H H' : Hp} {b : Addr} (h : b ∉ cs) : inC cs H H' b = H' b := if_neg h
section
variable {P : Program} {w : World}
variable {K : PySem.W.Frag} {mg : Str → Option Value} {base : Heap}
/-- what it raised, with the cells back -/
theorem back_CX {outer : List Env} {H : Hp} {s : Shared} {E : XK} {u : Value} {s' : Shared} {cs : List Addr} (hc : ∀ c ∈ cs, ∃ v, H c = some (CellO c v)) (hok : HOk P w H s.heap) (hfr : ∀ c ∈ cs, c ∉ frs outer)
    (h : L2.CX P w outer (outC cs H) s (fun c d H' => (∀ b ∈ cs, H' b = none) → E c d (inC cs H H')) u s') : L2.CX P w outer H s E u s' := by
  obtain ⟨a, B, H', cls, d, e1, fl, ok', ub, na, os, ag, kE⟩ := h
  have at_ : ∀ c ∈ cs, ∃ o, s.heap.get? c = some o := fun c m => by
    obtain ⟨v, e⟩ := hc c m
    obtain ⟨⟨u, ⟨o, z, _⟩, _⟩, _⟩ := hok c _ e
    exact ⟨o, z⟩
  have non : ∀ b ∈ cs, H' b = none := fun b m => by
    obtain ⟨o, z⟩ := at_ b m
    exact ub.free b o z (outC_in m)
  have nac : a ∉ cs := fun m => by
    obtain ⟨o, z⟩ := at_ a m
    have z2 := ub.keep a o z (outC_in m) (hfr a m)
    rw [fl.2.1] at z2
    cases z2
  have neq : ∀ {b : Addr} {o : HO}, H b = some o → (∀ φ, o ≠ .ext φ) → b ∉ cs := fun e n m => by
    obtain ⟨v, z⟩ := hc _ m
    rw [e] at z
    exact n _ (Option.some.inj z)
  refine ⟨a, B, inC cs H H', cls, d, e1, fl, fun b o e => ?_, ⟨fun b o e n f => ub.keep b o e (by by_cases m : b ∈ cs; exact outC_in m; exact (outC_out m).trans n) f, ub.slot, fun b o e n => ?_, ub.there, fun b xs e => ?_, fun b o xs e => ?_, fun b l e => ?_⟩, (inC_out nac).trans na, os, ag, kE non⟩
  · by_cases m : b ∈ cs
    · rw [inC_in m] at e
      obtain ⟨v, z⟩ := hc b m
      rw [z] at e
      cases e
      obtain ⟨⟨u, ⟨o, z1, z2⟩, r⟩, _⟩ := hok b _ z
      have z3 := ub.keep b o z1 (outC_in m) (hfr b m)
      exact ⟨⟨u, ⟨o, z3, z2⟩, r⟩, ⟨o, z3⟩, fun h1 h2 ⟨u, ⟨o, z1, z2⟩, r⟩ k => ⟨u, ⟨o, k _ z1, z2⟩, r⟩⟩
    · rw [inC_out m] at e
      refine objOk_keep (fun x y q _ => ?_) o b (ok' b o e)
      rw [inC_out fun mm => by rw [non x mm] at q; cases q]
      exact q
  · by_cases m : b ∈ cs
    · obtain ⟨v, z⟩ := hc b m
      rw [n] at z
      cases z
    · rw [inC_out m]
      exact ub.free b o e ((outC_out m).trans n)
  · have m := neq e fun φ z => by cases z
    rw [inC_out m]
    exact ub.tups b xs ((outC_out m).trans e)
  · have m := neq e fun φ z => by cases z
    rw [inC_out m]
    exact ub.frzs b o xs ((outC_out m).trans e)
  · have m := neq e fun φ z => by cases z
    obtain ⟨more, z⟩ := ub.tbls b l ((outC_out m).trans e)
    exact ⟨more, (inC_out m).trans z⟩
end
section
variable [Tb]
variable {P : Program} {w : World}
variable {K : PySem.W.Frag} {mg : Str → Option Value} {base : Heap}
/-- how a closure's parameters are bound where none is given -/
structure ClosB (P : Program) (w : World) (L : LamD) (ps : List Str) (pv : List V) : Prop where
  len : pv.length = ps.length
  bnd : ∀ (s : Shared) (H : Hp) (dV : Value) (cl : List (Str × Addr)) (c' : Addr), HOk P w H s.heap → DfO H L.dfl dV → ∃ us, Vals pv us ∧ ∀ pm ctv, Bnd s (lamFd L dV cl pm (.ref c') ctv) [] (ps.zip us)
theorem closB0 {L : LamD} (hd : L.dfl = []) (h : ∀ cl pm c' ctv, bindArgs (lamFd L .none cl pm c' ctv) ⟨[], []⟩ = pure []) : ClosB P w L [] [] :=
  ⟨rfl, fun s H dV cl c' _ z => by
    rw [hd] at z
    have z : dV = .none := z
    subst z
    exact ⟨[], .nil, fun pm ctv => .of (h _ _ _ _)⟩⟩
theorem closB1 {L : LamD} {v : V} {a : Str} (hd : L.dfl = [v]) (h : ∀ (T : Addr) cl pm c' ctv (u : Value), ∃ k, bindArgs (lamFd L (.ref T) cl pm c' ctv) ⟨[], []⟩ = seqItems? (.ref T) >>= k ∧ k (some #[u]) = pure [(a, u)]) : ClosB P w L [a] [v] :=
  ⟨rfl, fun s H dV cl c' hok z => by
    rw [hd] at z
    obtain ⟨T, e, hT⟩ := z
    subst e
    obtain ⟨_, its, r, o, h1, h2, n, h3⟩ := (show ObjOk P w H s.heap T (.tup [v]) from hok T _ hT)
    obtain ⟨u, rfl, ru⟩ : ∃ u, its = [u] ∧ RelV v u := by
      cases r with
      | cons r rr =>
        cases rr
        exact ⟨_, rfl, r⟩
    refine ⟨[u], .cons ru .nil, fun pm ctv => ?_⟩
    obtain ⟨k, z1, z2⟩ := h T cl pm (.ref c') ctv u
    exact .dfl h1 h3 z1 z2⟩
/-- the slots of a closure's frame at its entry -/
def rhoC (N : List Str) (pd ds : List D) : Rho := (pd ++ ds).map (fun d => some (S.d d)) ++ List.replicate (N.length - pd.length - ds.length) none
theorem rhoC_no {N : List Str} {pd ds : List D} {σ : L2.St} {a : Addr} : ¬ Mine σ (rhoC N pd ds) a := fun ⟨i, t, e1, e2, _⟩ => by
  unfold rhoC at e1
  by_cases hi : i < (pd ++ ds).length
  · rw [List.getElem?_append_left (by rw [List.length_map]; exact hi), List.getElem?_map] at e1
    obtain ⟨d, _, e⟩ := Option.map_eq_some_iff.mp e1
    cases e
    cases e2
  · rw [List.getElem?_append_right (by rw [List.length_map]; omega)] at e1
    have := List.eq_of_mem_replicate (List.mem_of_getElem? e1)
    cases this
theorem slotsC {N : List Str} {G H : Hp} {pd ds : List D} {pv vs : List V} (tb : TbO G H) (a1 : Ats G pv pd) (a2 : Ats G vs ds) : Slots G H (NdefX.startF N pv (vs.map some)) (rhoC N pd ds) := by
  have st : NdefX.startF N pv (vs.map some) = (pv ++ vs).map some ++ List.replicate (N.length - pd.length - ds.length) none := by
    unfold NdefX.startF
    rw [List.length_map, a1.length, a2.length, List.map_append, List.append_assoc]
  have both := a1.append a2
  refine ⟨?_, fun i s e => ?_, fun i j s t q e m => absurd (show Mine (σ := List.replicate 0 none) [] q from ?_) (fun ⟨i, t, e1, _⟩ => by simp at e1), tb⟩
  · rw [st]
    unfold rhoC
    rw [List.length_append, List.length_append, List.length_map, List.length_map, both.length]
    simp
  · unfold rhoC at e
    by_cases hi : i < (pd ++ ds).length
    · rw [List.getElem?_append_left (by rw [List.length_map]; exact hi), List.getElem?_map] at e
      obtain ⟨d, hd, ed⟩ := Option.map_eq_some_iff.mp e
      cases ed
      obtain ⟨v, h1, h2⟩ := both.get hd
      refine ⟨v, ?_, .d h2⟩
      rw [st, List.getElem?_append_left (by rw [List.length_map, both.length]; exact hi), List.getElem?_map, h1]
      rfl
    · rw [List.getElem?_append_right (by rw [List.length_map]; omega)] at e
      have := List.eq_of_mem_replicate (List.mem_of_getElem? e)
      cases this
  · exact absurd ⟨i, s, e, m, rfl⟩ (fun ⟨i, s, e1, e2, _⟩ => rhoC_no (σ := (rhoC N pd ds).map fun _ => some (V.ref 0)) (a := 0) ⟨i, s, e1, e2, by rw [List.getElem?_map, e1]; rfl⟩ : ¬ ∃ (i : Nat) (s : S), (rhoC N pd ds)[i]? = some (some s) ∧ s.me = true ∧ True = True)
end
end DL

end
section
set_option maxHeartbeats 4000001
/-! DL25: a closure's call raises. -/
namespace DL
open PySem PySem.Spec
open PyProof.Rows L2 LamX
open Evl (Ex)
theorem zip_at : ∀ {fr : List Str} {cs : List Addr} {i : Nat} {y : Str} {c : Addr}, fr.Nodup → fr[i]? = some y → cs[i]? = some c → (fr.zip cs).lookup y = some c
  | [], _, _, _, _, _, h, _ => by simp at h
  | _ :: _, [], _, _, _, _, _, h => by simp at h
  | x :: fr, d :: cs, 0, y, c, _, h1, h2 => by
    cases h1
    cases h2
    simp
  | x :: fr, d :: cs, i + 1, y, c, nd, h1, h2 => by
    have h1 : fr[i]? = some y := h1
    have h2 : cs[i]? = some c := h2
    have ne : (y == x) = false := by
      rw [beq_eq_false_iff_ne]
      intro z
      rw [z] at h1
      exact (List.nodup_cons.mp nd).1 (List.mem_of_getElem? h1)
    rw [List.zip_cons_cons]
    unfold List.lookup
    rw [ne]
    exact zip_at (List.nodup_cons.mp nd).2 h1 h2
theorem zip_ix {fr : List Str} {cs : List Addr} {y : Str} {c : Addr} (h : (fr.zip cs).lookup y = some c) : ∃ i : Nat, fr[i]? = some y ∧ cs[i]? = some c := by
  have m := PySem.mem_of_lookup h
  obtain ⟨i, hi⟩ := List.mem_iff_getElem?.mp m
  rw [List.getElem?_zip_eq_some] at hi
  exact ⟨i, hi⟩
theorem nodup_ix {cs : List Addr} (nd : cs.Nodup) {i j : Nat} {c : Addr} (h1 : cs[i]? = some c) (h2 : cs[j]? = some c) : i = j := by
  have l1 : i < cs.length := by
    rcases Nat.lt_or_ge i cs.length with z | z
    · exact z
    · rw [List.getElem?_eq_none z] at h1
      cases h1
  exact (List.getElem?_inj l1 nd).mp (h1.trans h2.symm)
section
variable [Tb]
variable {P : Program} {w : World} {K : PySem.W.Frag} {mg : Str → Option Value} {base : Heap} {i k : Nat} {N ps : List Str} {pv : List V} {pd ds : List D} {cls : Value} {fs : List (Str × D)} {f : Addr} {outer : List Env} {G0 H0 : Hp} {s0 : Shared} {σ : L2.St} {ρ : Rho}
theorem cal_fn (S : NdefX.NScope N ps (Tb.lam i).free (Tb.lam i).scope) (CB : ClosB P w (Tb.lam i) ps pv) (hpd : ∀ G, Ats G pv pd) (hpl : plainDs ds = true) (hdl : ds.length = (Tb.lam i).free.length) (at_ : At G0 (.ref f) (.fn i ds)) (sl : Slots G0 H0 σ ρ)
    (hbody : ∀ (A : Around) (outer : List Env) (s : Shared) (H : Hp) (E : XK) (f c' : Addr) (cl : List (Str × Addr)), Room k (A.deeper (NdefX.envF ⟨"<lambda>", (Tb.lam i).qual, (Tb.lam i).params, [], (Tb.lam i).scope, cl, c'⟩ f s.heap.objs.size)) →
      PX (NdefX.ncx (L2.CX P w) P w K mg base N ⟨"<lambda>", (Tb.lam i).qual, (Tb.lam i).params, [], (Tb.lam i).scope, cl, c'⟩ f A outer s H E) (fun c d _ H => E c d H) (Tb.lam i).body (rhoC N pd ds) cls fs (rhoC N pd ds)) :
    CalD P w K mg base (k + 1) f outer G0 H0 s0 σ ρ cls fs ρ := by
  intro A outer' s1 G1 H1 e0 un gr
  have a1 := at_.ex gr.g
  cases a1 with
  | @fn _ c' _ dV cs vs _ h hD hc hl hn hcs hs =>
    obtain ⟨pm, ctv, hfo⟩ := lamO_at e0.hok (gr.gh _ _ h)
    refine ⟨⟨_, _, _, _, hfo⟩, fun hr E kq => ?_⟩
    have hcell : ∀ c ∈ cs, ∃ v, H1 c = some (CellO c v) := fun c m => by
      obtain ⟨j, hj⟩ := List.mem_iff_getElem?.mp m
      obtain ⟨v, _, z⟩ := hcs j c hj
      exact ⟨v, gr.gh _ _ z⟩
    have isCell : ∀ {c : Addr} {v : V}, H1 c = some (CellO c v) → ∃ u, s1.heap.IsCell c (some u) ∧ RelV v u := fun {c v} e => by
      obtain ⟨⟨u, z, r⟩, _⟩ := e0.hok c _ e
      exact ⟨u, z, r⟩
    have ncell : ∀ {x : Addr} {o : Obj}, s1.heap.get? x = some o → (∀ v, o.data ≠ .cell v) → x ∉ cs := fun {x o} e n m => by
      obtain ⟨v, z⟩ := hcell x m
      obtain ⟨u, ⟨o', z1, z2⟩, _⟩ := isCell z
      rw [e] at z1
      cases z1
      exact n _ z2
    have next : ∀ {x : Addr} {o : HO}, H1 x = some o → (∀ φ, o ≠ .ext φ) → x ∉ cs := fun {x o} e n m => by
      obtain ⟨v, z⟩ := hcell x m
      rw [e] at z
      exact n _ (Option.some.inj z)
    have ncode : ∀ {x : Addr} {q : Str}, H1 x = some (CodeO x q) → x ∉ cs := fun {x q} e => by
      obtain ⟨⟨oc, vs, t, z1, z2, _⟩, _⟩ := e0.hok x _ e
      exact ncell z1 fun v z => by rw [z2] at z; cases z
    have fcs : f ∉ cs := ncell hfo fun v z => by cases z
    have e0d : Env0 P w K mg base A outer' s1 (outC cs H1) := ⟨e0.frames, e0.mod, fun b o e => ⟨(e0.bs b o e).1, by
        by_cases m : b ∈ cs
        · exact outC_in m
        · exact (outC_out m).trans (e0.bs b o e).2⟩, e0.bsz, e0.funs, fun b hb => by
        by_cases m : b ∈ cs
        · exact outC_in m
        · exact (outC_out m).trans (e0.frf b hb), DL.HOk.part e0.hok (fun a o e => (outC_sub e).2) fun a o e n => (outC_out (next e n)).trans e, e0.bare⟩
    have exd : Ex (outC cs G1) (outC cs H1) := fun b o e => (outC_out (outC_sub e).1).trans (gr.gh b o (outC_sub e).2)
    have tb1 := gr.tbo sl.tb
    have tbd : TbO (outC cs G1) (outC cs H1) := ⟨fun p hp => by
        obtain ⟨l, e, t3, t4⟩ := tb1.1 p hp
        exact ⟨l, (outC_out (next e fun φ z => by cases z)).trans e, t3, fun pos cv z => let ⟨c, z1, z2⟩ := t4 pos cv z; ⟨c, z1, (outC_out (ncode (gr.gh _ _ z2))).trans z2⟩⟩, fun p hp => by
        by_cases m : p.1 ∈ cs
        · exact outC_in m
        · exact (outC_out m).trans (tb1.2 p hp)⟩
    have hsd : Ats (outC cs G1) vs ds := Ats.part (fun a o e n => (outC_out (next (gr.gh _ _ e) n)).trans e) hs hpl
    have frnd : (Tb.lam i).free.Nodup := by
      have q : (ps ++ (Tb.lam i).free).Nodup := by
        rw [← S.pre]
        (exact S.nd.sublist (List.take_sublist _ _))
      exact (List.nodup_append.mp q).2.1
    have C : NdefX.CellsAt ((Tb.lam i).free.zip cs) (Tb.lam i).free (vs.map some) s1.heap (outC cs H1) := by
      refine ⟨by rw [List.length_map, hs.length, hdl], fun y c e => ?_, fun x y c e1 e2 => ?_, fun j y e => ?_⟩
      · obtain ⟨j, z1, z2⟩ := zip_ix e
        have m := List.mem_of_getElem? z2
        obtain ⟨v, z⟩ := hcell c m
        obtain ⟨u, z3, _⟩ := isCell z
        exact ⟨outC_in m, _, z3⟩
      · obtain ⟨j1, z1, z2⟩ := zip_ix e1
        obtain ⟨j2, z3, z4⟩ := zip_ix e2
        rw [nodup_ix hn z2 z4, z3] at z1
        exact (Option.some.inj z1).symm
      · have lj : j < cs.length := by
          rw [hl]
          rcases Nat.lt_or_ge j (Tb.lam i).free.length with z | z
          · exact z
          · rw [List.getElem?_eq_none z] at e
            cases e
        obtain ⟨c, hcj⟩ : ∃ c, cs[j]? = some c := ⟨_, List.getElem?_eq_getElem lj⟩
        refine ⟨c, zip_at frnd e hcj, fun v hv => ?_⟩
        obtain ⟨v', z1, z2⟩ := hcs j c hcj
        rw [List.getElem?_map, z1] at hv
        cases hv
        obtain ⟨u, z3, z4⟩ := isCell (gr.gh _ _ z2)
        exact ⟨u, z4, z3⟩
    have hDd : DfO (outC cs H1) (Tb.lam i).dfl dV := by
      cases hq : (Tb.lam i).dfl with
      | nil =>
        rw [hq] at hD
        exact hD
      | cons v vs' =>
        rw [hq] at hD
        obtain ⟨T, z1, z2⟩ := hD
        have z3 := gr.gh _ _ z2
        exact ⟨T, z1, (outC_out (next z3 fun φ z => by cases z)).trans z3⟩
    obtain ⟨us, rv, hb⟩ := CB.bnd s1 (outC cs H1) dV ((Tb.lam i).free.zip cs) c' e0d.hok hDd
    refine codeAny_mono (lam_runC (L := Tb.lam i) (E := fun c d H' => (∀ b ∈ cs, H' b = none) → E c d (inC cs H1 H')) (Q := fun _ _ => False) S e0d hr ((outC_out fcs).trans (gr.gh _ _ h)) ((outC_out (ncode (gr.gh _ _ hc))).trans (gr.gh _ _ hc)) C CB.len rv hb (fun hr2 => hbody A outer' s1 (outC cs H1) _ f c' _ hr2) ?_) fun o t z => ?_
    · refine ⟨outC cs G1, exd, slotsC tbd (hpd _) hsd, fun xd vs' G' H' st hx hx2 at2 non => ?_⟩
      have nxd : xd ∉ cs := fun m => by rw [non xd m] at hx2; cases hx2
      have nM : ∀ a : Addr, ¬ Mine (NdefX.startF N pv (vs.map some)) (rhoC N pd ds) a := fun a => rhoC_no
      have nG : ∀ {b : Addr} {o : HO}, G' b = some o → b ∉ cs := fun {b o} e m => by
        have := st.gh _ _ e
        rw [non b m] at this
        cases this
      have grow : Grow G1 H1 (inC cs G1 G') (inC cs H1 H') := by
        refine ⟨fun b o e => ?_, fun b o e => ?_, fun b hb => ?_, fun b o e n => ?_, fun b hb => ?_, fun _ p hp => ?_⟩
        · by_cases m : b ∈ cs
          · exact (inC_in m).trans e
          · exact (inC_out m).trans (st.g b o ((outC_out m).trans e))
        · by_cases m : b ∈ cs
          · exact (inC_in m).trans (gr.gh b o ((inC_in m).symm.trans e))
          · exact (inC_out m).trans (st.gh b o ((inC_out m).symm.trans e))
        · by_cases m : b ∈ cs
          · exact inC_in m
          · exact (inC_out m).trans ((st.nw b (by rw [outC_out m]; exact hb) (nM b)).trans (outC_out m))
        · by_cases m : b ∈ cs
          · exact (inC_in m).trans e
          · exact (inC_out m).trans (st.kp b o ((outC_out m).trans e) n (nM b))
        · by_cases m : b ∈ cs
          · rw [inC_in m]
            exact hb
          · rw [inC_out m]
            exact st.al b (by rw [outC_out m]; exact hb)
        · obtain ⟨l, e, t3, t4⟩ := st.sl.tb.1 p hp
          have out : ∀ {b : Addr} {o : HO}, H' b = some o → b ∉ cs := fun {b o} e m => by rw [non b m] at e; cases e
          exact ⟨l, (inC_out (out e)).trans e, t3, fun pos cv z => let ⟨c, z1, z2⟩ := t4 pos cv z; ⟨c, z1, (inC_out (nG z2)).trans z2⟩⟩
      refine kq xd vs' _ _ (grow.step (sl.grow gr)) ?_ ((inC_out nxd).trans hx2) (at2.ex fun b o e => (inC_out (nG e)).trans e)
      exact (outC_out nxd).symm.trans hx
    · cases o with
      | error e =>
        have nfr : ∀ c ∈ cs, c ∉ frs outer' := fun c m y => by
          obtain ⟨v, y2⟩ := hcell c m
          rw [e0.frf c y] at y2
          cases y2
        exact back_CX hcell e0.hok nfr z
      | ok fl =>
        cases fl with
        | ret u =>
          obtain ⟨_, _, _, _, _, _, _, z⟩ := z
          exact z.elim
        | next => exact False.elim z
        | brk => exact False.elim z
        | cont => exact False.elim z
end
end DL

end
section
set_option maxHeartbeats 4000001
/-! DL26: lambdas as data; their cells kept when their maker's frame ends. -/
namespace DL
open PySem PySem.Spec
open PyProof.Rows L2 LamX
open Evl (Ex)
section
variable [Tb]
variable {X : Cx} {ρ : Rho} {params : Arguments} {body : Expr} {scope : Scope} {pos : Pos} {free : List Str} {c P : Addr}
theorem pd_mk0 (i : Nat) (TB : TabB X.base X.mg c P) (hcode : X.env.code = .ref c) (hm : (P, X.env.qual ++ "<lambda>") ∈ Tb.T) (hu : ∀ p ∈ Tb.T, p.1 = P → p.2 = X.env.qual ++ "<lambda>") (hl : Tb.lam i = ⟨X.env.qual ++ "<lambda>", params, body, scope, free, []⟩)
    (hfree : ∀ y ∈ scope.names, y.2 = .free → X.env.scope.names.lookup y.1 = some .cell ∨ X.env.scope.names.lookup y.1 = some .free) (hd : defaultsOf params X.env = ([], []) := by rfl) : PD X (.Lambda params body scope pos) ρ (.mk i (cloFrom X.env.cells scope.names [])) ρ :=
  pe_weak (pe_lam0 (free := free) TB hcode hm hu hfree hd) fun σ H Q ⟨G, e, s, k⟩ => ⟨G, e, s.tb, fun f c' dV G1 H1 gr f0 f1 c1 hD => k _ G1 H1 (gr.step s) (.mk (dV := dV) (c' := c') (by rw [hl]; exact f1) (by rw [hl]; exact hD) (by rw [hl]; exact c1))⟩
theorem pd_mk1 {d : Expr} {v : V} (i : Nat) (TB : TabB X.base X.mg c P) (hcode : X.env.code = .ref c) (hm : (P, X.env.qual ++ "<lambda>") ∈ Tb.T) (hu : ∀ p ∈ Tb.T, p.1 = P → p.2 = X.env.qual ++ "<lambda>") (hl : Tb.lam i = ⟨X.env.qual ++ "<lambda>", params, body, scope, free, [v]⟩)
    (hfree : ∀ y ∈ scope.names, y.2 = .free → X.env.scope.names.lookup y.1 = some .cell ∨ X.env.scope.names.lookup y.1 = some .free) (hv : PE X d (tC v)) (hd : defaultsOf params X.env = ([eval d X.env], []) := by rfl) : PD X (.Lambda params body scope pos) ρ (.mk i (cloFrom X.env.cells scope.names [])) ρ :=
  pe_weak (pe_lam1 (free := free) TB hcode hm hu hfree hv hd) fun σ H Q ⟨G, e, s, k⟩ => ⟨G, e, s.tb, fun f c' dV G1 H1 gr f0 f1 c1 hD => k _ G1 H1 (gr.step s) (.mk (dV := dV) (c' := c') (by rw [hl]; exact f1) (by rw [hl]; exact hD) (by rw [hl]; exact c1))⟩
/-- its cells are tracked from now on -/
theorem At.fnOf {G : Hp} {v : V} {i : Nat} {cl : List (Str × Addr)} {cs : List Addr} {vs : List V} {ds : List D} (h : At G v (.mk i cl)) (hcl : cl = (Tb.lam i).free.zip cs) (hl : cs.length = (Tb.lam i).free.length) (hn : cs.Nodup) (hcs : ∀ (j : Nat) (c : Addr), cs[j]? = some c → ∃ v, vs[j]? = some v ∧ G c = some (CellO c v)) (hs : Ats G vs ds) : At G v (.fn i ds) := by
  cases h with
  | mk h hD hc =>
    rw [hcl] at h
    exact .fn h hD hc hl hn hcs hs
end
section
variable {P : Program} {w : World} {H : Hp} {h : Heap} {c : Addr} {v : V} {u : Value}
theorem cellO_ok (hc : h.IsCell c (some u)) (r : RelV v u) : ObjOk P w H h c (CellO c v) := by
  obtain ⟨o, z1, z2⟩ := hc
  exact ⟨⟨u, ⟨o, z1, z2⟩, r⟩, ⟨o, z1⟩, fun h1 h2 ⟨u, ⟨o, z1, z2⟩, r⟩ k => ⟨u, ⟨o, k _ z1, z2⟩, r⟩⟩
theorem HOk.cell (x : HOk P w H h) (hc : h.IsCell c (some u)) (r : RelV v u) (hn : H c = none) : HOk P w (upd H c (CellO c v)) h := fun b o e => by
  by_cases q : b = c
  · rw [q, upd_same] at e
    cases e
    rw [q]
    exact cellO_ok hc r
  · rw [upd_ne q] at e
    exact objOk_keep (fun a o' z _ => Evl.Ex.new hn a o' z) o b (x b o e)
theorem Un.cell {fs : List Addr} {H0 : Hp} {h0 : Heap} {o : HO} (x : Un fs [] H0 H h0 h) (hs : h0.objs.size ≤ c) (hn : H c = none) : Un fs [] H0 (upd H c o) h0 h :=
  ⟨x.keep, x.slot, fun b o' e n m => (upd_ne (fun z => by rw [z] at e; exact absurd (Heap.lt_size e) (Nat.not_lt.mpr hs))).trans (x.free b o' e n m), x.there, fun b xs e => (upd_ne (ne_of_none (x.tups b xs e) hn)).trans (x.tups b xs e), fun b o' xs e => (upd_ne (ne_of_none (x.frzs b o' xs e) hn)).trans (x.frzs b o' xs e), fun b ps e => by
    obtain ⟨more, z⟩ := x.tbls b ps e
    exact ⟨more, (upd_ne (ne_of_none z hn)).trans z⟩⟩
end
end DL

end
section
set_option maxHeartbeats 4000001
/-! K21: all calls of a value that is a list of tasks, or none. -/
namespace K20
open PySem PySem.Spec
open PyProof.Rows L2 DL LamX
open Evl (Ex)
abbrev nO : Str := "odd"
abbrev nR : Str := "order"
def lamsE : Expr → List Expr
  | .List es _ => es
  | .BinOp _ _ (.List es _) _ => es
  | _ => []
def lamsS : Stmt → List Expr
  | .Assign _ e _ => lamsE e
  | .Return (some e) _ => lamsE e
  | _ => []
/-- a lambda of the maker x, as it is made -/
def lamOfE (x : Str) : Expr → LamD
  | .Lambda ps b sc _ => ⟨x ++ ".<locals>." ++ "<lambda>", ps, b, sc, ((sc.names.filter fun y => decide (y.2 = .free)).map (·.1)).reverse, if ps.defaults.isEmpty then [] else [.int 0]⟩
  | e => ⟨x, (defArgs (top 106)), e, defScope (top 106), [], []⟩
def askE : List Expr := (defBody (top 106)).flatMap lamsS
def askL (i : Nat) : LamD := lamOfE "_law_sched_asks" (askE.getD i (.Constant .none 0 ⟨0, 0, 0, 0⟩))
def dsOf (i : Nat) (d0 d1 : D) : List D := if (askL i).free.length = 2 then [d1, d0] else [d0]
def mks (cells : List (Str × Addr)) : List D := (List.range 16).map fun i => .mk i (cloFrom cells (askL i).scope.names [])
def fns (d0 d1 : D) : List D := (List.range 16).map fun i => .fn i (dsOf i d0 d1)
theorem ask_clo (cells : List (Str × Addr)) {i : Nat} (h : i < 16) : ((askL i).free = [nO] ∧ cloFrom cells (askL i).scope.names [] = [(nO, (cells.lookup nO).getD 0)] ∧ ∀ d0 d1, dsOf i d0 d1 = [d0]) ∨
    ((askL i).free = [nR, nO] ∧ cloFrom cells (askL i).scope.names [] = [(nR, (cells.lookup nR).getD 0), (nO, (cells.lookup nO).getD 0)] ∧ ∀ d0 d1, dsOf i d0 d1 = [d1, d0]) := by
  match i, h with
  | 0, _ => exact .inl ⟨rfl, rfl, fun _ _ => rfl⟩
  | 1, _ => exact .inl ⟨rfl, rfl, fun _ _ => rfl⟩
  | 2, _ => exact .inr ⟨rfl, rfl, fun _ _ => rfl⟩
  | 3, _ => exact .inr ⟨rfl, rfl, fun _ _ => rfl⟩
  | 4, _ => exact .inr ⟨rfl, rfl, fun _ _ => rfl⟩
  | 5, _ => exact .inr ⟨rfl, rfl, fun _ _ => rfl⟩
  | 6, _ => exact .inl ⟨rfl, rfl, fun _ _ => rfl⟩
  | 7, _ => exact .inl ⟨rfl, rfl, fun _ _ => rfl⟩
  | 8, _ => exact .inl ⟨rfl, rfl, fun _ _ => rfl⟩
  | 9, _ => exact .inl ⟨rfl, rfl, fun _ _ => rfl⟩
  | 10, _ => exact .inl ⟨rfl, rfl, fun _ _ => rfl⟩
  | 11, _ => exact .inr ⟨rfl, rfl, fun _ _ => rfl⟩
  | 12, _ => exact .inl ⟨rfl, rfl, fun _ _ => rfl⟩
  | 13, _ => exact .inl ⟨rfl, rfl, fun _ _ => rfl⟩
  | 14, _ => exact .inl ⟨rfl, rfl, fun _ _ => rfl⟩
  | 15, _ => exact .inl ⟨rfl, rfl, fun _ _ => rfl⟩
  | i + 16, h => exact absurd h (by omega)
section
variable [Tb]
theorem mks_fns {G : Hp} {cells : List (Str × Addr)} {c0 c1 : Addr} {v0 v1 : V} {d0 d1 : D} (hL : ∀ i < 16, Tb.lam i = askL i) (e0 : cells.lookup nO = some c0) (e1 : cells.lookup nR = some c1) (ne : c1 ≠ c0) (g0 : G c0 = some (CellO c0 v0)) (g1 : G c1 = some (CellO c1 v1)) (a0 : At G v0 d0) (a1 : At G v1 d1) :
    ∀ {is : List Nat} {vs : List V}, (∀ i ∈ is, i < 16) → Ats G vs (is.map fun i => .mk i (cloFrom cells (askL i).scope.names [])) → Ats G vs (is.map fun i => .fn i (dsOf i d0 d1))
  | [], _, _, .nil => .nil
  | i :: is, _, hi, .cons h hs => by
    refine .cons ?_ (mks_fns hL e0 e1 ne g0 g1 a0 a1 (fun j m => hi j (List.mem_cons_of_mem _ m)) hs)
    have li := hi i List.mem_cons_self
    have hl := hL i li
    rcases ask_clo cells li with ⟨z1, z2, z3⟩ | ⟨z1, z2, z3⟩
    · have h : At G _ (.mk i (cloFrom cells (askL i).scope.names [])) := h
      rw [z2, e0] at h
      show At G _ (.fn i (dsOf i d0 d1))
      rw [z3]
      refine h.fnOf (cs := [c0]) (vs := [v0]) (by rw [hl, z1]; rfl) (by rw [hl, z1]; rfl) (by simp) (fun j c e => ?_) (.cons a0 .nil)
      match j, e with
      | 0, e =>
        cases e
        exact ⟨v0, rfl, g0⟩
      | j + 1, e => cases e
    · have h : At G _ (.mk i (cloFrom cells (askL i).scope.names [])) := h
      rw [z2, e0, e1] at h
      show At G _ (.fn i (dsOf i d0 d1))
      rw [z3]
      refine h.fnOf (cs := [c1, c0]) (vs := [v1, v0]) (by rw [hl, z1]; rfl) (by rw [hl, z1]; rfl) (by simp [ne]) (fun j c e => ?_) (.cons a1 (.cons a0 .nil))
      match j, e with
      | 0, e =>
        cases e
        exact ⟨v1, rfl, g1⟩
      | 1, e =>
        cases e
        exact ⟨v0, rfl, g0⟩
      | j + 2, e => cases e
/-- one statement, then the others -/
theorem hs_step {X : Cx} {W : WX} {ow : Bool} {st : Stmt} {rest : List Stmt} {ρ ρ1 : Rho} {σ : L2.St} {H : Hp} {s : Shared} {w : Option Addr} {Ge He G : Hp} {Q : Flow → Shared → Prop} (h : HS X W ow st ρ { nx := fun r => r = ρ1 }) (I : Inv X [] σ H s) (hw : w.isSome = ow) (n : Now w Ge He G H σ ρ)
    (k : ∀ σ' G' H' s', Inv X [] σ' H' s' → Now w Ge He G' H' σ' ρ1 → wpAny (model X.prog X.w) X.A (execs rest X.env) Q X.xe s') : wpAny (model X.prog X.w) X.A (execs (st :: rest) X.env) Q X.xe s := by
  refine wpAny_execs_cons (thn (h.run [] s σ H { nx := fun σ' H' => ∃ G', Now w Ge He G' H' σ' ρ1, rt := fun _ _ => False } I ⟨w, Ge, He, G, hw, n, fun σ' G' H' ρ' n' _ e => ⟨G', e ▸ n'⟩, fun _ _ _ _ _ _ _ _ _ z => z.elim, fun _ _ _ _ _ _ z => z.elim, fun _ _ _ _ _ _ z => z.elim, fun _ _ _ _ _ _ _ _ _ _ _ _ _ z => z.elim⟩) fun fl s' z => ?_)
  cases fl with
  | next =>
    obtain ⟨σ', H', I', G', n'⟩ := z
    exact k σ' G' H' s' I' n'
  | ret u =>
    obtain ⟨_, _, _, _, _, z⟩ := z
    exact z.elim
  | brk =>
    obtain ⟨_, _, _, z⟩ := z
    exact z.elim
  | cont =>
    obtain ⟨_, _, _, z⟩ := z
    exact z.elim
def nA : List Str := ["odd", "order", "some"]
theorem sc_asks : FnScope nA ["odd", "order"] (defScope (top 106)) := ⟨rfl, rfl, rfl, by decide +kernel, rfl, by decide +kernel, by decide +kernel⟩
variable {P : Program} {w : World} {K : PySem.W.Frag} {mg : Str → Option Value} {base : Heap} {f g : Addr} {fd : FuncData}
abbrev noE : Expr := .Constant .none 0 ⟨0, 0, 0, 0⟩
theorem ask_free : ∀ i < 16, ∀ y ∈ (askL i).scope.names, y.2 = .free → (defScope (top 106)).names.lookup y.1 = some .cell ∨ (defScope (top 106)).names.lookup y.1 = some .free := by decide +kernel
theorem pd_ask {c PT : Addr} (F : FnT K mg base "_law_sched_asks" (top 106) f c PT fd) (hL : ∀ i < 16, Tb.lam i = askL i) {A : Around} {outer : List Env} {s : Shared} {H : Hp} {E : XK} {ρ : Rho} {i : Nat} (h : i < 16) :
    PD (cxOf (L2.CX P w) P w K mg base nA "_law_sched_asks" (defScope (top 106)) f (.ref c) A outer s H E) (askE.getD i noE) ρ (.mk i (cloFrom (cellsFrom (s.heap.objs.size + 1) (defScope (top 106)).names []) (askL i).scope.names [])) ρ := by
  match i, h with
  | 0, _ => exact pd_mk0 0 F.tb rfl F.tm F.tu (hL 0 (by decide)) (ask_free 0 (by decide))
  | 1, _ => exact pd_mk1 (v := .int 0) 1 F.tb rfl F.tm F.tu (hL 1 (by decide)) (ask_free 1 (by decide)) pe_int
  | 2, _ => exact pd_mk1 (v := .int 0) 2 F.tb rfl F.tm F.tu (hL 2 (by decide)) (ask_free 2 (by decide)) pe_int
  | 3, _ => exact pd_mk1 (v := .int 0) 3 F.tb rfl F.tm F.tu (hL 3 (by decide)) (ask_free 3 (by decide)) pe_int
  | 4, _ => exact pd_mk0 4 F.tb rfl F.tm F.tu (hL 4 (by decide)) (ask_free 4 (by decide))
  | 5, _ => exact pd_mk1 (v := .int 0) 5 F.tb rfl F.tm F.tu (hL 5 (by decide)) (ask_free 5 (by decide)) pe_int
  | 6, _ => exact pd_mk1 (v := .int 0) 6 F.tb rfl F.tm F.tu (hL 6 (by decide)) (ask_free 6 (by decide)) pe_int
  | 7, _ => exact pd_mk1 (v := .int 0) 7 F.tb rfl F.tm F.tu (hL 7 (by decide)) (ask_free 7 (by decide)) pe_int
  | 8, _ => exact pd_mk0 8 F.tb rfl F.tm F.tu (hL 8 (by decide)) (ask_free 8 (by decide))
  | 9, _ => exact pd_mk1 (v := .int 0) 9 F.tb rfl F.tm F.tu (hL 9 (by decide)) (ask_free 9 (by decide)) pe_int
  | 10, _ => exact pd_mk1 (v := .int 0) 10 F.tb rfl F.tm F.tu (hL 10 (by decide)) (ask_free 10 (by decide)) pe_int
  | 11, _ => exact pd_mk1 (v := .int 0) 11 F.tb rfl F.tm F.tu (hL 11 (by decide)) (ask_free 11 (by decide)) pe_int
  | 12, _ => exact pd_mk0 12 F.tb rfl F.tm F.tu (hL 12 (by decide)) (ask_free 12 (by decide))
  | 13, _ => exact pd_mk1 (v := .int 0) 13 F.tb rfl F.tm F.tu (hL 13 (by decide)) (ask_free 13 (by decide)) pe_int
  | 14, _ => exact pd_mk1 (v := .int 0) 14 F.tb rfl F.tm F.tu (hL 14 (by decide)) (ask_free 14 (by decide)) pe_int
  | 15, _ => exact pd_mk0 15 F.tb rfl F.tm F.tu (hL 15 (by decide)) (ask_free 15 (by decide))
  | i + 16, h => exact absurd h (by omega)
theorem asks_0 {c PT : Addr} (F : FnT K mg base "_law_sched_asks" (top 106) f c PT fd) (hL : ∀ i < 16, Tb.lam i = askL i) {A : Around} {outer : List Env} {s : Shared} {H : Hp} {E : XK} {d0 d1 : D} : HS (cxOf (L2.CX P w) P w K mg base nA "_law_sched_asks" (defScope (top 106)) f (.ref c) A outer s H E) (fun cls xd _ H' => E cls xd H') false ((defBody (top 106)).getD 0 (.Pass ⟨0, 0, 0, 0⟩)) (Gen [d0, d1] nA) { nx := fun r => r = [some (.d d0), some (.d d1), some (.d (.lst ((mks (cellsFrom (s.heap.objs.size + 1) (defScope (top 106)).names [])).take 4)))] } :=
  hs_set 2 (pd_lst (pad_cons (pd_ask F hL (i := 0) (by decide)) (pad_cons (pd_ask F hL (i := 1) (by decide)) (pad_cons (pd_ask F hL (i := 2) (by decide)) (pad_one (pd_ask F hL (i := 3) (by decide)))))) (by show 4 ≤ 100000; decide)) rfl sc_asks.nd
theorem asks_1 {c PT : Addr} (F : FnT K mg base "_law_sched_asks" (top 106) f c PT fd) (hL : ∀ i < 16, Tb.lam i = askL i) {A : Around} {outer : List Env} {s : Shared} {H : Hp} {E : XK} {d0 d1 : D} : HS (cxOf (L2.CX P w) P w K mg base nA "_law_sched_asks" (defScope (top 106)) f (.ref c) A outer s H E) (fun cls xd _ H' => E cls xd H') false ((defBody (top 106)).getD 1 (.Pass ⟨0, 0, 0, 0⟩)) [some (.d d0), some (.d d1), some (.d (.lst ((mks (cellsFrom (s.heap.objs.size + 1) (defScope (top 106)).names [])).take 4)))] { nx := fun r => r = [some (.d d0), some (.d d1), some (.d (.lst ((mks (cellsFrom (s.heap.objs.size + 1) (defScope (top 106)).names [])).take 8)))] } :=
  hs_set 2 (pd_frz (pso_cat (pd_name 2) (pd_lst (pad_cons (pd_ask F hL (i := 4) (by decide)) (pad_cons (pd_ask F hL (i := 5) (by decide)) (pad_cons (pd_ask F hL (i := 6) (by decide)) (pad_one (pd_ask F hL (i := 7) (by decide)))))) (by show 4 ≤ 100000; decide)) (by show 4 + 4 ≤ 100000; decide))) rfl sc_asks.nd
theorem asks_2 {c PT : Addr} (F : FnT K mg base "_law_sched_asks" (top 106) f c PT fd) (hL : ∀ i < 16, Tb.lam i = askL i) {A : Around} {outer : List Env} {s : Shared} {H : Hp} {E : XK} {d0 d1 : D} : HS (cxOf (L2.CX P w) P w K mg base nA "_law_sched_asks" (defScope (top 106)) f (.ref c) A outer s H E) (fun cls xd _ H' => E cls xd H') false ((defBody (top 106)).getD 2 (.Pass ⟨0, 0, 0, 0⟩)) [some (.d d0), some (.d d1), some (.d (.lst ((mks (cellsFrom (s.heap.objs.size + 1) (defScope (top 106)).names [])).take 8)))] { nx := fun r => r = [some (.d d0), some (.d d1), some (.d (.lst ((mks (cellsFrom (s.heap.objs.size + 1) (defScope (top 106)).names [])).take 12)))] } :=
  hs_set 2 (pd_frz (pso_cat (pd_name 2) (pd_lst (pad_cons (pd_ask F hL (i := 8) (by decide)) (pad_cons (pd_ask F hL (i := 9) (by decide)) (pad_cons (pd_ask F hL (i := 10) (by decide)) (pad_one (pd_ask F hL (i := 11) (by decide)))))) (by show 4 ≤ 100000; decide)) (by show 8 + 4 ≤ 100000; decide))) rfl sc_asks.nd
theorem asks_3 {c PT : Addr} (F : FnT K mg base "_law_sched_asks" (top 106) f c PT fd) (hL : ∀ i < 16, Tb.lam i = askL i) {A : Around} {outer : List Env} {s : Shared} {H : Hp} {E : XK} {d0 d1 : D} : HS (cxOf (L2.CX P w) P w K mg base nA "_law_sched_asks" (defScope (top 106)) f (.ref c) A outer s H E) (fun cls xd _ H' => E cls xd H') false ((defBody (top 106)).getD 3 (.Pass ⟨0, 0, 0, 0⟩)) [some (.d d0), some (.d d1), some (.d (.lst ((mks (cellsFrom (s.heap.objs.size + 1) (defScope (top 106)).names [])).take 12)))] { nx := fun r => r = [some (.d d0), some (.d d1), some (.d (.lst ((mks (cellsFrom (s.heap.objs.size + 1) (defScope (top 106)).names [])).take 15)))] } :=
  hs_set 2 (pd_frz (pso_cat (pd_name 2) (pd_lst (pad_cons (pd_ask F hL (i := 12) (by decide)) (pad_cons (pd_ask F hL (i := 13) (by decide)) (pad_one (pd_ask F hL (i := 14) (by decide))))) (by show 3 ≤ 100000; decide)) (by show 12 + 3 ≤ 100000; decide))) rfl sc_asks.nd
def retE : Stmt → Expr
  | .Return (some e) _ => e
  | _ => noE
theorem asks_4 {c PT : Addr} (F : FnT K mg base "_law_sched_asks" (top 106) f c PT fd) (hL : ∀ i < 16, Tb.lam i = askL i) {A : Around} {outer : List Env} {s : Shared} {H : Hp} {E : XK} {d0 d1 : D} : PD (cxOf (L2.CX P w) P w K mg base nA "_law_sched_asks" (defScope (top 106)) f (.ref c) A outer s H E) (retE ((defBody (top 106)).getD 4 (.Pass ⟨0, 0, 0, 0⟩))) [some (.d d0), some (.d d1), some (.d (.lst ((mks (cellsFrom (s.heap.objs.size + 1) (defScope (top 106)).names [])).take 15)))] (.lst (mks (cellsFrom (s.heap.objs.size + 1) (defScope (top 106)).names []))) [some (.d d0), some (.d d1), some (.d (.lst ((mks (cellsFrom (s.heap.objs.size + 1) (defScope (top 106)).names [])).take 15)))] :=
  PD.is (pd_frz (pso_cat (pd_name (d := .lst ((mks (cellsFrom (s.heap.objs.size + 1) (defScope (top 106)).names [])).take 15)) 2) (pd_lst (pad_one (pd_ask F hL (i := 15) (by decide))) (by show 1 ≤ 100000; decide)) (by show 15 + 1 ≤ 100000; decide))) rfl
def g_asks (ds : List D) (r : D) : Prop := ∃ d0 d1, ds = [d0, d1] ∧ r = .lst (fns d0 d1)
theorem ok_asks {c PT : Addr} (F : FnT K mg base "_law_sched_asks" (top 106) f c PT fd) (hL : ∀ i < 16, Tb.lam i = askL i) : FnOk P w K mg base (L2.CX P w) 2 f fd ["odd", "order"] (spD 2 g_asks NoX) := by
  obtain ⟨oc, dV, kV, doc, pm, ct, od, an, osl, rfl, lk⟩ := F.fn
  refine ⟨fun vs H Q E z => ?_, fun A outer s H args us vs Q E hr e0 hb rv hsp => ?_⟩
  · obtain ⟨G, ds, _, _, a, hl, _⟩ := z
    exact a.length.trans hl
  obtain ⟨G, ds, tb, eg, at_, hl, hh⟩ := hsp
  obtain ⟨d0, d1, rfl, hq⟩ : ∃ d0 d1, ds = [d0, d1] ∧ ∀ v G' H', Grow G H G' H' → At G' v (.lst (fns d0 d1)) → Q v H' := by
    rcases hh with ⟨r, ⟨d0, d1, e1, e2⟩, k⟩ | ⟨_, _, z, _⟩
    · subst e2
      exact ⟨d0, d1, e1, k⟩
    · exact z.elim
  refine run_ofE lk F.cd sc_asks hr e0 hb rv (at_.length.trans hl) fun t hr' I => ?_
  have now : Now none G H G H (L2.start nA vs) (Gen [d0, d1] nA) := by
    have sl := Slots.entry (N := nA) tb at_
    refine ⟨⟨Ex.refl G, eg, fun _ _ _ => rfl, fun _ _ h _ _ => h, fun _ h => h⟩, sl, fun x m => ?_, fun _ z => by cases z⟩
    obtain ⟨i, s, q1, q2, q3⟩ := m
    match i, q1 with
    | 0, q1 =>
      cases q1
      cases q2
    | 1, q1 =>
      cases q1
      cases q2
    | 2, q1 => cases q1
    | i + 3, q1 => cases q1
  refine hs_step (asks_0 F hL) I rfl now fun σ0 G0 H0 s0 I0 n0 => ?_
  refine hs_step (asks_1 F hL) I0 rfl n0 fun σ1 G1 H1 s1 I1 n1 => ?_
  refine hs_step (asks_2 F hL) I1 rfl n1 fun σ2 G2 H2 s2 I2 n2 => ?_
  refine hs_step (asks_3 F hL) I2 rfl n2 fun σ3 G3 H3 s3 I3 n3 => ?_
  refine wpAny_execs_cons (wpAny_Return_some (thn ((asks_4 F hL (d0 := d0) (d1 := d1)).run [] s3 σ3 H3 (fun v H' => ∃ G', Step σ3 [some (.d d0), some (.d d1), some (.d (.lst ((mks (cellsFrom (s.heap.objs.size + 1) (defScope (top 106)).names [])).take 15)))] [some (.d d0), some (.d d1), some (.d (.lst ((mks (cellsFrom (s.heap.objs.size + 1) (defScope (top 106)).names [])).take 15)))] G3 H3 G' H' ∧ At G' v (.lst (mks (cellsFrom (s.heap.objs.size + 1) (defScope (top 106)).names [])))) I3 ⟨G3, n3.gh, n3.sl, fun v G' H' st a => ⟨G', st, a⟩⟩) fun u s4 ⟨v, H4, I4, rvu, G4, st4, a4⟩ => ?_))
  have grow : Grow G H G3 H3 := ⟨n3.g, n3.gh, fun a h => n3.nw a h fun z => (by cases z), fun a o h t => n3.kp a o h t fun z => (by cases z), n3.al, fun _ => n3.sl.tb.1⟩
  have noM : ∀ a : Addr, ¬ Mine σ3 [some (.d d0), some (.d d1), some (.d (.lst ((mks (cellsFrom (s.heap.objs.size + 1) (defScope (top 106)).names [])).take 15)))] a := fun a ⟨i, t, e1, e2, _⟩ => by
    match i, e1 with
    | 0, e1 =>
      cases e1
      cases e2
    | 1, e1 =>
      cases e1
      cases e2
    | 2, e1 =>
      cases e1
      cases e2
    | i + 3, e1 => cases e1
  have grow4 : Grow G H G4 H4 := grow.trans ⟨st4.g, st4.gh, fun a h => st4.nw a h (noM a), fun a o h t => st4.kp a o h t (noM a), st4.al, fun _ => st4.sl.tb.1⟩
  obtain ⟨v0, h0, a0⟩ : ∃ v0, σ3[0]? = some (some v0) ∧ At G4 v0 d0 := by
    obtain ⟨v, z1, z2⟩ := st4.sl.at_ 0 (.d d0) rfl
    cases z2 with
    | d z2 => exact ⟨v, z1, z2⟩
  obtain ⟨v1, h1, a1⟩ : ∃ v1, σ3[1]? = some (some v1) ∧ At G4 v1 d1 := by
    obtain ⟨v, z1, z2⟩ := st4.sl.at_ 1 (.d d1) rfl
    cases z2 with
    | d z2 => exact ⟨v, z1, z2⟩
  obtain ⟨m, _, hlook⟩ := I4.loc
  obtain ⟨u0, r0, q0⟩ := hlook 0 nO v0 rfl h0 (.inr (.inl rfl))
  obtain ⟨u1, r1, q1⟩ := hlook 1 nR v1 rfl h1 (.inr (.inl rfl))
  obtain ⟨c0, e0c, cell0⟩ : ∃ c, (cellsFrom (s.heap.objs.size + 1) (defScope (top 106)).names []).lookup nO = some c ∧ s4.heap.IsCell c (some u0) := by
    rcases q0 with ⟨z, _⟩ | ⟨_, c, z1, z2⟩
    · exact absurd (show (defScope (top 106)).names.lookup nO = some .local from z) (by decide +kernel)
    · exact ⟨c, z1, z2⟩
  obtain ⟨c1, e1c, cell1⟩ : ∃ c, (cellsFrom (s.heap.objs.size + 1) (defScope (top 106)).names []).lookup nR = some c ∧ s4.heap.IsCell c (some u1) := by
    rcases q1 with ⟨z, _⟩ | ⟨_, c, z1, z2⟩
    · exact absurd (show (defScope (top 106)).names.lookup nR = some .local from z) (by decide +kernel)
    · exact ⟨c, z1, z2⟩
  have ne : c1 ≠ c0 := fun z => absurd (I4.ok.inj nR nO c0 (by rw [← z]; exact e1c) e0c) (by decide)
  have f0 := I4.freeC nO c0 e0c
  have f1 := I4.freeC nR c1 e1c
  have b0 : s.heap.objs.size ≤ c0 := I4.ok.cab nO c0 rfl e0c
  have b1 : s.heap.objs.size ≤ c1 := I4.ok.cab nR c1 rfl e1c
  have g5 := Grow.new (o := CellO c0 v0) grow4.gh f0
  have f1' : upd H4 c0 (CellO c0 v0) c1 = none := (upd_ne ne).trans f1
  have g6 := Grow.new (o := CellO c1 v1) g5.gh f1'
  refine ⟨u, rfl, v, _, I4.os, I4.bare, DL.Un.cell (DL.Un.cell I4.base b0 f0) b1 f1', DL.HOk.cell (DL.HOk.cell I4.hok cell0 r0 f0) cell1 r1 f1', rvu, hq v _ _ ((grow4.trans g5).trans g6) ?_⟩
  have a6 := a4.ex (g5.g.trans g6.g)
  cases a6 with
  | lst hv hs =>
    exact .lst hv (mks_fns hL e0c e1c ne (g6.g _ _ upd_same) upd_same (a0.ex (g5.g.trans g6.g)) (a1.ex (g5.g.trans g6.g)) (fun i m => List.mem_range.mp m) hs)

end
end K20

end
section
set_option maxHeartbeats 4000001
/-! K22: what is heard, asked within a frame. -/
namespace DL
open PySem PySem.Spec
open PyProof.Rows L2 LamX
open Evl (Ex)
section
variable [Tb]
variable {X : Cx} {ρ ρ' : Rho} {pos : Pos} {i k : Nat} {ps : List Str} {pv : List V} {f : Addr} {pins : List (Addr × Obj)} {σ : L2.St} {G H : Hp} {s : Shared} {cls : Value} {fs : List (Str × D)}
theorem pd_dic : PD X (.Dict [] [] pos) ρ .dic ρ := pe_weak pe_dnewK fun σ H Q ⟨G, e, s, k⟩ => fun p hp =>
  have g := Grow.new (o := HO.dK []) e hp
  k (.ref p) _ _ (g.step s) (.dic upd_same)
/-- a lambda whose maker's frame still runs -/
theorem cal_mk (I : Inv X pins σ H s) (sl : Slots G H σ ρ) (hq : (Tb.lam i).qual = X.env.qual ++ "<lambda>") (LQ : LamQ X.env.scope (Tb.lam i).scope X.N ps) (CB : ClosB X.prog X.w (Tb.lam i) ps pv) (at_ : At G (.ref f) (.mk i (cloFrom X.env.cells (Tb.lam i).scope.names [])))
    (hbody : ∀ (A : Around) (outer : List Env) (s1 : Shared) (HZ : Hp) (E : XK) (c' : Addr), Room k (A.deeper (lamEnv X (Tb.lam i).scope s1.heap.objs.size f c')) → PX (lamCx X A outer s1 HZ E (Tb.lam i).scope f c') (fun c d _ H => E c d H) (Tb.lam i).body ρ cls fs ρ') :
    CalD X.prog X.w X.K X.mg X.base (k + 1) f X.stack G H s σ ρ cls fs ρ' := by
  intro A outer' s1 G1 H1 e0 un gr
  have a1 := at_.ex gr.g
  cases a1 with
  | @mk _ c' _ dV cl h hD hc =>
    obtain ⟨pm, ctv, hfo⟩ := lamO_at e0.hok (gr.gh _ _ h)
    refine ⟨⟨_, _, _, _, hfo⟩, fun hr E kq => ?_⟩
    obtain ⟨us, rv, hb⟩ := CB.bnd s1 H1 dV (cloFrom X.env.cells (Tb.lam i).scope.names []) c' e0.hok (hD.ex gr.gh)
    exact lam_runL (Q := fun _ _ => False) (E := E) I hq LQ e0 un hr (gr.gh _ _ h) (gr.gh _ _ hc) hb (fun hr2 => hbody A outer' s1 H1 E c' hr2) ⟨G1, gr.gh, sl.grow gr, fun xd vs' G' H' st hx hx2 at2 => kq xd vs' G' H' st hx hx2 at2⟩
end
end DL
namespace K20
open PySem PySem.Spec
open PyProof.Rows L2 DL LamX
open Evl (Ex)
section
variable [Tb]
variable {X : Cx} {ρ ρ1 ρ' : Rho} {pos p : Pos} {k : Nat} {g : Addr} {fd : FuncData} {CB CM CN CF CH CE : Addr} {cls : Value} {fs : List (Str × D)} {ans d : D} {arg : Expr}
theorem pd_heard (F : FnP X.K "_law_sched_heard" (top 104) g fd) (hm : X.mg "_law_sched_heard" = some (.ref g)) (B : Bn X.mg) (ER : Errs X.K X.mg CB CM CN CF CH CE) (hr : Room (k + 1) X.A) (ea : ErrA CB CM cls fs ans) (ha : PD X arg ρ d ρ1)
    (hc : ∀ v pins σ G H s, Inv X pins σ H s → Slots G H σ ρ1 → Ex G H → At G v d → ∃ f, v = .ref f ∧ CalD X.prog X.w X.K X.mg X.base k f X.stack G H s σ ρ1 cls fs ρ')
    (hg : Gl X "_law_sched_heard" := by rfl) (he : starEach [arg] X.env = (false, eval arg X.env) :: starEach [] X.env := by rfl) (hpl : (backTo pos (starEach [] X.env)).any (·.1) = false := by rfl) : PD X (.Call (.Name "_law_sched_heard" p) [arg] [] pos) ρ ans ρ' := by
  refine ⟨fun pins s σ H Q I ⟨G, eg, sl, q⟩ => ?_⟩
  refine wpAny_Call_Name_kw (ld_glob I hg hm ?_ (by decide))
  refine PySem.W.callWith_K (h₀ := X.base) I.ok.mod.kin F.kp (thn ((pad_one ha he).run pos pins s σ H (fun vs H1 => ∃ v G1, vs = [v] ∧ Step σ ρ ρ1 G H G1 H1 ∧ At G1 v d) I ⟨G, eg, sl, fun vs G1 H1 st a => by
    cases a with
    | cons a r =>
      cases r
      exact ⟨_, G1, rfl, st, a⟩⟩) fun us s1 ⟨vs, H1, I1, r, v, G1, ev, st, a⟩ => ⟨I1.kIn, ?_⟩) he hpl
  subst ev
  obtain ⟨f, ef, cal⟩ := hc v pins σ G1 H1 s1 I1 st.sl st.gh a
  subst ef
  obtain rfl : us = [.ref f] := by
    cases r with
    | cons r rr =>
      cases rr
      exact congrArg (· :: []) r
  refine wpAny_call (codeAny_mono (heard_run (Q := Q) (E := fun _ _ _ => False) F B ER hr I1.env0 st.sl.tb st.gh st.sl cal ea fun v G' H' st2 a2 => q v G' H' (st.trans st2) a2) fun r s' hq => ?_)
  cases r with
  | error e => exact passF pins σ H1 s1 e s' I1 hq
  | ok fl =>
    cases fl with
    | ret u => exact I1.after hq
    | next => exact False.elim hq
    | brk => exact False.elim hq
    | cont => exact False.elim hq
end
end K20

end
section
set_option maxHeartbeats 4000001
/-! K23: what each of the closures raises (printed by gencal.py). -/
namespace K20
open PySem PySem.Spec
open PyProof.Rows L2 DL LamX
open Evl (Ex)
section
variable [Tb]
structure AskF (P : Program) (w : World) (K : PySem.W.Frag) (mg : Str → Option Value) (base : Heap) (CT CB CM : Addr) : Prop where
  round_of : Def P w K mg base "round_of" 5 (spD 1 (fun ds r => ∃ ts n, need1 CT ds (some n) ts ∧ r = .int n) (x_need K CT CB CM))
  releases : Def P w K mg base "releases" 5 (spD 2 (g_releases CT) (x_releases K CT CB CM))
  planned : Def P w K mg base "planned" 5 (spN 2 (x_asko K CT CB CM))
  answers : Def P w K mg base "answers" 5 (spN 2 (x_asko K CT CB CM))
  sliced : Def P w K mg base "sliced" 5 (spN 4 (x_asko K CT CB CM))
  left_at : Def P w K mg base "left_at" 5 (spN 3 (x_asko K CT CB CM))
  ordered : Def P w K mg base "ordered" 5 (spN 1 (x_ask K CT CB CM))
  lots : Def P w K mg base "lots" 5 (spN 1 (x_ask K CT CB CM))
  parted : Def P w K mg base "parted" 5 (spN 2 (x_ask K CT CB CM))
  least_computers : Def P w K mg base "least_computers" 5 (spN 1 (x_ask K CT CB CM))
  most_work : Def P w K mg base "most_work" 5 (spN 2 (x_ask K CT CB CM))
  shows_plan : Def P w K mg base "shows_plan" 5 (spN 3 (x_asko K CT CB CM))
  shows_ordered : Def P w K mg base "shows_ordered" 5 (spN 2 (x_ask K CT CB CM))
  shows_lots : Def P w K mg base "shows_lots" 5 (spN 2 (x_ask K CT CB CM))
  shows_parted : Def P w K mg base "shows_parted" 5 (spN 3 (x_ask K CT CB CM))
  shows_most_work : Def P w K mg base "shows_most_work" 5 (spN 3 (x_ask K CT CB CM))
variable {P : Program} {w : World} {K : PySem.W.Frag} {mg : Str → Option Value} {base : Heap} {f : Addr} {CT CB CM : Addr} {outer : List Env} {G0 H0 : Hp} {s0 : Shared} {σ : L2.St} {ρ : Rho} {cls : Value} {fs : List (Str × D)} {d0 d1 : D}
theorem cal_0 (AF : AskF P w K mg base CT CB CM) (hL : ∀ i < 16, Tb.lam i = askL i) (h : x_need K CT CB CM [d0] cls fs) (p0 : plainD d0 = true) (p1 : plainD d1 = true) (at_ : At G0 (.ref f) (.fn 0 [d0])) (sl : Slots G0 H0 σ ρ) : CalD P w K mg base 6 f outer G0 H0 s0 σ ρ cls fs ρ := by
  have e := hL 0 (by decide)
  refine cal_fn (N := [nO]) (ps := []) (pv := []) (pd := []) (by rw [e]; exact NdefX.nscope_by (by decide +kernel)) (by rw [e]; exact closB0 rfl fun _ _ _ _ => rfl) (fun _ => .nil) (by simp [plainDs, p0, p1]) (by rw [e]; rfl) at_ sl fun A outer s H E f' c' cl hr => ?_
  revert hr
  rw [e]
  intro hr
  exact px_call (takes_of rfl rfl rfl rfl) AF.round_of hr (pad_one (pd_name 0)) rfl h
theorem cal_1 (AF : AskF P w K mg base CT CB CM) (hL : ∀ i < 16, Tb.lam i = askL i) (h : x_need K CT CB CM [d0] cls fs) (p0 : plainD d0 = true) (p1 : plainD d1 = true) (at_ : At G0 (.ref f) (.fn 1 [d0])) (sl : Slots G0 H0 σ ρ) : CalD P w K mg base 6 f outer G0 H0 s0 σ ρ cls fs ρ := by
  have e := hL 1 (by decide)
  refine cal_fn (N := ["a1", nO]) (ps := ["a1"]) (pv := [.int 0]) (pd := [.int 0]) (by rw [e]; exact NdefX.nscope_by (by decide +kernel)) (by rw [e]; exact closB1 (v := .int 0) (a := "a1") rfl fun _ _ _ _ _ _ => ⟨_, rfl, rfl⟩) (fun _ => .cons (.int 0) .nil) (by simp [plainDs, p0, p1]) (by rw [e]; rfl) at_ sl fun A outer s H E f' c' cl hr => ?_
  revert hr
  rw [e]
  intro hr
  exact px_call (takes_of rfl rfl rfl rfl) AF.releases hr (pad_cons (pd_name 1) (pad_one pd_int)) rfl ⟨d0, _, rfl, .inl h⟩
theorem cal_2 (AF : AskF P w K mg base CT CB CM) (hL : ∀ i < 16, Tb.lam i = askL i) (h : x_need K CT CB CM [d0] cls fs) (p0 : plainD d0 = true) (p1 : plainD d1 = true) (at_ : At G0 (.ref f) (.fn 2 [d1, d0])) (sl : Slots G0 H0 σ ρ) : CalD P w K mg base 6 f outer G0 H0 s0 σ ρ cls fs ρ := by
  have e := hL 2 (by decide)
  refine cal_fn (N := ["a2", nR, nO]) (ps := ["a2"]) (pv := [.int 0]) (pd := [.int 0]) (by rw [e]; exact NdefX.nscope_by (by decide +kernel)) (by rw [e]; exact closB1 (v := .int 0) (a := "a2") rfl fun _ _ _ _ _ _ => ⟨_, rfl, rfl⟩) (fun _ => .cons (.int 0) .nil) (by simp [plainDs, p0, p1]) (by rw [e]; rfl) at_ sl fun A outer s H E f' c' cl hr => ?_
  revert hr
  rw [e]
  intro hr
  exact px_call (takes_of rfl rfl rfl rfl) AF.planned hr (pad_cons (pd_name 2) (pad_one (pd_name 1))) rfl ⟨d0, d1, _, rfl, .inl h⟩
theorem cal_3 (AF : AskF P w K mg base CT CB CM) (hL : ∀ i < 16, Tb.lam i = askL i) (h : x_need K CT CB CM [d0] cls fs) (p0 : plainD d0 = true) (p1 : plainD d1 = true) (at_ : At G0 (.ref f) (.fn 3 [d1, d0])) (sl : Slots G0 H0 σ ρ) : CalD P w K mg base 6 f outer G0 H0 s0 σ ρ cls fs ρ := by
  have e := hL 3 (by decide)
  refine cal_fn (N := ["a3", nR, nO]) (ps := ["a3"]) (pv := [.int 0]) (pd := [.int 0]) (by rw [e]; exact NdefX.nscope_by (by decide +kernel)) (by rw [e]; exact closB1 (v := .int 0) (a := "a3") rfl fun _ _ _ _ _ _ => ⟨_, rfl, rfl⟩) (fun _ => .cons (.int 0) .nil) (by simp [plainDs, p0, p1]) (by rw [e]; rfl) at_ sl fun A outer s H E f' c' cl hr => ?_
  revert hr
  rw [e]
  intro hr
  exact px_call (takes_of rfl rfl rfl rfl) AF.answers hr (pad_cons (pd_name 2) (pad_one (pd_name 1))) rfl ⟨d0, d1, _, rfl, .inl h⟩
theorem cal_4 (AF : AskF P w K mg base CT CB CM) (hL : ∀ i < 16, Tb.lam i = askL i) (h : x_need K CT CB CM [d0] cls fs) (p0 : plainD d0 = true) (p1 : plainD d1 = true) (at_ : At G0 (.ref f) (.fn 4 [d1, d0])) (sl : Slots G0 H0 σ ρ) : CalD P w K mg base 6 f outer G0 H0 s0 σ ρ cls fs ρ := by
  have e := hL 4 (by decide)
  refine cal_fn (N := [nR, nO]) (ps := []) (pv := []) (pd := []) (by rw [e]; exact NdefX.nscope_by (by decide +kernel)) (by rw [e]; exact closB0 rfl fun _ _ _ _ => rfl) (fun _ => .nil) (by simp [plainDs, p0, p1]) (by rw [e]; rfl) at_ sl fun A outer s H E f' c' cl hr => ?_
  revert hr
  rw [e]
  intro hr
  exact px_call (takes_of rfl rfl rfl rfl) AF.sliced hr (pad_cons (pd_name 1) (pad_cons (pd_name 0) (pad_cons pd_dic (pad_one pd_int)))) rfl ⟨d0, d1, _, rfl, .inl h⟩
theorem cal_5 (AF : AskF P w K mg base CT CB CM) (hL : ∀ i < 16, Tb.lam i = askL i) (h : x_need K CT CB CM [d0] cls fs) (p0 : plainD d0 = true) (p1 : plainD d1 = true) (at_ : At G0 (.ref f) (.fn 5 [d1, d0])) (sl : Slots G0 H0 σ ρ) : CalD P w K mg base 6 f outer G0 H0 s0 σ ρ cls fs ρ := by
  have e := hL 5 (by decide)
  refine cal_fn (N := ["a1", nR, nO]) (ps := ["a1"]) (pv := [.int 0]) (pd := [.int 0]) (by rw [e]; exact NdefX.nscope_by (by decide +kernel)) (by rw [e]; exact closB1 (v := .int 0) (a := "a1") rfl fun _ _ _ _ _ _ => ⟨_, rfl, rfl⟩) (fun _ => .cons (.int 0) .nil) (by simp [plainDs, p0, p1]) (by rw [e]; rfl) at_ sl fun A outer s H E f' c' cl hr => ?_
  revert hr
  rw [e]
  intro hr
  exact px_call (takes_of rfl rfl rfl rfl) AF.left_at hr (pad_cons (pd_name 2) (pad_cons (pd_name 1) (pad_one pd_int))) rfl ⟨d0, d1, _, rfl, .inl h⟩
theorem cal_6 (AF : AskF P w K mg base CT CB CM) (hL : ∀ i < 16, Tb.lam i = askL i) (h : x_need K CT CB CM [d0] cls fs) (p0 : plainD d0 = true) (p1 : plainD d1 = true) (at_ : At G0 (.ref f) (.fn 6 [d0])) (sl : Slots G0 H0 σ ρ) : CalD P w K mg base 6 f outer G0 H0 s0 σ ρ cls fs ρ := by
  have e := hL 6 (by decide)
  refine cal_fn (N := ["a2", nO]) (ps := ["a2"]) (pv := [.int 0]) (pd := [.int 0]) (by rw [e]; exact NdefX.nscope_by (by decide +kernel)) (by rw [e]; exact closB1 (v := .int 0) (a := "a2") rfl fun _ _ _ _ _ _ => ⟨_, rfl, rfl⟩) (fun _ => .cons (.int 0) .nil) (by simp [plainDs, p0, p1]) (by rw [e]; rfl) at_ sl fun A outer s H E f' c' cl hr => ?_
  revert hr
  rw [e]
  intro hr
  exact px_call (takes_of rfl rfl rfl rfl) AF.ordered hr (pad_one (pd_name 1)) rfl ⟨d0, _, rfl, h⟩
theorem cal_7 (AF : AskF P w K mg base CT CB CM) (hL : ∀ i < 16, Tb.lam i = askL i) (h : x_need K CT CB CM [d0] cls fs) (p0 : plainD d0 = true) (p1 : plainD d1 = true) (at_ : At G0 (.ref f) (.fn 7 [d0])) (sl : Slots G0 H0 σ ρ) : CalD P w K mg base 6 f outer G0 H0 s0 σ ρ cls fs ρ := by
  have e := hL 7 (by decide)
  refine cal_fn (N := ["a3", nO]) (ps := ["a3"]) (pv := [.int 0]) (pd := [.int 0]) (by rw [e]; exact NdefX.nscope_by (by decide +kernel)) (by rw [e]; exact closB1 (v := .int 0) (a := "a3") rfl fun _ _ _ _ _ _ => ⟨_, rfl, rfl⟩) (fun _ => .cons (.int 0) .nil) (by simp [plainDs, p0, p1]) (by rw [e]; rfl) at_ sl fun A outer s H E f' c' cl hr => ?_
  revert hr
  rw [e]
  intro hr
  exact px_call (takes_of rfl rfl rfl rfl) AF.lots hr (pad_one (pd_name 1)) rfl ⟨d0, _, rfl, h⟩
theorem cal_8 (AF : AskF P w K mg base CT CB CM) (hL : ∀ i < 16, Tb.lam i = askL i) (h : x_need K CT CB CM [d0] cls fs) (p0 : plainD d0 = true) (p1 : plainD d1 = true) (at_ : At G0 (.ref f) (.fn 8 [d0])) (sl : Slots G0 H0 σ ρ) : CalD P w K mg base 6 f outer G0 H0 s0 σ ρ cls fs ρ := by
  have e := hL 8 (by decide)
  refine cal_fn (N := [nO]) (ps := []) (pv := []) (pd := []) (by rw [e]; exact NdefX.nscope_by (by decide +kernel)) (by rw [e]; exact closB0 rfl fun _ _ _ _ => rfl) (fun _ => .nil) (by simp [plainDs, p0, p1]) (by rw [e]; rfl) at_ sl fun A outer s H E f' c' cl hr => ?_
  revert hr
  rw [e]
  intro hr
  exact px_call (takes_of rfl rfl rfl rfl) AF.parted hr (pad_cons (pd_name 0) (pad_one pd_int)) rfl ⟨d0, _, rfl, h⟩
theorem cal_9 (AF : AskF P w K mg base CT CB CM) (hL : ∀ i < 16, Tb.lam i = askL i) (h : x_need K CT CB CM [d0] cls fs) (p0 : plainD d0 = true) (p1 : plainD d1 = true) (at_ : At G0 (.ref f) (.fn 9 [d0])) (sl : Slots G0 H0 σ ρ) : CalD P w K mg base 6 f outer G0 H0 s0 σ ρ cls fs ρ := by
  have e := hL 9 (by decide)
  refine cal_fn (N := ["a1", nO]) (ps := ["a1"]) (pv := [.int 0]) (pd := [.int 0]) (by rw [e]; exact NdefX.nscope_by (by decide +kernel)) (by rw [e]; exact closB1 (v := .int 0) (a := "a1") rfl fun _ _ _ _ _ _ => ⟨_, rfl, rfl⟩) (fun _ => .cons (.int 0) .nil) (by simp [plainDs, p0, p1]) (by rw [e]; rfl) at_ sl fun A outer s H E f' c' cl hr => ?_
  revert hr
  rw [e]
  intro hr
  exact px_call (takes_of rfl rfl rfl rfl) AF.least_computers hr (pad_one (pd_name 1)) rfl ⟨d0, _, rfl, h⟩
theorem cal_10 (AF : AskF P w K mg base CT CB CM) (hL : ∀ i < 16, Tb.lam i = askL i) (h : x_need K CT CB CM [d0] cls fs) (p0 : plainD d0 = true) (p1 : plainD d1 = true) (at_ : At G0 (.ref f) (.fn 10 [d0])) (sl : Slots G0 H0 σ ρ) : CalD P w K mg base 6 f outer G0 H0 s0 σ ρ cls fs ρ := by
  have e := hL 10 (by decide)
  refine cal_fn (N := ["a2", nO]) (ps := ["a2"]) (pv := [.int 0]) (pd := [.int 0]) (by rw [e]; exact NdefX.nscope_by (by decide +kernel)) (by rw [e]; exact closB1 (v := .int 0) (a := "a2") rfl fun _ _ _ _ _ _ => ⟨_, rfl, rfl⟩) (fun _ => .cons (.int 0) .nil) (by simp [plainDs, p0, p1]) (by rw [e]; rfl) at_ sl fun A outer s H E f' c' cl hr => ?_
  revert hr
  rw [e]
  intro hr
  exact px_call (takes_of rfl rfl rfl rfl) AF.most_work hr (pad_cons (pd_name 1) (pad_one pd_str)) rfl ⟨d0, _, rfl, h⟩
theorem cal_11 (AF : AskF P w K mg base CT CB CM) (hL : ∀ i < 16, Tb.lam i = askL i) (h : x_need K CT CB CM [d0] cls fs) (p0 : plainD d0 = true) (p1 : plainD d1 = true) (at_ : At G0 (.ref f) (.fn 11 [d1, d0])) (sl : Slots G0 H0 σ ρ) : CalD P w K mg base 6 f outer G0 H0 s0 σ ρ cls fs ρ := by
  have e := hL 11 (by decide)
  refine cal_fn (N := ["a3", nR, nO]) (ps := ["a3"]) (pv := [.int 0]) (pd := [.int 0]) (by rw [e]; exact NdefX.nscope_by (by decide +kernel)) (by rw [e]; exact closB1 (v := .int 0) (a := "a3") rfl fun _ _ _ _ _ _ => ⟨_, rfl, rfl⟩) (fun _ => .cons (.int 0) .nil) (by simp [plainDs, p0, p1]) (by rw [e]; rfl) at_ sl fun A outer s H E f' c' cl hr => ?_
  revert hr
  rw [e]
  intro hr
  exact px_call (takes_of rfl rfl rfl rfl) AF.shows_plan hr (pad_cons (pd_name 2) (pad_cons (pd_name 1) (pad_one pd_non))) rfl ⟨d0, d1, _, rfl, .inl h⟩
theorem cal_12 (AF : AskF P w K mg base CT CB CM) (hL : ∀ i < 16, Tb.lam i = askL i) (h : x_need K CT CB CM [d0] cls fs) (p0 : plainD d0 = true) (p1 : plainD d1 = true) (at_ : At G0 (.ref f) (.fn 12 [d0])) (sl : Slots G0 H0 σ ρ) : CalD P w K mg base 6 f outer G0 H0 s0 σ ρ cls fs ρ := by
  have e := hL 12 (by decide)
  refine cal_fn (N := [nO]) (ps := []) (pv := []) (pd := []) (by rw [e]; exact NdefX.nscope_by (by decide +kernel)) (by rw [e]; exact closB0 rfl fun _ _ _ _ => rfl) (fun _ => .nil) (by simp [plainDs, p0, p1]) (by rw [e]; rfl) at_ sl fun A outer s H E f' c' cl hr => ?_
  revert hr
  rw [e]
  intro hr
  exact px_call (takes_of rfl rfl rfl rfl) AF.shows_ordered hr (pad_cons (pd_name 0) (pad_one pd_non)) rfl ⟨d0, _, rfl, h⟩
theorem cal_13 (AF : AskF P w K mg base CT CB CM) (hL : ∀ i < 16, Tb.lam i = askL i) (h : x_need K CT CB CM [d0] cls fs) (p0 : plainD d0 = true) (p1 : plainD d1 = true) (at_ : At G0 (.ref f) (.fn 13 [d0])) (sl : Slots G0 H0 σ ρ) : CalD P w K mg base 6 f outer G0 H0 s0 σ ρ cls fs ρ := by
  have e := hL 13 (by decide)
  refine cal_fn (N := ["a1", nO]) (ps := ["a1"]) (pv := [.int 0]) (pd := [.int 0]) (by rw [e]; exact NdefX.nscope_by (by decide +kernel)) (by rw [e]; exact closB1 (v := .int 0) (a := "a1") rfl fun _ _ _ _ _ _ => ⟨_, rfl, rfl⟩) (fun _ => .cons (.int 0) .nil) (by simp [plainDs, p0, p1]) (by rw [e]; rfl) at_ sl fun A outer s H E f' c' cl hr => ?_
  revert hr
  rw [e]
  intro hr
  exact px_call (takes_of rfl rfl rfl rfl) AF.shows_lots hr (pad_cons (pd_name 1) (pad_one pd_non)) rfl ⟨d0, _, rfl, h⟩
theorem cal_14 (AF : AskF P w K mg base CT CB CM) (hL : ∀ i < 16, Tb.lam i = askL i) (h : x_need K CT CB CM [d0] cls fs) (p0 : plainD d0 = true) (p1 : plainD d1 = true) (at_ : At G0 (.ref f) (.fn 14 [d0])) (sl : Slots G0 H0 σ ρ) : CalD P w K mg base 6 f outer G0 H0 s0 σ ρ cls fs ρ := by
  have e := hL 14 (by decide)
  refine cal_fn (N := ["a2", nO]) (ps := ["a2"]) (pv := [.int 0]) (pd := [.int 0]) (by rw [e]; exact NdefX.nscope_by (by decide +kernel)) (by rw [e]; exact closB1 (v := .int 0) (a := "a2") rfl fun _ _ _ _ _ _ => ⟨_, rfl, rfl⟩) (fun _ => .cons (.int 0) .nil) (by simp [plainDs, p0, p1]) (by rw [e]; rfl) at_ sl fun A outer s H E f' c' cl hr => ?_
  revert hr
  rw [e]
  intro hr
  exact px_call (takes_of rfl rfl rfl rfl) AF.shows_parted hr (pad_cons (pd_name 1) (pad_cons pd_int (pad_one pd_non))) rfl ⟨d0, _, rfl, h⟩
theorem cal_15 (AF : AskF P w K mg base CT CB CM) (hL : ∀ i < 16, Tb.lam i = askL i) (h : x_need K CT CB CM [d0] cls fs) (p0 : plainD d0 = true) (p1 : plainD d1 = true) (at_ : At G0 (.ref f) (.fn 15 [d0])) (sl : Slots G0 H0 σ ρ) : CalD P w K mg base 6 f outer G0 H0 s0 σ ρ cls fs ρ := by
  have e := hL 15 (by decide)
  refine cal_fn (N := [nO]) (ps := []) (pv := []) (pd := []) (by rw [e]; exact NdefX.nscope_by (by decide +kernel)) (by rw [e]; exact closB0 rfl fun _ _ _ _ => rfl) (fun _ => .nil) (by simp [plainDs, p0, p1]) (by rw [e]; rfl) at_ sl fun A outer s H E f' c' cl hr => ?_
  revert hr
  rw [e]
  intro hr
  exact px_call (takes_of rfl rfl rfl rfl) AF.shows_most_work hr (pad_cons (pd_name 0) (pad_cons pd_str (pad_one pd_non))) rfl ⟨d0, _, rfl, h⟩
theorem cal_ask (AF : AskF P w K mg base CT CB CM) (hL : ∀ i < 16, Tb.lam i = askL i) {i : Nat} (hi : i < 16) (h : x_need K CT CB CM [d0] cls fs) (p0 : plainD d0 = true) (p1 : plainD d1 = true) (at_ : At G0 (.ref f) (.fn i (dsOf i d0 d1))) (sl : Slots G0 H0 σ ρ) : CalD P w K mg base 6 f outer G0 H0 s0 σ ρ cls fs ρ := by
  match i, hi with
  | 0, _ => exact cal_0 AF hL h p0 p1 at_ sl
  | 1, _ => exact cal_1 AF hL h p0 p1 at_ sl
  | 2, _ => exact cal_2 AF hL h p0 p1 at_ sl
  | 3, _ => exact cal_3 AF hL h p0 p1 at_ sl
  | 4, _ => exact cal_4 AF hL h p0 p1 at_ sl
  | 5, _ => exact cal_5 AF hL h p0 p1 at_ sl
  | 6, _ => exact cal_6 AF hL h p0 p1 at_ sl
  | 7, _ => exact cal_7 AF hL h p0 p1 at_ sl
  | 8, _ => exact cal_8 AF hL h p0 p1 at_ sl
  | 9, _ => exact cal_9 AF hL h p0 p1 at_ sl
  | 10, _ => exact cal_10 AF hL h p0 p1 at_ sl
  | 11, _ => exact cal_11 AF hL h p0 p1 at_ sl
  | 12, _ => exact cal_12 AF hL h p0 p1 at_ sl
  | 13, _ => exact cal_13 AF hL h p0 p1 at_ sl
  | 14, _ => exact cal_14 AF hL h p0 p1 at_ sl
  | 15, _ => exact cal_15 AF hL h p0 p1 at_ sl
  | i + 16, hi => exact absurd hi (by omega)
end
end K20

end
section
set_option maxHeartbeats 4000001
/-! K24: what draws: made from the script. -/
namespace DL
open PySem PySem.Spec
open PyProof.Rows L2 LamX
open Evl (Ex)
section
variable [Tb]
/-- a def that gives a new list, which is its caller's own -/
def spW (n : Nat) (Fn : List D → List D → Prop) : Sp := fun vs H Q E => ∃ G ds zs, TbO G H ∧ Ex G H ∧ Ats G vs ds ∧ ds.length = n ∧ Fn ds zs ∧ ∀ p G' H', Grow G H G' H' → H p = none → Sl G' H' (.ref p) (.own zs) → Q (.ref p) H'
/-- what a script is at the law's entry -/
inductive ScrD (K : PySem.W.Frag) : D → List Int → Prop where
  | scr (is : List Int) : ScrD K (.scr is) is
  | lst (is : List Int) : ScrD K (.lst (is.map D.int)) is
  | rf {a : Addr} {is : List Int} (h : ∀ H, SqL K H a (is.map V.int)) : ScrD K (.rf a) is
variable {X : Cx} {ρ ρ' ρ1 ρ2 ρ3 : Rho} {e : Expr} {es : List Expr} {d : D} {ds zs : List D} {is : List Int} {k n : Nat} {f : Str} {Fn : List D → List D → Prop} {p p2 pos : Pos}
theorem pso_call (F : DefX X f k (spW n Fn)) (hr : Room k X.A) (ha : PAD X (e :: es) ρ ds ρ') (hl : ds.length = n) (hf : Fn ds zs) (hg : Gl X f := by rfl) (hdb : (f == ("__debug__" : Str)) = false := by decide)
    (he : starEach (e :: es) X.env = (false, eval e X.env) :: starEach es X.env := by rfl) (hpl : (backTo pos (starEach es X.env)).any (·.1) = false := by rfl) : PS_ X (.Call (.Name f p) (e :: es) [] pos) ρ (.own zs) ρ' := by
  obtain ⟨f, fd, ps, hm, hk, hb, hF⟩ := F.ex
  refine pe_weak (pe_call hF hr hg hm hk hb .nil passF ha (by assumption) he hpl) fun σ H Q ⟨G, e1, s, q⟩ => ⟨G, e1, s, fun vs G1 H1 g1 a1 => ?_⟩
  show spW n Fn (vs ++ []) H1 Q _
  rw [List.append_nil]
  exact ⟨G1, ds, zs, g1.sl.tb, g1.gh, a1, hl, hf, fun p G2 H2 g2 hp sl2 => q (.ref p) G2 H2 (g1.trans (g2.step g1.sl)) sl2 fun _ => ⟨p, rfl, none_back g1 hp, fun m => by
    obtain ⟨_, o, ho, _⟩ := g1.sl.mine m
    rw [hp] at ho
    cases ho⟩⟩
theorem ats_ints {G : Hp} : ∀ is : List Int, Ats G (is.map V.int) (is.map D.int)
  | [] => .nil
  | i :: is => .cons (.int i) (ats_ints is)
theorem ScrD.at_ {K : PySem.W.Frag} {G H : Hp} {v : V} (sc : ScrD K d is) (h : At G v d) (e : Ex G H) : ∃ a, v = .ref a ∧ SqL K H a (is.map V.int) := by
  cases sc with
  | scr =>
    cases h with
    | scr h => exact ⟨_, rfl, .inl (.inr ⟨_, e _ _ h⟩)⟩
  | lst =>
    cases h with
    | lst h hs =>
      rw [ats_int hs] at h
      exact ⟨_, rfl, .inl (.inl (e _ _ h))⟩
  | rf hk =>
    cases h
    exact ⟨_, rfl, hk H⟩
def cutI (xs : List Int) (lo hi : Option Int) : List Int := (xs.drop (HT.sIx xs.length 0 lo)).take (HT.sIx xs.length xs.length hi - HT.sIx xs.length 0 lo)
theorem cutI_map (xs : List Int) (lo hi : Option Int) : cutL (xs.map D.int) lo hi = (cutI xs lo hi).map D.int := by
  unfold cutL cutI
  rw [List.length_map, List.map_take, List.map_drop]
theorem cutI_len (xs : List Int) (lo hi : Option Int) : (cutI xs lo hi).length ≤ xs.length := by
  unfold cutI
  (rw [List.length_take, List.length_drop])
  omega
theorem pso_slS {lo hi : Option Expr} {l u : Option Int} (sc : ScrD X.K d is) (h : PD X e ρ d ρ1) (hl : POD X lo ρ1 l ρ2) (hu : POD X hi ρ2 u ρ3) : PS_ X (.Subscript e (.Slice lo hi none p2) pos) ρ (.own ((cutI is l u).map D.int)) ρ3 :=
  pe_weak (pe_slice sl_list h hl hu) fun σ H Q ⟨G, e1, s, k⟩ => ⟨G, e1, s, fun v G1 H1 g1 a => ⟨G1, g1.gh, g1.sl, fun G2 H2 g2 => ⟨G2, g2.gh, g2.sl, fun G3 H3 g3 => by
    obtain ⟨a, rfl, sq⟩ := sc.at_ ((a.ex g2.g).ex g3.g) g3.gh
    exact ⟨_, _, rfl, sq, fun q hq => own_new ((g1.trans g2).trans g3) hq (by
      have z := (ats_ints (G := G3) is).cut l u
      rw [cutI_map] at z
      exact z) k⟩⟩⟩⟩
end
end DL
namespace K20
open PySem PySem.Spec
open PyProof.Rows L2 DL LamX
open Evl (Ex)
section
variable [Tb]
variable {P : Program} {w : World} {K : PySem.W.Frag} {mg : Str → Option Value} {base : Heap} {f : Addr} {fd : FuncData}
theorem sc_pen : FnScope ["script", "cell"] ["script"] (defScope (top 97)) := ⟨rfl, rfl, rfl, by decide +kernel, rfl, by decide +kernel, by decide +kernel⟩
def fnPen (K : PySem.W.Frag) (ds zs : List D) : Prop := ∃ d is, ds = [d] ∧ ScrD K d is ∧ is.length ≤ 63 ∧ zs = penD ⟨cutI is none (some 63), 0, 0⟩
def intF : D → Option D
  | .int i => some (.int i)
  | _ => none
theorem int_map : ∀ is : List Int, (is.map D.int).filterMap intF = is.map D.int
  | [] => rfl
  | i :: is => by
    rw [List.map_cons, List.filterMap_cons, show intF (.int i) = some (.int i) from rfl]
    exact congrArg (D.int i :: ·) (int_map is)
def headE : Expr → Expr
  | .List (e :: _) _ => e
  | e => e
theorem ok_pen (F : FnP K "_law_pen" (top 97) f fd) (B : Bn mg) : FnOk P w K mg base (L2.CX P w) 1 f fd ["script"] (spW 1 (fnPen K)) := by
  (obtain ⟨oc, od, dV, kV, doc, pm, an, cdv, ct, osl, rfl, lk, hcd, _, _⟩ := F.ex)
  refine fn_of lk hcd sc_pen (fun vs H Q E ⟨G, ds, zs, _, _, a, hl, _⟩ => a.length.trans hl) fun A outer s H vs Q E hr ⟨G, ds, zs, tb, eg, at_, hl, ⟨d, is, e1, sc, h63, e2⟩, kq⟩ => ?_
  subst e1 e2
  have hlen : ((cutI is none (some 63)).map D.int).length ≤ 100000 := by
    rw [List.length_map]
    exact Nat.le_trans (cutI_len _ _ _) (by omega)
  have lc : PD (cxOf (L2.CX P w) P w K mg base ["script", "cell"] "_law_pen" (defScope (top 97)) f cdv A outer s H E) (headE (retE ((defBody (top 97)).getD 0 (.Pass ⟨0, 0, 0, 0⟩)))) (Gen [d] ["script", "cell"]) (.lst ((cutI is none (some 63)).map D.int)) (Gen [d] ["script", "cell"]) :=
    PD.is (pd_frz (pso_lc (own := [("cell", 1)]) intF rfl sc_pen.nd (pid_list (pd_frz (pso_slS sc (pd_name 0) pod_none (pod_some pd_int)))) (blkOk_by (show blkC ["script", "cell"] (defScope (top 97)) _ _ = true by decide +kernel)) (fun x hx => by
      obtain ⟨i, _, rfl⟩ := List.mem_map.mp hx
      exact ⟨[1], [some (.d d), some (.d (.int i))], true, fun _ _ _ _ _ => pgd_name 1 sc_pen.nd, by decide, rfl, ptsd_nil, fun _ => ⟨.int i, fun _ _ _ _ _ => pd_intI B.int (pd_name 1), rfl⟩, fun z => by cases z⟩) (hl := hlen))) (congrArg D.lst (int_map _))
  refine ⟨_, pss_one (ps_ret (pso_lst (pad_cons lc (pad_cons pd_int (pad_one pd_int))) (by show 3 ≤ 100000; decide))), ?_⟩
  have sl0 : Slots G H (L2.start ["script", "cell"] vs) (Gen [d] ["script", "cell"]) := Slots.entry tb at_
  refine ⟨G, eg, sl0, fun v G' H' st sl fr => ?_⟩
  obtain ⟨p, rfl, hp, _⟩ := fr rfl
  have noM : ∀ a : Addr, ¬ Mine (L2.start ["script", "cell"] vs) (Gen [d] ["script", "cell"]) a := fun a ⟨i, t, e1, e2, _⟩ => by
    match i, e1 with
    | 0, e1 =>
      cases e1
      cases e2
    | 1, e1 => cases e1
    | i + 2, e1 => cases e1
  exact kq p G' H' ⟨st.g, st.gh, fun a h => st.nw a h (noM a), fun a o h t => st.kp a o h t (noM a), st.al, fun _ => st.sl.tb.1⟩ hp sl
end
end K20

end
section
set_option maxHeartbeats 4000001
/-! K25: the law's frame, its lambdas. -/
namespace K20
open PySem PySem.Spec
open PyProof.Rows L2 DL LamX
open Evl (Ex)
def noS : Stmt := .Pass ⟨0, 0, 0, 0⟩
def forB : Stmt → List Stmt
  | .For _ _ b _ _ => b
  | _ => []
def ifT : Stmt → Expr
  | .If t _ _ _ => t
  | _ => noE
def asgE : Stmt → Expr
  | .Assign _ e _ => e
  | _ => noE
def cmpL : Expr → Expr
  | .Compare l _ _ _ => l
  | e => e
def cmpR : Expr → Expr
  | .Compare _ _ (r :: _) _ => r
  | e => e
def argN (i : Nat) : Expr → Expr
  | .Call _ as _ _ => as.getD i noE
  | .BoolOp _ as _ => as.getD i noE
  | .List as _ => as.getD i noE
  | .BinOp _ _ (.List as _) _ => as.getD i noE
  | e => e
/-- the law's body, its loop's, the inner loop's -/
def bL : List Stmt := defBody (top 107)
def bT : List Stmt := forB (bL.getD 1 noS)
def bI : List Stmt := forB (bT.getD 2 noS)
def lawE : List Expr := [argN 0 (cmpL (ifT (bI.getD 4 noS))), argN 0 (argN 0 (asgE (bT.getD 14 noS))), argN 0 (argN 1 (asgE (bT.getD 14 noS))), argN 0 (argN 2 (asgE (bT.getD 14 noS))), argN 0 (argN 0 (asgE (bT.getD 15 noS))), argN 0 (argN 1 (asgE (bT.getD 15 noS))), argN 0 (cmpL (argN 1 (ifT (bT.getD 16 noS))))]
def lawL (j : Nat) : LamD := lamOfE "law" (lawE.getD j noE)
def nW : List Str := ["script", "pen", "words", "turn", "tasks", "made", "one", "task", "spots", "bent", "spot", "lap", "mixed", "until", "due", "number", "tick", "six", "name", "odd", "ask", "names", "none", "heard", "many", "long", "at", "period", "wide"]
theorem sc_law : FnScope nW ["script"] (defScope (top 107)) := ⟨rfl, rfl, rfl, by decide +kernel, rfl, by decide +kernel, by decide +kernel⟩
theorem law_q (j : Nat) (h : j < 7) : (lawL j).qual = ("law" : Str) ++ ".<locals>." ++ "<lambda>" := by
  match j, h with
  | 0, _ => rfl
  | 1, _ => rfl
  | 2, _ => rfl
  | 3, _ => rfl
  | 4, _ => rfl
  | 5, _ => rfl
  | 6, _ => rfl
  | j + 7, h => exact absurd h (by omega)
theorem law_free : ∀ j < 7, ∀ y ∈ (lawL j).scope.names, y.2 = .free → (defScope (top 107)).names.lookup y.1 = some .cell ∨ (defScope (top 107)).names.lookup y.1 = some .free := by decide +kernel
section
variable [Tb]
variable {P : Program} {w : World} {K : PySem.W.Frag} {mg : Str → Option Value} {base : Heap} {f : Addr} {fd : FuncData}
/-- the law's frame -/
abbrev xW (P : Program) (w : World) (K : PySem.W.Frag) (mg : Str → Option Value) (base : Heap) (f c : Addr) (A : Around) (outer : List Env) (s : Shared) (H : Hp) (E : XK) : Cx := cxOf (L2.CX P w) P w K mg base nW "law" (defScope (top 107)) f (.ref c) A outer s H E
variable {c PT : Addr} {A : Around} {outer : List Env} {s : Shared} {H : Hp} {E : XK} {ρ ρ' : Rho}
theorem pd_lawlam (F : FnT K mg base "law" (top 107) f c PT fd) (hW : ∀ j < 7, Tb.lam (16 + j) = lawL j) {j : Nat} (h : j < 7) :
    PD (xW P w K mg base f c A outer s H E) (lawE.getD j noE) ρ (.mk (16 + j) (cloFrom (xW P w K mg base f c A outer s H E).env.cells (lawL j).scope.names [])) ρ := by
  match j, h with
  | 0, _ => exact pd_mk0 16 F.tb rfl F.tm F.tu (hW 0 (by decide)) (law_free 0 (by decide))
  | 1, _ => exact pd_mk0 17 F.tb rfl F.tm F.tu (hW 1 (by decide)) (law_free 1 (by decide))
  | 2, _ => exact pd_mk1 (v := .int 0) 18 F.tb rfl F.tm F.tu (hW 2 (by decide)) (law_free 2 (by decide)) pe_int
  | 3, _ => exact pd_mk1 (v := .int 0) 19 F.tb rfl F.tm F.tu (hW 3 (by decide)) (law_free 3 (by decide)) pe_int
  | 4, _ => exact pd_mk0 20 F.tb rfl F.tm F.tu (hW 4 (by decide)) (law_free 4 (by decide))
  | 5, _ => exact pd_mk1 (v := .int 0) 21 F.tb rfl F.tm F.tu (hW 5 (by decide)) (law_free 5 (by decide)) pe_int
  | 6, _ => exact pd_mk0 22 F.tb rfl F.tm F.tu (hW 6 (by decide)) (law_free 6 (by decide))
  | j + 7, h => exact absurd h (by omega)
/-- what the law knows of what it calls -/
structure HeardF (K : PySem.W.Frag) (mg : Str → Option Value) (CB CM CN CF CH CE g : Addr) (gd : FuncData) : Prop where
  fn : FnP K "_law_sched_heard" (top 104) g gd
  gl : mg "_law_sched_heard" = some (.ref g)
  er : Errs K mg CB CM CN CF CH CE
variable {CB CM CN CF CH CE g : Addr} {gd : FuncData} {cls : Value} {fs : List (Str × D)} {ans d : D} {p pos : Pos} {ps : List Str} {pv : List V} {k : Nat}
theorem pd_heardL (j : Nat) (hj : j < 7) (F : FnT K mg base "law" (top 107) f c PT fd) (hW : ∀ j < 7, Tb.lam (16 + j) = lawL j) (HF : HeardF K mg CB CM CN CF CH CE g gd) (B : Bn mg) (hr : Room (k + 2) (xW P w K mg base f c A outer s H E).A) (LQ : LamQ (defScope (top 107)) (lawL j).scope nW ps) (CL : ClosB P w (lawL j) ps pv) (ea : ErrA CB CM cls fs ans)
    (hbody : ∀ (A' : Around) (outer' : List Env) (s1 : Shared) (HZ : Hp) (E' : XK) (f' c' : Addr), Room k (A'.deeper (lamEnv (xW P w K mg base f c A outer s H E) (lawL j).scope s1.heap.objs.size f' c')) → PX (lamCx (xW P w K mg base f c A outer s H E) A' outer' s1 HZ E' (lawL j).scope f' c') (fun c d _ H => E' c d H) (lawL j).body ρ cls fs ρ')
    (he : starEach [lawE.getD j noE] (xW P w K mg base f c A outer s H E).env = (false, eval (lawE.getD j noE) (xW P w K mg base f c A outer s H E).env) :: starEach [] (xW P w K mg base f c A outer s H E).env := by rfl) :
    PD (xW P w K mg base f c A outer s H E) (.Call (.Name "_law_sched_heard" p) [lawE.getD j noE] [] pos) ρ ans ρ' := by
  refine pd_heard (k := k + 1) HF.fn HF.gl B HF.er hr ea (pd_lawlam F hW hj) (fun v pins σ G H2 s2 I sl eg at_ => ?_) rfl he
  have e := hW j hj
  have vr : ∃ f', v = .ref f' := by
    cases at_ with
    | mk h hD hc => exact ⟨_, rfl⟩
  obtain ⟨f', rfl⟩ := vr
  refine ⟨f', rfl, cal_mk (i := 16 + j) (ps := ps) (pv := pv) I sl (by rw [e]; exact law_q j hj) (by rw [e]; exact LQ) (by rw [e]; exact CL) (by rw [e]; exact at_) fun A' outer' s1 HZ E' c' hr' => ?_⟩
  revert hr'
  rw [e]
  exact fun hr' => hbody A' outer' s1 HZ E' f' c' hr'
end
end K20

end
section
set_option maxHeartbeats 4000001
/-! K26: what repr shows. -/
namespace K20
open PySem PySem.Spec
open PyProof.Rows L2 DL LamX
open Evl (Ex)
/-- data that repr shows, of the depth dp and the weight B -/
structure RpOk (dp B : Nat) (q : PyData) : Prop where
  sh : q.showable = true
  cl : PyData.canLay0 q = true
  dp : PyData.depth q ≤ dp
  is : q.intsShort 13 = true
  wt : PyData.weight q ≤ B
theorem rp_int {i : Int} (h1 : -999999999999 ≤ i) (h2 : i ≤ 999999999999) : RpOk 0 99 (.int i) := by
  have l : i.natAbs.log2 < 40 := by
    by_cases z : i.natAbs = 0
    · rw [z]
      decide
    · exact (Nat.log2_lt z).mpr (by omega)
  refine ⟨?_, rfl, Nat.le_refl 0, ?_, ?_⟩
  · show decide (i.natAbs.log2 < 1920) = true
    (exact decide_eq_true (by omega))
  · show decide ((PyData.shown (.int i)).length ≤ 13) = true
    exact decide_eq_true (PyData.shown_int_le2 h1 h2)
  · show (if i == 0 then 0 else i.natAbs.log2 + 1) ≤ 99
    split <;> omega
theorem rp_str {x : Str} (h : PyData.canLay0 (.str x) = true) (hl : x.cps.size ≤ 99) : RpOk 0 99 (.str x) := ⟨rfl, h, Nat.le_refl 0, rfl, hl⟩
theorem rp_none : RpOk 0 99 .none := ⟨rfl, rfl, Nat.le_refl 0, rfl, Nat.zero_le _⟩
theorem rp_all {dp B : Nat} : ∀ {xs : List PyData}, (∀ x ∈ xs, RpOk dp B x) → PyData.showableAll xs = true ∧ PyData.canLayAll0 xs = true ∧ PyData.depthAll xs ≤ dp ∧ PyData.intsShortAll 13 xs = true ∧ PyData.weightAll xs ≤ xs.length * (B + 1)
  | [], _ => ⟨rfl, rfl, Nat.zero_le _, rfl, Nat.zero_le _⟩
  | x :: xs, h => by
    obtain ⟨a1, a2, a3, a4, a5⟩ := h x List.mem_cons_self
    obtain ⟨b1, b2, b3, b4, b5⟩ := rp_all (xs := xs) fun y m => h y (List.mem_cons_of_mem _ m)
    refine ⟨?_, ?_, ?_, ?_, ?_⟩
    · show (PyData.showable x && PyData.showableAll xs) = true
      rw [a1, b1]
      rfl
    · show (PyData.canLay0 x && PyData.canLayAll0 xs) = true
      rw [a2, b2]
      rfl
    · show max (PyData.depth x) (PyData.depthAll xs) ≤ dp
      omega
    · show (PyData.intsShort 13 x && PyData.intsShortAll 13 xs) = true
      rw [a4, b4]
      rfl
    · show PyData.weight x + 1 + PyData.weightAll xs ≤ (xs.length + 1) * (B + 1)
      rw [Nat.succ_mul]
      omega
theorem rp_tuple {dp B : Nat} {xs : List PyData} (h : ∀ x ∈ xs, RpOk dp B x) : RpOk (dp + 1) (xs.length * (B + 1)) (.tuple xs) := by
  obtain ⟨b1, b2, b3, b4, b5⟩ := rp_all h
  exact ⟨b1, b2, by show PyData.depthAll xs + 1 ≤ dp + 1; omega, b4, b5⟩
section
variable [Tb]
variable {X : Cx} {ρ ρ' : Rho} {e : Expr} {d : D} {p pos : Pos} {dp B : Nat}
theorem pd_reprO {q : PyData} (hgd : X.A.guards = some []) (hu : X.A.units + 200 < cLine) (hm : X.mg "repr" = none) (h : PD X e ρ d ρ') (hp : toPy d = some q) (r : RpOk dp B q) (hd : dp ≤ 64) (hB : B ≤ 1048576) (hg : Gl X "repr" := by rfl) (he : starEach [e] X.env = (false, eval e X.env) :: starEach [] X.env := by rfl) : PD X (.Call (.Name "repr" p) [e] [] pos) ρ (.str q.shown) ρ' := by
  have sh : SeqAt.shaped q = true := by
    unfold SeqAt.shaped
    rw [r.cl, Bool.true_and, decide_eq_true_eq]
    exact Nat.le_trans r.dp hd
  have ly : PyData.layable0 q = true := by
    unfold PyData.layable0
    rw [r.cl, decide_eq_true (Nat.le_trans r.dp hd), decide_eq_true (Nat.le_trans r.wt (by omega))]
    rfl
  have ln : q.shown.length ≤ sizeLine := Nat.le_trans (shown_le13 ly r.is) (by rw [sizeLine_eq]; decide)
  exact pd_callB (call_reprD hgd hu) hm (pad_one h he) (fun G H vs e a Q k => by
    cases a with
    | cons a1 r' =>
      cases r'
      exact ⟨_, q, rfl, dp_of e a1 hp, r.sh, sh, ln, k _ G H (.refl e) (.str _)⟩) bootn_repr hg (he := he)
end
end K20

end
section
set_option maxHeartbeats 4000001
/-! DL27: x, y = a, b by way of a tuple, with what is one's own. -/
namespace DL
open PySem PySem.Spec
open PyProof.Rows L2
open Evl (Ex)
section
variable [Tb]
variable {X : Cx} {ρ ρ' ρ1 ρ2 : Rho} {a b e : Expr} {s1 s2 : S} {W : WX} {ow : Bool} {P : Po} {pos : Pos}
theorem hs_unpS (i j : Nat) {nx ny : Str} {px py pt pt2 : Pos} {kt k2} (ha : PS_ X a ρ s1 ρ1) (hb : PS_ X b ρ1 s2 ρ2) (k : P.nx ((ρ2.set i (some s1)).set j (some s2))) (hc : X.calm = true) (hN : X.N.Nodup) (hij : i ≠ j := by decide) (hi0 : ow = false ∨ (i ≠ 0 ∧ j ≠ 0) := by first | exact .inl rfl | exact .inr (by decide)) (hi : X.N[i]? = some nx := by rfl) (hj : X.N[j]? = some ny := by rfl)
    (hx : Loc X.env.scope nx := by first | exact Or.inl rfl | exact Or.inr rfl) (hy : Loc X.env.scope ny := by first | exact Or.inl rfl | exact Or.inr rfl) (hf : X.fn nx = true ∨ X.env.scope.names.lookup nx = some .local := by first | exact .inl rfl | exact .inr rfl) (hf2 : X.fn ny = true ∨ X.env.scope.names.lookup ny = some .local := by first | exact .inl rfl | exact .inr rfl)
    (hsa : starEach [a, b] X.env = (false, eval a X.env) :: starEach [b] X.env := by rfl) (hsb : starEach [b] X.env = (false, eval b X.env) :: starEach [] X.env := by rfl)
    (hs : swapsWithSole [.Tuple [.Name nx px, .Name ny py] kt pt] (.Tuple [a, b] k2 pt2) pos.line X.env = pure false := by rfl) (hw : swappedStores [.Tuple [.Name nx px, .Name ny py] kt pt] (.Tuple [a, b] k2 pt2) X.env = pure none := by rfl)
    (h1 : (assignEach [.Tuple [.Name nx px, .Name ny py] kt pt] X.env).map (·.2) = [assign (.Tuple [.Name nx px, .Name ny py] kt pt) X.env] := by rfl) (h2 : (assignEach [.Name nx px, .Name ny py] X.env).map (·.2) = assign (.Name nx px) X.env :: (assignEach [.Name ny py] X.env).map (·.2) := by rfl) (h3 : (assignEach [.Name ny py] X.env).map (·.2) = assign (.Name ny py) X.env :: (assignEach [] X.env).map (·.2) := by rfl)
    (hn : (assignEach [.Name nx px, .Name ny py] X.env).length = 2 := by rfl) (hst : (assignEach [.Name nx px, .Name ny py] X.env).findIdx? (·.1) = none := by rfl) :
    HS X W ow (.Assign [.Tuple [.Name nx px, .Name ny py] kt pt] (.Tuple [a, b] k2 pt2) pos) ρ P :=
  ps_weak (ps_asg (pe_tup (pa_cons ha (pa_cons hb pa_nil hsb) hsa)) (pg_tup (n := 2) hc (pgs_cons (pg_name hN hi hx hf) (pgs_cons (pg_name hN hj hy hf2) pgs_nil h3) h2) hn hst) hs hw h1) fun Dn σ H ⟨w, Ge, He, G, hw, n, k1, _⟩ => ⟨G, n.gh, n.sl, fun v G1 H1 g1 sl1 fr1 => ⟨G1, g1.gh, g1.sl, fun u G2 H2 g2 sl2 fr2 => by
    have o1 : s1.me = true → ∀ q, v = .ref q → ¬ Mine σ ρ1 q ∧ He q = none := fun m q e => by
      obtain ⟨r, z1, z2, z3⟩ := fr1 m
      rw [z1] at e
      cases e
      exact ⟨z3, n.back g1 z2⟩
    have o2 : s2.me = true → ∀ q, u = .ref q → ¬ Mine σ ρ2 q ∧ H1 q = none ∧ He q = none := fun m q e => by
      obtain ⟨r, z1, z2, z3⟩ := fr2 m
      rw [z1] at e
      cases e
      exact ⟨z3, z2, n.back g1 (by
        cases z : H q with
        | none => rfl
        | some o => exact absurd z2 (g1.al q (some_ne z)))⟩
    refine ⟨small_line (by show 2 ≤ 100000; decide), fun T hT => ?_⟩
    have gT := Grow.fresh (o := HO.tup [v, u]) g2.gh hT
    have g3 := gT.step g2.sl
    have n2 := n.step ((g1.trans g2).trans g3)
    refine ⟨T, [v, u], rfl, .inl (.inl upd_same), rfl, v, [u], rfl, u, [], rfl, rfl, ?_⟩
    refine k1 _ G2 _ _ ((n2.set i ?_ ((sl1.out g2 fun m q e => (o1 m q e).1).grow gT) fun m q e => ⟨fun z => (o1 m q e).1 (g2.mine z), (o1 m q e).2⟩).set j ?_ (sl2.grow gT) fun m q e => ⟨fun z => ?_, (o2 m q e).2.2⟩) (g1.g.trans g2.g) k
    · exact hi0.elim (fun e => .inl (no_own (hw.trans e))) fun e => .inr e.1
    · exact hi0.elim (fun e => .inl (no_own (hw.trans e))) fun e => .inr e.2
    · rcases z.set with ⟨m1, ev⟩ | z
      · subst ev
        exact sl1.some_ m1 (o2 m q e).2.1
      · exact (o2 m q e).1 z⟩⟩
end
end DL

end
section
set_option maxHeartbeats 4000001
/-! DL28: a def called with keywords alone, in the order that is the parameters' reversed. -/
namespace DL
open PySem PySem.Spec
open PyProof.Rows L2
open Evl (Ex)
section
variable [Tb]
/-- a def of the module, and how keywords are bound -/
structure DefK (P : Program) (w : World) (K : PySem.W.Frag) (mg : Str → Option Value) (base : Heap) (x : Str) (k : Nat) (ks : List Str) (sp : Sp) : Prop where
  ex : ∃ (f : Addr) (fd : FuncData) (ps : List Str) (g : List Value → List Value → List Value), mg x = some (.ref f) ∧ PySem.W.keepIn K (.ref f) = true ∧ KBn K fd ps 0 ks g (fun vs zs => vs ++ zs.reverse) ∧ FnOk P w K mg base (L2.CX P w) k f fd ps sp
variable {X : Cx} {ρ ρ' : Rho} {ds : List D} {d : D} {x : Str} {k n : Nat} {ks : List Str} {Fn : List D → D → Prop} {Fx : List D → Value → List (Str × D) → Prop} {kws : List Keyword} {p pos : Pos}
theorem pd_callR (F : DefK X.prog X.w X.K X.mg X.base x k ks (spD n Fn Fx)) (hr : Room k X.A) (hk : PKD X kws ρ ds ρ') (hl : ds.length = n) (hz : ds.length = ks.length) (hf : Fn ds.reverse d) (hg : Gl X x := by rfl)
    (hall : (backToKw pos (keywordEach kws X.env)).all (·.1.isSome) = true := by rfl) (hks : (backToKw pos (keywordEach kws X.env)).filterMap (·.1) = ks := by rfl) (hdb : (x == ("__debug__" : Str)) = false := by decide)
    (hpl : ((backTo pos (starEach [] X.env)).any (·.1) || (backToKw pos (keywordEach kws X.env)).any (·.1.isNone)) = false := by rfl) : PD X (.Call (.Name x p) [] kws pos) ρ d ρ' := by
  obtain ⟨f, fd, ps, g, hm, hkp, hb, hF⟩ := F.ex
  refine ⟨fun pins s σ H Q I ⟨G, e1, sl, q⟩ => ?_⟩
  (refine wpAny_Call_Name_kw (ld_glob I hg hm ?_ hdb))
  refine PySem.W.callWith_KW0 (h₀ := X.base) I.ok.mod.kin hkp hall (thn (hk.run pos pins s σ H (fun zs H1 => ∃ G1, Step σ ρ ρ' G H G1 H1 ∧ Ats G1 zs ds) I ⟨G, e1, sl, fun vs G1 H1 st a => ⟨G1, st, a⟩⟩) fun ws s2 ⟨zs, H2, I2, rz, G1, st, a⟩ => ⟨I2.kIn, ?_⟩) hpl
  rw [hks]
  refine run_fnN (us := []) (vs := []) hF hr hb passF I2 .nil rz rfl (a.length.trans hz) ?_
  show spD n Fn Fx ([] ++ zs.reverse) H2 Q _
  rw [List.nil_append]
  exact ⟨G1, ds.reverse, st.sl.tb, st.gh, a.reverse, by rw [List.length_reverse]; exact hl, .inl ⟨d, hf, fun v G2 H3 g2 a2 => q v G2 H3 (st.trans (g2.step st.sl)) a2⟩⟩
end
end DL

end
section
set_option maxHeartbeats 4000001
/-! K27: one task of the law: its parts, its equality, its bad parts. -/
namespace K20
open PySem PySem.Spec
open PyProof.Rows L2 DL LamX
open Evl (Ex)
section
variable [Tb]
/-- what the law knows of what it calls -/
structure LawF (P : Program) (w : World) (K : PySem.W.Frag) (mg : Str → Option Value) (base : Heap) (f c PT CT CB CM CN CF CH CE g : Addr) (fd gd : FuncData) : Prop where
  ft : FnT K mg base "law" (top 107) f c PT fd
  hA : ∀ i < 16, Tb.lam i = askL i
  hW : ∀ j < 7, Tb.lam (16 + j) = lawL j
  B : Bn mg
  T : TaskK K mg CT
  mkT : MkC P w K mg base "Task" CT 3 6 (fnT CT) (fxT K CT CB)
  mkR : ∃ (f : Addr) (fd : FuncData) (ps : List Str) (g : List Value → List Value → List Value), Mk K CT f ∧ FnOk P w K mg base (L2.CX P w) 3 f fd ps (spOX 6 (fnT CT) (fxT K CT CB)) ∧ KBn K fd ps 1 ["most", "least", "due", "offset", "period", "name"] g fun vs zs => vs ++ zs.reverse
  eq : EqC P w K mg base CT 1 (f_eqT CT)
  eqT : PySem.W.notFirst K CT (.type "tuple") = true
  eqS : PySem.W.notFirst K CT (.ref CT) = true
  H : HeardF K mg CB CM CN CF CH CE g gd
  AF : AskF P w K mg base CT CB CM
  draw : Def P w K mg base "_law_draw" 1 (spO 1 fnDraw)
  pick : Def P w K mg base "_law_pick" 2 (spO 1 fnPick)
  mix : Def P w K mg base "_law_mixed" 2 (spO 1 fnMixed)
  sdraw : Def P w K mg base "_law_sched_draw" 3 (spO 1 fnSched)
  made : Def P w K mg base "_law_sched_made" 5 (spD 1 (g_made CT) NoX)
  round : Def P w K mg base "_law_sched_round" 1 (spD 1 g_round NoX)
  bad : Def P w K mg base "_law_sched_bad" 3 (spO 2 fnBad)
  pen : Def P w K mg base "_law_pen" 1 (spW 1 (fnPen K))
  roundK : DefK P w K mg base "round_of" 5 ["tasks"] (spD 1 (fun ds r => ∃ ts n, need1 CT ds (some n) ts ∧ r = .int n) (x_need K CT CB CM))
  relK : DefK P w K mg base "releases" 5 ["until", "tasks"] (spD 2 (g_releases CT) (x_releases K CT CB CM))
  asks : Def P w K mg base "_law_sched_asks" 2 (spD 2 g_asks NoX)
variable {X : Cx} {ρ ρ' : Rho} {e : Expr} {nm : Str} {pn p pos : Pos} {q : Pen} {i : Int} {a : Option S} {l : List (Option S)}
theorem own_me1 {a : Option S} {ds : List D} {l : List (Option S)} : ∃ s, (a :: some (S.own ds) :: l)[1]? = some (some s) ∧ s.me = true := ⟨_, rfl, rfl⟩
theorem pd_draw1 (F1 : DefX X "_law_draw" 1 (spO 1 fnDraw)) (hr : Room 1 X.A) (h : PD X e ρ (.int i) (a :: some (.own (penD q)) :: l)) (h0 : 0 < i) (h1 : i < 1073741824) (hw : Wf 1 q) (hi0 : ∃ s, ρ[1]? = some (some s) ∧ s.me = true) (hN : X.N[1]? = some nm := by rfl) (hv : Vis X.env.scope nm := by first | exact Or.inl rfl | exact Or.inr (Or.inl rfl) | exact Or.inr (Or.inr rfl)) (hd : (nm == ("__debug__" : Str)) = false := by decide) (hcd : (nm == ("__classdict__" : Str)) = false := by decide) (hg : Gl X "_law_draw" := by rfl)
    (he : starEach [.Name nm pn, e] X.env = (false, eval (.Name nm pn) X.env) :: starEach [e] X.env := by rfl) (he2 : starEach [e] X.env = (false, eval e X.env) :: starEach [] X.env := by rfl) (hpl : (backTo pos (starEach [e] X.env)).any (·.1) = false := by rfl) : PD X (.Call (.Name "_law_draw" p) [.Name nm pn, e] [] pos) ρ (.int (draw q i).1) (a :: some (.own (penD (draw q i).2)) :: l) :=
  pd_callO (p := p) (pos := pos) 1 F1 hr (pad_one h he2) rfl hi0 rfl rfl (s1 := .own (penD (draw q i).2)) (d := .int (draw q i).1) ⟨q, i, rfl, rfl, h0, h1, hw, rfl, rfl⟩ rfl hN hv hd hcd hg (by decide) he hpl
/-- the slots while one task is looked at -/
abbrev rI (d : D) (q : Pen) (o3 : Option S) (ts : List Tk) (CT : Addr) (o6 o7 o8 o9 o10 o11 : Option S) (l : List (Option S)) : Rho := some (.d d) :: some (.own (penD q)) :: some (.d (.lst (wordsL.map D.str))) :: o3 :: some (.d (.lst (ts.map plD))) :: some (.d (.lst (ts.map (tkD CT)))) :: o6 :: o7 :: o8 :: o9 :: o10 :: o11 :: l
theorem rp_pT {t : Tk} (h : okT t) : RpOk 1 600 (pT t) := by
  obtain ⟨h1, h2, h3, h4, h5, h6, h7, h8, h9⟩ := h
  refine rp_tuple (xs := [.str t.name, .int t.period, .int t.offset, .int t.due, .int t.least, optP t.most]) (dp := 0) (B := 99) fun x hx => ?_
  (simp only [List.mem_cons, List.not_mem_nil, or_false] at hx)
  rcases hx with rfl | rfl | rfl | rfl | rfl | rfl
  · refine rp_str (name_ok h1) ?_
    unfold isNameS at h1
    (simp only [Bool.and_eq_true, decide_eq_true_eq] at h1)
    have : t.name.cps.size ≤ 8 := h1.1.2
    omega
  · exact rp_int (by omega) (by omega)
  · exact rp_int (by omega) (by omega)
  · exact rp_int (by omega) (by omega)
  · exact rp_int (by omega) (by omega)
  · cases hm : t.most with
    | none => exact rp_none
    | some m =>
      obtain ⟨_, b⟩ := h9 m hm
      show RpOk 0 99 (.int m)
      exact rp_int (by omega) (by omega)
variable {P : Program} {w : World} {K : PySem.W.Frag} {mg : Str → Option Value} {base : Heap} {f c PT CT CB CM CN CF CH CE g : Addr} {fd gd : FuncData} {A : Around} {outer : List Env} {s : Shared} {H : Hp} {E : XK} {d : D} {o3 o6 o7 o8 o9 o10 o11 : Option S} {ts : List Tk} {t : Tk}
theorem in_0 (L : LawF P w K mg base f c PT CT CB CM CN CF CH CE g fd gd) (hr : Room 8 (xW P w K mg base f c A outer s H E).A) (hgd : (xW P w K mg base f c A outer s H E).A.guards = some []) (ht : okT t) :
    PTD (xW P w K mg base f c A outer s H E) (ifT (bI.getD 0 noS)) (rI d q o3 ts CT (some (.d (tkD CT t))) (some (.d (plD t))) o8 o9 o10 o11 l) false (rI d q o3 ts CT (some (.d (tkD CT t))) (some (.d (plD t))) o8 o9 o10 o11 l) := by
  have T := L.T.toTaskC
  have un : (xW P w K mg base f c A outer s H E).A.units + 200 < cLine := by
    have := hr.un
    omega
  refine pwd_pt (pwd_or (PTD.is (ptd_neS (pd_reprO (q := pT t) hgd un L.B.repr (pd_tup (pad_cons (pd_fld (pd_name 6) T.cl T.name rfl) (pad_cons (pd_fld (pd_name 6) T.cl T.period rfl) (pad_cons (pd_fld (pd_name 6) T.cl T.offset rfl) (pad_cons (pd_fld (pd_name 6) T.cl T.due rfl) (pad_cons (pd_fld (pd_name 6) T.cl T.least rfl) (pad_one (pd_fld (pd_name 6) T.cl T.most rfl))))))) (by show 6 ≤ 100000; decide)) (pT_of t) (rp_pT ht) (by decide) (by decide)) (pd_reprO (q := pT t) hgd un L.B.repr (pd_name 7) (pT_of t) (rp_pT ht) (by decide) (by decide))) (by rw [decide_eq_true rfl]; rfl)) ?_)
  exact pwd_or1 (ptd_eqC L.eq (hr.mono (by decide)) (pd_name 6) (pd_name 7) ⟨t, plD t, rfl, ht.1, .inr ⟨⟨_, rfl⟩, rfl⟩⟩ (.tup _) L.eqT)
theorem in_1 (L : LawF P w K mg base f c PT CT CB CM CN CF CH CE g fd gd) (hr : Room 8 (xW P w K mg base f c A outer s H E).A) (ht : okT t) :
    PTD (xW P w K mg base f c A outer s H E) (ifT (bI.getD 1 noS)) (rI d q o3 ts CT (some (.d (tkD CT t))) (some (.d (plD t))) o8 o9 o10 o11 l) false (rI d q o3 ts CT (some (.d (tkD CT t))) (some (.d (plD t))) o8 o9 o10 o11 l) := by
  obtain ⟨f0, fd0, ps0, g0, hM, hF, hK⟩ := L.mkR
  exact PTD.is (ptd_neC L.eq (hr.mono (by decide)) (pd_name 6) (pd_frzI (pso_makeRev hM hF hK (hr.mono (by decide)) L.mkT.gl (pkd_cons (pd_ixT (ds := tvs t) (pd_name 7) pd_int rfl) (pkd_cons (pd_ixT (ds := tvs t) (pd_name 7) pd_int rfl) (pkd_cons (pd_ixT (ds := tvs t) (pd_name 7) pd_int rfl) (pkd_cons (pd_ixT (ds := tvs t) (pd_name 7) pd_int rfl) (pkd_cons (pd_ixT (ds := tvs t) (pd_name 7) pd_int rfl) (pkd_cons (pd_ixT (ds := tvs t) (pd_name 7) pd_int rfl) pkd_nil)))))) rfl rfl ⟨rfl, rfl, t, rfl, ht, rfl⟩))
    ⟨t, tkD CT t, rfl, ht.1, .inl ⟨t, rfl, ht.1, congrArg D.bl (eqv_self ht.1).symm⟩⟩ (.ins _ L.T.cp.ci) L.eqS) rfl
/-- the pen behind so many of the two draws -/
def penS (q : Pen) : Nat → Pen
  | 0 => q
  | 1 => (draw q 6).2
  | _ => (draw (draw q 6).2 6).2
def spx (q : Pen) : Int := (draw q 6).1
def spy (q : Pen) : Int := (draw (draw q 6).2 6).1
def lowS (q : Pen) : Int := min (spx q) (spy q)
def hiS (q : Pen) : Int := max (spx q) (spy q)
theorem in_2 (L : LawF P w K mg base f c PT CT CB CM CN CF CH CE g fd gd) (hr : Room 8 (xW P w K mg base f c A outer s H E).A) (hw : Wf 2 q) {W : WX} {P0 : Po} (k : P0.nx (rI d (penS q 2) o3 ts CT o6 (some (.d (plD t))) (some (.d (.lst [.int (lowS q), .int (hiS q)]))) (some (.own (tvs t))) o10 o11 l)) :
    HS (xW P w K mg base f c A outer s H E) W false (bI.getD 2 noS) (rI d q o3 ts CT o6 (some (.d (plD t))) o8 o9 o10 o11 l) P0 := by
  have hr1 : Room 1 (xW P w K mg base f c A outer s H E).A := hr.mono (by decide)
  refine hs_unpS 8 9 (ps_d (pd_frz (pso_sortedI (xs := [spx q, spy q]) (zs := [lowS q, hiS q]) L.B.sorted (pd_frz (pso_lcG (own := [("lap", 11)]) rfl sc_law.nd (pid_range1 L.B.range pd_int (by decide)) (blkOk_by (show blkC nW (defScope (top 107)) _ _ = true by decide +kernel))
    (fun i => rI d (penS q i) o3 ts CT o6 (some (.d (plD t))) o8 o9 o10 none l) (fun i => (([spx q, spy q] : List Int).take i).map D.int) (rI d (penS q 2) o3 ts CT o6 (some (.d (plD t))) o8 o9 o10 o11 l) rfl rfl (fun i d' hd => ?_) rfl (fun j hj => ?_) (fun j hj => ?_))) (fun ys h1 h2 => ?_)))) (pso_listT L.B.list (pd_name 7)) k rfl sc_law.nd
  · obtain ⟨hi, rfl⟩ := rngD_get hd
    have hi : i < 2 := hi
    match i, hi with
    | 0, _ => exact ⟨[11], _, true, fun _ _ _ _ _ => pgd_name 11 sc_law.nd, by decide, ptsd_nil, fun _ => ⟨.int (spx q), rI d (penS q 1) o3 ts CT o6 (some (.d (plD t))) o8 o9 o10 (some (.d (.int 0))) l, fun _ _ _ _ _ => pd_draw1 L.draw hr1 pd_int (by decide) (by decide) (hw.mono (by decide)) own_me1, rfl, rfl⟩, fun z => by cases z⟩
    | 1, _ => exact ⟨[11], _, true, fun _ _ _ _ _ => pgd_name 11 sc_law.nd, by decide, ptsd_nil, fun _ => ⟨.int (spy q), rI d (penS q 2) o3 ts CT o6 (some (.d (plD t))) o8 o9 o10 (some (.d (.int 1))) l, fun _ _ _ _ _ => pd_draw1 L.draw hr1 pd_int (by decide) (by decide) (draw_wf hw) own_me1, rfl, rfl⟩, fun z => by cases z⟩
  · obtain rfl : j = 11 := List.mem_singleton.mp hj
    rfl
  · have ne : 11 ≠ j := fun z => hj (List.mem_singleton.mpr z.symm)
    show (rI d (penS q 2) o3 ts CT o6 (some (.d (plD t))) o8 o9 o10 o11 l)[j]? = (rI d (penS q 2) o3 ts CT o6 (some (.d (plD t))) o8 o9 o10 none l)[j]?
    exact (List.getElem?_set_ne (l := rI d (penS q 2) o3 ts CT o6 (some (.d (plD t))) o8 o9 o10 o11 l) (a := none) ne).symm
  · have hp : ys.Perm [lowS q, hiS q] := h1.trans (by
      unfold lowS hiS
      by_cases z : spx q ≤ spy q
      · rw [Int.min_eq_left z, Int.max_eq_right z]
      · rw [Int.min_eq_right (by omega), Int.max_eq_left (by omega)]
        exact List.Perm.swap _ _ _)
    refine List.Perm.eq_of_pairwise (le := (· ≤ ·)) (fun a b _ _ x y => Int.le_antisymm x y) h2 ?_ hp
    have z : lowS q ≤ hiS q := by
      unfold lowS hiS
      omega
    simp [z]
end
end K20

end
section
set_option maxHeartbeats 4000001
/-! K28: one task of the law: its bad parts are told; what is unlike it. -/
namespace K20
open PySem PySem.Spec
open PyProof.Rows L2 DL LamX
open Evl (Ex)
section
variable [Tb]
def forT : Stmt → Expr
  | .For t _ _ _ _ => t
  | _ => noE
/-- the parts behind i of the bad ones: na is the first spot -/
structure BentOk (K : PySem.W.Frag) (t : Tk) (na i : Nat) (bs : List D) : Prop where
  len : bs.length = 6
  old : ∀ j, j < na → bs[j]? = (tvs t)[j]?
  ok : ∀ z ∈ bs, Ok K z
  bad : 0 < i → ∃ v ∈ (badL t).getD na [], bs[na]? = some v
theorem bent0 {K : PySem.W.Frag} {t : Tk} {na : Nat} (h : okT t) : BentOk K t na 0 (tvs t) := by
  refine ⟨rfl, fun j hj => rfl, fun z hz => ?_, fun z => absurd z (by decide)⟩
  have l : t.name.length ≤ 1000 := by
    have h1 := h.1
    unfold isNameS at h1
    (simp only [Bool.and_eq_true, decide_eq_true_eq] at h1)
    have := h1.1.2
    omega
  simp only [tvs, List.mem_cons, List.not_mem_nil, or_false] at hz
  rcases hz with rfl | rfl | rfl | rfl | rfl | rfl
  · exact .str _ l
  · exact .int _
  · exact .int _
  · exact .int _
  · exact .int _
  · cases t.most with
    | none => exact .non
    | some m => exact .int _
theorem bent1 {K : PySem.W.Frag} {t : Tk} {na n i : Nat} {bs : List D} {v : D} (h : BentOk K t na i bs) (hn : n < 6) (hle : na ≤ n) (hf : i = 0 → n = na) (hv : v ∈ (badL t).getD n []) : BentOk K t na (i + 1) (bs.set n v) := by
  refine ⟨by rw [List.length_set]; exact h.len, fun j hj => ?_, fun z hz => ?_, fun _ => ?_⟩
  · rw [List.getElem?_set_ne (by omega)]
    exact h.old j hj
  · rcases List.mem_or_eq_of_mem_set hz with m | e
    · exact h.ok z m
    · rw [e]
      rcases badL_ok (K := K) hn hv with e2 | o
      · rw [← e2]
        exact .non
      · exact o
  · by_cases z : n = na
    · rw [z] at hv ⊢
      exact ⟨v, hv, List.getElem?_set_self (by rw [h.len]; omega)⟩
    · obtain ⟨u, m, e⟩ := h.bad (by
        rcases Nat.eq_zero_or_pos i with y | y
        · exact absurd (hf y) z
        · exact y)
      exact ⟨u, m, by rw [List.getElem?_set_ne z]; exact e⟩
theorem spots_in (q : Pen) : ∃ na nb : Nat, lowS q = (na : Int) ∧ hiS q = (nb : Int) ∧ na ≤ nb ∧ nb < 6 := by
  obtain ⟨a1, a2⟩ := draw_in (p := q) (many := 6) (by decide)
  obtain ⟨b1, b2⟩ := draw_in (p := (draw q 6).2) (many := 6) (by decide)
  have e1 : lowS q = min (draw q 6).1 (draw (draw q 6).2 6).1 := rfl
  have e2 : hiS q = max (draw q 6).1 (draw (draw q 6).2 6).1 := rfl
  refine ⟨(lowS q).toNat, (hiS q).toNat, ?_, ?_, ?_, ?_⟩ <;> omega
variable {P : Program} {w : World} {K : PySem.W.Frag} {mg : Str → Option Value} {base : Heap} {f c PT CT CB CM CN CF CH CE g : Addr} {fd gd : FuncData} {A : Around} {outer : List Env} {s : Shared} {H : Hp} {E : XK} {d : D} {o3 o6 o7 o8 o9 o10 o11 : Option S} {ts : List Tk} {t : Tk} {q : Pen} {l : List (Option S)} {na nb m : Nat}
theorem in_3 (L : LawF P w K mg base f c PT CT CB CM CN CF CH CE g fd gd) (hr : Room 8 (xW P w K mg base f c A outer s H E).A) (ht : okT t) (hle : na ≤ nb) (hn : nb < 6) (hw : Wf (m + 2) q) {W : WX} {P0 : Po} (hp : PassesOwn (model (xW P w K mg base f c A outer s H E).prog (xW P w K mg base f c A outer s H E).w) (xW P w K mg base f c A outer s H E).A (xW P w K mg base f c A outer s H E).env (xW P w K mg base f c A outer s H E).xe)
    (k : ∀ q' bs o10, Wf m q' → BentOk K t na 2 bs → P0.nx (rI d q' o3 ts CT o6 (some (.d (plD t))) (some (.d (.lst [.int (na : Int), .int (nb : Int)]))) (some (.own bs)) o10 o11 l)) :
    HS (xW P w K mg base f c A outer s H E) W false (bI.getD 3 noS) (rI d q o3 ts CT o6 (some (.d (plD t))) (some (.d (.lst [.int (na : Int), .int (nb : Int)]))) (some (.own (tvs t))) o10 o11 l) P0 := by
  refine hs_for hp rfl (pid_list (pd_name 8)) (fun i ρ => ∃ q' bs o10, Wf (m + (2 - i)) q' ∧ BentOk K t na i bs ∧ ρ = rI d q' o3 ts CT o6 (some (.d (plD t))) (some (.d (.lst [.int (na : Int), .int (nb : Int)]))) (some (.own bs)) o10 o11 l) ⟨q, tvs t, o10, hw, bent0 ht, rfl⟩ (fun i d' ρi hd hI => ?_) fun ρn hI => ?_
  · obtain ⟨q', bs, o, hw', hb, rfl⟩ := hI
    have key : ∀ n : Nat, n < 6 → na ≤ n → (i = 0 → n = na) → i < 2 → d' = .int (n : Int) → ∃ js ρa, PGD (xW P w K mg base f c A outer s H E) (forT (bI.getD 3 noS)) js (rI d q' o3 ts CT o6 (some (.d (plD t))) (some (.d (.lst [.int (na : Int), .int (nb : Int)]))) (some (.own bs)) o o11 l) d' ρa ∧ (false = false ∨ 0 ∉ js) ∧ HSs (xW P w K mg base f c A outer s H E) W false (forB (bI.getD 3 noS)) ρa { P0 with nx := fun ρ => ∃ q' bs o10, Wf (m + (2 - (i + 1))) q' ∧ BentOk K t na (i + 1) bs ∧ ρ = rI d q' o3 ts CT o6 (some (.d (plD t))) (some (.d (.lst [.int (na : Int), .int (nb : Int)]))) (some (.own bs)) o10 o11 l, ct := fun ρ => ∃ q' bs o10, Wf (m + (2 - (i + 1))) q' ∧ BentOk K t na (i + 1) bs ∧ ρ = rI d q' o3 ts CT o6 (some (.d (plD t))) (some (.d (.lst [.int (na : Int), .int (nb : Int)]))) (some (.own bs)) o10 o11 l, bk := P0.nx } := by
      intro n h6 hna h0 hi e
      subst e
      refine ⟨[10], _, pgd_name 10 sc_law.nd, .inl rfl, hss_one (hs_ixO 9 (d := (badD q' t n).1) (ρ1 := rI d (badD q' t n).2 o3 ts CT o6 (some (.d (plD t))) (some (.d (.lst [.int (na : Int), .int (nb : Int)]))) (some (.own bs)) (some (.d (.int (n : Int)))) o11 l) (pd_callO 1 L.bad (hr.mono (by decide)) (pad_cons (pd_name 7) (pad_one (pd_name 10))) rfl own_me1 rfl rfl ⟨q', t, n, rfl, rfl, h6, hw'.mono (by omega), rfl, rfl⟩ rfl) ⟨_, rfl, rfl⟩ (pd_name 10) rfl (by rw [hb.len]; unfold ixN; rw [if_pos (by omega), if_pos (by omega)]; rfl)
        ⟨(badD q' t n).2, bs.set n (badD q' t n).1, some (.d (.int (n : Int))), ?_, bent1 hb h6 hna h0 (badD_mem h6), rfl⟩)⟩
      exact draw_wf (hw'.mono (by omega))
    match i, hd with
    | 0, hd =>
      have e : d' = .int (na : Int) := (Option.some.inj hd).symm
      exact key na (by omega) (Nat.le_refl _) (fun _ => rfl) (by decide) e
    | 1, hd =>
      have e : d' = .int (nb : Int) := (Option.some.inj hd).symm
      exact key nb hn hle (fun z => absurd z (by decide)) (by decide) e
    | i + 2, hd => cases hd
  · obtain ⟨q', bs, o, hw', hb, rfl⟩ := hI
    exact k q' bs o (hw'.mono (by show m ≤ m + (2 - 2); omega)) hb
theorem words_ne : ∀ {n : Nat}, n < 6 → (wordsL.map D.str)[n]? = some (.str (wordsL.getD n ""))
  | 0, _ => rfl
  | 1, _ => rfl
  | 2, _ => rfl
  | 3, _ => rfl
  | 4, _ => rfl
  | 5, _ => rfl
  | n + 6, h => absurd h (by omega)
theorem words_ok : ∀ {n : Nat}, n < 6 → PyData.canLay0 (.str (wordsL.getD n "")) = true
  | 0, _ => by decide +kernel
  | 1, _ => by decide +kernel
  | 2, _ => by decide +kernel
  | 3, _ => by decide +kernel
  | 4, _ => by decide +kernel
  | 5, _ => by decide +kernel
  | n + 6, h => absurd h (by omega)
/-- two texts in a tuple -/
theorem tup2_shaped {x y : Str} (hx : PyData.canLay0 (.str x) = true) (hy : PyData.canLay0 (.str y) = true) : SeqAt.shaped (.tuple [.str x, .str y]) = true := by
  unfold SeqAt.shaped
  rw [Bool.and_eq_true, decide_eq_true_eq]
  refine ⟨?_, by show max 0 (max 0 0) + 1 ≤ 64; decide⟩
  show (PyData.canLay0 (.str x) && (PyData.canLay0 (.str y) && true)) = true
  rw [hx, hy]
  rfl
theorem val_ok : PyData.canLay0 (.str "value") = true := by decide +kernel
theorem in_4 (L : LawF P w K mg base f c PT CT CB CM CN CF CH CE g fd gd) (hr : Room 8 (xW P w K mg base f c A outer s H E).A) {bs : List D} (ht : okT t) (hn : na < 6) (hb : BentOk K t na 2 bs) :
    PTD (xW P w K mg base f c A outer s H E) (ifT (bI.getD 4 noS)) (rI d q o3 ts CT o6 o7 (some (.d (.lst [.int (na : Int), .int (nb : Int)]))) (some (.own bs)) o10 o11 l) false (rI d q o3 ts CT o6 o7 (some (.d (.lst [.int (na : Int), .int (nb : Int)]))) (some (.own bs)) o10 o11 l) := by
  obtain ⟨hlen, hold, hok, hbad⟩ := hb
  obtain ⟨v, hv, hat⟩ := hbad (by decide)
  match bs, hlen with
  | [b0, b1, b2, b3, b4, b5], _ =>
    have hu : (xW P w K mg base f c A outer s H E).A.units + 64 < cLine := by
      have := hr.un
      omega
    have hx : fxT K CT CB (.obj CT []) [b0, b1, b2, b3, b4, b5] (.ref CB) (exV (wordsL.getD na "")) := ⟨rfl, b0, b1, b2, b3, b4, b5, _, rfl, hok, chk_bad ht hn hv hold hat, rfl, rfl⟩
    have own9 : ∃ z, (rI d q o3 ts CT o6 o7 (some (.d (.lst [.int (na : Int), .int (nb : Int)]))) (some (.own [b0, b1, b2, b3, b4, b5])) o10 o11 l)[9]? = some (some z) ∧ z.me = true := ⟨_, rfl, rfl⟩
    have ix : atI (wordsL.map D.str) (na : Int) = some (.str (wordsL.getD na "")) := by
      have hl : (wordsL.map D.str).length = 6 := rfl
      unfold atI
      rw [hl, show ixN 6 (na : Int) = some na from by unfold ixN; rw [if_pos (by omega), if_pos (by omega)]; rfl]
      exact words_ne hn
    refine PTD.is (ptd_neD (dx := .tuple [.str "value", .str (wordsL.getD na "")]) (dy := .tuple [.str "value", .str (wordsL.getD na "")]) (pd_heardL (k := 4) 0 (by decide) L.ft L.hW L.H L.B (hr.mono (by decide)) (lamQ_by (by decide +kernel)) (closB0 rfl fun _ _ _ _ => rfl) (.val (wordsL.getD na "")) (fun A' outer' s1 HZ E' f' c' hr' => px_make (takes_of rfl rfl rfl rfl) L.mkT hr' (pad_cons (pd_ixO 9 own9 rfl pd_int rfl) (pad_cons (pd_ixO 9 own9 rfl pd_int rfl) (pad_cons (pd_ixO 9 own9 rfl pd_int rfl) (pad_cons (pd_ixO 9 own9 rfl pd_int rfl) (pad_cons (pd_ixO 9 own9 rfl pd_int rfl) (pad_one (pd_ixO 9 own9 rfl pd_int rfl))))))) rfl hx))
      (pd_tup (pad_cons pd_str (pad_one (pd_ixL (pd_name 2) (pd_ixL (pd_name 8) pd_int rfl) ix))) (by show 2 ≤ 100000; decide)) hu rfl rfl (tup2_shaped val_ok (words_ok hn)) (tup2_shaped val_ok (words_ok hn))) ?_
    rw [eqv_same (tup2_shaped val_ok (words_ok hn))]
    rfl
theorem eqv_most {t : Tk} (h : isNameS t.name = true) {m : Nat} (hm : t.most = some m) : PyData.eqv (pT { t with most := none }) (pT t) = false := by
  show (_ && (_ && (_ && (_ && (_ && (PyData.eqv (optP none) (optP t.most) && true)))))) = false
  rw [hm]
  show (_ && (_ && (_ && (_ && (_ && (false && true)))))) = false
  simp
theorem eqv_off {t : Tk} : PyData.eqv (pT { t with offset := t.offset + 1 }) (pT t) = false := by
  show (_ && (_ && ((((t.offset + 1 : Nat) : Int) == (t.offset : Int)) && _))) = false
  have : (((t.offset + 1 : Nat) : Int) == (t.offset : Int)) = false := by
    rw [beq_eq_false_iff_ne]
    omega
  rw [this]
  simp
theorem in_5 (L : LawF P w K mg base f c PT CT CB CM CN CF CH CE g fd gd) (hr : Room 8 (xW P w K mg base f c A outer s H E).A) (ht : okT t) (hof : t.offset ≤ 599) {m0 : Nat} (hm : t.most = some m0) :
    PTD (xW P w K mg base f c A outer s H E) (ifT (bI.getD 5 noS)) (rI d q o3 ts CT (some (.d (tkD CT t))) (some (.d (plD t))) o8 o9 o10 o11 l) false (rI d q o3 ts CT (some (.d (tkD CT t))) (some (.d (plD t))) o8 o9 o10 o11 l) := by
  obtain ⟨h1, h2, h3, h4, h5, h6, h7, h8, h9⟩ := id ht
  have ok1 : okT { t with most := none } := ⟨h1, h2, h3, h4, h5, h6, h7, h8, fun m z => by cases z⟩
  have ok2 : okT { t with offset := t.offset + 1 } := ⟨h1, h2, h3, by show t.offset + 1 ≤ 600; omega, h5, h6, h7, h8, h9⟩
  refine pwd_pt (pwd_or (ptd_eqC L.eq (hr.mono (by decide)) (pd_frzI (pso_make (fs := tfs { t with most := none }) L.mkT (hr.mono (by decide)) (pad_cons (pd_ixT (ds := tvs t) (pd_name 7) pd_int rfl) (pad_cons (pd_ixT (ds := tvs t) (pd_name 7) pd_int rfl) (pad_cons (pd_ixT (ds := tvs t) (pd_name 7) pd_int rfl) (pad_cons (pd_ixT (ds := tvs t) (pd_name 7) pd_int rfl) (pad_cons (pd_ixT (ds := tvs t) (pd_name 7) pd_int rfl) (pad_one pd_non)))))) rfl ⟨rfl, rfl, _, rfl, ok1, rfl⟩)) (pd_name 6)
    ⟨{ t with most := none }, tkD CT t, rfl, h1, .inl ⟨t, rfl, h1, congrArg D.bl (eqv_most h1 hm).symm⟩⟩ (.ins _ L.T.cp.ci) L.eqS) ?_)
  exact pwd_or1 (ptd_eqC L.eq (hr.mono (by decide)) (pd_frzI (pso_make (fs := tfs { t with offset := t.offset + 1 }) L.mkT (hr.mono (by decide)) (pad_cons (pd_ixT (ds := tvs t) (pd_name 7) pd_int rfl) (pad_cons (pd_ixT (ds := tvs t) (pd_name 7) pd_int rfl) (pad_cons (pd_add (pd_ixT (ds := tvs t) (pd_name 7) pd_int rfl) pd_int) (pad_cons (pd_ixT (ds := tvs t) (pd_name 7) pd_int rfl) (pad_cons (pd_ixT (ds := tvs t) (pd_name 7) pd_int rfl) (pad_one (pd_ixT (ds := tvs t) (pd_name 7) pd_int rfl))))))) rfl ⟨rfl, rfl, { t with offset := t.offset + 1 }, rfl, ok2, rfl⟩)) (pd_name 6)
    ⟨{ t with offset := t.offset + 1 }, tkD CT t, rfl, h1, .inl ⟨t, rfl, h1, congrArg D.bl eqv_off.symm⟩⟩ (.ins _ L.T.cp.ci) L.eqS)
end
end K20

end
section
set_option maxHeartbeats 4000001
/-! K29: the law's inner loop. -/
namespace K20
open PySem PySem.Spec
open PyProof.Rows L2 DL LamX
open Evl (Ex)
section
variable [Tb]
variable {P : Program} {w : World} {K : PySem.W.Frag} {mg : Str → Option Value} {base : Heap} {f c PT CT CB CM CN CF CH CE g : Addr} {fd gd : FuncData} {A : Around} {outer : List Env} {s : Shared} {H : Hp} {E : XK} {d : D} {o3 o6 o7 o8 o9 o10 o11 : Option S} {ts : List Tk} {t : Tk} {q : Pen} {l : List (Option S)} {m : Nat}
/-- a task as the law draws them -/
structure GoodT (t : Tk) : Prop where
  ok : okT t
  off : t.offset ≤ 599
  most : ∃ m, t.most = some m
theorem inner (L : LawF P w K mg base f c PT CT CB CM CN CF CH CE g fd gd) (hr : Room 8 (xW P w K mg base f c A outer s H E).A) (hgd : (xW P w K mg base f c A outer s H E).A.guards = some []) (ht : GoodT t) (hw : Wf (m + 4) q) {W : WX} {P0 : Po} (hp : PassesOwn (model (xW P w K mg base f c A outer s H E).prog (xW P w K mg base f c A outer s H E).w) (xW P w K mg base f c A outer s H E).A (xW P w K mg base f c A outer s H E).env (xW P w K mg base f c A outer s H E).xe)
    (k : ∀ q' o8 o9 o10, Wf m q' → P0.nx (rI d q' o3 ts CT (some (.d (tkD CT t))) (some (.d (plD t))) o8 o9 o10 o11 l)) :
    HSs (xW P w K mg base f c A outer s H E) W false bI (rI d q o3 ts CT (some (.d (tkD CT t))) (some (.d (plD t))) o8 o9 o10 o11 l) P0 := by
  obtain ⟨na, nb, e1, e2, hle, hn⟩ := spots_in q
  obtain ⟨m0, hm⟩ := ht.most
  refine hss_leave (in_0 L hr hgd ht.ok) (fun z => by cases z) fun _ => ?_
  refine hss_leave (in_1 L hr ht.ok) (fun z => by cases z) fun _ => ?_
  refine hss_then (in_2 L hr (hw.mono (by omega)) rfl) ?_
  rw [e1, e2]
  refine hss_cons (M := fun ρ => ∃ q' bs o10, Wf m q' ∧ BentOk K t na 2 bs ∧ ρ = rI d q' o3 ts CT (some (.d (tkD CT t))) (some (.d (plD t))) (some (.d (.lst [.int (na : Int), .int (nb : Int)]))) (some (.own bs)) o10 o11 l) (in_3 L hr ht.ok hle hn (draw_wf (draw_wf hw)) hp fun q' bs o10 h1 h2 => ⟨q', bs, o10, h1, h2, rfl⟩) fun ρ' ⟨q', bs, o10, h1, h2, e⟩ => ?_
  subst e
  refine hss_leave (in_4 L hr ht.ok (by omega) h2) (fun z => by cases z) fun _ => ?_
  exact hss_leave (in_5 L hr ht.ok ht.off hm) (fun z => by cases z) fun _ => hss_nil (k q' _ _ _ h1)
theorem zip_get {CT : Addr} : ∀ {ts : List Tk} {i : Nat} {d : D}, (zipD (ts.map (tkD CT)) (ts.map plD))[i]? = some d → ∃ t, ts[i]? = some t ∧ d = .tup [tkD CT t, plD t]
  | [], i, d, h => by simp [zipD] at h
  | t :: ts, 0, d, h => ⟨t, rfl, (Option.some.inj h).symm⟩
  | t :: ts, i + 1, d, h => zip_get (ts := ts) (i := i) h
theorem zip_len {CT : Addr} : ∀ ts : List Tk, (zipD (ts.map (tkD CT)) (ts.map plD)).length = ts.length
  | [] => rfl
  | t :: ts => congrArg Nat.succ (zip_len ts)
theorem turn_2 (L : LawF P w K mg base f c PT CT CB CM CN CF CH CE g fd gd) (hr : Room 8 (xW P w K mg base f c A outer s H E).A) (hgd : (xW P w K mg base f c A outer s H E).A.guards = some []) (ht : ∀ t ∈ ts, GoodT t) (hw : Wf (m + 4 * ts.length) q) {W : WX} {P0 : Po} (hp : PassesOwn (model (xW P w K mg base f c A outer s H E).prog (xW P w K mg base f c A outer s H E).w) (xW P w K mg base f c A outer s H E).A (xW P w K mg base f c A outer s H E).env (xW P w K mg base f c A outer s H E).xe)
    (k : ∀ q' o6 o7 o8 o9 o10, Wf m q' → P0.nx (rI d q' o3 ts CT o6 o7 o8 o9 o10 o11 l)) :
    HS (xW P w K mg base f c A outer s H E) W false (bT.getD 2 noS) (rI d q o3 ts CT o6 o7 o8 o9 o10 o11 l) P0 := by
  refine hs_for hp rfl (pid_zip L.B.zip (pd_name 5) (pd_name 4)) (fun i ρ => ∃ q' o6 o7 o8 o9 o10, Wf (m + 4 * (ts.length - i)) q' ∧ ρ = rI d q' o3 ts CT o6 o7 o8 o9 o10 o11 l) ⟨q, o6, o7, o8, o9, o10, hw, rfl⟩ (fun i d' ρi hd hI => ?_) fun ρn hI => ?_
  · obtain ⟨q', p6, p7, p8, p9, p10, hw', rfl⟩ := hI
    obtain ⟨t, hti, rfl⟩ := zip_get hd
    have hi : i < ts.length := get_of_le hti
    refine ⟨[6, 7], rI d q' o3 ts CT (some (.d (tkD CT t))) (some (.d (plD t))) p8 p9 p10 o11 l, pgd_tup rfl (pgds_cons (pgd_name 6 sc_law.nd) (pgds_cons (pgd_name 7 sc_law.nd) pgds_nil)), .inl rfl, ?_⟩
    exact inner L hr hgd (ht t (List.mem_of_getElem? hti)) (m := m + 4 * (ts.length - (i + 1))) (hw'.mono (by omega)) hp fun q2 r8 r9 r10 h => ⟨q2, _, _, r8, r9, r10, h, rfl⟩
  · obtain ⟨q', p6, p7, p8, p9, p10, hw', rfl⟩ := hI
    exact k q' p6 p7 p8 p9 p10 (hw'.mono (by omega))
end
end K20

end
section
set_option maxHeartbeats 4000001
/-! K30: what holds of drawn tasks. -/
namespace K20
open PySem PySem.Spec
open PyProof.Rows L2 DL LamX
section
variable [Tb]
theorem asc_by : ∀ {ys : List Str}, (ys.Pairwise fun a b => leS a b = true) → ys.Nodup → asc ys = true
  | [], _, _ => rfl
  | [x], _, _ => rfl
  | x :: y :: r, h, nd => by
    (have h' := List.pairwise_cons.mp h)
    have nd' := List.nodup_cons.mp nd
    have ih := asc_by (ys := y :: r) h'.2 nd'.2
    have l1 : leS x y = true := h'.1 y List.mem_cons_self
    have ne : x ≠ y := fun z => nd'.1 (by rw [z]; exact List.mem_cons_self)
    have l2 : ltS x y = true := by
      rcases ltS_tri x y with z | z | z
      · exact z
      · exact absurd z ne
      · unfold leS at l1
        rw [z] at l1
        cases l1
    show (List.zipWith (fun a b => ltS a b) (x :: y :: r) (y :: r)).all id = true
    rw [List.zipWith_cons_cons, List.all_cons, l2]
    exact ih
theorem asc_of {xs : List Str} (h : xs.Nodup) : asc (srtS xs) = true := asc_by (srtS_pw xs) ((srtS_perm xs).nodup_iff.mpr h)
structure Drawn (ts : List Tk) : Prop where
  l1 : 1 ≤ ts.length
  l5 : ts.length ≤ 5
  gd : ∀ t ∈ ts, GoodT t
  off : ∀ t ∈ ts, t.offset ≤ 200
  nd : (ts.map (·.name)).Nodup
  nm : ∀ t ∈ ts, t.name ∈ theNames
  dv : ∃ n, 0 < n ∧ n ≤ 18 ∧ ∀ t ∈ ts, 0 < t.period ∧ t.period ∣ n
theorem Drawn.perm {ts us : List Tk} (h : Drawn ts) (p : us.Perm ts) : Drawn us := by
  obtain ⟨a1, a2, a3, a4, a5, a6, n, b1, b2, b3⟩ := h
  exact ⟨by rw [p.length_eq]; exact a1, by rw [p.length_eq]; exact a2, fun t m => a3 t (p.mem_iff.mp m), fun t m => a4 t (p.mem_iff.mp m), (p.map _).nodup_iff.mpr a5, fun t m => a6 t (p.mem_iff.mp m), n, b1, b2, fun t m => b3 t (p.mem_iff.mp m)⟩
theorem Drawn.good {ts : List Tk} (h : Drawn ts) : good ts := ⟨h.l1, h.l5, asc_of h.nd, fun t m => by
  obtain ⟨a1, a2, a3, _⟩ := (h.gd t m).ok
  exact ⟨a2, a3⟩⟩
theorem drawn_by {p : Pen} {m : Nat} (h1 : 1 ≤ m) (h5 : m ≤ 5) : Drawn (schedD p m).1 := by
  have hp := the_per _ (perOf_mem (mixD p (theNames.map D.str)).2)
  obtain ⟨p1, p2, p3, L, L1, L2, L3⟩ := hp
  have names : (schedD p m).1.map (·.name) = namesOf p m := schedL_names
  have len : (schedD p m).1.length = m := by
    have := congrArg List.length names
    rw [List.length_map, names_len (by omega)] at this
    exact this
  have ok := schedL_ok (ns := namesOf p m) (p := (perOf (mixD p (theNames.map D.str)).2).2) (per := (perOf (mixD p (theNames.map D.str)).2).1) p1 p2 (fun n hn => the_ok n (names_in (by omega) n hn))
  refine ⟨by omega, by omega, fun t ht => ?_, fun t ht => (ok t ht).2.2.1, by rw [names]; exact names_nodup (by omega), fun t ht => ?_, L, L1, L2, fun t ht => ?_⟩
  · obtain ⟨a, b, c, d⟩ := ok t ht
    exact ⟨a, by omega, d⟩
  · have : t.name ∈ (schedD p m).1.map (·.name) := List.mem_map.mpr ⟨t, ht, rfl⟩
    rw [names] at this
    exact names_in (by omega) _ this
  · obtain ⟨a, b, c, d⟩ := ok t ht
    have := L3 _ b
    rw [Int.toNat_natCast] at this
    exact ⟨a.2.1, this⟩
theorem tsrt_eq {ts us : List Tk} (h : Drawn ts) (p : us.Perm ts) : tsrt us = tsrt ts := perm_pwT ((tsrt_perm us).trans (p.trans (tsrt_perm ts).symm)) (tsrt_pw us) (tsrt_pw ts) (((tsrt_perm us).map _).nodup_iff.mpr ((p.map _).nodup_iff.mpr h.nd))
theorem Drawn.round {ts : List Tk} (h : Drawn ts) : ∃ n, IsRound ts n ∧ ∀ us, us.Perm ts → rnd 1 ((tsrt us).map (·.period)) = some n := by
  obtain ⟨L, L1, L2, L3⟩ := h.dv
  obtain ⟨n, e, n0, nL, _, nd, least⟩ := rnd_div (ps := (tsrt ts).map (·.period)) (f := 1) (L := L) (by decide) (Nat.one_dvd _) L1 (by omega) (fun x hx => by
    obtain ⟨t, ht, rfl⟩ := List.mem_map.mp hx
    exact L3 t ((tsrt_perm ts).mem_iff.mp ht))
  refine ⟨n, ⟨n0, Nat.le_trans (Nat.le_of_dvd L1 nL) (by omega), fun t ht => ⟨(L3 t ht).1, nd _ (List.mem_map.mpr ⟨t, (tsrt_perm ts).mem_iff.mpr ht, rfl⟩)⟩, fun k k0 hk => Nat.le_of_dvd k0 (least k (Nat.one_dvd _) fun x hx => ?_)⟩, fun us p => by rw [tsrt_eq h p]; exact e⟩
  obtain ⟨t, ht, rfl⟩ := List.mem_map.mp hx
  exact hk t ((tsrt_perm ts).mem_iff.mp ht)
theorem Drawn.need {ts us : List Tk} {CT : Addr} {d : D} (h : Drawn ts) (p : us.Perm ts) (hd : Seq d (us.map (tkD CT))) : ∃ n, IsRound ts n ∧ need1 CT [d] (some n) us := by
  obtain ⟨n, r, k⟩ := h.round
  exact ⟨n, r, d, rfl, hd, (h.perm p).good, k us p⟩
/-- the releases are the same, in whatever order the tasks stand -/
theorem rel_same {ts us : List Tk} {u : Nat} (p : us.Perm ts) : srt3 ((tsrt us).flatMap (relT u)) = srt3 (ts.flatMap (relT u)) :=
  srt3_uniq ((List.mergeSort_perm _ _).trans (List.Perm.flatMap_right _ ((tsrt_perm us).trans p))) (List.pairwise_mergeSort le3_tr le3_tot _)
end
end K20

end
section
set_option maxHeartbeats 4000001
/-! K31: the law's turn: tasks drawn and made; the round, the releases. -/
namespace K20
open PySem PySem.Spec
open PyProof.Rows L2 DL LamX
open Evl (Ex)
section
variable [Tb]
variable {P : Program} {w : World} {K : PySem.W.Frag} {mg : Str → Option Value} {base : Heap} {f c PT CT CB CM CN CF CH CE g : Addr} {fd gd : FuncData} {A : Around} {outer : List Env} {s : Shared} {H : Hp} {E : XK} {d : D} {o3 o4 o5 o6 o7 o8 o9 o10 o11 o12 o13 o14 o15 o16 : Option S} {ts us : List Tk} {t : Tk} {q : Pen} {l : List (Option S)} {m : Nat} {W : WX} {P0 : Po}
abbrev rA (d : D) (q : Pen) (o3 o4 o5 : Option S) (l : List (Option S)) : Rho := some (.d d) :: some (.own (penD q)) :: some (.d (.lst (wordsL.map D.str))) :: o3 :: o4 :: o5 :: l
theorem turn_0 (L : LawF P w K mg base f c PT CT CB CM CN CF CH CE g fd gd) (hr : Room 8 (xW P w K mg base f c A outer s H E).A) (hw : Wf (m + 53) q) (k : ∀ q' ts, Wf m q' → Drawn ts → P0.nx (rA d q' o3 (some (.d (.lst (ts.map plD)))) o5 l)) :
    HS (xW P w K mg base f c A outer s H E) W false (bT.getD 0 noS) (rA d q o3 o4 o5 l) P0 := by
  obtain ⟨a1, a2⟩ := draw_in (p := q) (many := 5) (by decide)
  obtain ⟨n, e⟩ : ∃ n : Nat, 1 + (draw q 5).1 = (n : Int) := ⟨(1 + (draw q 5).1).toNat, by omega⟩
  have n1 : 1 ≤ n := by omega
  have n5 : n ≤ 5 := by omega
  have w1 : Wf (m + 52) (draw q 5).2 := draw_wf hw
  have hr1 : Room 1 (xW P w K mg base f c A outer s H E).A := hr.mono (by decide)
  exact hs_set 4 (d := .lst ((schedD (draw q 5).2 n).1.map plD)) (ρ' := rA d (schedD (draw q 5).2 n).2 o3 o4 o5 l) (pd_callO (ρ' := rA d (draw q 5).2 o3 o4 o5 l) 1 L.sdraw (hr.mono (by decide)) (pad_one (PD.is (pd_add pd_int (pd_draw1 L.draw hr1 pd_int (by decide) (by decide) (hw.mono (by omega)) own_me1)) (congrArg D.int e))) rfl own_me1 rfl rfl ⟨(draw q 5).2, n, rfl, rfl, by omega, w1.mono (by omega), rfl, rfl⟩ rfl)
    (k _ _ (schedD_wf (by omega) (w1.mono (by omega))) (drawn_by n1 n5)) sc_law.nd
theorem turn_1 (L : LawF P w K mg base f c PT CT CB CM CN CF CH CE g fd gd) (hr : Room 8 (xW P w K mg base f c A outer s H E).A) (hd : Drawn ts) (k : P0.nx (rA d q o3 (some (.d (.lst (ts.map plD)))) (some (.d (.lst (ts.map (tkD CT))))) l)) :
    HS (xW P w K mg base f c A outer s H E) W false (bT.getD 1 noS) (rA d q o3 (some (.d (.lst (ts.map plD)))) o5 l) P0 :=
  hs_set 5 (pd_call L.made (hr.mono (by decide)) (pad_one (pd_name 4)) rfl ⟨ts, rfl, fun t m => (hd.gd t m).ok, by have := hd.l5; omega, rfl⟩) k sc_law.nd
/-- the slots behind the inner loop -/
abbrev rJ (d : D) (q : Pen) (o3 : Option S) (ts : List Tk) (CT : Addr) (o6 o7 o8 o9 o10 o11 o12 o13 o14 o15 o16 : Option S) (l : List (Option S)) : Rho := rI d q o3 ts CT o6 o7 o8 o9 o10 o11 (o12 :: o13 :: o14 :: o15 :: o16 :: l)
theorem mixed_of {CT : Addr} (q : Pen) (ts : List Tk) : ∃ us : List Tk, us.Perm ts ∧ (mixD q (ts.map (tkD CT))).1 = us.map (tkD CT) := by
  obtain ⟨qs, q1, q2⟩ := perm_rel (mixD_perm q (ts.map (tkD CT))) (fun_pair (tkD CT) ts)
  exact ⟨qs, q1, pair_fun q2⟩
theorem turn_3 (L : LawF P w K mg base f c PT CT CB CM CN CF CH CE g fd gd) (hr : Room 8 (xW P w K mg base f c A outer s H E).A) (hd : Drawn ts) (hw : Wf (m + 6) q) (k : ∀ q' (us : List Tk) (u : Nat), Wf m q' → us.Perm ts → u < 40 → P0.nx (rJ d q' o3 ts CT o6 o7 o8 o9 o10 o11 (some (.d (.lst (us.map (tkD CT))))) (some (.d (.int (u : Int)))) o14 o15 o16 l)) :
    HS (xW P w K mg base f c A outer s H E) W false (bT.getD 3 noS) (rJ d q o3 ts CT o6 o7 o8 o9 o10 o11 o12 o13 o14 o15 o16 l) P0 := by
  obtain ⟨us, hp, e⟩ := mixed_of (CT := CT) q ts
  have l5 := hd.l5
  have hr1 : Room 1 (xW P w K mg base f c A outer s H E).A := hr.mono (by decide)
  have w1 : Wf (m + 1) (mixD q (ts.map (tkD CT))).2 := mixD_wf (hw.mono (by rw [List.length_map]; omega))
  obtain ⟨a1, a2⟩ := draw_in (p := (mixD q (ts.map (tkD CT))).2) (many := 40) (by decide)
  obtain ⟨u, eu⟩ : ∃ u : Nat, (draw (mixD q (ts.map (tkD CT))).2 40).1 = (u : Int) := ⟨(draw (mixD q (ts.map (tkD CT))).2 40).1.toNat, by omega⟩
  refine hs_parS 12 13 (s1 := .d (.lst (us.map (tkD CT)))) (s2 := .d (.int (u : Int))) (ρ1 := rJ d (mixD q (ts.map (tkD CT))).2 o3 ts CT o6 o7 o8 o9 o10 o11 o12 o13 o14 o15 o16 l) (ρ2 := rJ d (draw (mixD q (ts.map (tkD CT))).2 40).2 o3 ts CT o6 o7 o8 o9 o10 o11 o12 o13 o14 o15 o16 l) (ps_d (pd_callO 1 L.mix (hr.mono (by decide)) (pad_one (pd_name 5)) rfl own_me1 rfl rfl ⟨q, ts.map (tkD CT), rfl, rfl, by rw [List.length_map]; omega, hw.mono (by rw [List.length_map]; omega), by rw [e], rfl⟩ rfl)) (ps_d (PD.is (pd_draw1 L.draw hr1 pd_int (by decide) (by decide) (w1.mono (by omega)) own_me1) (congrArg D.int eu)))
    (k _ us u (draw_wf w1) hp (by omega)) sc_law.nd (hps := fun ht => ps_par rfl sc_law.nd rfl rfl (by decide) rfl rfl ht rfl)
theorem turn_4 (L : LawF P w K mg base f c PT CT CB CM CN CF CH CE g fd gd) (k : P0.nx (rJ d q o3 ts CT o6 o7 o8 o9 o10 o11 o12 o13 (some (.d (.lst []))) o15 o16 l)) :
    HS (xW P w K mg base f c A outer s H E) W false (bT.getD 4 noS) (rJ d q o3 ts CT o6 o7 o8 o9 o10 o11 o12 o13 o14 o15 o16 l) P0 :=
  hs_set 14 (pd_lst pad_nil) k sc_law.nd
theorem turn_5 (L : LawF P w K mg base f c PT CT CB CM CN CF CH CE g fd gd) (hd : Drawn ts) {u : Nat} (hu : u < 40) (hp : PassesOwn (model (xW P w K mg base f c A outer s H E).prog (xW P w K mg base f c A outer s H E).w) (xW P w K mg base f c A outer s H E).A (xW P w K mg base f c A outer s H E).env (xW P w K mg base f c A outer s H E).xe)
    (k : ∀ o7, P0.nx (rJ d q o3 ts CT o6 o7 o8 o9 o10 o11 o12 (some (.d (.int (u : Int)))) (some (.d (.lst ((ts.flatMap (relT u)).map trD)))) o15 o16 l)) :
    HS (xW P w K mg base f c A outer s H E) W false (bT.getD 5 noS) (rJ d q o3 ts CT o6 o7 o8 o9 o10 o11 o12 (some (.d (.int (u : Int)))) (some (.d (.lst []))) o15 o16 l) P0 := by
  have l5 := hd.l5
  refine hs_for hp rfl (pid_list (pd_name 4)) (fun i ρ => ∃ o7, ρ = rJ d q o3 ts CT o6 o7 o8 o9 o10 o11 o12 (some (.d (.int (u : Int)))) (some (.d (.lst (((ts.take i).flatMap (relT u)).map trD)))) o15 o16 l) ⟨o7, rfl⟩ (fun i d' ρi hdi hI => ?_) fun ρn hI => ?_
  · obtain ⟨p7, rfl⟩ := hI
    rw [List.getElem?_map] at hdi
    obtain ⟨t, ht1, rfl⟩ := Option.map_eq_some_iff.mp hdi
    obtain ⟨b1, b2, b3, b4, _⟩ := (hd.gd t (List.mem_of_getElem? ht1)).ok
    have len1 := relT_len u t b4 (by omega)
    have len2 := flat_len (g := relT u) (m := 1600) (l := ts.take i) fun x hx => relT_len u x ((hd.gd x (List.mem_of_mem_take hx)).ok.2.2.2.1) (by omega)
    have len3 : (ts.take i).length ≤ 5 := Nat.le_trans (by rw [List.length_take]; omega) l5
    have len4 : (ts.take i).length * 1600 ≤ 5 * 1600 := Nat.mul_le_mul_right 1600 len3
    refine ⟨[7], _, pgd_name 7 sc_law.nd, .inl rfl, hss_one (hs_set 14 (d := .lst ((((ts.take i).flatMap (relT u)).map trD) ++ ((relT u t).map trD))) (pd_frz (pso_cat (pd_name 14) (PD.is (pd_frz (pso_lc (own := [("number", 15), ("tick", 16)]) (fun d => match d with | .tup [.int n, .int x] => some (trD (x, t.name, n)) | _ => none) rfl sc_law.nd (pid_enumR L.B.enumerate L.B.range (pad_cons (pd_ixT (ds := tvs t) (pd_name 7) pd_int rfl) (pad_cons (pd_name 13) (pad_one (pd_ixT (ds := tvs t) (pd_name 7) pd_int rfl)))) (rgc_of b2 b3 b4 (by omega))) (blkOk_by (show blkC nW (defScope (top 107)) _ _ = true by decide +kernel)) (fun x hx => ?_) (hl := ?_))) ?_) ?_)) ?_ sc_law.nd)⟩
    · unfold enrD at hx
      obtain ⟨z, _, rfl⟩ := List.mem_map.mp hx
      exact ⟨[15, 16], _, true, fun _ _ _ _ _ => pgd_tup rfl (pgds_cons (pgd_name 15 sc_law.nd) (pgds_cons (pgd_name 16 sc_law.nd) pgds_nil)), by decide, rfl, ptsd_nil, fun _ => ⟨_, fun _ _ _ _ _ => pd_tup (pad_cons (pd_name 16) (pad_cons (pd_ixT (ds := tvs t) (pd_name 7) pd_int rfl) (pad_one (pd_name 15)))) (hl := Nat.le_of_ble_eq_true rfl), rfl⟩, fun z => by cases z⟩
    · unfold enrD
      (rw [List.length_map, List.length_range])
      have := cntR_le t u
      omega
    · unfold enrD
      rw [List.filterMap_map, relT, List.map_map, ← List.filterMap_eq_map]
      rfl
    · rw [List.length_map, List.length_map]
      omega
    · refine ⟨some (.d (plD t)), ?_⟩
      rw [List.take_add_one, ht1, List.flatMap_append, List.map_append, Option.toList_some, List.flatMap_singleton]
      rfl
  · obtain ⟨p7, rfl⟩ := hI
    (rw [List.length_map, List.take_length])
    exact k p7
theorem turn_6 (L : LawF P w K mg base f c PT CT CB CM CN CF CH CE g fd gd) {ps : List T3} (k : P0.nx (rJ d q o3 ts CT o6 o7 o8 o9 o10 o11 o12 o13 (some (.d (.lst ((srt3 ps).map trD)))) o15 o16 l)) :
    HS (xW P w K mg base f c A outer s H E) W false (bT.getD 6 noS) (rJ d q o3 ts CT o6 o7 o8 o9 o10 o11 o12 o13 (some (.d (.lst (ps.map trD)))) o15 o16 l) P0 :=
  hs_set 14 (pd_frz (pso_sorted3 L.B.sorted (pd_name 14))) k sc_law.nd
end
end K20

end
section
set_option maxHeartbeats 4000001
/-! K32: the law's turn: the round and the releases are right. -/
namespace K20
open PySem PySem.Spec
open PyProof.Rows L2 DL LamX
open Evl (Ex)
section
variable [Tb]
theorem rp_shaped {dp B : Nat} {q : PyData} (r : RpOk dp B q) (hd : dp ≤ 64) : SeqAt.shaped q = true := by
  unfold SeqAt.shaped
  rw [r.cl, Bool.true_and, decide_eq_true_eq]
  exact Nat.le_trans r.dp hd
def trP (p : T3) : PyData := .tuple [.int p.1, .str p.2.1, .int p.2.2]
theorem toPys_tr : ∀ ps : List T3, toPys (ps.map trD) = some (ps.map trP)
  | [] => rfl
  | p :: ps => by
    (rw [List.map_cons, List.map_cons])
    unfold toPys
    rw [toPys_tr ps]
    rfl
theorem toPy_tr (ps : List T3) : toPy (.tup (ps.map trD)) = some (.tuple (ps.map trP)) := by
  unfold toPy
  rw [toPys_tr]
  rfl
theorem rp_rel {ts : List Tk} {u : Nat} (hd : Drawn ts) (hu : u < 40) : RpOk 2 1048576 (.tuple ((srt3 (ts.flatMap (relT u))).map trP)) := by
  have l5 := hd.l5
  have pm : (srt3 (ts.flatMap (relT u))).Perm (ts.flatMap (relT u)) := List.mergeSort_perm _ _
  have len : (srt3 (ts.flatMap (relT u))).length ≤ 5 * 240 := by
    rw [pm.length_eq]
    have := flat_len (g := relT u) (m := 240) (l := ts) fun t m => by
      unfold relT
      (rw [List.length_map, List.length_range])
      have := cntR_le t u
      have := hd.off t m
      omega
    have h2 : ts.length * 240 ≤ 5 * 240 := Nat.mul_le_mul_right 240 l5
    omega
  have r : RpOk 2 (((srt3 (ts.flatMap (relT u))).map trP).length * (300 + 1)) (.tuple ((srt3 (ts.flatMap (relT u))).map trP)) := by
    refine rp_tuple (dp := 1) (B := 300) fun x hx => ?_
    obtain ⟨p, hp, rfl⟩ := List.mem_map.mp hx
    obtain ⟨t, ht, hr⟩ := List.mem_flatMap.mp (pm.mem_iff.mp hp)
    obtain ⟨i, hi, rfl⟩ := List.mem_map.mp hr
    have hc := cntR_le t u
    have hoff := hd.off t ht
    have hi := List.mem_range.mp hi
    obtain ⟨b1, b2, b3, b4, _⟩ := (hd.gd t ht).ok
    have hm : i * t.period ≤ 240 * 600 := Nat.mul_le_mul (by omega) b3
    refine rp_tuple (dp := 0) (B := 99) (xs := [.int ((t.offset : Int) + (i : Int) * t.period), .str t.name, .int (i : Int)]) fun y hy => ?_
    simp only [List.mem_cons, List.not_mem_nil, or_false] at hy
    rcases hy with rfl | rfl | rfl
    · have hm' : (i : Int) * (t.period : Int) ≤ 144000 := by
        have h : ((i * t.period : Nat) : Int) ≤ ((240 * 600 : Nat) : Int) := Int.ofNat_le.mpr hm
        rw [Int.natCast_mul] at h
        exact h
      have h0 : 0 ≤ (i : Int) * (t.period : Int) := Int.mul_nonneg (Int.natCast_nonneg i) (Int.natCast_nonneg t.period)
      exact rp_int (by omega) (by omega)
    · refine rp_str (name_ok b1) ?_
      unfold isNameS at b1
      simp only [Bool.and_eq_true, decide_eq_true_eq] at b1
      have : t.name.cps.size ≤ 8 := b1.1.2
      omega
    · exact rp_int (by omega) (by omega)
  exact ⟨r.sh, r.cl, r.dp, r.is, Nat.le_trans r.wt (by rw [List.length_map]; omega)⟩
variable {P : Program} {w : World} {K : PySem.W.Frag} {mg : Str → Option Value} {base : Heap} {f c PT CT CB CM CN CF CH CE g : Addr} {fd gd : FuncData} {A : Around} {outer : List Env} {s : Shared} {H : Hp} {E : XK} {d : D} {o3 o4 o5 o6 o7 o8 o9 o10 o11 o12 o13 o14 o15 o16 : Option S} {ts us : List Tk} {t : Tk} {q : Pen} {l : List (Option S)} {m : Nat} {W : WX} {P0 : Po}
theorem turn_7 (L : LawF P w K mg base f c PT CT CB CM CN CF CH CE g fd gd) (hr : Room 8 (xW P w K mg base f c A outer s H E).A) (hgd : (xW P w K mg base f c A outer s H E).A.guards = some []) (hd : Drawn ts) (hp : us.Perm ts) :
    PTD (xW P w K mg base f c A outer s H E) (ifT (bT.getD 7 noS)) (rJ d q o3 ts CT o6 o7 o8 o9 o10 o11 (some (.d (.lst (us.map (tkD CT))))) o13 o14 o15 o16 l) false (rJ d q o3 ts CT o6 o7 o8 o9 o10 o11 (some (.d (.lst (us.map (tkD CT))))) o13 o14 o15 o16 l) := by
  have un : (xW P w K mg base f c A outer s H E).A.units + 200 < cLine := by
    have := hr.un
    omega
  obtain ⟨n, r, k⟩ := hd.round
  have n1 : need1 CT [.lst (us.map (tkD CT))] (some n) us := ⟨_, rfl, .inl rfl, (hd.perm hp).good, k us hp⟩
  have n2 : need1 CT [.tup (ts.map (tkD CT))] (some n) ts := ⟨_, rfl, .inr rfl, hd.good, k ts (List.Perm.refl _)⟩
  have r6 := r.2.1
  have rp : RpOk 0 99 (.int (n : Int)) := rp_int (by omega) (by omega)
  have l5 := hd.l5
  refine pwd_pt (pwd_or (PTD.is (ptd_neS (pd_reprO (q := .int (n : Int)) hgd un L.B.repr (pd_call (d := .int (n : Int)) L.AF.round_of (hr.mono (by decide)) (pad_one (pd_name 12)) rfl ⟨us, n, n1, rfl⟩) rfl rp (by decide) (by decide)) (pd_reprO (q := .int (n : Int)) hgd un L.B.repr (pd_call (d := .int (n : Int)) L.round (hr.mono (by decide)) (pad_one (pd_name 4)) rfl ⟨ts, n, rfl, by omega, r, rfl⟩) rfl rp (by decide) (by decide))) (by rw [decide_eq_true rfl]; rfl)) ?_)
  exact pwd_or1 (PTD.is (ptd_neI (pd_callR (d := .int (n : Int)) L.roundK (hr.mono (by decide)) (pkd_cons (pd_tupleL L.B.tuple (pd_name 5)) pkd_nil) rfl rfl ⟨ts, n, n2, rfl⟩) (pd_call (d := .int (n : Int)) L.round (hr.mono (by decide)) (pad_one (pd_name 4)) rfl ⟨ts, n, rfl, by omega, r, rfl⟩)) (by rw [decide_eq_true rfl]; rfl))
theorem turn_8 (L : LawF P w K mg base f c PT CT CB CM CN CF CH CE g fd gd) (hr : Room 8 (xW P w K mg base f c A outer s H E).A) (hgd : (xW P w K mg base f c A outer s H E).A.guards = some []) (hd : Drawn ts) (hp : us.Perm ts) {u : Nat} (hu : u < 40) :
    PTD (xW P w K mg base f c A outer s H E) (ifT (bT.getD 8 noS)) (rJ d q o3 ts CT o6 o7 o8 o9 o10 o11 (some (.d (.lst (us.map (tkD CT))))) (some (.d (.int (u : Int)))) (some (.d (.lst ((srt3 (ts.flatMap (relT u))).map trD)))) o15 o16 l) false (rJ d q o3 ts CT o6 o7 o8 o9 o10 o11 (some (.d (.lst (us.map (tkD CT))))) (some (.d (.int (u : Int)))) (some (.d (.lst ((srt3 (ts.flatMap (relT u))).map trD)))) o15 o16 l) := by
  have un : (xW P w K mg base f c A outer s H E).A.units + 200 < cLine := by
    have := hr.un
    omega
  obtain ⟨n, r, k⟩ := hd.round
  have n1 : need1 CT [.lst (us.map (tkD CT))] (some n) us := ⟨_, rfl, .inl rfl, (hd.perm hp).good, k us hp⟩
  have n2 : need1 CT [.lst (ts.map (tkD CT))] (some n) ts := ⟨_, rfl, .inl rfl, hd.good, k ts (List.Perm.refl _)⟩
  have of1 : ∀ t ∈ us, t.offset ≤ 600 := fun t m => by
    have := (hd.gd t (hp.mem_iff.mp m)).off
    omega
  have of2 : ∀ t ∈ ts, t.offset ≤ 600 := fun t m => by
    have := (hd.gd t m).off
    omega
  have rp := rp_rel hd hu
  have g1 : g_releases CT [.lst (us.map (tkD CT)), .int (u : Int)] (.tup ((srt3 (ts.flatMap (relT u))).map trD)) := ⟨_, u, us, n, rfl, n1, by omega, of1, by rw [rel_same hp]⟩
  have g2 : g_releases CT [.lst (ts.map (tkD CT)), .int (u : Int)] (.tup ((srt3 (ts.flatMap (relT u))).map trD)) := ⟨_, u, ts, n, rfl, n2, by omega, of2, by rw [rel_same (List.Perm.refl ts)]⟩
  refine pwd_pt (pwd_or (PTD.is (ptd_neS (pd_reprO hgd un L.B.repr (pd_call L.AF.releases (hr.mono (by decide)) (pad_cons (pd_name 12) (pad_one (pd_name 13))) rfl g1) (toPy_tr _) rp (by decide) (by decide)) (pd_reprO hgd un L.B.repr (pd_tupleL L.B.tuple (pd_name 14)) (toPy_tr _) rp (by decide) (by decide))) (by rw [decide_eq_true rfl]; rfl)) ?_)
  exact pwd_or1 (PTD.is (ptd_neD (pd_callR L.relK (hr.mono (by decide)) (pkd_cons (pd_name 13) (pkd_cons (pd_name 5) pkd_nil)) rfl rfl g2) (pd_tupleL L.B.tuple (pd_name 14)) (by omega) (toPy_tr _) (toPy_tr _) (rp_shaped rp (by decide)) (rp_shaped rp (by decide))) (by rw [eqv_same (rp_shaped rp (by decide))]; rfl))
end
end K20

end
section
set_option maxHeartbeats 4000001
/-! K33: the law's turn: what is asked with lists that are none. -/
namespace K20
open PySem PySem.Spec
open PyProof.Rows L2 DL LamX
open Evl (Ex)
section
variable [Tb]
variable {P : Program} {w : World} {K : PySem.W.Frag} {mg : Str → Option Value} {base : Heap} {f c PT CT CB CM CN CF CH CE g : Addr} {fd gd : FuncData} {A : Around} {outer : List Env} {s : Shared} {H : Hp} {E : XK} {d : D} {o3 o4 o5 o6 o7 o8 o9 o10 o11 o12 o13 o14 o15 o16 o17 o18 : Option S} {ts us : List Tk} {t : Tk} {q : Pen} {l : List (Option S)} {m : Nat} {W : WX} {P0 : Po}
def sixN : List Str := ["a", "b", "c", "d", "e", "f"]
def sixT (n : Str) : Tk := ⟨n, 2, 0, 2, 1, some 1⟩
def sixF (CT : Addr) : D → Option D
  | .str n => some (tkD CT (sixT n))
  | _ => none
theorem six_ok {n : Str} (h : n ∈ sixN) : okT (sixT n) := by
  have e : ∀ n ∈ sixN, isNameS n = true := by decide
  have b : ∀ {x y : Nat}, Nat.ble x y = true → x ≤ y := fun z => Nat.le_of_ble_eq_true z
  exact ⟨e n h, b rfl, b rfl, b rfl, b rfl, b rfl, b rfl, b rfl, fun m z => by
    cases z
    exact ⟨b rfl, b rfl⟩⟩
theorem six_map (CT : Addr) : ∀ ns : List Str, (ns.map D.str).filterMap (sixF CT) = (ns.map sixT).map (tkD CT)
  | [] => rfl
  | n :: ns => by
    rw [List.map_cons, List.filterMap_cons, show sixF CT (.str n) = some (tkD CT (sixT n)) from rfl]
    exact congrArg (tkD CT (sixT n) :: ·) (six_map CT ns)
theorem turn_9 (L : LawF P w K mg base f c PT CT CB CM CN CF CH CE g fd gd) (hr : Room 8 (xW P w K mg base f c A outer s H E).A) (k : P0.nx (rJ d q o3 ts CT o6 o7 o8 o9 o10 o11 o12 o13 o14 o15 o16 (some (.own ((sixN.map sixT).map (tkD CT))) :: o18 :: l))) :
    HS (xW P w K mg base f c A outer s H E) W false (bT.getD 9 noS) (rJ d q o3 ts CT o6 o7 o8 o9 o10 o11 o12 o13 o14 o15 o16 (o17 :: o18 :: l)) P0 := by
  refine hs_setLc 17 (own := [("name", 18)]) (sixF CT) rfl sc_law.nd (pid_tup (ds := sixN.map D.str) (pd_tup (pad_cons pd_str (pad_cons pd_str (pad_cons pd_str (pad_cons pd_str (pad_cons pd_str (pad_one pd_str)))))) (by show 6 ≤ 100000; decide))) (blkOk_by (show blkC nW (defScope (top 107)) _ _ = true by decide +kernel)) (fun x hx => ?_) (by rw [six_map]; exact k) (by decide)
  obtain ⟨n, hn, rfl⟩ := List.mem_map.mp hx
  refine ⟨[18], rJ d q o3 ts CT o6 o7 o8 o9 o10 o11 o12 o13 o14 o15 o16 (o17 :: some (.d (.str n)) :: l), true, fun _ _ _ _ _ => pgd_name 18 sc_law.nd, by decide, rfl, ptsd_nil, fun _ => ⟨tkD CT (sixT n), fun _ _ _ _ _ => ?_, rfl⟩, fun z => by cases z⟩
  exact pd_frzI (pso_make (fs := tfs (sixT n)) L.mkT (show Room 4 (xW P w K mg base f c A outer s H E).A from hr.mono (by decide)) (pad_cons (pd_name 18) (pad_cons pd_int (pad_cons pd_int (pad_cons pd_int (pad_cons pd_int (pad_one pd_int)))))) rfl ⟨rfl, rfl, sixT n, rfl, six_ok hn, rfl⟩)
end
end K20

end
section
set_option maxHeartbeats 4000001
/-! K34: lists that are no tasks. -/
namespace K20
open PySem PySem.Spec
open PyProof.Rows L2 DL LamX
section
variable [Tb]
variable {K : PySem.W.Frag} {CT CB CM : Addr} {mg : Str → Option Value} {t : Tk} {ts : List Tk}
def oddL (CT : Addr) (t : Tk) (ts : List Tk) : List D := [.non, .int 5, .lst [], .tup [], tkD CT t, .lst (ts.map (tkD CT) ++ [.non]), .lst [tkD CT t, tkD CT t], .lst [plD t], .str "tasks", .lst ((sixN.map sixT).map (tkD CT)), .dic]
theorem odd_bad (T : TaskK K mg CT) {x : D} (h : x ∈ oddL CT t ts) : Bad K CT x := by
  simp only [oddL, List.mem_cons, List.not_mem_nil, or_false] at h
  rcases h with rfl | rfl | rfl | rfl | rfl | rfl | rfl | rfl | rfl | rfl | rfl
  · exact .no .non (by unfold isL; rfl)
  · exact .no (.int _) (by unfold isL; rfl)
  · exact .el (.lst _) (.inl rfl) (fun x hx => by cases hx) fun z => absurd z.1.1 (by decide)
  · exact .el (.tup _) (.inr rfl) (fun x hx => by cases hx) fun z => absurd z.1.1 (by decide)
  · exact .no (.ins _ T.cp) (by show isL (.ins CT (tfs t)) = false; unfold isL; rfl)
  · refine .el (.lst _) (.inl rfl) (fun x hx => ?_) fun z => ?_
    · rcases List.mem_append.mp hx with m | m
      · obtain ⟨t', _, rfl⟩ := List.mem_map.mp m
        exact .inl ⟨t', rfl⟩
      · exact .inr (.inl (List.mem_singleton.mp m))
    · have := z.2
      rw [List.map_append, List.all_append] at this
      have e : ([D.non].map isTk).all id = false := by simp [isTk]
      rw [e, Bool.and_false] at this
      cases this
  · refine .nm (ts := [t, t]) (.lst _) (.inl rfl) ⟨by show 1 ≤ 2; decide, by show 2 ≤ 5; decide⟩ ?_
    cases q : asc (srtS ([t, t].map (·.name))) with
    | false => rfl
    | true =>
      have := asc_nodup q
      simp at this
  · refine .el (.lst _) (.inl rfl) (fun x hx => .inr (.inr ⟨tvs t, List.mem_singleton.mp hx⟩)) fun z => ?_
    have := z.2
    have e : ([plD t].map isTk).all id = false := by simp [isTk, plD]
    rw [e] at this
    cases this
  · exact .no (.str _ (by decide)) (by unfold isL; rfl)
  · refine .el (xs := (sixN.map sixT).map (tkD CT)) (.lst _) (.inl rfl) (fun x hx => ?_) fun z => absurd (show 6 ≤ 5 from z.1.2) (by decide)
    obtain ⟨t', _, rfl⟩ := List.mem_map.mp hx
    exact .inl ⟨t', rfl⟩
  · exact .no .dic (by unfold isL; rfl)
theorem odd_need (T : TaskK K mg CT) {x : D} (h : x ∈ oddL CT t ts) : x_need K CT CB CM [x] (.ref CB) (exV "tasks") := .inl ⟨x, rfl, odd_bad T h, rfl, rfl⟩
end
end K20

end
section
set_option maxHeartbeats 4000001
/-! K35: the law's turn: all calls with lists that are none. -/
namespace K20
open PySem PySem.Spec
open PyProof.Rows L2 DL LamX
open Evl (Ex)
section
variable [Tb]
variable {P : Program} {w : World} {K : PySem.W.Frag} {mg : Str → Option Value} {base : Heap} {f c PT CT CB CM CN CF CH CE g : Addr} {fd gd : FuncData} {A : Around} {outer : List Env} {s : Shared} {H : Hp} {E : XK} {d : D} {o3 o4 o5 o6 o7 o8 o9 o10 o11 o12 o13 o14 o15 o16 o17 o18 o19 o20 : Option S} {ts us : List Tk} {t : Tk} {q : Pen} {l : List (Option S)} {m : Nat} {W : WX} {P0 : Po}
omit [Tb] in
theorem at0 (x : D) (xs : List D) : atI (x :: xs) 0 = some x := atI_nat (j := 0) (xs := x :: xs) rfl
theorem turn_10 (L : LawF P w K mg base f c PT CT CB CM CN CF CH CE g fd gd) (hr : Room 8 (xW P w K mg base f c A outer s H E).A) (l5 : (t :: ts).length ≤ 5) (hw : Wf (m + 1) q) (k : ∀ q' x, Wf m q' → x ∈ oddL CT t (t :: ts) → P0.nx (rJ d q' o3 (t :: ts) CT o6 o7 o8 o9 o10 o11 o12 o13 o14 o15 o16 (some (.d (.lst ((sixN.map sixT).map (tkD CT)))) :: o18 :: some (.d x) :: l))) :
    HS (xW P w K mg base f c A outer s H E) W false (bT.getD 10 noS) (rJ d q o3 (t :: ts) CT o6 o7 o8 o9 o10 o11 o12 o13 o14 o15 o16 (some (.own ((sixN.map sixT).map (tkD CT))) :: o18 :: o19 :: l)) P0 := by
  have len : (oddL CT t (t :: ts)).length = 11 := rfl
  have mem : (oddL CT t (t :: ts)).getD (draw q ((oddL CT t (t :: ts)).length : Int)).1.toNat .non ∈ oddL CT t (t :: ts) := List.mem_of_getElem? (getD_at (d := D.non) (draw_at (p := q) (by rw [len]; decide)).1)
  refine hs_set 19 (pd_callO 1 L.pick (hr.mono (by decide)) (pad_one (pd_lst (ds := oddL CT t (t :: ts)) (ρ' := rJ d q o3 (t :: ts) CT o6 o7 o8 o9 o10 o11 o12 o13 o14 o15 o16 (some (.d (.lst ((sixN.map sixT).map (tkD CT)))) :: o18 :: o19 :: l))
    (pad_cons pd_non (pad_cons pd_int (pad_cons (pd_lst pad_nil) (pad_cons (pd_tup pad_nil) (pad_cons (pd_ixL (ds := (t :: ts).map (tkD CT)) (pd_name 5) pd_int (at0 _ _)) (pad_cons (pd_frz (pso_cat (pd_name 5) (pd_lst (pad_one pd_non)) ?_)) (pad_cons (PD.is (pd_frz (pso_rep (pd_frz (pso_slL (pd_name 5) pod_none (pod_some pd_int))) pd_int (hl := ?_))) ?_)
      (pad_cons (pd_lst (ds := [plD t]) (pad_one (pd_ixL (ds := (t :: ts).map plD) (pd_name 4) pd_int (at0 _ _))) (by show 1 ≤ 100000; decide)) (pad_cons pd_str (pad_cons (pd_nameF 17 rfl) (pad_one pd_dic))))))))))) (by rw [len]; decide))) rfl own_me1 rfl rfl ⟨q, oddL CT t (t :: ts), rfl, rfl, by rw [len]; decide, by rw [len]; decide, hw.mono (by omega), rfl, rfl⟩ rfl) (k _ _ (draw_wf hw) mem) sc_law.nd
  · rw [List.length_map]
    show (t :: ts).length + 1 ≤ 100000
    omega
  · rw [show cutL ((t :: ts).map (tkD CT)) none (some 1) = [tkD CT t] from cut_take (m := 1) (by rw [List.length_map]; show 1 ≤ ts.length + 1; omega)]
    show 1 * 2 ≤ 100000
    decide
  · rw [show cutL ((t :: ts).map (tkD CT)) none (some 1) = [tkD CT t] from cut_take (m := 1) (by rw [List.length_map]; show 1 ≤ ts.length + 1; omega)]
    rfl
theorem plain_tk (CT : Addr) (t : Tk) : plainD (tkD CT t) = true := by
  show plainD (.ins CT (tfs t)) = true
  unfold plainD
  have e : plainD (optD t.most) = true := by
    cases t.most <;> rfl
  simp [tfs, plainFs, plainD, e]
theorem plain_tks (CT : Addr) : ∀ ts : List Tk, plainDs (ts.map (tkD CT)) = true
  | [] => rfl
  | t :: ts => by
    rw [List.map_cons]
    unfold plainDs
    rw [plain_tk, plain_tks CT ts]
    rfl
theorem plain_app : ∀ {xs ys : List D}, plainDs xs = true → plainDs ys = true → plainDs (xs ++ ys) = true
  | [], ys, _, h => h
  | x :: xs, ys, h1, h2 => by
    rw [List.cons_append]
    unfold plainDs at h1 ⊢
    rw [Bool.and_eq_true] at h1
    rw [h1.1, plain_app h1.2 h2]
    rfl
theorem plain_pl (t : Tk) : plainD (plD t) = true := by
  have e : plainD (optD t.most) = true := by
    cases t.most <;> rfl
  show plainD (.tup (tvs t)) = true
  unfold plainD
  simp [tvs, plainDs, plainD, e]
theorem odd_plain {x : D} (h : x ∈ oddL CT t ts) : plainD x = true := by
  simp only [oddL, List.mem_cons, List.not_mem_nil, or_false] at h
  have e : plainD .non = true := rfl
  rcases h with rfl | rfl | rfl | rfl | rfl | rfl | rfl | rfl | rfl | rfl | rfl
  · rfl
  · rfl
  · rfl
  · rfl
  · exact plain_tk CT t
  · unfold plainD
    exact plain_app (plain_tks CT ts) (by simp [plainDs, e])
  · unfold plainD
    simp [plainDs, plain_tk]
  · unfold plainD
    simp [plainDs, plain_pl]
  · rfl
  · unfold plainD
    exact plain_tks CT _
  · rfl
def valT (x : Str) : D := .tup [.str "value", .str x]
def valP (x : Str) : PyData := .tuple [.str "value", .str x]
theorem rep_val (ans : D) : (List.replicate (16 : Int).toNat [ans]).flatten = List.replicate 16 ans := rfl
theorem turn_11 (L : LawF P w K mg base f c PT CT CB CM CN CF CH CE g fd gd) (hr : Room 8 (xW P w K mg base f c A outer s H E).A) {x : D} (hx : x_need K CT CB CM [x] (.ref CB) (exV "tasks")) (px : plainD x = true) :
    PTD (xW P w K mg base f c A outer s H E) (ifT (bT.getD 11 noS)) (rJ d q o3 ts CT o6 o7 o8 o9 o10 o11 o12 o13 o14 o15 o16 (o17 :: o18 :: some (.d x) :: o20 :: l)) false (rJ d q o3 ts CT o6 o7 o8 o9 o10 o11 o12 o13 o14 o15 o16 (o17 :: o18 :: some (.d x) :: o20 :: l)) := by
  have hu : (xW P w K mg base f c A outer s H E).A.units + 64 < cLine := by
    have := hr.un
    omega
  have sh : SeqAt.shaped (.list (List.replicate 16 (valP "tasks"))) = true := by decide +kernel
  refine PTD.is (ptd_neD (dx := .list (List.replicate 16 (valP "tasks"))) (dy := .list (List.replicate 16 (valP "tasks"))) (PD.is (y := .lst (List.replicate 16 (valT "tasks"))) (pd_frz (pso_lc (own := [("ask", 20)]) (fun _ => some (valT "tasks")) rfl sc_law.nd (pid_list (pd_call (ρ' := rJ d q o3 ts CT o6 o7 o8 o9 o10 o11 o12 o13 o14 o15 o16 (o17 :: o18 :: some (.d x) :: o20 :: l)) L.asks (hr.mono (by decide)) (pad_cons (pd_name 19) (pad_one pd_non)) rfl ⟨x, .non, rfl, rfl⟩)) (blkOk_by (show blkC nW (defScope (top 107)) _ _ = true by decide +kernel)) (fun d' hd => ?_) (hl := by show 16 ≤ 100000; decide))) rfl)
    (pd_frz (pso_rep (pd_lst (ds := [valT "tasks"]) (pad_one (pd_tup (ds := [.str "value", .str "tasks"]) (pad_cons pd_str (pad_one pd_str)) (by show 2 ≤ 100000; decide))) (by show 1 ≤ 100000; decide)) pd_int (hl := by show 1 * 16 ≤ 100000; decide))) hu rfl rfl sh sh) (by rw [eqv_same sh]; rfl)
  obtain ⟨i, hi, rfl⟩ := List.mem_map.mp hd
  refine ⟨[20], _, true, fun _ _ _ _ _ => pgd_name 20 sc_law.nd, by decide, rfl, ptsd_nil, fun _ => ⟨valT "tasks", fun _ _ _ _ _ => pd_heard (k := 6) L.H.fn L.H.gl L.B L.H.er (hr.mono (by decide)) (.val "tasks") (pd_name 20) fun v pins σ G H s I sl eg at_ => ?_, rfl⟩, fun z => by cases z⟩
  have vr : ∃ f', v = .ref f' := by
    cases at_ with
    | fn h hD hc hl hn hcs hs => exact ⟨_, rfl⟩
  obtain ⟨f', rfl⟩ := vr
  exact ⟨f', rfl, cal_ask L.AF L.hA (List.mem_range.mp hi) hx px rfl at_ sl⟩
end
end K20

end
section
set_option maxHeartbeats 4000001
/-! K36: the law's turn: all calls with orders that are none. -/
namespace K20
open PySem PySem.Spec
open PyProof.Rows L2 DL LamX
open Evl (Ex)
section
variable [Tb]
variable {P : Program} {w : World} {K : PySem.W.Frag} {mg : Str → Option Value} {base : Heap} {f c PT CT CB CM CN CF CH CE g : Addr} {fd gd : FuncData} {A : Around} {outer : List Env} {s : Shared} {H : Hp} {E : XK} {d : D} {o3 o4 o5 o6 o7 o8 o9 o10 o11 o12 o13 o14 o15 o16 o17 o18 o19 o20 o21 o22 o23 : Option S} {ts us : List Tk} {t : Tk} {q : Pen} {l : List (Option S)} {m : Nat} {W : WX} {P0 : Po}
def headF : D → Option D
  | .tup (x :: _) => some x
  | _ => none
theorem head_map : ∀ ts : List Tk, (ts.map plD).filterMap headF = (ts.map (·.name)).map D.str
  | [] => rfl
  | t :: ts => by
    rw [List.map_cons, List.filterMap_cons, show headF (plD t) = some (.str t.name) from rfl]
    exact congrArg (D.str t.name :: ·) (head_map ts)
theorem turn_12 (L : LawF P w K mg base f c PT CT CB CM CN CF CH CE g fd gd) (l5 : ts.length ≤ 5) (k : P0.nx (rJ d q o3 ts CT o6 o7 o8 o9 o10 o11 o12 o13 o14 o15 o16 (o17 :: o18 :: o19 :: o20 :: some (.own ((ts.map (·.name)).map D.str)) :: l))) :
    HS (xW P w K mg base f c A outer s H E) W false (bT.getD 12 noS) (rJ d q o3 ts CT o6 o7 o8 o9 o10 o11 o12 o13 o14 o15 o16 (o17 :: o18 :: o19 :: o20 :: o21 :: l)) P0 := by
  refine hs_setLc 21 (own := [("task", 7)]) headF rfl sc_law.nd (pid_list (pd_name 4)) (blkOk_by (show blkC nW (defScope (top 107)) _ _ = true by decide +kernel)) (fun x hx => ?_) (by rw [head_map]; exact k) (by rw [List.length_map]; omega)
  obtain ⟨t, ht, rfl⟩ := List.mem_map.mp hx
  exact ⟨[7], _, true, fun _ _ _ _ _ => pgd_name 7 sc_law.nd, by decide, rfl, ptsd_nil, fun _ => ⟨.str t.name, fun _ _ _ _ _ => pd_ixT (ds := tvs t) (pd_name 7) pd_int rfl, rfl⟩, fun z => by cases z⟩
theorem cut_from {ds : List D} {m : Nat} (h : m ≤ ds.length) : cutL ds (some (m : Int)) none = ds.drop m := by
  unfold cutL
  have e0 : HT.sIx ds.length ds.length none = ds.length := rfl
  have e1 : HT.sIx ds.length 0 (some (m : Int)) = m := by
    unfold HT.sIx
    simp
    split <;> omega
  rw [e0, e1, List.take_of_length_le (by rw [List.length_drop]; omega)]
theorem cut_init {ds : List D} (h : 1 ≤ ds.length) : cutL ds none (some (-1)) = ds.take (ds.length - 1) := by
  unfold cutL
  have e0 : HT.sIx ds.length 0 none = 0 := rfl
  have e1 : HT.sIx ds.length ds.length (some (-1)) = ds.length - 1 := by
    unfold HT.sIx
    simp
    omega
  rw [e0, e1, List.drop_zero, Nat.sub_zero]
def soloN (n : Str) : D := if n = "a" then .str "look" else .str n
/-- what is no order of tasks -/
def noneL (CT : Addr) (t : Tk) (ts : List Tk) : List D := [.non, .int 5, .tup [], .lst (((t :: ts).map (·.name)).map D.str ++ [D.str t.name]), .lst ((ts.map (·.name)).map D.str ++ [D.str "nobody"]), soloN t.name, .lst ((t :: ts).map (tkD CT)), .lst ((((t :: ts).map (·.name)).map D.str).take ts.length ++ [.non])]
theorem the_short : ∀ n ∈ theNames, n.length ≤ 1000 := by
  intro n hn
  have := the_ok n hn
  unfold isNameS at this
  simp only [Bool.and_eq_true, decide_eq_true_eq] at this
  omega
theorem none_bad (T : TaskK K mg CT) (h : Drawn (t :: ts)) {x : D} (hx : x ∈ noneL CT t ts) : BadO K ((tsrt (t :: ts)).map (·.name)) x := by
  have hn : ∀ n ∈ (t :: ts).map (·.name), n ∈ theNames := fun n m => by
    obtain ⟨u, hu, rfl⟩ := List.mem_map.mp m
    exact h.nm u hu
  have pn : ((tsrt (t :: ts)).map (·.name)).Perm ((t :: ts).map (·.name)) := (tsrt_perm _).map _
  have l5 : (t :: ts).length ≤ 5 := h.l5
  have ln : (t :: ts).length = ts.length + 1 := rfl
  have ty : ∀ n ∈ (t :: ts).map (·.name), isNameS n = true ∧ n.length ≤ 1000 := fun n m => ⟨the_ok n (hn n m), the_short n (hn n m)⟩
  have tn : t.name ∈ (t :: ts).map (·.name) := List.mem_cons_self
  simp only [noneL, List.mem_cons, List.not_mem_nil, or_false] at hx
  rcases hx with rfl | rfl | rfl | rfl | rfl | rfl | rfl | rfl
  · exact .no .non rfl
  · exact .no (.int _) rfl
  · refine .nm (os := []) (.inr rfl) (by decide) (fun x hx => by cases hx) fun z => ?_
    have := pn.length_eq
    rw [← z] at this
    simp [srtS] at this
  · refine .nm (os := (t :: ts).map (·.name) ++ [t.name]) (.inl (by rw [List.map_append]; rfl)) ?_ (fun x hx => ?_) fun z => ?_
    · rw [List.length_append, List.length_map]
      show (t :: ts).length + 1 < 64
      omega
    · rcases List.mem_append.mp hx with m | m
      · exact ty x m
      · rw [List.mem_singleton.mp m]
        exact ty _ tn
    · have a := (srtS_perm ((t :: ts).map (·.name) ++ [t.name])).length_eq
      rw [z, pn.length_eq, List.length_append] at a
      have b : ([t.name] : List Str).length = 1 := rfl
      omega
  · refine .nm (os := ts.map (·.name) ++ [("nobody" : Str)]) (.inl (by rw [List.map_append]; rfl)) ?_ (fun x hx => ?_) fun z => ?_
    · rw [List.length_append, List.length_map]
      show ts.length + 1 < 64
      omega
    · rcases List.mem_append.mp hx with m | m
      · exact ty x (List.mem_cons_of_mem _ m)
      · rw [List.mem_singleton.mp m]
        exact ⟨by decide, by decide⟩
    · have m1 : ("nobody" : Str) ∈ srtS (ts.map (·.name) ++ [("nobody" : Str)]) := (srtS_perm _).mem_iff.mpr (List.mem_append_right _ List.mem_cons_self)
      rw [z] at m1
      have m2 := hn _ (pn.mem_iff.mp m1)
      revert m2
      decide
  · unfold soloN
    split
    · exact .no (.str _ (by decide)) rfl
    · exact .no (.str _ (ty _ tn).2) rfl
  · refine .el (.inl rfl) (by rw [List.length_map]; omega) (fun x hx => ?_) rfl
    obtain ⟨u, _, rfl⟩ := List.mem_map.mp hx
    exact .ins _ T.cp
  · refine .el (.inl rfl) ?_ (fun x hx => ?_) ?_
    · rw [List.length_append, List.length_take]
      have b : ([D.non] : List D).length = 1 := rfl
      omega
    · rcases List.mem_append.mp hx with m | m
      · obtain ⟨n, hn', rfl⟩ := List.mem_map.mp (List.mem_of_mem_take m)
        exact .str _ (ty n hn').2
      · rw [List.mem_singleton.mp m]
        exact .non
    · rw [List.map_append, List.all_append]
      have e : (([D.non] : List D).map isName).all id = false := rfl
      rw [e, Bool.and_false]
theorem turn_13 (L : LawF P w K mg base f c PT CT CB CM CN CF CH CE g fd gd) (hr : Room 8 (xW P w K mg base f c A outer s H E).A) (l5 : (t :: ts).length ≤ 5) (hw : Wf (m + 1) q) (k : ∀ q' x o21, Wf m q' → x ∈ noneL CT t ts → P0.nx (rJ d q' o3 (t :: ts) CT o6 o7 o8 o9 o10 o11 o12 o13 o14 o15 o16 (o17 :: o18 :: o19 :: o20 :: o21 :: some (.d x) :: l))) :
    HS (xW P w K mg base f c A outer s H E) W false (bT.getD 13 noS) (rJ d q o3 (t :: ts) CT o6 o7 o8 o9 o10 o11 o12 o13 o14 o15 o16 (o17 :: o18 :: o19 :: o20 :: some (.own (((t :: ts).map (·.name)).map D.str)) :: o22 :: l)) P0 := by
  have len : (noneL CT t ts).length = 8 := rfl
  have ln : (t :: ts).length = ts.length + 1 := rfl
  have lm : (((t :: ts).map (·.name)).map D.str).length = ts.length + 1 := by rw [List.length_map, List.length_map]; rfl
  have mem : (noneL CT t ts).getD (draw q ((noneL CT t ts).length : Int)).1.toNat .non ∈ noneL CT t ts := List.mem_of_getElem? (getD_at (d := D.non) (draw_at (p := q) (by rw [len]; decide)).1)
  have c1 : cutL (((t :: ts).map (·.name)).map D.str) none (some 1) = [D.str t.name] := cut_take (m := 1) (by rw [lm]; omega)
  have c2 : cutL (((t :: ts).map (·.name)).map D.str) (some 1) none = (ts.map (·.name)).map D.str := cut_from (m := 1) (by rw [lm]; omega)
  have c3 : cutL (((t :: ts).map (·.name)).map D.str) none (some (-1)) = (((t :: ts).map (·.name)).map D.str).take ts.length := by
    rw [cut_init (by rw [lm]; omega), lm]
    rfl
  refine hs_set 22 (pd_callO 1 L.pick (hr.mono (by decide)) (pad_one (pd_lst (ds := noneL CT t ts) (ρ' := rJ d q o3 (t :: ts) CT o6 o7 o8 o9 o10 o11 o12 o13 o14 o15 o16 (o17 :: o18 :: o19 :: o20 :: some (.d (.lst (((t :: ts).map (·.name)).map D.str))) :: o22 :: l))
    (pad_cons pd_non (pad_cons pd_int (pad_cons (pd_tup pad_nil) (pad_cons (PD.is (pd_frz (pso_cat (pd_nameF 21 rfl) (pd_frz (pso_slL (pd_name 21) pod_none (pod_some pd_int))) ?_)) ?_) (pad_cons (PD.is (pd_frz (pso_cat (pd_frz (pso_slL (pd_name 21) (pod_some pd_int) pod_none)) (pd_lst (pad_one pd_str)) ?_)) ?_)
      (pad_cons (pd_ifB (k1 := !decide (t.name = "a")) (ptd_neS (pd_ixL (ds := ((t :: ts).map fun t : Tk => t.name).map D.str) (pd_name 21) pd_int (at0 (D.str t.name) ((ts.map fun t : Tk => t.name).map D.str))) pd_str) (fun z => PD.is (pd_ixL (ds := ((t :: ts).map fun t : Tk => t.name).map D.str) (pd_name 21) pd_int (at0 (D.str t.name) ((ts.map fun t : Tk => t.name).map D.str))) ?_) (fun z => PD.is pd_str ?_)) (pad_cons (pd_name 5) (pad_one (PD.is (pd_frz (pso_cat (pd_frz (pso_slL (pd_name 21) pod_none (pod_some (pd_neg pd_int)))) (pd_lst (pad_one pd_non)) ?_)) ?_)))))))))
      (by rw [len]; decide))) rfl own_me1 rfl rfl ⟨q, noneL CT t ts, rfl, rfl, by rw [len]; decide, by rw [len]; decide, hw.mono (by omega), rfl, rfl⟩ rfl) (k _ _ _ (draw_wf hw) mem) sc_law.nd
  · rw [c1, lm]
    show ts.length + 1 + 1 ≤ 100000
    omega
  · rw [c1]
  · rw [c2, List.length_map, List.length_map]
    show ts.length + 1 ≤ 100000
    omega
  · rw [c2]
  · unfold soloN
    rw [Bool.not_eq_true', decide_eq_false_iff_not] at z
    rw [if_neg z]
  · unfold soloN
    rw [Bool.not_eq_false', decide_eq_true_eq] at z
    rw [if_pos z]
  · show (cutL (((t :: ts).map (·.name)).map D.str) none (some (-1))).length + 1 ≤ 100000
    rw [c3, List.length_take]
    omega
  · show D.lst (cutL (((t :: ts).map (·.name)).map D.str) none (some (-1)) ++ [D.non]) = _
    rw [c3]
variable {x : D}
theorem asko_in (T : TaskK K mg CT) (h : Drawn ts) {x : D} (b : BadO K ((tsrt ts).map (·.name)) x) (rest : List D) : x_asko K CT CB CM (.lst (ts.map (tkD CT)) :: x :: rest) (.ref CB) (exV "order") := by
  obtain ⟨n, _, h1⟩ := h.need (CT := CT) (List.Perm.refl ts) (.inl rfl)
  exact ⟨_, x, rest, rfl, .inr ⟨ts, n, h1, fun t m => the_ok _ (h.nm t m), b, rfl, rfl⟩⟩
theorem turn_14 (L : LawF P w K mg base f c PT CT CB CM CN CF CH CE g fd gd) (hr : Room 8 (xW P w K mg base f c A outer s H E).A) (h : Drawn ts) (b : BadO K ((tsrt ts).map (·.name)) x) (k : P0.nx (rJ d q o3 ts CT o6 o7 o8 o9 o10 o11 o12 o13 o14 o15 o16 (o17 :: o18 :: o19 :: o20 :: o21 :: some (.d x) :: some (.d (.lst (List.replicate 3 (valT "order")))) :: l))) :
    HS (xW P w K mg base f c A outer s H E) W false (bT.getD 14 noS) (rJ d q o3 ts CT o6 o7 o8 o9 o10 o11 o12 o13 o14 o15 o16 (o17 :: o18 :: o19 :: o20 :: o21 :: some (.d x) :: o23 :: l)) P0 := by
  refine hs_set 23 (d := .lst (List.replicate 3 (valT "order"))) (pd_lst (pad_cons
    (pd_heardL (k := 5) 1 (by decide) L.ft L.hW L.H L.B (hr.mono (by decide)) (lamQ_by (by decide +kernel)) (closB0 rfl fun _ _ _ _ => rfl) (.val "order") (fun A' outer' s1 HZ E' f' c' hr' => px_call (takes_of rfl rfl rfl rfl) L.AF.planned hr' (pad_cons (pd_name 5) (pad_one (pd_name 22))) rfl (asko_in L.T h b _)))
    (pad_cons (pd_heardL (k := 5) 2 (by decide) L.ft L.hW L.H L.B (hr.mono (by decide)) (lamQ_by (by decide +kernel)) (closB1 (v := .int 0) (a := "a1") rfl fun _ _ _ _ _ _ => ⟨_, rfl, rfl⟩) (.val "order") (fun A' outer' s1 HZ E' f' c' hr' => px_call (takes_of rfl rfl rfl rfl) L.AF.answers hr' (pad_cons (pd_name 5) (pad_one (pd_name 22))) rfl (asko_in L.T h b _)))
    (pad_one (pd_heardL (k := 5) 3 (by decide) L.ft L.hW L.H L.B (hr.mono (by decide)) (lamQ_by (by decide +kernel)) (closB1 (v := .int 0) (a := "a2") rfl fun _ _ _ _ _ _ => ⟨_, rfl, rfl⟩) (.val "order") (fun A' outer' s1 HZ E' f' c' hr' => px_call (takes_of rfl rfl rfl rfl) L.AF.shows_plan hr' (pad_cons (pd_name 5) (pad_cons (pd_name 22) (pad_one pd_non))) rfl (asko_in L.T h b _)))))) (by decide)) k sc_law.nd
theorem turn_15 (L : LawF P w K mg base f c PT CT CB CM CN CF CH CE g fd gd) (hr : Room 8 (xW P w K mg base f c A outer s H E).A) (h : Drawn ts) (b : BadO K ((tsrt ts).map (·.name)) x) (k : P0.nx (rJ d q o3 ts CT o6 o7 o8 o9 o10 o11 o12 o13 o14 o15 o16 (o17 :: o18 :: o19 :: o20 :: o21 :: some (.d x) :: some (.d (.lst (List.replicate 5 (valT "order")))) :: l))) :
    HS (xW P w K mg base f c A outer s H E) W false (bT.getD 15 noS) (rJ d q o3 ts CT o6 o7 o8 o9 o10 o11 o12 o13 o14 o15 o16 (o17 :: o18 :: o19 :: o20 :: o21 :: some (.d x) :: some (.d (.lst (List.replicate 3 (valT "order")))) :: l)) P0 := by
  refine hs_set 23 (d := .lst (List.replicate 5 (valT "order"))) (PD.is (pd_frz (pso_cat (pd_name 23) (pd_lst (ds := List.replicate 2 (valT "order")) (pad_cons
    (pd_heardL (k := 5) 4 (by decide) L.ft L.hW L.H L.B (hr.mono (by decide)) (lamQ_by (by decide +kernel)) (closB0 rfl fun _ _ _ _ => rfl) (.val "order") (fun A' outer' s1 HZ E' f' c' hr' => px_call (takes_of rfl rfl rfl rfl) L.AF.sliced hr' (pad_cons (pd_name 5) (pad_cons (pd_name 22) (pad_cons pd_non (pad_one pd_non)))) rfl (asko_in L.T h b _)))
    (pad_one (pd_heardL (k := 5) 5 (by decide) L.ft L.hW L.H L.B (hr.mono (by decide)) (lamQ_by (by decide +kernel)) (closB1 (v := .int 0) (a := "a1") rfl fun _ _ _ _ _ _ => ⟨_, rfl, rfl⟩) (.val "order") (fun A' outer' s1 HZ E' f' c' hr' => px_call (takes_of rfl rfl rfl rfl) L.AF.left_at hr' (pad_cons (pd_name 5) (pad_cons (pd_name 22) (pad_one pd_non))) rfl (asko_in L.T h b _))))) (by decide)) (by decide))) rfl) k sc_law.nd
def untL : List D := [.non, .int (-1), .bl true, .str "5"]
theorem unt_bad : ∀ x ∈ untL, Ok K x ∧ betw 0 1000000 x = false := by
  intro x hx
  simp only [untL, List.mem_cons, List.not_mem_nil, or_false] at hx
  rcases hx with rfl | rfl | rfl | rfl
  · exact ⟨.non, rfl⟩
  · exact ⟨.int _, rfl⟩
  · exact ⟨.bl _, rfl⟩
  · exact ⟨.str _ (by decide), rfl⟩
theorem turn_16 (L : LawF P w K mg base f c PT CT CB CM CN CF CH CE g fd gd) (hr : Room 8 (xW P w K mg base f c A outer s H E).A) (h : Drawn ts) (hw : Wf 1 q) :
    PTD (xW P w K mg base f c A outer s H E) (ifT (bT.getD 16 noS)) (rJ d q o3 ts CT o6 o7 o8 o9 o10 o11 o12 o13 o14 o15 o16 (o17 :: o18 :: o19 :: o20 :: o21 :: o22 :: some (.d (.lst (List.replicate 5 (valT "order")))) :: l)) false (rJ d (draw q 4).2 o3 ts CT o6 o7 o8 o9 o10 o11 o12 o13 o14 o15 o16 (o17 :: o18 :: o19 :: o20 :: o21 :: o22 :: some (.d (.lst (List.replicate 5 (valT "order")))) :: l)) := by
  have hu : (xW P w K mg base f c A outer s H E).A.units + 64 < cLine := by
    have := hr.un
    omega
  have sh : SeqAt.shaped (.list (List.replicate 5 (valP "order"))) = true := by decide +kernel
  have s2 : SeqAt.shaped (valP "until") = true := by decide +kernel
  obtain ⟨n, _, h1⟩ := h.need (CT := CT) (List.Perm.refl ts) (.inl rfl)
  have mem : untL.getD (draw q 4).1.toNat .non ∈ untL := List.mem_of_getElem? (getD_at (d := D.non) (draw_at (p := q) (n := 4) (by decide)).1)
  have ub := unt_bad (K := K) _ mem
  refine pwd_pt (pwd_or (PTD.is (ptd_neD (dx := .list (List.replicate 5 (valP "order"))) (dy := .list (List.replicate 5 (valP "order"))) (pd_name 23) (pd_frz (pso_rep (pd_lst (pad_one (pd_tup (ds := [.str "value", .str "order"]) (pad_cons pd_str (pad_one pd_str)) (by show 2 ≤ 100000; decide)))) pd_int (hl := by decide))) hu rfl rfl sh sh) ?_) ?_)
  · rw [eqv_same sh]
    rfl
  · refine pwd_or1 (PTD.is (ptd_neD (dx := valP "until") (dy := valP "until") (pd_heardL (k := 5) 6 (by decide) L.ft L.hW L.H L.B (hr.mono (by decide)) (lamQ_by (by decide +kernel)) (closB0 rfl fun _ _ _ _ => rfl) (.val "until") (fun A' outer' s1 HZ E' f' c' hr' => px_call (takes_of rfl rfl rfl rfl) L.AF.releases hr' (pad_cons (pd_name 5) (pad_one (pd_callO (d := untL.getD (draw q 4).1.toNat .non) (s1 := .own (penD (draw q 4).2)) 1 L.pick (hr'.mono (by decide)) (pad_one (pd_lst (ds := untL) (pad_cons pd_non (pad_cons (PD.is (pd_neg pd_int) rfl) (pad_cons pd_bl (pad_one pd_str)))) (by decide))) rfl own_me1 rfl rfl ⟨q, untL, rfl, rfl, by decide, by decide, hw, rfl, rfl⟩ rfl))) rfl ⟨_, _, rfl, .inr ⟨⟨ts, n, h1⟩, ub.1, ub.2, rfl, rfl⟩⟩))
      (pd_tup (ds := [.str "value", .str "until"]) (pad_cons pd_str (pad_one pd_str)) (by show 2 ≤ 100000; decide)) hu rfl rfl s2 s2) ?_)
    rw [eqv_same s2]
    rfl
end
end K20

end
section
set_option maxHeartbeats 4000001
/-! K37: a whole turn of the law. -/
namespace K20
open PySem PySem.Spec
open PyProof.Rows L2 DL LamX
open Evl (Ex)
section
variable [Tb]
variable {P : Program} {w : World} {K : PySem.W.Frag} {mg : Str → Option Value} {base : Heap} {f c PT CT CB CM CN CF CH CE g : Addr} {fd gd : FuncData} {A : Around} {outer : List Env} {s : Shared} {H : Hp} {E : XK} {d : D} {q : Pen} {m : Nat} {W : WX} {P0 : Po}
/-- the law's slots: 26 of them may hold anything -/
abbrev rL (d : D) (q : Pen) (l : List (Option S)) : Rho := some (.d d) :: some (.own (penD q)) :: some (.d (.lst (wordsL.map D.str))) :: l
def InvT (d : D) (m : Nat) (ρ : Rho) : Prop := ∃ q l, Wf m q ∧ l.length = 26 ∧ ρ = rL d q l
theorem turn_all (L : LawF P w K mg base f c PT CT CB CM CN CF CH CE g fd gd) (hr : Room 8 (xW P w K mg base f c A outer s H E).A) (hgd : (xW P w K mg base f c A outer s H E).A.guards = some []) (hp : PassesOwn (model (xW P w K mg base f c A outer s H E).prog (xW P w K mg base f c A outer s H E).w) (xW P w K mg base f c A outer s H E).A (xW P w K mg base f c A outer s H E).env (xW P w K mg base f c A outer s H E).xe)
    {l : List (Option S)} (hl : l.length = 26) (hw : Wf (m + 100) q) (k : ∀ ρ, InvT d m ρ → P0.nx ρ) :
    HSs (xW P w K mg base f c A outer s H E) W false bT (rL d q l) P0 := by
  match l, hl with
  | [o3, o4, o5, o6, o7, o8, o9, o10, o11, o12, o13, o14, o15, o16, o17, o18, o19, o20, o21, o22, o23, o24, o25, o26, o27, o28], _ =>
    refine hss_cons (M := fun ρ => ∃ q ts, Wf (m + 47) q ∧ Drawn ts ∧ ρ = rA d q o3 (some (.d (.lst (ts.map plD)))) o5 [o6, o7, o8, o9, o10, o11, o12, o13, o14, o15, o16, o17, o18, o19, o20, o21, o22, o23, o24, o25, o26, o27, o28]) (turn_0 L hr (m := m + 47) hw fun q ts h1 h2 => ⟨q, ts, h1, h2, rfl⟩) fun ρ ⟨q1, ts, w1, hd, e⟩ => ?_
    subst e
    have l5 := hd.l5
    refine hss_then (turn_1 L hr hd rfl) ?_
    refine hss_cons (M := fun ρ => ∃ q p6 p7 p8 p9 p10, Wf (m + 27) q ∧ ρ = rJ d q o3 ts CT p6 p7 p8 p9 p10 o11 o12 o13 o14 o15 o16 [o17, o18, o19, o20, o21, o22, o23, o24, o25, o26, o27, o28]) (turn_2 L hr hgd hd.gd (m := m + 27) (w1.mono (by omega)) hp fun q p6 p7 p8 p9 p10 h => ⟨q, p6, p7, p8, p9, p10, h, rfl⟩) fun ρ ⟨q2, p6, p7, p8, p9, p10, w2, e⟩ => ?_
    subst e
    refine hss_cons (M := fun ρ => ∃ q us u, Wf (m + 20) q ∧ us.Perm ts ∧ u < 40 ∧ ρ = rJ d q o3 ts CT p6 p7 p8 p9 p10 o11 (some (.d (.lst (us.map (tkD CT))))) (some (.d (.int (u : Nat)))) o14 o15 o16 [o17, o18, o19, o20, o21, o22, o23, o24, o25, o26, o27, o28]) (turn_3 L hr hd (m := m + 20) (w2.mono (by omega)) fun q us u h1 h2 h3 => ⟨q, us, u, h1, h2, h3, rfl⟩) fun ρ ⟨q3, us, u, w3, pu, hu, e⟩ => ?_
    subst e
    refine hss_then (turn_4 L rfl) ?_
    refine hss_cons (M := fun ρ => ∃ p7, ρ = rJ d q3 o3 ts CT p6 p7 p8 p9 p10 o11 (some (.d (.lst (us.map (tkD CT))))) (some (.d (.int (u : Nat)))) (some (.d (.lst ((ts.flatMap (relT u)).map trD)))) o15 o16 [o17, o18, o19, o20, o21, o22, o23, o24, o25, o26, o27, o28]) (turn_5 L hd hu hp fun p7 => ⟨p7, rfl⟩) fun ρ ⟨r7, e⟩ => ?_
    subst e
    refine hss_then (turn_6 L rfl) ?_
    refine hss_leave (turn_7 L hr hgd hd pu) (fun z => by cases z) fun _ => ?_
    refine hss_leave (turn_8 L hr hgd hd pu hu) (fun z => by cases z) fun _ => ?_
    refine hss_then (turn_9 L hr rfl) ?_
    obtain ⟨t, ts', rfl⟩ : ∃ t ts', ts = t :: ts' := by
      match ts, hd.l1 with
      | t :: ts', _ => exact ⟨t, ts', rfl⟩
    refine hss_cons (M := fun ρ => ∃ q x, Wf (m + 10) q ∧ x ∈ oddL CT t (t :: ts') ∧ ρ = rJ d q o3 (t :: ts') CT p6 r7 p8 p9 p10 o11 (some (.d (.lst (us.map (tkD CT))))) (some (.d (.int (u : Nat)))) (some (.d (.lst ((srt3 ((t :: ts').flatMap (relT u))).map trD)))) o15 o16 [some (.d (.lst ((sixN.map sixT).map (tkD CT)))), o18, some (.d x), o20, o21, o22, o23, o24, o25, o26, o27, o28]) (turn_10 L hr l5 (m := m + 10) (w3.mono (by omega)) fun q x h1 h2 => ⟨q, x, h1, h2, rfl⟩) fun ρ ⟨q4, x, w4, hx, e⟩ => ?_
    subst e
    refine hss_leave (turn_11 L hr (odd_need L.T hx) (odd_plain hx)) (fun z => by cases z) fun _ => ?_
    refine hss_then (turn_12 L l5 rfl) ?_
    refine hss_cons (M := fun ρ => ∃ q y p21, Wf (m + 1) q ∧ y ∈ noneL CT t ts' ∧ ρ = rJ d q o3 (t :: ts') CT p6 r7 p8 p9 p10 o11 (some (.d (.lst (us.map (tkD CT))))) (some (.d (.int (u : Nat)))) (some (.d (.lst ((srt3 ((t :: ts').flatMap (relT u))).map trD)))) o15 o16 [some (.d (.lst ((sixN.map sixT).map (tkD CT)))), o18, some (.d x), o20, p21, some (.d y), o23, o24, o25, o26, o27, o28]) (turn_13 L hr l5 (m := m + 1) (w4.mono (by omega)) fun q y p21 h1 h2 => ⟨q, y, p21, h1, h2, rfl⟩) fun ρ ⟨q5, y, p21, w5, hy, e⟩ => ?_
    subst e
    have bad := none_bad L.T hd hy
    refine hss_then (turn_14 L hr hd bad rfl) ?_
    refine hss_then (turn_15 L hr hd bad rfl) ?_
    exact hss_leave (turn_16 L hr hd (w5.mono (by omega))) (fun z => by cases z) fun _ => hss_nil (k _ ⟨_, _, draw_wf w5, rfl, rfl⟩)
end
end K20

end
section
set_option maxHeartbeats 4000001
/-! K38: the law's body. -/
namespace K20
open PySem PySem.Spec
open PyProof.Rows L2 DL LamX
open Evl (Ex)
section
variable [Tb]
variable {P : Program} {w : World} {K : PySem.W.Frag} {mg : Str → Option Value} {base : Heap} {f c PT CT CB CM CN CF CH CE g : Addr} {fd gd : FuncData} {A : Around} {outer : List Env} {s : Shared} {H : Hp} {E : XK} {d : D} {q : Pen} {m : Nat} {W : WX} {P0 : Po}
def manyL : List (List Int) := [[7, 11, 13], [599, 2], [25, 26], [600, 7], [24, 25, 9]]
def abcL : List Str := [⟨#[97]⟩, ⟨#[98]⟩, ⟨#[99]⟩]
def longT (n : Str) (p : Nat) : Tk := ⟨n, p, 0, 1, 1, some 1⟩
def longF (CT : Addr) : D → Option D
  | .tup [.int i, .int p] => some (tkD CT (longT (abcL.getD i.toNat "") p.toNat))
  | _ => none
/-- the tasks of too long a round -/
def longL (is : List Int) : List Tk := (abcL.zip is).map fun x => longT x.1 x.2.toNat
theorem long_all (CT : Addr) : ∀ is ∈ manyL, (enumD (is.map D.int)).filterMap (longF CT) = (longL is).map (tkD CT) := by
  intro is h
  simp only [manyL, List.mem_cons, List.not_mem_nil, or_false] at h
  rcases h with rfl | rfl | rfl | rfl | rfl <;> rfl
theorem long_rnd : ∀ is ∈ manyL, rnd 1 ((longL is).map (·.period)) = none := by
  intro is h
  simp only [manyL, List.mem_cons, List.not_mem_nil, or_false] at h
  rcases h with rfl | rfl | rfl | rfl | rfl <;> decide
theorem long_in : ∀ is ∈ manyL, 1 ≤ is.length ∧ is.length ≤ 3 ∧ ∀ i ∈ is, 1 ≤ i ∧ i ≤ 600 := by decide
theorem tsrt_id {ts : List Tk} (h : (ts.map (·.name)).Pairwise fun a b => ltS a b = true) : tsrt ts = ts := by
  have hp : ts.Pairwise fun a b => leS a.name b.name = true := by
    rw [List.pairwise_map] at h
    exact h.imp fun {a b} z => by
      unfold leS
      cases y : ltS b.name a.name with
      | false => rfl
      | true =>
        have := lt_tr z y
        have e : ltCps a.name.cps.toList a.name.cps.toList = true := this
        rw [lt_irr] at e
        cases e
  exact List.mergeSort_of_pairwise hp
theorem long_need (K : PySem.W.Frag) {CT CB CM : Addr} : ∀ is ∈ manyL, x_need K CT CB CM [.lst ((longL is).map (tkD CT))] (.ref CM) exM := by
  intro is h
  have pw : ((longL is).map (·.name)).Pairwise fun a b => ltS a b = true := by
    have all : ∀ is ∈ manyL, ((longL is).map (·.name)).Pairwise fun a b => ltS a b = true := by decide
    exact all is h
  have g1 : asc ((longL is).map (·.name)) = true := by
    have all : ∀ is ∈ manyL, asc ((longL is).map (·.name)) = true := by decide
    exact all is h
  have sn : srtS ((longL is).map (·.name)) = (longL is).map (·.name) := List.mergeSort_of_pairwise (pw.imp fun {a b} z => by
    unfold leS
    cases y : ltS b a with
    | false => rfl
    | true =>
      have := lt_tr z y
      have e : ltCps a.cps.toList a.cps.toList = true := this
      rw [lt_irr] at e
      cases e)
  have ln : ∀ is ∈ manyL, 1 ≤ (longL is).length ∧ (longL is).length ≤ 5 ∧ ∀ t ∈ longL is, 0 < t.period ∧ t.period ≤ 600 := by
    intro is h
    simp only [manyL, List.mem_cons, List.not_mem_nil, or_false] at h
    rcases h with rfl | rfl | rfl | rfl | rfl <;> exact ⟨by decide, by decide, by decide⟩
  obtain ⟨a1, a2, a3⟩ := ln is h
  exact .inr ⟨longL is, ⟨_, rfl, .inl rfl, ⟨a1, a2, by rw [sn]; exact g1, a3⟩, by rw [tsrt_id pw]; exact long_rnd is h⟩, rfl, rfl⟩
theorem long_ok {n : Str} {p : Nat} (hn : n ∈ abcL) (h : 1 ≤ p ∧ p ≤ 600) : okT (longT n p) := by
  have e : ∀ n ∈ abcL, isNameS n = true := by decide
  have b : ∀ {x y : Nat}, Nat.ble x y = true → x ≤ y := fun z => Nat.le_of_ble_eq_true z
  refine ⟨e n hn, by show 0 < p; omega, h.2, b rfl, b rfl, ?_, b rfl, b rfl, fun m z => ?_⟩
  · show 1 ≤ p
    exact h.1
  · cases z
    exact ⟨b rfl, b rfl⟩
variable {is : List Int}
def manT : D := .tup [.str "many", .str "round", .int 600]
def manP : PyData := .tuple [.str "many", .str "round", .int 600]
def noneS (n : Nat) : List (Option S) := List.replicate n none
theorem law_0 (L : LawF P w K mg base f c PT CT CB CM CN CF CH CE g fd gd) (hr : Room 8 (xW P w K mg base f c A outer s H E).A) (sc : ScrD K d is) (h63 : is.length ≤ 63) (k : P0.nx (rL d ⟨cutI is none (some 63), 0, 0⟩ (noneS 26))) : HS (xW P w K mg base f c A outer s H E) W false (bL.getD 0 noS) (Gen [d] nW) P0 :=
  hs_unpS 1 2 (s1 := .own (penD ⟨cutI is none (some 63), 0, 0⟩)) (s2 := .d (.lst (wordsL.map D.str))) (ρ1 := Gen [d] nW) (ρ2 := Gen [d] nW) (pso_call L.pen (hr.mono (by decide)) (pad_one (pd_name 0)) rfl ⟨d, is, rfl, sc, h63, rfl⟩) (ps_d (pd_lst (pad_cons pd_str (pad_cons pd_str (pad_cons pd_str (pad_cons pd_str (pad_cons pd_str (pad_one pd_str)))))))) k rfl sc_law.nd
theorem law_1 (L : LawF P w K mg base f c PT CT CB CM CN CF CH CE g fd gd) (hr : Room 8 (xW P w K mg base f c A outer s H E).A) (hgd : (xW P w K mg base f c A outer s H E).A.guards = some []) (hp : PassesOwn (model (xW P w K mg base f c A outer s H E).prog (xW P w K mg base f c A outer s H E).w) (xW P w K mg base f c A outer s H E).A (xW P w K mg base f c A outer s H E).env (xW P w K mg base f c A outer s H E).xe)
    {l : List (Option S)} (hl : l.length = 26) (hw : Wf (m + 500) q) (k : ∀ ρ, InvT d m ρ → P0.nx ρ) : HS (xW P w K mg base f c A outer s H E) W false (bL.getD 1 noS) (rL d q l) P0 := by
  refine hs_for hp rfl (pid_range1 L.B.range pd_int (by decide)) (fun i ρ => InvT d (m + 100 * (5 - i)) ρ) ⟨q, l, hw, hl, rfl⟩ (fun i d' ρi hd hI => ?_) fun ρn hI => ?_
  · obtain ⟨q, l, w1, hl, rfl⟩ := hI
    have hi : i < 5 := (rngD_get hd).1
    match l, hl with
    | o3 :: l, hl =>
      exact ⟨[3], rL d q (some (.d d') :: l), pgd_name 3 sc_law.nd, .inl rfl, turn_all L hr hgd hp hl (m := m + 100 * (5 - (i + 1))) (w1.mono (by omega)) fun ρ h => h⟩
  · exact k ρn hI
/-- the law's slots behind its loop -/
abbrev rN (d : D) (q : Pen) (l : List (Option S)) (x24 x25 o26 o27 x28 : Option S) : Rho := rL d q (l ++ [x24, x25, o26, o27, x28])
theorem law_2 (L : LawF P w K mg base f c PT CT CB CM CN CF CH CE g fd gd) (hr : Room 8 (xW P w K mg base f c A outer s H E).A) {o3 o4 o5 o6 o7 o8 o9 o10 o11 o12 o13 o14 o15 o16 o17 o18 o19 o20 o21 o22 o23 o24 o25 o26 o27 o28 : Option S} (hw : Wf 1 q) (k : ∀ q is, is ∈ manyL → P0.nx (rN d q [o3, o4, o5, o6, o7, o8, o9, o10, o11, o12, o13, o14, o15, o16, o17, o18, o19, o20, o21, o22, o23] (some (.d (.lst (is.map D.int)))) o25 o26 o27 o28)) :
    HS (xW P w K mg base f c A outer s H E) W false (bL.getD 2 noS) (rN d q [o3, o4, o5, o6, o7, o8, o9, o10, o11, o12, o13, o14, o15, o16, o17, o18, o19, o20, o21, o22, o23] o24 o25 o26 o27 o28) P0 := by
  have at5 := (draw_at (p := q) (n := 5) (by decide)).1
  obtain ⟨is, e, mem⟩ : ∃ is, (manyL.map fun l => D.lst (l.map D.int)).getD (draw q 5).1.toNat .non = .lst (is.map D.int) ∧ is ∈ manyL := by
    have z := List.mem_of_getElem? (getD_at (l := manyL.map fun l => D.lst (l.map D.int)) (d := D.non) (k := (draw q 5).1.toNat) at5)
    obtain ⟨is, h1, h2⟩ := List.mem_map.mp z
    exact ⟨is, h2.symm, h1⟩
  exact hs_set 24 (d := .lst (is.map D.int)) (pd_callO (ρ' := rN d q [o3, o4, o5, o6, o7, o8, o9, o10, o11, o12, o13, o14, o15, o16, o17, o18, o19, o20, o21, o22, o23] o24 o25 o26 o27 o28) (s1 := .own (penD (draw q 5).2)) 1 L.pick (hr.mono (by decide)) (pad_one (pd_lst (ds := manyL.map fun l => D.lst (l.map D.int)) (pad_cons (pd_lst (pad_cons pd_int (pad_cons pd_int (pad_one pd_int))) (by show 3 ≤ 100000; decide)) (pad_cons (pd_lst (pad_cons pd_int (pad_one pd_int)) (by show 2 ≤ 100000; decide)) (pad_cons (pd_lst (pad_cons pd_int (pad_one pd_int)) (by show 2 ≤ 100000; decide)) (pad_cons (pd_lst (pad_cons pd_int (pad_one pd_int)) (by show 2 ≤ 100000; decide)) (pad_one (pd_lst (pad_cons pd_int (pad_cons pd_int (pad_one pd_int))) (by show 3 ≤ 100000; decide))))))) (by decide))) rfl own_me1 rfl rfl ⟨q, manyL.map fun l => D.lst (l.map D.int), rfl, rfl, by decide, by decide, hw, e.symm, rfl⟩ rfl)
    (k (draw q 5).2 is mem) sc_law.nd
theorem law_3 (L : LawF P w K mg base f c PT CT CB CM CN CF CH CE g fd gd) (hr : Room 8 (xW P w K mg base f c A outer s H E).A) {o3 o4 o5 o6 o7 o8 o9 o10 o11 o12 o13 o14 o15 o16 o17 o18 o19 o20 o21 o22 o23 o25 o26 o27 o28 : Option S} (hi : is ∈ manyL) (k : P0.nx (rN d q [o3, o4, o5, o6, o7, o8, o9, o10, o11, o12, o13, o14, o15, o16, o17, o18, o19, o20, o21, o22, o23] (some (.d (.lst (is.map D.int)))) (some (.own ((longL is).map (tkD CT)))) o26 o27 o28)) :
    HS (xW P w K mg base f c A outer s H E) W false (bL.getD 3 noS) (rN d q [o3, o4, o5, o6, o7, o8, o9, o10, o11, o12, o13, o14, o15, o16, o17, o18, o19, o20, o21, o22, o23] (some (.d (.lst (is.map D.int)))) o25 o26 o27 o28) P0 := by
  obtain ⟨l1, l3, hb⟩ := long_in is hi
  refine hs_setLc 25 (own := [("at", 26), ("period", 27)]) (longF CT) rfl sc_law.nd (pid_enum L.B.enumerate (pd_name 24)) (blkOk_by (show blkC nW (defScope (top 107)) _ _ = true by decide +kernel)) (fun x hx => ?_) (by rw [long_all CT is hi]; exact k) (by rw [enumD_len, List.length_map]; omega)
  obtain ⟨i, hx⟩ := List.mem_iff_getElem?.mp hx
  obtain ⟨y, hy, rfl⟩ := enumD_get hx
  rw [List.getElem?_map] at hy
  obtain ⟨p, hp, rfl⟩ := Option.map_eq_some_iff.mp hy
  have li : i < 3 := Nat.lt_of_lt_of_le (get_of_le hp) l3
  obtain ⟨b1, b2⟩ := hb p (List.mem_of_getElem? hp)
  obtain ⟨n, rfl⟩ : ∃ n : Nat, p = (n : Int) := ⟨p.toNat, by omega⟩
  have ok := fun {x : Str} (hx : x ∈ abcL) => long_ok (p := n) hx ⟨by omega, by omega⟩
  refine ⟨[26, 27], _, true, fun _ _ _ _ _ => pgd_tup rfl (pgds_cons (pgd_name 26 sc_law.nd) (pgds_cons (pgd_name 27 sc_law.nd) pgds_nil)), by decide, rfl, ptsd_nil, fun _ => ⟨tkD CT (longT (abcL.getD i "") n), fun _ _ _ _ _ => ?_, rfl⟩, fun z => by cases z⟩
  match i, li with
  | 0, _ => exact pd_frzI (pso_make (fs := tfs (longT ⟨#[97]⟩ n)) L.mkT (hr.mono (by decide)) (pad_cons (pd_ixS pd_str (pd_name 26) (by decide) rfl) (pad_cons (pd_name 27) (pad_cons pd_int (pad_cons pd_int (pad_cons pd_int (pad_one pd_int)))))) rfl ⟨rfl, rfl, longT ⟨#[97]⟩ n, rfl, ok (by decide), rfl⟩)
  | 1, _ => exact pd_frzI (pso_make (fs := tfs (longT ⟨#[98]⟩ n)) L.mkT (hr.mono (by decide)) (pad_cons (pd_ixS pd_str (pd_name 26) (by decide) rfl) (pad_cons (pd_name 27) (pad_cons pd_int (pad_cons pd_int (pad_cons pd_int (pad_one pd_int)))))) rfl ⟨rfl, rfl, longT ⟨#[98]⟩ n, rfl, ok (by decide), rfl⟩)
  | 2, _ => exact pd_frzI (pso_make (fs := tfs (longT ⟨#[99]⟩ n)) L.mkT (hr.mono (by decide)) (pad_cons (pd_ixS pd_str (pd_name 26) (by decide) rfl) (pad_cons (pd_name 27) (pad_cons pd_int (pad_cons pd_int (pad_cons pd_int (pad_one pd_int)))))) rfl ⟨rfl, rfl, longT ⟨#[99]⟩ n, rfl, ok (by decide), rfl⟩)
  | i + 3, h => exact absurd h (by omega)
theorem abc_plain : ∀ is ∈ manyL, plainD (.lst ((abcL.map D.str).take is.length)) = true := by
  intro is h
  simp only [manyL, List.mem_cons, List.not_mem_nil, or_false] at h
  rcases h with rfl | rfl | rfl | rfl | rfl <;> rfl
theorem law_4 (L : LawF P w K mg base f c PT CT CB CM CN CF CH CE g fd gd) (hr : Room 8 (xW P w K mg base f c A outer s H E).A) {o3 o4 o5 o6 o7 o8 o9 o10 o11 o12 o13 o14 o15 o16 o17 o18 o19 o20 o21 o22 o23 o26 o27 o28 : Option S} (hi : is ∈ manyL) :
    PTD (xW P w K mg base f c A outer s H E) (ifT (bL.getD 4 noS)) (rN d q [o3, o4, o5, o6, o7, o8, o9, o10, o11, o12, o13, o14, o15, o16, o17, o18, o19, o20, o21, o22, o23] (some (.d (.lst (is.map D.int)))) (some (.own ((longL is).map (tkD CT)))) o26 o27 o28) false (rN d q [o3, o4, o5, o6, o7, o8, o9, o10, o11, o12, o13, o14, o15, o16, o17, o18, o19, o20, o21, o22, o23] (some (.d (.lst (is.map D.int)))) (some (.d (.lst ((longL is).map (tkD CT))))) o26 o27 o28) := by
  have hu : (xW P w K mg base f c A outer s H E).A.units + 64 < cLine := by
    have := hr.un
    omega
  have sh : SeqAt.shaped (.list (List.replicate 16 manP)) = true := by decide +kernel
  have l3 := (long_in is hi).2.1
  have px : plainD (.lst ((longL is).map (tkD CT))) = true := by
    unfold plainD
    exact plain_tks CT _
  refine PTD.is (ptd_neD (dx := .list (List.replicate 16 manP)) (dy := .list (List.replicate 16 manP)) (PD.is (y := .lst (List.replicate 16 manT)) (pd_frz (pso_lc (own := [("ask", 20)]) (fun _ => some manT) rfl sc_law.nd (pid_list (pd_call (ρ' := rN d q [o3, o4, o5, o6, o7, o8, o9, o10, o11, o12, o13, o14, o15, o16, o17, o18, o19, o20, o21, o22, o23] (some (.d (.lst (is.map D.int)))) (some (.d (.lst ((longL is).map (tkD CT))))) o26 o27 o28) L.asks (hr.mono (by decide)) (pad_cons (pd_nameF 25 rfl) (pad_one (pd_frz (pso_slL (pd_lst (ds := abcL.map D.str) (pad_cons pd_str (pad_cons pd_str (pad_one pd_str))) (by show 3 ≤ 100000; decide)) pod_none (pod_some (pd_lenL L.B.len (pd_name 24))))))) rfl ⟨_, _, rfl, rfl⟩)) (blkOk_by (show blkC nW (defScope (top 107)) _ _ = true by decide +kernel)) (fun d' hd => ?_) (hl := by show 16 ≤ 100000; decide))) rfl)
    (pd_frz (pso_rep (pd_lst (ds := [manT]) (pad_one (pd_tup (ds := [.str "many", .str "round", .int 600]) (pad_cons pd_str (pad_cons pd_str (pad_one pd_int))) (by show 3 ≤ 100000; decide))) (by show 1 ≤ 100000; decide)) pd_int (hl := by show 1 * 16 ≤ 100000; decide))) hu rfl rfl sh sh) (by rw [eqv_same sh]; rfl)
  obtain ⟨i, hi', rfl⟩ := List.mem_map.mp hd
  refine ⟨[20], _, true, fun _ _ _ _ _ => pgd_name 20 sc_law.nd, by decide, rfl, ptsd_nil, fun _ => ⟨manT, fun _ _ _ _ _ => pd_heard (k := 6) L.H.fn L.H.gl L.B L.H.er (hr.mono (by decide)) .many (pd_name 20) fun v pins σ G H s I sl eg at_ => ?_, rfl⟩, fun z => by cases z⟩
  have vr : ∃ f', v = .ref f' := by
    cases at_ with
    | fn h hD hc hl hn hcs hs => exact ⟨_, rfl⟩
  obtain ⟨f', rfl⟩ := vr
  refine ⟨f', rfl, cal_ask L.AF L.hA (List.mem_range.mp hi') (long_need K is hi) px ?_ at_ sl⟩
  rw [List.length_map, cut_take (show is.length ≤ (abcL.map D.str).length from l3)]
  exact abc_plain is hi
def wideT : Tk := ⟨"abcdefgh", 600, 600, 600, 100000000, some 100000000⟩
def zT : Tk := ⟨"z", 600, 0, 1, 1, none⟩
def aT : Tk := ⟨"a", 24, 0, 1, 1, some 1⟩
def bT2 : Tk := ⟨"b", 25, 0, 1, 1, some 1⟩
theorem okT_by {t : Tk} (h0 : isNameS t.name = true) (h1 : Nat.ble 1 t.period = true) (h2 : Nat.ble t.period 600 = true) (h3 : Nat.ble t.offset 600 = true) (h4 : Nat.ble 1 t.due = true) (h5 : Nat.ble t.due t.period = true) (h6 : Nat.ble 1 t.least = true) (h7 : Nat.ble t.least 100000000 = true) (h8 : ∀ m, t.most = some m → Nat.ble t.least m = true ∧ Nat.ble m 100000000 = true) : okT t :=
  ⟨h0, Nat.le_of_ble_eq_true h1, Nat.le_of_ble_eq_true h2, Nat.le_of_ble_eq_true h3, Nat.le_of_ble_eq_true h4, Nat.le_of_ble_eq_true h5, Nat.le_of_ble_eq_true h6, Nat.le_of_ble_eq_true h7, fun m e => ⟨Nat.le_of_ble_eq_true (h8 m e).1, Nat.le_of_ble_eq_true (h8 m e).2⟩⟩
theorem ok_wide : okT wideT := okT_by (by decide) rfl rfl rfl rfl rfl rfl rfl fun m e => by cases e; exact ⟨rfl, rfl⟩
theorem ok_z : okT zT := okT_by (by decide) rfl rfl rfl rfl rfl rfl rfl fun m e => by cases e
theorem ok_a : okT aT := okT_by (by decide) rfl rfl rfl rfl rfl rfl rfl fun m e => by cases e; exact ⟨rfl, rfl⟩
theorem ok_b2 : okT bT2 := okT_by (by decide) rfl rfl rfl rfl rfl rfl rfl fun m e => by cases e; exact ⟨rfl, rfl⟩
theorem need_two {CT : Addr} {t u : Tk} (h : ltS t.name u.name = true) (pt : 0 < t.period ∧ t.period ≤ 600) (pu : 0 < u.period ∧ u.period ≤ 600) (hr : rnd 1 [t.period, u.period] = some 600) : need1 CT [.lst [tkD CT t, tkD CT u]] (some 600) [t, u] := by
  have pw : ([t, u].map (·.name)).Pairwise fun a b => ltS a b = true := by
    refine .cons (fun y hy => ?_) (.cons (fun y hy => by cases hy) .nil)
    rw [List.mem_singleton.mp hy]
    exact h
  have sn : srtS ([t, u].map (·.name)) = [t, u].map (·.name) := List.mergeSort_of_pairwise (pw.imp fun {a b} z => by
    unfold leS
    cases y : ltS b a with
    | false => rfl
    | true =>
      have := lt_tr z y
      have e : ltCps a.cps.toList a.cps.toList = true := this
      rw [lt_irr] at e
      cases e)
  refine ⟨_, rfl, .inl rfl, ⟨by show 1 ≤ 2; decide, by show 2 ≤ 5; decide, ?_, fun x hx => ?_⟩, by rw [tsrt_id pw]; exact hr⟩
  · rw [sn]
    show (ltS t.name u.name && true) = true
    rw [h]
    rfl
  · rcases List.mem_cons.mp hx with rfl | hx
    · exact pt
    · rw [List.mem_singleton.mp hx]
      exact pu
theorem law_5 (L : LawF P w K mg base f c PT CT CB CM CN CF CH CE g fd gd) (hr : Room 8 (xW P w K mg base f c A outer s H E).A) {o3 o4 o5 o6 o7 o8 o9 o10 o11 o12 o13 o14 o15 o16 o17 o18 o19 o20 o21 o22 o23 o24 o25 o26 o27 o28 : Option S} (k : P0.nx (rN d q [o3, o4, o5, o6, o7, o8, o9, o10, o11, o12, o13, o14, o15, o16, o17, o18, o19, o20, o21, o22, o23] o24 o25 o26 o27 (some (.d (tkD CT wideT))))) :
    HS (xW P w K mg base f c A outer s H E) W false (bL.getD 5 noS) (rN d q [o3, o4, o5, o6, o7, o8, o9, o10, o11, o12, o13, o14, o15, o16, o17, o18, o19, o20, o21, o22, o23] o24 o25 o26 o27 o28) P0 := by
  have pw : (10 : Int) ^ ((8 : Int).toNat) = 100000000 := by decide
  have cp : CPow 10 8 := pow_small (by decide) (by decide) (by decide)
  exact hs_set 28 (pd_frzI (pso_make (fs := tfs wideT) L.mkT (hr.mono (by decide)) (pad_cons pd_str (pad_cons pd_int (pad_cons pd_int (pad_cons pd_int (pad_cons (PD.is (pd_pow pd_int pd_int cp) (congrArg D.int pw)) (pad_one (PD.is (pd_pow pd_int pd_int cp) (congrArg D.int pw)))))))) rfl ⟨rfl, rfl, wideT, rfl, ok_wide, rfl⟩)) k sc_law.nd
theorem law_6 (L : LawF P w K mg base f c PT CT CB CM CN CF CH CE g fd gd) (hr : Room 8 (xW P w K mg base f c A outer s H E).A) {o3 o4 o5 o6 o7 o8 o9 o10 o11 o12 o13 o14 o15 o16 o17 o18 o19 o20 o21 o22 o23 o24 o25 o26 o27 : Option S} (k : P0.rt (.bl true) (rN d q [o3, o4, o5, o6, o7, o8, o9, o10, o11, o12, o13, o14, o15, o16, o17, o18, o19, o20, o21, o22, o23] o24 o25 o26 o27 (some (.d (tkD CT wideT))))) :
    HS (xW P w K mg base f c A outer s H E) W false (bL.getD 6 noS) (rN d q [o3, o4, o5, o6, o7, o8, o9, o10, o11, o12, o13, o14, o15, o16, o17, o18, o19, o20, o21, o22, o23] o24 o25 o26 o27 (some (.d (tkD CT wideT)))) P0 := by
  have n1 : need1 CT [.lst [tkD CT aT, tkD CT bT2]] (some 600) [aT, bT2] := need_two (by decide) (by decide) (by decide) (by decide)
  have n2 : need1 CT [.lst [tkD CT wideT, tkD CT zT]] (some 600) [wideT, zT] := need_two (by decide) (by decide) (by decide) (by decide)
  have mk := fun (t : Tk) (ok : okT t) => ok
  refine hs_ret (pd_and (PD.is (pd_eqI (i := 600) (j := 600) (pd_call (d := .int ((600 : Nat) : Int)) L.AF.round_of (hr.mono (by decide)) (pad_one (pd_lst (ds := [tkD CT aT, tkD CT bT2])
      (pad_cons (pd_frzI (pso_make (fs := tfs aT) L.mkT (hr.mono (by decide)) (pad_cons pd_str (pad_cons pd_int (pad_cons pd_int (pad_cons pd_int (pad_cons pd_int (pad_one pd_int)))))) rfl ⟨rfl, rfl, aT, rfl, ok_a, rfl⟩))
      (pad_one (pd_frzI (pso_make (fs := tfs bT2) L.mkT (hr.mono (by decide)) (pad_cons pd_str (pad_cons pd_int (pad_cons pd_int (pad_cons pd_int (pad_cons pd_int (pad_one pd_int)))))) rfl ⟨rfl, rfl, bT2, rfl, ok_b2, rfl⟩)))) (by show 2 ≤ 100000; decide))) rfl ⟨_, 600, n1, rfl⟩) pd_int) rfl)
    (pd_and1 (PD.is (pd_eqI (i := 600) (j := 600) (pd_call (d := .int ((600 : Nat) : Int)) L.AF.round_of (hr.mono (by decide)) (pad_one (pd_lst (ds := [tkD CT wideT, tkD CT zT])
      (pad_cons (pd_name 28) (pad_one (pd_frzI (pso_make (fs := tfs zT) L.mkT (hr.mono (by decide)) (pad_cons pd_str (pad_cons pd_int (pad_cons pd_int (pad_cons pd_int (pad_cons pd_int (pad_one pd_non)))))) rfl ⟨rfl, rfl, zT, rfl, ok_z, rfl⟩)))) (by show 2 ≤ 100000; decide))) rfl ⟨_, 600, n2, rfl⟩) pd_int) (congrArg D.bl (decide_eq_true rfl))))) k
theorem law_body (L : LawF P w K mg base f c PT CT CB CM CN CF CH CE g fd gd) (hr : Room 8 (xW P w K mg base f c A outer s H E).A) (hgd : (xW P w K mg base f c A outer s H E).A.guards = some []) (hp : PassesOwn (model (xW P w K mg base f c A outer s H E).prog (xW P w K mg base f c A outer s H E).w) (xW P w K mg base f c A outer s H E).A (xW P w K mg base f c A outer s H E).env (xW P w K mg base f c A outer s H E).xe)
    (sc : ScrD K d is) (h63 : is.length ≤ 63) : HSs (xW P w K mg base f c A outer s H E) W false bL (Gen [d] nW) { rt := fun x _ => x = .bl true } := by
  refine hss_then (law_0 L hr sc h63 rfl) ?_
  refine hss_cons (M := fun ρ => InvT d 1 ρ) (law_1 L hr hgd hp (m := 1) rfl ⟨Int.le_refl 0, by show (0 : Int) + _ ≤ _; decide⟩ fun ρ h => h) fun ρ ⟨q1, l, w1, hl, e⟩ => ?_
  subst e
  match l, hl with
  | [o3, o4, o5, o6, o7, o8, o9, o10, o11, o12, o13, o14, o15, o16, o17, o18, o19, o20, o21, o22, o23, o24, o25, o26, o27, o28], _ =>
    refine hss_cons (M := fun ρ => ∃ q is, is ∈ manyL ∧ ρ = rN d q [o3, o4, o5, o6, o7, o8, o9, o10, o11, o12, o13, o14, o15, o16, o17, o18, o19, o20, o21, o22, o23] (some (.d (.lst (is.map D.int)))) o25 o26 o27 o28) (law_2 L hr w1 fun q is h => ⟨q, is, h, rfl⟩) fun ρ ⟨q2, js, hj, e⟩ => ?_
    subst e
    refine hss_then (law_3 L hr hj rfl) ?_
    refine hss_leave (law_4 L hr hj) (fun z => by cases z) fun _ => ?_
    refine hss_then (law_5 L hr rfl) ?_
    exact hss_one (law_6 L hr rfl)
end
end K20

end
section
set_option maxHeartbeats 4000001
/-! DL29: a law is called: its frame's caller is known. -/
namespace DL
open PySem PySem.Spec
open PyProof.Rows L2 LamX
open Evl (Ex)
/-- an empty table of code objects; the script -/
abbrev scrO (vs : List Value) : Obj := { cls := .type "list", data := .seq vs.toArray }
/-- what is tracked when a law begins: its tables, its script (if that is not known in K) -/
def atLaw (K : PySem.W.Frag) (tb : List Addr) (a : Addr) (u : HO) : Hp := fun b => if b ∈ tb then some (.tbl #[]) else if b = a ∧ K.lookup a = none then some u else none
section
variable {P : Program} {w : World} {K : PySem.W.Frag} {tb : List Addr} {a b : Addr} {u x : HO} {h : Heap} {vs : List Value} {is : List Int} {o : Obj}
theorem atLaw_tab (m : b ∈ tb) : atLaw K tb a u b = some (.tbl #[]) := if_pos m
theorem atLaw_scr (m : a ∉ tb) (k : K.lookup a = none) : atLaw K tb a u a = some u := (if_neg m).trans (if_pos ⟨rfl, k⟩)
theorem atLaw_cases (e : atLaw K tb a u b = some x) : (b ∈ tb ∧ x = .tbl #[]) ∨ (b ∉ tb ∧ b = a ∧ K.lookup a = none ∧ x = u) := by
  by_cases m : b ∈ tb
  · exact .inl ⟨m, Option.some.inj ((atLaw_tab m).symm.trans e).symm⟩
  · by_cases m2 : b = a ∧ K.lookup a = none
    · exact .inr ⟨m, m2.1, m2.2, Option.some.inj (((if_neg m).trans (if_pos m2)).symm.trans e).symm⟩
    · exact absurd (((if_neg m).trans (if_neg m2)).symm.trans e) (by simp)
/-- other things are not tracked -/
theorem atLaw_off (hT : ∀ b ∈ tb, h.get? b = some tabO) (ha : h.get? a = some (scrO vs)) (e : h.get? b = some o) (n1 : o.data ≠ (scrO vs).data) (n2 : o.data ≠ tabO.data) : atLaw K tb a u b = none := by
  cases q : atLaw K tb a u b with
  | none => rfl
  | some x =>
    rcases atLaw_cases q with ⟨m, _⟩ | ⟨_, rfl, _, _⟩
    · exact absurd (congrArg Obj.data (Option.some.inj (e.symm.trans (hT b m)))) n2
    · exact absurd (congrArg Obj.data (Option.some.inj (e.symm.trans ha))) n1
theorem dict_off {es : Array DictEntry} {ep : Nat} (d : o.data = .dict es ep) : o.data ≠ (scrO vs).data ∧ o.data ≠ tabO.data := by
  rw [d]
  exact ⟨fun z => (nomatch z), fun z => (nomatch z)⟩
theorem ns_law (hT : ∀ b ∈ tb, h.get? b = some tabO) (ha : h.get? a = some (scrO vs)) {m : Str → Option Value} (N : h.Ns b m) : (hidT h (atLaw K tb a u)).Ns b m := by
  obtain ⟨o, es, ep, e, d, r⟩ := N
  exact ⟨o, es, ep, hidT_get e (atLaw_off hT ha e (dict_off d).1 (dict_off (vs := vs) d).2), d, r⟩
end
/-- a law row's call, from what its body does under its caller -/
theorem law_callG {P : Program} {w : World} {K : PySem.W.Frag} {mg mb : Str → Option Value} {CX : CXT} {fa a : Addr} {cs : List (Addr × Addr)} {s : Shared} {vs : List Value} {is : List Int}
    (KX : K.In s.heap) (NG : s.heap.Ns mainGlobals mg) (NB : s.heap.Ns builtinsNs mb) (hB : ∀ x : Str, x ≠ "__name__" → mb x = bootBuiltins x) (lim : s.heap.NoLimit) (ng : s.gens = #[])
    (tabs : ∀ p ∈ cs, s.heap.get? p.2 = some tabO) (outK : ∀ p ∈ cs, K.lookup p.2 = none) (codes : ∀ p ∈ cs, PySem.W.CodeHd s.heap p.1 p.2)
    (BM : ∃ (bm : Addr) (ob : Obj), mg "__builtins__" = some (.ref bm) ∧ bm ≠ builtinsNs ∧ s.heap.get? bm = some ob ∧ ob.cls = .type "module" ∧ ob.dict = some builtinsNs ∧ ob.data = .plain)
    (ha : s.heap.get? a = some (scrO vs)) (hi : IntsAre vs is) (hl : is.length ≤ sizeLine)
    (run : ∀ base : Heap, K.In base → base.Ns mainGlobals mg → (∀ p ∈ cs, TabB base mg p.1 p.2) → ∀ H : Hp, Env0 P w K mg base callerA [] s H → (∀ p ∈ cs, H p.2 = some (.tbl #[])) → a ∉ cs.map (·.2) →
      ((∃ o, H a = some (.frz o (.lst (is.map V.int)))) ∨ ∀ H', SqL K H' a (is.map V.int)) → codeAny (model P w) callerA (.call (.ref fa) ⟨[.ref a], []⟩) (CR CX [] P w H s (fun v _ => v = .bl true) fun _ _ _ => False) s)
    (noX : ∀ H e s', CX [] H s (fun _ _ _ => False) e s' → False) :
    codeAny (model P w) callerA (.call (.ref fa) ⟨[.ref a], []⟩) (fun r s' => r = .ok (.ret (.bool true)) ∧ OldK s.heap s'.heap ∧ s'.os = s.os ∧ AllBare s'.gens) s := by
  have vals := vals_ints hi
  have len := hi.length
  have hT : ∀ b ∈ cs.map (·.2), s.heap.get? b = some tabO := fun b m => by
    obtain ⟨p, hp, rfl⟩ := List.mem_map.mp m
    exact tabs p hp
  have aT : a ∉ cs.map (·.2) := fun m => by
    have z : Value.type "list" = Value.none := congrArg Obj.cls (Option.some.inj (ha.symm.trans (hT a m)))
    cases z
  obtain ⟨u, hu⟩ : ∃ u : HO, u = .frz (scrO vs) (.lst (is.map V.int)) := ⟨_, rfl⟩
  have off : ∀ {b : Addr} {o : Obj}, s.heap.get? b = some o → o.data ≠ (scrO vs).data → o.data ≠ tabO.data → (hidT s.heap (atLaw K (cs.map (·.2)) a u)).get? b = some o := fun e n1 n2 => hidT_get e (atLaw_off hT ha e n1 n2)
  have hok : HOk P w (atLaw K (cs.map (·.2)) a u) s.heap := fun b x e => by
    rcases atLaw_cases e with ⟨m, rfl⟩ | ⟨_, rfl, _, rfl⟩
    · exact hT b m
    · rw [hu]
      refine ⟨ha, ?_, vs, _, vals, ha⟩
      rw [List.length_map]
      exact hl
  have inB : K.In (hidT s.heap (atLaw K (cs.map (·.2)) a u)) := fun b o e => by
    refine hidT_get (KX b o e) ?_
    cases q : atLaw K (cs.map (·.2)) a u b with
    | none => rfl
    | some x =>
      rcases atLaw_cases q with ⟨m, _⟩ | ⟨_, rfl, k, _⟩
      · obtain ⟨p, hp, rfl⟩ := List.mem_map.mp m
        exact absurd (e.symm.trans (outK p hp)) (by simp)
      · exact absurd (e.symm.trans k) (by simp)
  have ns := fun {b : Addr} {m : Str → Option Value} (N : s.heap.Ns b m) => ns_law (K := K) (u := u) hT ha N
  have tbb : ∀ p ∈ cs, TabB (hidT s.heap (atLaw K (cs.map (·.2)) a u)) mg p.1 p.2 := fun p hp => by
    obtain ⟨o, ws, file, tf, fl, tg, inF, tx, tt, c1, c2, c3, c4, cr⟩ := codes p hp
    obtain ⟨bm, ob, d1, d2, d3, d4, d5, d6⟩ := BM
    have pT : s.heap.get? p.2 = some tabO := tabs p hp
    have ng2 : mainGlobals ≠ p.2 := fun z => by
      obtain ⟨o', es, ep, g1, g2, _⟩ := NG
      exact (dict_off (vs := vs) g2).2 (congrArg Obj.data (Option.some.inj (g1.symm.trans (z ▸ pT))))
    refine ⟨⟨o, ws, file, tf, fl, tg, inF, tx, tt, off c1 ?_ ?_, c2, c3, c4, cr⟩, ⟨bm, ob, d1, d2, ?_, ?_, off d3 ?_ ?_, d4, d5, d6⟩, ng2⟩
    · rw [c3]
      exact fun z => (nomatch z)
    · rw [c3]
      intro z
      have z : ws = #[] := by injection z
      rw [z] at c4
      simp at c4
    · intro z
      obtain ⟨o', es, ep, g1, g2, _⟩ := NG
      have y := congrArg Obj.data (Option.some.inj (g1.symm.trans (z ▸ d3)))
      rw [g2, d6] at y
      cases y
    · intro z
      have y := congrArg Obj.data (Option.some.inj (pT.symm.trans (z ▸ d3)))
      rw [d6] at y
      cases y
    · rw [d6]
      exact fun z => (nomatch z)
    · rw [d6]
      exact fun z => (nomatch z)
  have e0 : Env0 P w K mg (hidT s.heap (atLaw K (cs.map (·.2)) a u)) callerA [] s (atLaw K (cs.map (·.2)) a u) :=
    { frames := rfl, mod := ⟨inB, ns NG, ⟨mb, ns NB, hB⟩, let ⟨c, h1, h2⟩ := lim; ⟨c, ns h1, h2⟩⟩, bs := fun b o e => of_hidT e, bsz := Nat.le_of_eq (hidT_size _ _), funs := trivial, frf := fun b m => absurd (show b ∈ ([] : List Addr) from m) (by simp), hok := hok, bare := .of_eq ng }
  have known : (∃ o, atLaw K (cs.map (·.2)) a u a = some (.frz o (.lst (is.map V.int)))) ∨ ∀ H', SqL K H' a (is.map V.int) := by
    cases k : K.lookup a with
    | none =>
      exact .inl ⟨scrO vs, by rw [atLaw_scr aT k, hu]⟩
    | some o =>
      obtain rfl : o = scrO vs := Option.some.inj ((KX a o k).symm.trans ha)
      exact .inr fun H' => .inr ⟨_, vs.toArray, _, k, rfl, rfl, rfl, by rw [List.size_toArray, len]; exact hl, by simpa using vals⟩
  refine codeAny_mono (run _ inB (ns NG) tbb _ e0 (fun p hp => atLaw_tab (List.mem_map.mpr ⟨p, hp, rfl⟩)) aT known) fun r s' z => ?_
  match r, z with
  | .error e, z => exact (noX _ e s' z).elim
  | .ok .next, z => exact False.elim z
  | .ok .brk, z => exact False.elim z
  | .ok .cont, z => exact False.elim z
  | .ok (.ret y), z =>
    obtain ⟨v, H', os, bare, un, hok', rel, ev⟩ := z
    subst ev
    obtain rfl : y = Value.bool true := rel
    have kept : ∀ b o, s.heap.get? b = some o → b ∉ cs.map (·.2) → s'.heap.get? b = some o := fun b o e m => by
      cases q : atLaw K (cs.map (·.2)) a u b with
      | none => exact un.keep b o e q (fun z => absurd (show b ∈ ([] : List Addr) from z) (by simp)) (by simp)
      | some x =>
        rcases atLaw_cases q with ⟨m', _⟩ | ⟨_, rfl, _, rfl⟩
        · exact absurd m' m
        · have q2 := q.trans (congrArg some hu)
          have o1 : s.heap.get? b = some (scrO vs) := ha
          have o2 := (hok' b _ (un.frzs b _ _ q2)).1
          exact o2.trans (o1.symm.trans e)
    have more : ∀ p ∈ cs, ∃ ws : Array Value, s'.heap.get? p.2 = some { cls := .none, data := .fields ws } := fun p hp => by
      obtain ⟨ws, e⟩ := un.tbls p.2 #[] (atLaw_tab (List.mem_map.mpr ⟨p, hp, rfl⟩))
      exact ⟨_, hok' p.2 _ e⟩
    (refine ⟨rfl, ⟨fun b o e => ?_, fun b o e => ?_⟩, os, bare⟩)
    all_goals by_cases m : b ∈ cs.map (·.2)
    · obtain ⟨p, hp, rfl⟩ := List.mem_map.mp m
      obtain ⟨ws, e2⟩ := more p hp
      obtain rfl : o = tabO := Option.some.inj (e.symm.trans (tabs p hp))
      exact .inr (.inl ⟨((codes p hp).tab (tabs p hp)).isCodeTable, rfl, #[], ws, rfl, e2.trans (by rw [Array.empty_append])⟩)
    · exact .inl (kept b o e m)
    · obtain ⟨p, hp, rfl⟩ := List.mem_map.mp m
      obtain ⟨ws, e2⟩ := more p hp
      exact ⟨_, e2⟩
    · exact ⟨o, kept b o e m⟩
end DL

end
section
set_option maxHeartbeats 4000001
/-! DL30: facts of a part of the heap, as Bools. -/
namespace DL
open PySem PySem.Spec
open PyProof.Rows L2 LamX
section
variable {K : PySem.W.Frag} {C : Addr}
theorem allB_cons {b : Bool} {r : List Bool} (h : allB (b :: r) = true) : b = true ∧ allB r = true := Bool.and_eq_true_iff.mp h
theorem clsIB_ok (c : Cls K C) (h : clsIB K C = true) : ClsI K C := by
  obtain ⟨h1, h⟩ := allB_cons h
  obtain ⟨h2, h⟩ := allB_cons h
  obtain ⟨h3, h⟩ := allB_cons h
  obtain ⟨h4, h⟩ := allB_cons h
  exact ⟨c, of_decide_eq_true h1, of_decide_eq_true h2, of_decide_eq_true h3, of_decide_eq_true h4⟩
theorem errIB_ok (h : errIB K C = true) : L2.ExcC K C ∧ XfC K C := by
  obtain ⟨h1, h⟩ := allB_cons h
  obtain ⟨h2, h⟩ := allB_cons h
  obtain ⟨h3, h⟩ := allB_cons h
  obtain ⟨h4, h⟩ := allB_cons h
  obtain ⟨h5, h⟩ := allB_cons h
  obtain ⟨h6, h⟩ := allB_cons h
  obtain ⟨h7, h⟩ := allB_cons h
  obtain ⟨h8, h⟩ := allB_cons h
  exact ⟨⟨of_decide_eq_true h1, of_decide_eq_true h2, of_decide_eq_true h3, h4, of_decide_eq_true h5, of_decide_eq_true h6, of_decide_eq_true h7, of_decide_eq_true h8⟩, ⟨of_decide_eq_true h1, of_decide_eq_true h2, of_decide_eq_true h3, h4⟩⟩
theorem oexO_ok {o : Option Obj} (h : oexO C o = true) : ∃ nm q N bs bm sn sub ab col dd k0 k1 k2 k3 k5, o = some (excClassObj nm q C N bs bm true sn sub ab col dd k0 k1 k2 k3 k5 "ValueError.__new__") ∧ PySem.HandSPX.refsVE bm = true := by
  unfold oexO at h
  split at h
  · obtain ⟨h1, h⟩ := allB_cons h
    obtain ⟨h2, h⟩ := allB_cons h
    obtain ⟨h3, h⟩ := allB_cons h
    obtain ⟨h4, h⟩ := allB_cons h
    obtain ⟨h5, h⟩ := allB_cons h
    obtain ⟨h6, h⟩ := allB_cons h
    have h1 := of_decide_eq_true h1
    have h2 := of_decide_eq_true h2
    have h3 := of_decide_eq_true h3
    have h5 := (Bool.not_eq_true' _).mp h5
    subst h1 h2 h3 h4 h5
    exact ⟨_, _, _, _, _, _, _, _, _, _, _, _, _, _, _, rfl, h6⟩
  · cases h
theorem oexB_ok (h : oexB K C = true) : OexC K C := by
  obtain ⟨h1, h⟩ := allB_cons h
  obtain ⟨h2, h⟩ := allB_cons h
  obtain ⟨h3, h⟩ := allB_cons h
  obtain ⟨h4, h⟩ := allB_cons h
  obtain ⟨h5, h⟩ := allB_cons h
  exact ⟨oexO_ok h1, of_decide_eq_true h2, of_decide_eq_true h3, of_decide_eq_true h4, h5⟩
theorem isRefB_ok {v : Value} {c : Addr} (h : isRefB v c = true) : v = .ref c := by
  cases v with
  | ref c' => rw [of_decide_eq_true (show decide (c' = c) = true from h)]
  | _ => cases h
theorem isCloB_ok {l : List (Str × Addr)} {b : Addr} {y : Str} (h : isCloB l b = true) (e : l.map (·.1) = [y]) : l = [(y, b)] := by
  match l, h, e with
  | [(x, b')], h, e =>
    rw [of_decide_eq_true (show decide (b' = b) = true from h)]
    have e : [x] = [y] := e
    rw [List.cons.inj e |>.1]
  | [], h, e => cases h
  | _ :: _ :: _, h, e => cases e
theorem supFB_ok {P : Program} {mg : Str → Option Value} {h0 : Heap} {f : Addr} {name q : Str} {params : Arguments} {body : List Stmt} {scope : Scope} (X : K.In h0) (G : h0.Ns mainGlobals mg) (hT : (P.main.scope.names.lookup ("super" : Str)).isSome = false) (h : supFB P.main.file K C f q = true)
    (e : fnC K f = some (name, q, params, FuncBody.stmts body, scope, mainGlobals, [("__class__" : Str)], .none, builtinsNs)) : ∃ (fd : FuncData) (kV doc pm : Value) (an : Option Addr) (ct : Value), fd = PySem.W.fnX name q params body scope [("__class__", (ccOf K f).2)] .none kV doc pm an (.ref (ccOf K f).1) ct ∧ SupC P K mg C f (ccOf K f).1 (ccOf K f).2 name q params body scope fd ∧ PySem.W.typeIn K (.ref f) = some (.type "function") ∧ PySem.W.findIn K (.ref C) "__init__" = some (some (.ref f)) := by
  obtain ⟨h1, h⟩ := allB_cons h
  obtain ⟨h2, h⟩ := allB_cons h
  obtain ⟨h4, h⟩ := allB_cons h
  obtain ⟨h5, h⟩ := allB_cons h
  obtain ⟨h6, h⟩ := allB_cons h
  obtain ⟨h7, h⟩ := allB_cons h
  obtain ⟨h8, h⟩ := allB_cons h
  obtain ⟨h9, h⟩ := allB_cons h
  obtain ⟨h10, h⟩ := allB_cons h
  obtain ⟨h11, h⟩ := allB_cons h
  obtain ⟨h12, h⟩ := allB_cons h
  obtain ⟨h13, h⟩ := allB_cons h
  obtain ⟨h14, h⟩ := allB_cons h
  generalize hcc : ccOf K f = cc at h2 h4 h5 h6 ⊢
  obtain ⟨c, b⟩ := cc
  have fn : ∃ (oc : Value) (od : Option Addr) (kV doc pm : Value) (an : Option Addr) (ct : Value) (osl : Array (Option Value)), K.lookup f = some ⟨oc, od, .func (PySem.W.fnX name q params body scope [("__class__", b)] .none kV doc pm an (.ref c) ct), osl⟩ := by
    unfold fnC at e
    split at e
    · rename_i oc od fd osl ho
      rw [ho] at h2
      (obtain ⟨n1, n2, n3, n4, n5, n6, n7, n8, n9, n10, n11, n12, n13, n14, n15⟩ := fd)
      obtain ⟨a1, a2⟩ := Bool.and_eq_true_iff.mp (show (isRefB n13 c && isCloB n7 b) = true from h2)
      (simp only [Option.some.injEq, Prod.mk.injEq] at e)
      obtain ⟨e1, e2, e3, e4, e5, e6, e7, e9, e8⟩ := e
      subst e1 e2 e3 e4 e5 e6 e8 e9
      have a3 := isCloB_ok a2 e7
      have a4 := isRefB_ok a1
      subst a3 a4
      exact ⟨oc, od, n9, n10, n11, n12, n14, osl, ho⟩
    · cases e
  have code : ∃ (oc : Value) (od : Option Addr) (vs : Array Value) (sl : Array (Option Value)) (file : Str) (tf : Tok), K.lookup c = some ⟨oc, od, .fields vs, sl⟩ ∧ vs[2]? = some (.str file tf) ∧ ((P.main.file : Str) == file) = true := by
    split at h5
    · rename_i oc od vs sl ho
      split at h5
      · rename_i x t hv
        exact ⟨oc, od, vs, sl, x, t, ho, hv, h5⟩
      · cases h5
    · cases h5
  have cell : ∃ (oc : Value) (od : Option Addr) (sl : Array (Option Value)), K.lookup b = some ⟨oc, od, .cell (some (.ref C)), sl⟩ := by
    split at h6
    · rename_i oc od D sl ho
      have h6 := of_decide_eq_true h6
      subst h6
      exact ⟨oc, od, sl, ho⟩
    · cases h6
  obtain ⟨oc, od, kV, doc, pm, an, ct, osl, lk⟩ := fn
  refine ⟨_, kV, doc, pm, an, ct, rfl, ⟨oexB_ok h1, ⟨oc, od, .none, kV, doc, pm, an, ct, osl, rfl, lk⟩, h4, code, cell, of_decide_eq_true h7, of_decide_eq_true h8, of_decide_eq_true h9, ?_, of_decide_eq_true h11, PySem.W.mg_none_of X G (of_decide_eq_true h12), hT⟩, of_decide_eq_true h13, of_decide_eq_true h14⟩
  cases z : PySem.W.clsIn K C with
  | none =>
    rw [z] at h10
    cases h10
  | some cd => exact ⟨cd, rfl⟩
end
end DL

end
section
set_option maxHeartbeats 4000001
/-! K39: the law runs from its caller. -/
namespace K20
open PySem PySem.Spec
open PyProof.Rows L2 DL LamX
open Evl (Ex)
section
variable [Tb]
variable {P : Program} {w : World} {K : PySem.W.Frag} {mg : Str → Option Value} {base : Heap} {f c PT CT CB CM CN CF CH CE g : Addr} {fd gd : FuncData}
theorem law_run (L : LawF P w K mg base f c PT CT CB CM CN CF CH CE g fd gd) {s : Shared} {G H : Hp} {a : Addr} {d : D} {is : List Int} (e0 : Env0 P w K mg base callerA [] s H) (hb : BindsTo s fd ⟨[.ref a], []⟩ (List.zip [("script" : Str)] [Value.ref a])) (tb : TbO G H) (eg : Ex G H) (at_ : At G (.ref a) d) (sc : ScrD K d is) (h63 : is.length ≤ 63) :
    codeAny (model P w) callerA (.call (.ref f) ⟨[.ref a], []⟩) (CR (L2.CX P w) [] P w H s (fun v _ => v = .bl true) fun _ _ _ => False) s := by
  obtain ⟨oc, dV, kV, doc, pm, ct, od, an, osl, e, lk⟩ := L.ft.fn
  subst e
  refine run_ofS (k := 8) (N := nW) (ps := ["script"]) (us := [.ref a]) (vs := [.ref a]) lk L.ft.cd sc_law ⟨rfl, by decide, by decide⟩ e0 hb (.cons rfl .nil) rfl fun hr' => ?_
  have sl := Slots.entry (N := nW) tb (.cons at_ .nil)
  have now : Now none G H G H (L2.start nW [.ref a]) (Gen [d] nW) := by
    refine ⟨⟨Ex.refl G, eg, fun _ _ _ => rfl, fun _ _ h _ _ => h, fun _ h => h⟩, sl, fun x m => ?_, fun _ z => by cases z⟩
    obtain ⟨i, t, q1, q2, _⟩ := m
    match i, q1 with
    | 0, q1 =>
      cases q1
      cases q2
    | i + 1, q1 =>
      have q1 : (List.replicate 28 (none : Option S))[i]? = some (some t) := q1
      have := List.eq_of_mem_replicate (List.mem_of_getElem? q1)
      cases this
  exact ⟨_, law_body (W := fun c d _ H => False) L hr' rfl PassesOwn.leaving sc h63, none, G, H, G, rfl, now, fun _ _ _ _ _ _ z => z.elim, fun v σ' G' H' d' ρ' n' _ at2 z => by
    have z : d' = .bl true := z
    subst z
    cases at2
    rfl, fun _ _ _ _ _ _ z => z.elim, fun _ _ _ _ _ _ z => z.elim, fun _ _ _ _ _ _ _ _ _ _ _ _ _ z => z.elim⟩
end
end K20

end
section
set_option maxHeartbeats 4000001
/-! K41: from the head's facts to all that the law needs (printed by genk41.py). -/
namespace K20
open PySem PySem.Spec
open PyProof.Rows L2 DL LamX
theorem def_of [Tb] {P : Program} {w : World} {K : PySem.W.Frag} {mg : Str → Option Value} {base : Heap} {x : Str} {st : Stmt} {f : Addr} {fd : FuncData} {k : Nat} {ps : List Str} {sp : Sp} (F : FnP K x st f fd) (g : mg x = some (.ref f))
    (b : ∀ (kV doc pm : Value) (an : Option Addr) (cdv ct : Value) (us : List Value), us.length = ps.length → bindArgs (PySem.W.fnOf x x (defArgs st) (defBody st) (defScope st) .none kV doc pm an cdv ct) ⟨us, []⟩ = pure (ps.zip us)) (ok : FnOk P w K mg base (L2.CX P w) k f fd ps sp) : Def P w K mg base x k sp :=
  ⟨f, fd, ps, g, F.kp, F.bindsN b, ok⟩
theorem vals_rev : ∀ {vs : List V} {us : List Value}, Vals vs us → Vals vs.reverse us.reverse
  | [], [], .nil => .nil
  | v :: vs, u :: us, .cons h r => by
    (rw [List.reverse_cons, List.reverse_cons])
    exact (vals_rev r).append (.cons h .nil)
/-- the tables of the three makers, the lambdas -/
@[reducible] def tbK (K : PySem.W.Frag) : Tb := ⟨[(tN K "need_tasks", ("need_tasks" : Str) ++ ".<locals>." ++ "<lambda>"), (tN K "_law_sched_asks", ("_law_sched_asks" : Str) ++ ".<locals>." ++ "<lambda>"), (tN K "law", ("law" : Str) ++ ".<locals>." ++ "<lambda>")], fun i => if i < 16 then askL i else lawL (i - 16)⟩
theorem mem_tf {x : Str} (h : x ∈ ([("need_tasks" : Str), "_law_sched_asks", "law"] : List Str)) : (x, none) ∈ tfL := by
  simp only [List.mem_cons, List.not_mem_nil, or_false] at h
  rcases h with rfl | rfl | rfl
  · exact List.mem_cons_self
  · exact List.mem_cons_of_mem _ List.mem_cons_self
  · exact List.mem_cons_of_mem _ (List.mem_cons_of_mem _ List.mem_cons_self)
theorem ex_parts {K : PySem.W.Frag} (h : exK K = true) : taskB K = true ∧ errB K = true ∧ supFB R.prog.main.file K (cB K) (fB K) "BadValue.__init__" = true ∧ supFB R.prog.main.file K (cM K) (fM K) "TooMany.__init__" = true ∧ tN K "need_tasks" ≠ tN K "_law_sched_asks" ∧ tN K "need_tasks" ≠ tN K "law" ∧ tN K "_law_sched_asks" ≠ tN K "law" := by
  obtain ⟨h1, h⟩ := allB_cons h
  obtain ⟨h2, h⟩ := allB_cons h
  obtain ⟨h3, h⟩ := allB_cons h
  obtain ⟨h4, h⟩ := allB_cons h
  obtain ⟨h5, h⟩ := allB_cons h
  obtain ⟨h6, h⟩ := allB_cons h
  obtain ⟨h7, h⟩ := allB_cons h
  exact ⟨h1, h2, h3, h4, of_decide_eq_true h5, of_decide_eq_true h6, of_decide_eq_true h7⟩
theorem fnT_of {K : PySem.W.Frag} {mg : Str → Option Value} {base : Heap} {x : Str} {st : Stmt} {fd : FuncData} (T : Tb) (eT : T = tbK K) (hx : x ∈ ([("need_tasks" : Str), "_law_sched_asks", "law"] : List Str)) (ne : tN K "need_tasks" ≠ tN K "_law_sched_asks" ∧ tN K "need_tasks" ≠ tN K "law" ∧ tN K "_law_sched_asks" ≠ tN K "law") (F : FnP K x st (He.ga K x) fd) (tb : TabB base mg (He.cT K (x, none)).1 (He.cT K (x, none)).2) :
    FnT K mg base x st (He.ga K x) (He.cT K (x, none)).1 (He.cT K (x, none)).2 fd := by
  obtain ⟨oc, od, dV, kV, doc, pm, an, cdv, ct, osl, e, lk, hcd, _, _⟩ := F.ex
  obtain ⟨c, ec⟩ := He.codeIn_ref hcd
  subst ec
  subst e
  have e2 : (He.cT K (x, none)).1 = c := He.codeOf_eq (p := (x, none)) lk rfl
  refine ⟨⟨oc, dV, kV, doc, pm, ct, od, an, osl, by rw [e2], lk⟩, by rw [e2]; exact hcd, tb, ?_, ?_⟩
  · subst eT
    (simp only [List.mem_cons, List.not_mem_nil, or_false] at hx)
    rcases hx with rfl | rfl | rfl
    · exact List.mem_cons_self
    · exact List.mem_cons_of_mem _ List.mem_cons_self
    · exact List.mem_cons_of_mem _ (List.mem_cons_of_mem _ List.mem_cons_self)
  · subst eT
    intro p hp e
    obtain ⟨n1, n2, n3⟩ := ne
    have hp : p ∈ [(tN K "need_tasks", ("need_tasks" : Str) ++ ".<locals>." ++ "<lambda>"), (tN K "_law_sched_asks", ("_law_sched_asks" : Str) ++ ".<locals>." ++ "<lambda>"), (tN K "law", ("law" : Str) ++ ".<locals>." ++ "<lambda>")] := hp
    simp only [List.mem_cons, List.not_mem_nil, or_false] at hp hx
    rcases hp with rfl | rfl | rfl <;> rcases hx with rfl | rfl | rfl
    · rfl
    · exact absurd e n1
    · exact absurd e n2
    · exact absurd e.symm n1
    · rfl
    · exact absurd e n3
    · exact absurd e.symm n2
    · exact absurd e.symm n3
    · rfl
/-- .. of an error class -/
theorem exc_of [Tb] {P : Program} {w : World} {K : PySem.W.Frag} {mg : Str → Option Value} {base : Heap} {x : Str} {C f : Addr} {fd : FuncData} {xs ps : List Str} {sp : Sp} (T : OexC K C) (g : mg x = some (.ref C)) (h1 : PySem.W.findIn K (.ref C) "__init__" = some (some (.ref f))) (h2 : PySem.W.typeIn K (.ref f) = some (.type "function"))
    (F : FnOk P w K mg base (L2.CX P w) 1 f fd ps sp) (i : ∀ vs H Q E, spI C xs vs H Q E → sp vs H Q E) (b : Binds K fd ps []) : DL.ExcC P w K mg base x C xs := ⟨T, g, f, fd, ps, h1, h2, F.imp i, b⟩
theorem spI_1 {C : Addr} {x : Str} {vs : List V} {H : Hp} {Q : VK} {E : XK} (h : spI C [x] vs H Q E) : spI1 C x vs H Q E := by
  obtain ⟨a, us, e, l, ha, k⟩ := h
  match us, l with
  | [v], _ =>
    refine ⟨a, v, e, ha, fun d hd ne => k d _ hd ne upd_same ((upd_ne ne).trans upd_same) fun b n1 n2 => (upd_ne n1).trans (upd_ne n2)⟩
theorem spI_2 {C : Addr} {x y : Str} {vs : List V} {H : Hp} {Q : VK} {E : XK} (h : spI C [x, y] vs H Q E) : spI2 C x y vs H Q E := by
  obtain ⟨a, us, e, l, ha, k⟩ := h
  match us, l with
  | [v, u], _ =>
    refine ⟨a, v, u, e, ha, fun d hd ne => k d _ hd ne ((upd_ne fun z => ne z.symm).trans upd_same) upd_same fun b n1 n2 => (upd_ne n2).trans ((upd_ne n1).trans (upd_ne n2))⟩
theorem law_facts {w : World} {h0 base : Heap} {K : PySem.W.Frag} {mg : Str → Option Value} (X : K.In h0) (G : h0.Ns mainGlobals mg) (S : SaysK h0 K) (T : Tb) (eT : T = tbK K) (TB : ∀ p ∈ tfL.map (He.cT K), TabB base mg p.1 p.2) :
    ∃ (CN CF CH CE g : Addr) (fd gd : FuncData), LawF R.prog w K mg base (He.ga K "law") (He.cT K ("law", none)).1 (He.cT K ("law", none)).2 (cT K) (cB K) (cM K) CN CF CH CE g fd gd ∧ (∀ (s : Shared) (u : Value), BindsTo s fd ⟨[u], []⟩ (List.zip [("script" : Str)] [u])) := by
  obtain ⟨hT, hE, hB, hM, ne⟩ := ex_parts S.more
  have tb : ∀ x ∈ ([("need_tasks" : Str), "_law_sched_asks", "law"] : List Str), TabB base mg (He.cT K (x, none)).1 (He.cT K (x, none)).2 := fun x m => TB _ (List.mem_map.mpr ⟨_, mem_tf m, rfl⟩)
  obtain ⟨fd_is_integer, F_is_integer⟩ : ∃ fd, FnP K "is_integer" (top 3) (He.ga K "is_integer") fd := S.d.def_ 0 (d := d_is_integer) rfl
  have gl_is_integer := He.glo_ok X G (S.d.fact 0 (f := .glo "is_integer") rfl)
  obtain ⟨fd_is_between, F_is_between⟩ : ∃ fd, FnP K "is_between" (top 4) (He.ga K "is_between") fd := S.d.def_ 1 (d := d_is_between) rfl
  have gl_is_between := He.glo_ok X G (S.d.fact 1 (f := .glo "is_between") rfl)
  obtain ⟨fd_is_name, F_is_name⟩ : ∃ fd, FnP K "is_name" (top 5) (He.ga K "is_name") fd := S.d.def_ 2 (d := d_is_name) rfl
  have gl_is_name := He.glo_ok X G (S.d.fact 2 (f := .glo "is_name") rfl)
  obtain ⟨fd_is_listed, F_is_listed⟩ : ∃ fd, FnP K "is_listed" (top 6) (He.ga K "is_listed") fd := S.d.def_ 3 (d := d_is_listed) rfl
  have gl_is_listed := He.glo_ok X G (S.d.fact 3 (f := .glo "is_listed") rfl)
  obtain ⟨fd_ascends, F_ascends⟩ : ∃ fd, FnP K "ascends" (top 7) (He.ga K "ascends") fd := S.d.def_ 4 (d := d_ascends) rfl
  have gl_ascends := He.glo_ok X G (S.d.fact 4 (f := .glo "ascends") rfl)
  obtain ⟨fd_are_unlike, F_are_unlike⟩ : ∃ fd, FnP K "are_unlike" (top 8) (He.ga K "are_unlike") fd := S.d.def_ 5 (d := d_are_unlike) rfl
  have gl_are_unlike := He.glo_ok X G (S.d.fact 5 (f := .glo "are_unlike") rfl)
  obtain ⟨fd_common_part, F_common_part⟩ : ∃ fd, FnP K "common_part" (top 9) (He.ga K "common_part") fd := S.d.def_ 6 (d := d_common_part) rfl
  have gl_common_part := He.glo_ok X G (S.d.fact 6 (f := .glo "common_part") rfl)
  obtain ⟨fd_round_in, F_round_in⟩ : ∃ fd, FnP K "round_in" (top 25) (He.ga K "round_in") fd := S.d.def_ 7 (d := d_round_in) rfl
  have gl_round_in := He.glo_ok X G (S.d.fact 7 (f := .glo "round_in") rfl)
  obtain ⟨fd_need_tasks, F_need_tasks⟩ : ∃ fd, FnP K "need_tasks" (top 23) (He.ga K "need_tasks") fd := S.d.def_ 8 (d := d_need_tasks) rfl
  have gl_need_tasks := He.glo_ok X G (S.d.fact 8 (f := .glo "need_tasks") rfl)
  obtain ⟨fd_need_order, F_need_order⟩ : ∃ fd, FnP K "need_order" (top 24) (He.ga K "need_order") fd := S.d.def_ 9 (d := d_need_order) rfl
  have gl_need_order := He.glo_ok X G (S.d.fact 9 (f := .glo "need_order") rfl)
  obtain ⟨fd_releases_in, F_releases_in⟩ : ∃ fd, FnP K "releases_in" (top 29) (He.ga K "releases_in") fd := S.d.def_ 10 (d := d_releases_in) rfl
  have gl_releases_in := He.glo_ok X G (S.d.fact 10 (f := .glo "releases_in") rfl)
  obtain ⟨fd_round_of, F_round_of⟩ : ∃ fd, FnP K "round_of" (top 30) (He.ga K "round_of") fd := S.d.def_ 11 (d := d_round_of) rfl
  have gl_round_of := He.glo_ok X G (S.d.fact 11 (f := .glo "round_of") rfl)
  obtain ⟨fd_releases, F_releases⟩ : ∃ fd, FnP K "releases" (top 31) (He.ga K "releases") fd := S.d.def_ 12 (d := d_releases) rfl
  have gl_releases := He.glo_ok X G (S.d.fact 12 (f := .glo "releases") rfl)
  obtain ⟨fd_planned, F_planned⟩ : ∃ fd, FnP K "planned" (top 50) (He.ga K "planned") fd := S.d.def_ 13 (d := d_planned) rfl
  have gl_planned := He.glo_ok X G (S.d.fact 13 (f := .glo "planned") rfl)
  obtain ⟨fd_planned_in, F_planned_in⟩ : ∃ fd, FnP K "planned_in" (top 46) (He.ga K "planned_in") fd := S.d.def_ 14 (d := d_planned_in) rfl
  have gl_planned_in := He.glo_ok X G (S.d.fact 14 (f := .glo "planned_in") rfl)
  obtain ⟨fd_answers, F_answers⟩ : ∃ fd, FnP K "answers" (top 51) (He.ga K "answers") fd := S.d.def_ 15 (d := d_answers) rfl
  have gl_answers := He.glo_ok X G (S.d.fact 15 (f := .glo "answers") rfl)
  obtain ⟨fd_sliced, F_sliced⟩ : ∃ fd, FnP K "sliced" (top 48) (He.ga K "sliced") fd := S.d.def_ 16 (d := d_sliced) rfl
  have gl_sliced := He.glo_ok X G (S.d.fact 16 (f := .glo "sliced") rfl)
  obtain ⟨fd_left_at, F_left_at⟩ : ∃ fd, FnP K "left_at" (top 49) (He.ga K "left_at") fd := S.d.def_ 17 (d := d_left_at) rfl
  have gl_left_at := He.glo_ok X G (S.d.fact 17 (f := .glo "left_at") rfl)
  obtain ⟨fd_ordered, F_ordered⟩ : ∃ fd, FnP K "ordered" (top 69) (He.ga K "ordered") fd := S.d.def_ 18 (d := d_ordered) rfl
  have gl_ordered := He.glo_ok X G (S.d.fact 18 (f := .glo "ordered") rfl)
  obtain ⟨fd_ordered_in, F_ordered_in⟩ : ∃ fd, FnP K "ordered_in" (top 62) (He.ga K "ordered_in") fd := S.d.def_ 19 (d := d_ordered_in) rfl
  have gl_ordered_in := He.glo_ok X G (S.d.fact 19 (f := .glo "ordered_in") rfl)
  obtain ⟨fd_lots, F_lots⟩ : ∃ fd, FnP K "lots" (top 70) (He.ga K "lots") fd := S.d.def_ 20 (d := d_lots) rfl
  have gl_lots := He.glo_ok X G (S.d.fact 20 (f := .glo "lots") rfl)
  obtain ⟨fd_lots_in, F_lots_in⟩ : ∃ fd, FnP K "lots_in" (top 65) (He.ga K "lots_in") fd := S.d.def_ 21 (d := d_lots_in) rfl
  have gl_lots_in := He.glo_ok X G (S.d.fact 21 (f := .glo "lots_in") rfl)
  obtain ⟨fd_parted, F_parted⟩ : ∃ fd, FnP K "parted" (top 71) (He.ga K "parted") fd := S.d.def_ 22 (d := d_parted) rfl
  have gl_parted := He.glo_ok X G (S.d.fact 22 (f := .glo "parted") rfl)
  obtain ⟨fd_least_computers, F_least_computers⟩ : ∃ fd, FnP K "least_computers" (top 72) (He.ga K "least_computers") fd := S.d.def_ 23 (d := d_least_computers) rfl
  have gl_least_computers := He.glo_ok X G (S.d.fact 23 (f := .glo "least_computers") rfl)
  obtain ⟨fd_most_work, F_most_work⟩ : ∃ fd, FnP K "most_work" (top 73) (He.ga K "most_work") fd := S.d.def_ 24 (d := d_most_work) rfl
  have gl_most_work := He.glo_ok X G (S.d.fact 24 (f := .glo "most_work") rfl)
  obtain ⟨fd_shows_plan, F_shows_plan⟩ : ∃ fd, FnP K "shows_plan" (top 91) (He.ga K "shows_plan") fd := S.d.def_ 25 (d := d_shows_plan) rfl
  have gl_shows_plan := He.glo_ok X G (S.d.fact 25 (f := .glo "shows_plan") rfl)
  obtain ⟨fd_shows_ordered, F_shows_ordered⟩ : ∃ fd, FnP K "shows_ordered" (top 92) (He.ga K "shows_ordered") fd := S.d.def_ 26 (d := d_shows_ordered) rfl
  have gl_shows_ordered := He.glo_ok X G (S.d.fact 26 (f := .glo "shows_ordered") rfl)
  obtain ⟨fd_shows_lots, F_shows_lots⟩ : ∃ fd, FnP K "shows_lots" (top 93) (He.ga K "shows_lots") fd := S.d.def_ 27 (d := d_shows_lots) rfl
  have gl_shows_lots := He.glo_ok X G (S.d.fact 27 (f := .glo "shows_lots") rfl)
  obtain ⟨fd_shows_parted, F_shows_parted⟩ : ∃ fd, FnP K "shows_parted" (top 94) (He.ga K "shows_parted") fd := S.d.def_ 28 (d := d_shows_parted) rfl
  have gl_shows_parted := He.glo_ok X G (S.d.fact 28 (f := .glo "shows_parted") rfl)
  obtain ⟨fd_shows_most_work, F_shows_most_work⟩ : ∃ fd, FnP K "shows_most_work" (top 95) (He.ga K "shows_most_work") fd := S.d.def_ 29 (d := d_shows_most_work) rfl
  have gl_shows_most_work := He.glo_ok X G (S.d.fact 29 (f := .glo "shows_most_work") rfl)
  obtain ⟨fd__law_pen, F__law_pen⟩ : ∃ fd, FnP K "_law_pen" (top 97) (He.ga K "_law_pen") fd := S.d.def_ 30 (d := d__law_pen) rfl
  have gl__law_pen := He.glo_ok X G (S.d.fact 30 (f := .glo "_law_pen") rfl)
  obtain ⟨fd__law_draw, F__law_draw⟩ : ∃ fd, FnP K "_law_draw" (top 98) (He.ga K "_law_draw") fd := S.d.def_ 31 (d := d__law_draw) rfl
  have gl__law_draw := He.glo_ok X G (S.d.fact 31 (f := .glo "_law_draw") rfl)
  obtain ⟨fd__law_pick, F__law_pick⟩ : ∃ fd, FnP K "_law_pick" (top 99) (He.ga K "_law_pick") fd := S.d.def_ 32 (d := d__law_pick) rfl
  have gl__law_pick := He.glo_ok X G (S.d.fact 32 (f := .glo "_law_pick") rfl)
  obtain ⟨fd__law_mixed, F__law_mixed⟩ : ∃ fd, FnP K "_law_mixed" (top 100) (He.ga K "_law_mixed") fd := S.d.def_ 33 (d := d__law_mixed) rfl
  have gl__law_mixed := He.glo_ok X G (S.d.fact 33 (f := .glo "_law_mixed") rfl)
  obtain ⟨fd__law_sched_round, F__law_sched_round⟩ : ∃ fd, FnP K "_law_sched_round" (top 101) (He.ga K "_law_sched_round") fd := S.d.def_ 34 (d := d__law_sched_round) rfl
  have gl__law_sched_round := He.glo_ok X G (S.d.fact 34 (f := .glo "_law_sched_round") rfl)
  obtain ⟨fd__law_sched_draw, F__law_sched_draw⟩ : ∃ fd, FnP K "_law_sched_draw" (top 102) (He.ga K "_law_sched_draw") fd := S.d.def_ 35 (d := d__law_sched_draw) rfl
  have gl__law_sched_draw := He.glo_ok X G (S.d.fact 35 (f := .glo "_law_sched_draw") rfl)
  obtain ⟨fd__law_sched_made, F__law_sched_made⟩ : ∃ fd, FnP K "_law_sched_made" (top 103) (He.ga K "_law_sched_made") fd := S.d.def_ 36 (d := d__law_sched_made) rfl
  have gl__law_sched_made := He.glo_ok X G (S.d.fact 36 (f := .glo "_law_sched_made") rfl)
  obtain ⟨fd__law_sched_heard, F__law_sched_heard⟩ : ∃ fd, FnP K "_law_sched_heard" (top 104) (He.ga K "_law_sched_heard") fd := S.d.def_ 37 (d := d__law_sched_heard) rfl
  have gl__law_sched_heard := He.glo_ok X G (S.d.fact 37 (f := .glo "_law_sched_heard") rfl)
  obtain ⟨fd__law_sched_bad, F__law_sched_bad⟩ : ∃ fd, FnP K "_law_sched_bad" (top 105) (He.ga K "_law_sched_bad") fd := S.d.def_ 38 (d := d__law_sched_bad) rfl
  have gl__law_sched_bad := He.glo_ok X G (S.d.fact 38 (f := .glo "_law_sched_bad") rfl)
  obtain ⟨fd__law_sched_asks, F__law_sched_asks⟩ : ∃ fd, FnP K "_law_sched_asks" (top 106) (He.ga K "_law_sched_asks") fd := S.d.def_ 39 (d := d__law_sched_asks) rfl
  have gl__law_sched_asks := He.glo_ok X G (S.d.fact 39 (f := .glo "_law_sched_asks") rfl)
  obtain ⟨fd_law, F_law⟩ : ∃ fd, FnP K "law" (top 107) (He.ga K "law") fd := S.d.def_ 40 (d := d_law) rfl
  have gl_law := He.glo_ok X G (S.d.fact 40 (f := .glo "law") rfl)
  obtain ⟨fd_init, F_init⟩ : ∃ fd, FunD K "__init__" "Task.__init__" (defArgs sInit) (defBody sInit) (defScope sInit) [] [] (He.ma K (cT K) "__init__") fd := S.d.def_ 41 (d := d_init) rfl
  obtain ⟨fd_eq, F_eq⟩ : ∃ fd, FunD K "__eq__" "Task.__eq__" (defArgs sEq) (defBody sEq) (defScope sEq) [] [] (He.ma K (cT K) "__eq__") fd := S.d.def_ 42 (d := d_eq) rfl
  have gl_Task : mg "Task" = some (.ref (He.ga K "Task")) := He.glo_ok X G (S.d.fact 41 (f := .glo "Task") rfl)
  have gl_BadValue : mg "BadValue" = some (.ref (He.ga K "BadValue")) := He.glo_ok X G (S.d.fact 42 (f := .glo "BadValue") rfl)
  have gl_TooMany : mg "TooMany" = some (.ref (He.ga K "TooMany")) := He.glo_ok X G (S.d.fact 43 (f := .glo "TooMany") rfl)
  have gl_NoName : mg "NoName" = some (.ref (He.ga K "NoName")) := He.glo_ok X G (S.d.fact 44 (f := .glo "NoName") rfl)
  have gl_Misfit : mg "Misfit" = some (.ref (He.ga K "Misfit")) := He.glo_ok X G (S.d.fact 45 (f := .glo "Misfit") rfl)
  have gl_Nothing : mg "Nothing" = some (.ref (He.ga K "Nothing")) := He.glo_ok X G (S.d.fact 46 (f := .glo "Nothing") rfl)
  have gl_MomentError : mg "MomentError" = some (.ref (He.ga K "MomentError")) := He.glo_ok X G (S.d.fact 47 (f := .glo "MomentError") rfl)
  have B : Bn mg := ⟨He.free_ok X G (S.d.fact 48 (f := .free "isinstance") rfl), He.free_ok X G (S.d.fact 49 (f := .free "int") rfl), He.free_ok X G (S.d.fact 50 (f := .free "bool") rfl), He.free_ok X G (S.d.fact 51 (f := .free "str") rfl), He.free_ok X G (S.d.fact 52 (f := .free "list") rfl), He.free_ok X G (S.d.fact 53 (f := .free "tuple") rfl), He.free_ok X G (S.d.fact 54 (f := .free "len") rfl), He.free_ok X G (S.d.fact 55 (f := .free "all") rfl), He.free_ok X G (S.d.fact 56 (f := .free "any") rfl), He.free_ok X G (S.d.fact 57 (f := .free "max") rfl), He.free_ok X G (S.d.fact 58 (f := .free "min") rfl), He.free_ok X G (S.d.fact 59 (f := .free "abs") rfl), He.free_ok X G (S.d.fact 60 (f := .free "sorted") rfl), He.free_ok X G (S.d.fact 61 (f := .free "zip") rfl), He.free_ok X G (S.d.fact 62 (f := .free "range") rfl), He.free_ok X G (S.d.fact 63 (f := .free "enumerate") rfl), He.free_ok X G (S.d.fact 64 (f := .free "repr") rfl)⟩
  have C : Cs mg := ⟨He.int_ok X G (S.d.fact 65 (f := .int "MOST_SIGNS" 8) rfl), He.str_ok X G (S.d.fact 66 (f := .str "LETTERS" "abcdefghijklmnopqrstuvwxyz") rfl), He.int_ok X G (S.d.fact 67 (f := .int "MOST_TASKS" 5) rfl), He.int_ok X G (S.d.fact 68 (f := .int "MOST_ROUND" 600) rfl), He.int_ok X G (S.d.fact 69 (f := .int "MOST_WORK" 100000000) rfl), He.int_ok X G (S.d.fact 70 (f := .int "MOST_MOMENT" 1000000) rfl)⟩
  have cl : Cls K (cT K) := He.cls_ok (S.d.fact 71 (f := .cls "Task") rfl)
  obtain ⟨t1, hT⟩ := allB_cons hT
  obtain ⟨t2, hT⟩ := allB_cons hT
  obtain ⟨t3, hT⟩ := allB_cons hT
  obtain ⟨t4, hT⟩ := allB_cons hT
  obtain ⟨t5, hT⟩ := allB_cons hT
  obtain ⟨t6, hT⟩ := allB_cons hT
  obtain ⟨t7, hT⟩ := allB_cons hT
  obtain ⟨t8, hT⟩ := allB_cons hT
  obtain ⟨t9, hT⟩ := allB_cons hT
  obtain ⟨t10, hT⟩ := allB_cons hT
  obtain ⟨t11, hT⟩ := allB_cons hT
  obtain ⟨t12, hT⟩ := allB_cons hT
  have kb : ∀ {v u : Value} {b : Bool}, kitB K v u b = true → PySem.W.kitOne K v u = some b := fun h => of_decide_eq_true h
  have TC : TaskC K (cT K) := ⟨⟨clsIB_ok cl t1, kb t2, kb t3, kb t4, kb t5, kb t6⟩, cl, He.noat_ok (S.d.fact 72 (f := .noat "Task" "name") rfl), He.noat_ok (S.d.fact 73 (f := .noat "Task" "period") rfl), He.noat_ok (S.d.fact 74 (f := .noat "Task" "offset") rfl), He.noat_ok (S.d.fact 75 (f := .noat "Task" "due") rfl), He.noat_ok (S.d.fact 76 (f := .noat "Task" "least") rfl), He.noat_ok (S.d.fact 77 (f := .noat "Task" "most") rfl)⟩
  have TK : TaskK K mg (cT K) := { toTaskC := TC, gl := gl_Task, none := kb t7, tup := kb t8 }
  have mE : Meth K (cT K) "__eq__" (He.ma K (cT K) "__eq__") := He.meth_ok (S.d.fact 78 (f := .meth "Task" "__eq__") rfl)
  have mk : Mk K (cT K) (He.ma K (cT K) "__init__") := He.mkr_ok (S.d.fact 79 (f := .mkr "Task") rfl)
  obtain ⟨e1, hE⟩ := allB_cons hE
  obtain ⟨e2, hE⟩ := allB_cons hE
  obtain ⟨e3, hE⟩ := allB_cons hE
  obtain ⟨e4, hE⟩ := allB_cons hE
  obtain ⟨e5, hE⟩ := allB_cons hE
  obtain ⟨e6, hE⟩ := allB_cons hE
  obtain ⟨e7, hE⟩ := allB_cons hE
  obtain ⟨e8, hE⟩ := allB_cons hE
  obtain ⟨e9, hE⟩ := allB_cons hE
  obtain ⟨e10, hE⟩ := allB_cons hE
  obtain ⟨e11, hE⟩ := allB_cons hE
  obtain ⟨e12, hE⟩ := allB_cons hE
  obtain ⟨e13, hE⟩ := allB_cons hE
  obtain ⟨eB, xB⟩ := errIB_ok e1
  obtain ⟨eM, xM⟩ := errIB_ok e2
  have pB := of_decide_eq_true e3
  have wM := of_decide_eq_true e4
  have mM := of_decide_eq_true e5
  have ER : Errs K mg (cB K) (cM K) (He.ga K "NoName") (He.ga K "Misfit") (He.ga K "Nothing") (He.ga K "MomentError") := ⟨gl_BadValue, gl_TooMany, gl_NoName, gl_Misfit, gl_Nothing, gl_MomentError, xB, xM, eB, eM, pB, wM, mM, kb e6, kb e7, kb e8, kb e9, kb e10, kb e11, of_decide_eq_true e12, of_decide_eq_true e13⟩
  have RB : DL.ExcC R.prog w K mg base "BadValue" (cB K) ["part"] := by
    obtain ⟨fd, kV, doc, pm, an, ct, efd, M, ty, fi⟩ := supFB_ok (P := R.prog) X G (by decide +kernel) hB S.b
    refine exc_of M.T gl_BadValue fi ty (ok_BadValue M pB) (fun _ _ _ _ h => spI_1 h) ?_
    subst efd
    exact .all fun us hl => match us, hl with
      | [_, _], _ => rfl
  have RM : DL.ExcC R.prog w K mg base "TooMany" (cM K) ["what", "most"] := by
    obtain ⟨fd, kV, doc, pm, an, ct, efd, M, ty, fi⟩ := supFB_ok (P := R.prog) X G (by decide +kernel) hM S.m
    refine exc_of M.T gl_TooMany fi ty (ok_TooMany M wM mM) (fun _ _ _ _ h => spI_2 h) ?_
    subst efd
    exact .all fun us hl => match us, hl with
      | [_, _, _], _ => rfl
  have D_is_integer : Def R.prog w K mg base "is_integer" 1 (spD 1 (fun ds r => f_is_integer ds K r) NoX) := def_of (ps := ["value"]) F_is_integer gl_is_integer (fun _ _ _ _ _ _ us hl => match us, hl with | [_], _ => rfl) (ok_is_integer F_is_integer B)
  have D_is_between : Def R.prog w K mg base "is_between" 2 (spD 3 (fun ds r => f_is_between ds K r) NoX) := def_of (ps := ["value", "least", "most"]) F_is_between gl_is_between (fun _ _ _ _ _ _ us hl => match us, hl with | [_, _, _], _ => rfl) (ok_is_between F_is_between D_is_integer)
  have D_is_name : Def R.prog w K mg base "is_name" 1 (spD 1 (fun ds r => f_is_name ds K r) NoX) := def_of (ps := ["value"]) F_is_name gl_is_name (fun _ _ _ _ _ _ us hl => match us, hl with | [_], _ => rfl) (ok_is_name F_is_name B C)
  have D_is_listed : Def R.prog w K mg base "is_listed" 1 (spD 1 (fun ds r => f_is_listed ds K r) NoX) := def_of (ps := ["value"]) F_is_listed gl_is_listed (fun _ _ _ _ _ _ us hl => match us, hl with | [_], _ => rfl) (ok_is_listed F_is_listed B)
  have D_ascends : Def R.prog w K mg base "ascends" 1 (spD 1 (fun ds r => f_ascends ds r) NoX) := def_of (ps := ["some"]) F_ascends gl_ascends (fun _ _ _ _ _ _ us hl => match us, hl with | [_], _ => rfl) (ok_ascends F_ascends B)
  have D_are_unlike : Def R.prog w K mg base "are_unlike" 2 (spD 1 (fun ds r => f_are_unlike ds r) NoX) := def_of (ps := ["some"]) F_are_unlike gl_are_unlike (fun _ _ _ _ _ _ us hl => match us, hl with | [_], _ => rfl) (ok_are_unlike F_are_unlike B D_ascends)
  have D_common_part : Def R.prog w K mg base "common_part" 1 (spD 2 (fun ds r => f_common_part ds r) NoX) := def_of (ps := ["one", "other"]) F_common_part gl_common_part (fun _ _ _ _ _ _ us hl => match us, hl with | [_, _], _ => rfl) (ok_common_part F_common_part B)
  have D_round_in : Def R.prog w K mg base "round_in" 3 (spD 1 (fun ds r => ∃ n, g_round_in (cT K) ds (some n) ∧ r = .int n) (fun ds cls fs => g_round_in (cT K) ds none ∧ cls = .ref (cM K) ∧ fs = exM)) := def_of (ps := ["tasks"]) F_round_in gl_round_in (fun _ _ _ _ _ _ us hl => match us, hl with | [_], _ => rfl) (ok_round_in F_round_in B C TC D_common_part RM)
  have T_need := fnT_of (mg := mg) (base := base) T eT (by decide) ne F_need_tasks (tb "need_tasks" (by decide))
  have T_asks := fnT_of (mg := mg) (base := base) T eT (by decide) ne F__law_sched_asks (tb "_law_sched_asks" (by decide))
  have T_law := fnT_of (mg := mg) (base := base) T eT (by decide) ne F_law (tb "law" (by decide))
  have D_need_tasks : Def R.prog w K mg base "need_tasks" 4 (spD 1 (g_need (cT K)) (x_need K (cT K) (cB K) (cM K))) := def_of (ps := ["tasks"]) F_need_tasks gl_need_tasks (fun _ _ _ _ _ _ us hl => match us, hl with | [_], _ => rfl) (ok_need_tasks T_need B C TK D_is_listed D_are_unlike D_round_in RB)
  have D_need_order : Def R.prog w K mg base "need_order" 3 (spD 2 (fun _ _ => False) (x_order K (cT K) (cB K))) := def_of (ps := ["tasks", "order"]) F_need_order gl_need_order (fun _ _ _ _ _ _ us hl => match us, hl with | [_, _], _ => rfl) (ok_need_order F_need_order B TK D_is_listed D_is_name RB)
  have D_releases_in : Def R.prog w K mg base "releases_in" 1 (spD 2 (fun ds r => g_releases_in (cT K) ds r) NoX) := def_of (ps := ["tasks", "until"]) F_releases_in gl_releases_in (fun _ _ _ _ _ _ us hl => match us, hl with | [_, _], _ => rfl) (ok_releases_in F_releases_in B TC)
  have D_round_of : Def R.prog w K mg base "round_of" 5 (spD 1 (fun ds r => ∃ ts n, need1 (cT K) ds (some n) ts ∧ r = .int n) (x_need K (cT K) (cB K) (cM K))) := def_of (ps := ["tasks"]) F_round_of gl_round_of (fun _ _ _ _ _ _ us hl => match us, hl with | [_], _ => rfl) (ok_round_of F_round_of D_need_tasks D_round_in)
  have D_releases : Def R.prog w K mg base "releases" 5 (spD 2 (g_releases (cT K)) (x_releases K (cT K) (cB K) (cM K))) := def_of (ps := ["tasks", "until"]) F_releases gl_releases (fun _ _ _ _ _ _ us hl => match us, hl with | [_, _], _ => rfl) (ok_releases F_releases B C D_need_tasks D_is_between D_releases_in RB)
  have no : ∀ {vs : List V} {H : Hp} {Q : VK} {E : XK}, ¬ spD 0 (fun _ _ => False) (fun _ _ _ => False) vs H Q E := fun ⟨_, _, _, _, _, _, h⟩ => h.elim (fun ⟨_, z, _⟩ => z) fun ⟨_, _, z, _⟩ => z
  have non : ∀ {f : Addr} {fd : FuncData} {ps : List Str}, FnOk R.prog w K mg base (L2.CX R.prog w) 1 f fd ps (spD 0 (fun _ _ => False) fun _ _ _ => False) := ⟨fun vs H Q E h => (no h).elim, fun A outer s H args us vs Q E _ _ _ _ h => (no h).elim⟩
  have D_planned_in : Def R.prog w K mg base "planned_in" 1 (spD 0 (fun _ _ => False) fun _ _ _ => False) := def_of (ps := ["tasks", "order"]) F_planned_in gl_planned_in (fun _ _ _ _ _ _ us hl => match us, hl with | [_, _], _ => rfl) (non)
  have D_ordered_in : Def R.prog w K mg base "ordered_in" 1 (spD 0 (fun _ _ => False) fun _ _ _ => False) := def_of (ps := ["tasks"]) F_ordered_in gl_ordered_in (fun _ _ _ _ _ _ us hl => match us, hl with | [_], _ => rfl) (non)
  have D_lots_in : Def R.prog w K mg base "lots_in" 1 (spD 0 (fun _ _ => False) fun _ _ _ => False) := def_of (ps := ["tasks"]) F_lots_in gl_lots_in (fun _ _ _ _ _ _ us hl => match us, hl with | [_], _ => rfl) (non)
  have D_planned : Def R.prog w K mg base "planned" 5 (spN 2 (x_asko K (cT K) (cB K) (cM K))) := def_of (ps := ["tasks", "order"]) F_planned gl_planned (fun _ _ _ _ _ _ us hl => match us, hl with | [_, _], _ => rfl) (ok_planned F_planned D_need_tasks D_need_order (by decide) D_planned_in)
  have D_answers : Def R.prog w K mg base "answers" 5 (spN 2 (x_asko K (cT K) (cB K) (cM K))) := def_of (ps := ["tasks", "order"]) F_answers gl_answers (fun _ _ _ _ _ _ us hl => match us, hl with | [_, _], _ => rfl) (ok_answers F_answers D_need_tasks D_need_order)
  have D_sliced : Def R.prog w K mg base "sliced" 5 (spN 4 (x_asko K (cT K) (cB K) (cM K))) := def_of (ps := ["tasks", "order", "works", "until"]) F_sliced gl_sliced (fun _ _ _ _ _ _ us hl => match us, hl with | [_, _, _, _], _ => rfl) (ok_sliced F_sliced D_need_tasks D_need_order)
  have D_left_at : Def R.prog w K mg base "left_at" 5 (spN 3 (x_asko K (cT K) (cB K) (cM K))) := def_of (ps := ["tasks", "order", "moment"]) F_left_at gl_left_at (fun _ _ _ _ _ _ us hl => match us, hl with | [_, _, _], _ => rfl) (ok_left_at F_left_at D_need_tasks D_need_order)
  have D_ordered : Def R.prog w K mg base "ordered" 5 (spN 1 (x_ask K (cT K) (cB K) (cM K))) := def_of (ps := ["tasks"]) F_ordered gl_ordered (fun _ _ _ _ _ _ us hl => match us, hl with | [_], _ => rfl) (ok_ordered F_ordered D_need_tasks (by decide) D_ordered_in)
  have D_lots : Def R.prog w K mg base "lots" 5 (spN 1 (x_ask K (cT K) (cB K) (cM K))) := def_of (ps := ["tasks"]) F_lots gl_lots (fun _ _ _ _ _ _ us hl => match us, hl with | [_], _ => rfl) (ok_lots F_lots D_need_tasks (by decide) D_lots_in)
  have D_parted : Def R.prog w K mg base "parted" 5 (spN 2 (x_ask K (cT K) (cB K) (cM K))) := def_of (ps := ["tasks", "number"]) F_parted gl_parted (fun _ _ _ _ _ _ us hl => match us, hl with | [_, _], _ => rfl) (ok_parted F_parted D_need_tasks)
  have D_least_computers : Def R.prog w K mg base "least_computers" 5 (spN 1 (x_ask K (cT K) (cB K) (cM K))) := def_of (ps := ["tasks"]) F_least_computers gl_least_computers (fun _ _ _ _ _ _ us hl => match us, hl with | [_], _ => rfl) (ok_least_computers F_least_computers D_need_tasks)
  have D_most_work : Def R.prog w K mg base "most_work" 5 (spN 2 (x_ask K (cT K) (cB K) (cM K))) := def_of (ps := ["tasks", "name"]) F_most_work gl_most_work (fun _ _ _ _ _ _ us hl => match us, hl with | [_, _], _ => rfl) (ok_most_work F_most_work D_need_tasks)
  have D_shows_plan : Def R.prog w K mg base "shows_plan" 5 (spN 3 (x_asko K (cT K) (cB K) (cM K))) := def_of (ps := ["tasks", "order", "value"]) F_shows_plan gl_shows_plan (fun _ _ _ _ _ _ us hl => match us, hl with | [_, _, _], _ => rfl) (ok_shows_plan F_shows_plan D_need_tasks D_need_order)
  have D_shows_ordered : Def R.prog w K mg base "shows_ordered" 5 (spN 2 (x_ask K (cT K) (cB K) (cM K))) := def_of (ps := ["tasks", "value"]) F_shows_ordered gl_shows_ordered (fun _ _ _ _ _ _ us hl => match us, hl with | [_, _], _ => rfl) (ok_shows_ordered F_shows_ordered D_need_tasks)
  have D_shows_lots : Def R.prog w K mg base "shows_lots" 5 (spN 2 (x_ask K (cT K) (cB K) (cM K))) := def_of (ps := ["tasks", "value"]) F_shows_lots gl_shows_lots (fun _ _ _ _ _ _ us hl => match us, hl with | [_, _], _ => rfl) (ok_shows_lots F_shows_lots D_need_tasks)
  have D_shows_parted : Def R.prog w K mg base "shows_parted" 5 (spN 3 (x_ask K (cT K) (cB K) (cM K))) := def_of (ps := ["tasks", "number", "value"]) F_shows_parted gl_shows_parted (fun _ _ _ _ _ _ us hl => match us, hl with | [_, _, _], _ => rfl) (ok_shows_parted F_shows_parted D_need_tasks)
  have D_shows_most_work : Def R.prog w K mg base "shows_most_work" 5 (spN 3 (x_ask K (cT K) (cB K) (cM K))) := def_of (ps := ["tasks", "name", "value"]) F_shows_most_work gl_shows_most_work (fun _ _ _ _ _ _ us hl => match us, hl with | [_, _, _], _ => rfl) (ok_shows_most_work F_shows_most_work D_need_tasks)
  have D__law_draw : Def R.prog w K mg base "_law_draw" 1 (spO 1 fnDraw) := def_of (ps := ["pen", "many"]) F__law_draw gl__law_draw (fun _ _ _ _ _ _ us hl => match us, hl with | [_, _], _ => rfl) ((ok_draw F__law_draw B).imp fun _ _ _ _ h => spO_of h)
  have D__law_pick : Def R.prog w K mg base "_law_pick" 2 (spO 1 fnPick) := def_of (ps := ["pen", "some"]) F__law_pick gl__law_pick (fun _ _ _ _ _ _ us hl => match us, hl with | [_, _], _ => rfl) ((ok_pick F__law_pick B D__law_draw).imp fun _ _ _ _ h => spO_of h)
  have D__law_mixed : Def R.prog w K mg base "_law_mixed" 2 (spO 1 fnMixed) := def_of (ps := ["pen", "some"]) F__law_mixed gl__law_mixed (fun _ _ _ _ _ _ us hl => match us, hl with | [_, _], _ => rfl) ((ok_mixed F__law_mixed B D__law_draw).imp fun _ _ _ _ h => spO_of h)
  have D__law_sched_draw : Def R.prog w K mg base "_law_sched_draw" 3 (spO 1 fnSched) := def_of (ps := ["pen", "many"]) F__law_sched_draw gl__law_sched_draw (fun _ _ _ _ _ _ us hl => match us, hl with | [_, _], _ => rfl) ((ok_sdraw F__law_sched_draw B D__law_draw D__law_pick D__law_mixed).imp fun _ _ _ _ h => spO_of h)
  have D__law_sched_bad : Def R.prog w K mg base "_law_sched_bad" 3 (spO 2 fnBad) := def_of (ps := ["pen", "task", "spot"]) F__law_sched_bad gl__law_sched_bad (fun _ _ _ _ _ _ us hl => match us, hl with | [_, _, _], _ => rfl) ((ok_bad F__law_sched_bad D__law_pick).imp fun _ _ _ _ h => spO_of h)
  have okI := ok_init (P := R.prog) (w := w) (base := base) F_init C TC D_is_name D_is_between RB
  have MK : MkC R.prog w K mg base "Task" (cT K) 3 6 (fnT (cT K)) (fxT K (cT K) (cB K)) := ⟨gl_Task, _, _, _, mk, okI, F_init.bindsN fun _ _ _ _ _ _ us hl => match us, hl with | [_, _, _, _, _, _, _], _ => rfl⟩
  have rel : ∀ {vs : List V} {us : List Value} {zs : List V} {ws : List Value}, Vals vs us → Vals zs ws → Vals (vs ++ zs.reverse) (us ++ ws.reverse) := fun r1 r2 => r1.append (vals_rev r2)
  have D__law_sched_made : Def R.prog w K mg base "_law_sched_made" 5 (spD 1 (g_made (cT K)) NoX) := def_of (ps := ["tasks"]) F__law_sched_made gl__law_sched_made (fun _ _ _ _ _ _ us hl => match us, hl with | [_], _ => rfl) (ok_made F__law_sched_made MK)
  have D__law_sched_round : Def R.prog w K mg base "_law_sched_round" 1 (spD 1 g_round NoX) := def_of (ps := ["tasks"]) F__law_sched_round gl__law_sched_round (fun _ _ _ _ _ _ us hl => match us, hl with | [_], _ => rfl) (ok_round F__law_sched_round B)
  have D__law_pen : Def R.prog w K mg base "_law_pen" 1 (spW 1 (fnPen K)) := def_of (ps := ["script"]) F__law_pen gl__law_pen (fun _ _ _ _ _ _ us hl => match us, hl with | [_], _ => rfl) (ok_pen F__law_pen B)
  have hA : ∀ i < 16, Tb.lam i = askL i := by subst eT; exact fun i h => if_pos h
  have hW : ∀ j < 7, Tb.lam (16 + j) = lawL j := by subst eT; exact fun j h => (if_neg (by omega)).trans (congrArg lawL (Nat.add_sub_cancel_left 16 j))
  have D__law_sched_asks : Def R.prog w K mg base "_law_sched_asks" 2 (spD 2 g_asks NoX) := def_of (ps := ["odd", "order"]) F__law_sched_asks gl__law_sched_asks (fun _ _ _ _ _ _ us hl => match us, hl with | [_, _], _ => rfl) (ok_asks T_asks hA)
  have AF : AskF R.prog w K mg base (cT K) (cB K) (cM K) := ⟨D_round_of, D_releases, D_planned, D_answers, D_sliced, D_left_at, D_ordered, D_lots, D_parted, D_least_computers, D_most_work, D_shows_plan, D_shows_ordered, D_shows_lots, D_shows_parted, D_shows_most_work⟩
  have EQ : EqC R.prog w K mg base (cT K) 1 (f_eqT (cT K)) := ⟨of_decide_eq_true t9, of_decide_eq_true t10, _, _, _, mE.1, mE.2, ok_eq F_eq B TK, F_eq.bindsN fun _ _ _ _ _ _ us hl => match us, hl with | [_, _], _ => rfl⟩
  have KR : DefK R.prog w K mg base "round_of" 5 ["tasks"] (spD 1 (fun ds r => ∃ ts n, need1 (cT K) ds (some n) ts ∧ r = .int n) (x_need K (cT K) (cB K) (cM K))) := by
    obtain ⟨oc, od, dV, kV, doc, pm, an, cdv, ct, osl, e, lk, hcd, hD, hK⟩ := F_round_of.ex
    have e0 : dV = .none := hD.elim (fun z => z.2) fun z => absurd rfl z.1
    subst e0 e
    exact ⟨_, _, _, _, gl_round_of, F_round_of.kp, ⟨fun s us ws _ l1 l2 => .of_eq (match us, ws, l1, l2 with | [], [_], _, _ => rfl), rel⟩, ok_round_of F_round_of D_need_tasks D_round_in⟩
  have KL : DefK R.prog w K mg base "releases" 5 ["until", "tasks"] (spD 2 (g_releases (cT K)) (x_releases K (cT K) (cB K) (cM K))) := by
    obtain ⟨oc, od, dV, kV, doc, pm, an, cdv, ct, osl, e, lk, hcd, hD, hK⟩ := F_releases.ex
    have e0 : dV = .none := hD.elim (fun z => z.2) fun z => absurd rfl z.1
    subst e0 e
    exact ⟨_, _, _, _, gl_releases, F_releases.kp, ⟨fun s us ws _ l1 l2 => .of_eq (match us, ws, l1, l2 with | [], [_, _], _, _ => rfl), rel⟩, ok_releases F_releases B C D_need_tasks D_is_between D_releases_in RB⟩
  have MR : ∃ (f : Addr) (fd : FuncData) (ps : List Str) (g : List Value → List Value → List Value), Mk K (cT K) f ∧ FnOk R.prog w K mg base (L2.CX R.prog w) 3 f fd ps (spOX 6 (fnT (cT K)) (fxT K (cT K) (cB K))) ∧ KBn K fd ps 1 ["most", "least", "due", "offset", "period", "name"] g fun vs zs => vs ++ zs.reverse := by
    obtain ⟨oc, od, dV, kV, doc, pm, an, cdv, ct, osl, e, lk, hcd, hD, hK⟩ := F_init.ex
    have e0 : dV = .none := hD.elim (fun z => z.2) fun z => absurd rfl z.1
    subst e0 e
    exact ⟨_, _, _, _, mk, okI, ⟨fun s us ws _ l1 l2 => .of_eq (match us, ws, l1, l2 with | [_], [_, _, _, _, _, _], _, _ => rfl), rel⟩⟩
  exact ⟨_, _, _, _, _, fd_law, fd__law_sched_heard, ⟨T_law, hA, hW, B, TK, MK, MR, EQ, t11, t12, ⟨F__law_sched_heard, gl__law_sched_heard, ER⟩, AF, D__law_draw, D__law_pick, D__law_mixed, D__law_sched_draw, D__law_sched_made, D__law_sched_round, D__law_sched_bad, D__law_pen, KR, KL, D__law_sched_asks⟩, fun s u => F_law.bindsA (ps := ["script"]) (fun _ _ _ _ _ _ us hl => match us, hl with | [_], _ => rfl) s [u] rfl⟩
end K20

end
section
set_option maxHeartbeats 0
/-! K42: the end. -/
namespace K20
open PySem PySem.Spec
open PyProof.Rows L2 DL LamX
open Evl (Ex)
theorem law_end {w : World} {h0 : Heap} {K : PySem.W.Frag} {mg : Str → Option Value} (X : K.In h0) (NG : h0.Ns mainGlobals mg) (S : SaysK h0 K) {base : Heap} (TB : ∀ p ∈ tfL.map (He.cT K), TabB base mg p.1 p.2) {s : Shared} {H : Hp} {a : Addr} {is : List Int} (e0 : Env0 R.prog w K mg base callerA [] s H) (hT : ∀ p ∈ tfL.map (He.cT K), H p.2 = some (.tbl #[])) (aT : a ∉ (tfL.map (He.cT K)).map (·.2))
    (known : (∃ o, H a = some (.frz o (.lst (is.map V.int)))) ∨ ∀ H', SqL K H' a (is.map V.int)) (h63 : is.length ≤ 63) :
    codeAny (model R.prog w) callerA (.call (.ref (He.ga K "law")) ⟨[.ref a], []⟩) (CR (L2.CX R.prog w) [] R.prog w H s (fun v _ => v = .bl true) fun _ _ _ => False) s := by
  letI T : Tb := tbK K
  obtain ⟨CN, CF, CH, CE, g, fd, gd, L, hb⟩ := law_facts (w := w) X NG S T rfl TB
  have mT : ∀ p ∈ Tb.T, H p.1 = some (.tbl #[]) ∧ p.1 ≠ a := fun p hp => by
    have hp : p ∈ [(tN K "need_tasks", ("need_tasks" : Str) ++ ".<locals>." ++ "<lambda>"), (tN K "_law_sched_asks", ("_law_sched_asks" : Str) ++ ".<locals>." ++ "<lambda>"), (tN K "law", ("law" : Str) ++ ".<locals>." ++ "<lambda>")] := hp
    have key : ∀ x ∈ ([("need_tasks" : Str), "_law_sched_asks", "law"] : List Str), H (tN K x) = some (.tbl #[]) ∧ tN K x ≠ a := fun x hx => by
      have m : He.cT K (x, none) ∈ tfL.map (He.cT K) := List.mem_map.mpr ⟨_, mem_tf hx, rfl⟩
      exact ⟨hT _ m, fun z => aT (List.mem_map.mpr ⟨_, m, z⟩)⟩
    simp only [List.mem_cons, List.not_mem_nil, or_false] at hp
    rcases hp with rfl | rfl | rfl
    · exact key _ (by decide)
    · exact key _ (by decide)
    · exact key _ (by decide)
  have tb : ∀ G : Hp, (∀ b, b ≠ a → G b = none) → TbO G H := fun G hG => ⟨fun p hp => ⟨#[], (mT p hp).1, trivial, fun pos cv z => (by cases z)⟩, fun p hp => hG _ (mT p hp).2⟩
  rcases known with ⟨o, ho⟩ | hk
  · refine law_run L (G := fun b => if b = a then H a else none) (d := .scr is) e0 (hb s (.ref a)) (tb _ fun b n => if_neg n) (fun b u e => ?_) (.scr (o := o) ((if_pos rfl).trans ho)) (.scr is) h63
    by_cases n : b = a
    · have e := (if_pos n).symm.trans e
      rw [n]
      exact e
    · have e := (if_neg n).symm.trans e
      cases e
  · exact law_run L (G := fun _ => none) (d := .rf a) e0 (hb s (.ref a)) (tb _ fun _ _ => rfl) (fun b u e => by cases e) (.rf a) (.rf hk) h63
end K20

end
section
set_option maxHeartbeats 0
/-! K43: the walk's end. -/
namespace K20
open PySem PySem.W
open PySem.Calls
open PyProof.Rows
abbrev LW : OpenLaw := PySem.Challenge.rw_toldmoments_k20_tasks_made_and_refused
theorem name_law : (HandSHeadRun.topDef R.prog 107).name = ("law" : PySem.Str) := by kernel_rfl
theorem walk_end : WalkO (view R.prog [107]) loose (XL (view R.prog [107]) []) hk.says LW.row.toRowW (HandSHeadRun.topDef R.prog 107) [] (fun f vs => PySem.call f vs) := by
  refine Att.attach_callB (l := LW) (n := 63) rfl (by kernel_rfl) fun w s₀ s₁ mg mb fa o pm cd doc a vs ns Gd Y ho hd hcd hmg0 hobj hints hlen hbits hg => ?_
  obtain ⟨K, KX, S⟩ := Y
  have hmg : mg ("law" : PySem.Str) = some (.ref fa) := by
    rw [← name_law]
    exact hmg0
  have gl : mg ("law" : PySem.Str) = some (.ref (He.ga K "law")) := He.glo_ok KX Gd.T.g (S.d.fact 40 (f := .glo "law") rfl)
  obtain rfl : He.ga K "law" = fa := by
    have z := gl.symm.trans hmg
    injection z with z
    injection z
  refine DL.law_callG (K := K) (CX := L2.CX K20.R.prog w) (cs := K20.tfL.map (He.cT K)) KX Gd.T.g Gd.T.b Gd.T.builtins Gd.T.nolimit hg (fun p hp => ?_) (fun p hp => ?_) (fun p hp => ?_) Gd.T.bmain hobj hints (Nat.le_trans hlen (by decide)) (fun base _ _ TB H e0 hT aT known => K20.law_end KX Gd.T.g S TB e0 hT aT known hlen) (fun H e s' z => ?_)
  · obtain ⟨q, hq, rfl⟩ := List.mem_map.mp hp
    exact S.empty q hq
  · obtain ⟨q, hq, rfl⟩ := List.mem_map.mp hp
    exact S.out q hq
  · obtain ⟨q, hq, rfl⟩ := List.mem_map.mp hp
    exact PySem.W.codeHd_of_K KX (S.hd q hq)
  · obtain ⟨_, _, _, _, _, _, _, _, _, _, _, _, y⟩ := z
    exact y.elim
end K20

end
open PySem PySem.W
open PySem.Calls
open PyProof.Rows
set_option maxRecDepth 100000 in
set_option maxHeartbeats 8000001 in
theorem PySem.Challenge.cw_toldmoments_k20_tasks_made_and_refused_holds : PySem.Challenge.rw_toldmoments_k20_tasks_made_and_refused.Holds := by
  exact K20.holds_of K20.walk_end

