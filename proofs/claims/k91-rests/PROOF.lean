import PyProof.Rows.All
import Wide.All
import OpenK.AllK
import Wide.FinOn
import HandS.HeadHook2
import HandS.Property
import HandS.Words
import PySem.Challenge.RW_againandagain_k91_whole_rests_and_pieces
import KE.KStateDown
import HandS.Ends
import HandS.Head0
import HandS.Head1
import HandS.Head2
import HandS.HeadEnd
import HandS.HeadHook1
import HandS.ForMost
import HandS.TupAny
import HandS.TupMul
import HandS.Style
import HandS.Star
import HandS.IsInst
import HandS.Wide
import HandS.Text
import HandS.WideBits
import HandS.SortInts
import HandS.Conv
import HandS.Zip
import HandS.Flow
import KE.DataMinMax
import HandS.NoneIn
import KE.GoesNew
import KE.GoesEnum
import KE.GoesMore
import HandS.Defaults
import HandS.Dict
import HandS.More
import HandS.WordsDict
import KE.KDictSum
import HandS.Strs
import HandS.SetFor
set_option Elab.async false
set_option linter.all false
set_option maxRecDepth 100000
/-! Mh: what the head observes: addresses, defs, the Hook (directed growth). -/
namespace Mi
open PySem PySem.Spec PyProof.Rows L2
/-! ### addresses -/
/-- the property f of the class C -/
def ppA (K : PySem.W.Frag) (C f : Str) : Addr := He.ma K (He.ga K C) f
/-- .. its getter -/
def pgA (K : PySem.W.Frag) (C f : Str) : Addr := match PySem.W.recIn K (ppA K C f) "property" with
  | some (.ref g :: _) => g
  | _ => 0
def propB (C f : Str) (K : PySem.W.Frag) : Bool := decide (PySem.W.findIn K (.ref (He.ga K C)) f = some (some (.ref (ppA K C f)))) && (decide (PySem.W.specialIn K (.ref (ppA K C f)) "__get__" = some (some (.builtin "property.__get__"))) &&
  (decide (PySem.W.takesIn K (.ref (ppA K C f)) = some true) && match PySem.W.recIn K (ppA K C f) "property" with
    | some (.ref g :: _) => true
    | _ => false))
def isiB (C : Str) (K : PySem.W.Frag) : Bool := (He.Fa.cls C).ok K && (decide (PySem.W.findIn K (.ref (He.ga K C)) "__class__" = some (some (.builtin "object.__class__"))) && (decide (PySem.W.specialIn K (.builtin "object.__class__") "__get__" = some (some (.builtin "getset_descriptor.__get__"))) &&
  (decide (PySem.W.takesIn K (.builtin "object.__class__") = some true) && decide (PySem.W.mroIn K (He.ga K C) (.type "object") = some true))))
/-! ### defs by their addresses -/
def fnA (K : PySem.W.Frag) (a : Addr) : He.FnW := match K.lookup a with
  | some ⟨_, _, .func fd, _⟩ => some (fd.name, fd.qualname, fd.params, fd.body, fd.scope, fd.globals, fd.closure, fd.builtins)
  | _ => none
structure DefM where
  at_ : PySem.W.Frag → Addr
  name : Str
  qual : Str
  params : Arguments
  body : List Stmt
  scope : Scope
def DefM.val (d : DefM) : He.FnW := some (d.name, d.qual, d.params, .stmts d.body, d.scope, mainGlobals, [], builtinsNs)
def DefM.ok (K : PySem.W.Frag) (d : DefM) : Bool := PySem.W.keepIn K (.ref (d.at_ K)) && match K.lookup (d.at_ K) with
  | some ⟨_, _, .func fd, _⟩ => PySem.W.codeIn K fd.code d.qual && (He.dflB K fd.defaults [] && He.kwdB K fd.kwdefaults [])
  | _ => false
/-! ### the Hook -/
abbrev Ex := PySem.W.Frag → Bool
def obsM (ex : List Ex) (fn : List DefM) (K : PySem.W.Frag) : He.AlD := ((ex.all fun f => f K) && fn.all fun d => d.ok K, fn.map fun d => fnA K (d.at_ K))
def valM (fn : List DefM) : He.AlD := (true, fn.map DefM.val)
def SaysM (ex : List Ex) (fn : List DefM) (K : PySem.W.Frag) : Prop := obsM ex fn K = valM fn
/-- the j-th statement of a class -/
def clsBody : Stmt → List Stmt
  | .ClassDef (body := b) .. => b
  | _ => []
/-- what is followed: items, dict values, a def's code, a class's names, a property's parts -/
def refsN (o : Obj) : List Addr := match o.data with
  | .seq its _ => its.toList.flatMap He.refV
  | .dict es _ => es.toList.flatMap fun e => He.refV e.val
  | .func fd => He.refV fd.code ++ He.refV fd.defaults
  | .cls cd => [cd.ns]
  | .fields vs => if o.cls == .type "property" then vs.toList.flatMap He.refV else []
  | _ => []
def growN (g : Addr → Option Obj) : Nat → List Addr → List Addr → List Addr
  | 0, acc, _ => acc
  | n + 1, acc, new => match (new.flatMap fun a => match g a with
      | some o => refsN o
      | none => []).filter fun a => !acc.contains a with
    | next => growN g n (acc ++ next) next
def asN (g : Addr → Option Obj) (n : Nat) : List Addr := growN g n [mainGlobals] [mainGlobals]
def obsN (n : Nat) (ex : List Ex) (fn : List DefM) (g : Addr → Option Obj) : He.AlD := obsM ex fn (He.frG g (asN g n))
def hookN (n : Nat) (ex : List Ex) (fn : List DefM) : PySem.W.Hook where
  α := He.AlD
  obs := fun s => obsN n ex fn s.heap.get?
  val := fun _ => valM fn
  says := fun _ h => ∃ K : PySem.W.Frag, K.In h ∧ SaysM ex fn K
  of := fun _ _ e => ⟨_, He.frG_in, e⟩
  keeps := fun _ _ _ ⟨K, hK, c⟩ k => ⟨K, PySem.W.Frag.In.keeps hK k, c⟩
theorem obsN_eq {n : Nat} {ex : List Ex} {fn : List DefM} {g : Addr → Option Obj} {s : Shared} (h : ∀ a, g a = s.heap.get? a) : obsN n ex fn g = (hookN n ex fn).obs s := by
  obtain rfl : g = s.heap.get? := funext h
  rfl
end Mi
/-! againandagain_k91_whole_rests_and_pieces: the walks; printed. -/
namespace K91
open PySem PySem.Spec PyProof.Rows L2 Mi
def c_LENGTHS : List Int := [31, 28, 31, 30, 31, 30, 31, 31, 30, 31, 30, 31]
def topS (i : Nat) : Stmt := PySem.Challenge.pw_againandagain_k91_whole_rests_and_pieces.main.body.getD i (.Pass ⟨0, 0, 0, 0⟩)
def methS (i j : Nat) : Stmt := (clsBody (topS i)).getD j (.Pass ⟨0, 0, 0, 0⟩)
abbrev s__law_cells : Stmt := topS 120
abbrev s__law_pot : Stmt := topS 116
abbrev s_RuleReader____init__ : Stmt := methS 53 0
abbrev s_RuleReader__found : Stmt := methS 53 5
abbrev s_read_integer : Stmt := topS 21
abbrev s_read_number : Stmt := topS 52
abbrev s_RuleReader__takes_each : Stmt := methS 53 2
abbrev s_RuleReader__takes_fields : Stmt := methS 53 3
abbrev s_RuleReader__takes_long : Stmt := methS 53 4
abbrev s_is_name : Stmt := topS 19
abbrev s_RuleReader__takes : Stmt := methS 53 1
abbrev s_Rules____init__ : Stmt := methS 55 0
abbrev s__law_first : Stmt := topS 124
abbrev s__law_field : Stmt := topS 122
abbrev s__law_line : Stmt := topS 123
abbrev s__law_take : Stmt := topS 117
abbrev s__law_some : Stmt := topS 119
abbrev s__law_names : Stmt := topS 121
abbrev s__law_of : Stmt := topS 118
abbrev s_Meeting__by_rest : Stmt := methS 100 1
abbrev s_Rules__rule_of : Stmt := methS 55 4
abbrev s_common : Stmt := topS 22
abbrev s_inverse : Stmt := topS 85
abbrev s_put_together : Stmt := topS 84
abbrev s_all_together : Stmt := topS 86
abbrev s_is_each : Stmt := topS 62
abbrev s_Rules__stars_of : Stmt := methS 55 5
abbrev s_lengths_of : Stmt := topS 68
abbrev s_told_never : Stmt := topS 69
abbrev s_Meeting____init__ : Stmt := methS 100 0
abbrev s_is_long_year : Stmt := topS 33
abbrev s_days_in : Stmt := topS 34
abbrev s_fits_in : Stmt := topS 58
abbrev s_weekday_by : Stmt := topS 37
abbrev s_Meeting__days_from : Stmt := methS 100 3
abbrev s_Meeting__minutes_on : Stmt := methS 100 2
abbrev s_days_ahead : Stmt := topS 35
abbrev s_date_by : Stmt := topS 36
abbrev s_Meeting__first : Stmt := methS 100 4
abbrev s_Rules__jobs : Stmt := methS 55 3
abbrev s_are_unlike : Stmt := topS 20
abbrev s_check_rules : Stmt := topS 56
abbrev s_all_meet : Stmt := topS 104
abbrev s_is_integer : Stmt := topS 17
abbrev s_is_between : Stmt := topS 18
abbrev s_are_starts : Stmt := topS 110
abbrev s_is_piece : Stmt := topS 108
abbrev s_check_pieces : Stmt := topS 109
abbrev s_do_clash : Stmt := topS 111
abbrev s_is_at_work : Stmt := topS 112
abbrev s_first_minute : Stmt := topS 113
abbrev s_clash : Stmt := topS 114
abbrev s_check_job : Stmt := topS 57
abbrev s_is_time : Stmt := topS 31
abbrev s_check_time : Stmt := topS 32
abbrev s_first_missed : Stmt := topS 75
abbrev s_goes_down : Stmt := topS 76
abbrev s_fits_day : Stmt := topS 59
abbrev s_by_hours : Stmt := topS 61
abbrev s_minutes_of : Stmt := topS 60
abbrev s_fits_time : Stmt := topS 63
abbrev s_is_run : Stmt := topS 64
abbrev s_check_two : Stmt := topS 101
abbrev s_why_apart : Stmt := topS 102
abbrev s_meet : Stmt := topS 103
abbrev s_check_each : Stmt := topS 88
abbrev s_check_two_each : Stmt := topS 89
abbrev s_least_apart : Stmt := topS 90
abbrev s_nearest : Stmt := topS 91
abbrev s_fitting_in : Stmt := topS 65
abbrev s_day_on : Stmt := topS 66
abbrev s_next_run : Stmt := topS 67
abbrev s_are_rests : Stmt := topS 83
abbrev s_solve : Stmt := topS 87
abbrev s__law_right : Stmt := topS 125
abbrev s_law : Stmt := topS 126
def fn : List DefM := [⟨fun K => He.ga K "_law_cells", "_law_cells", "_law_cells", defArgs s__law_cells, defBody s__law_cells, defScope s__law_cells⟩,
 ⟨fun K => He.ga K "_law_pot", "_law_pot", "_law_pot", defArgs s__law_pot, defBody s__law_pot, defScope s__law_pot⟩,
 ⟨fun K => (He.ma K (He.ga K "RuleReader") "__init__"), "__init__", "RuleReader.__init__", defArgs s_RuleReader____init__, defBody s_RuleReader____init__, defScope s_RuleReader____init__⟩,
 ⟨fun K => (He.ma K (He.ga K "RuleReader") "found"), "found", "RuleReader.found", defArgs s_RuleReader__found, defBody s_RuleReader__found, defScope s_RuleReader__found⟩,
 ⟨fun K => He.ga K "read_integer", "read_integer", "read_integer", defArgs s_read_integer, defBody s_read_integer, defScope s_read_integer⟩,
 ⟨fun K => He.ga K "read_number", "read_number", "read_number", defArgs s_read_number, defBody s_read_number, defScope s_read_number⟩,
 ⟨fun K => (He.ma K (He.ga K "RuleReader") "takes_each"), "takes_each", "RuleReader.takes_each", defArgs s_RuleReader__takes_each, defBody s_RuleReader__takes_each, defScope s_RuleReader__takes_each⟩,
 ⟨fun K => (He.ma K (He.ga K "RuleReader") "takes_fields"), "takes_fields", "RuleReader.takes_fields", defArgs s_RuleReader__takes_fields, defBody s_RuleReader__takes_fields, defScope s_RuleReader__takes_fields⟩,
 ⟨fun K => (He.ma K (He.ga K "RuleReader") "takes_long"), "takes_long", "RuleReader.takes_long", defArgs s_RuleReader__takes_long, defBody s_RuleReader__takes_long, defScope s_RuleReader__takes_long⟩,
 ⟨fun K => He.ga K "is_name", "is_name", "is_name", defArgs s_is_name, defBody s_is_name, defScope s_is_name⟩,
 ⟨fun K => (He.ma K (He.ga K "RuleReader") "takes"), "takes", "RuleReader.takes", defArgs s_RuleReader__takes, defBody s_RuleReader__takes, defScope s_RuleReader__takes⟩,
 ⟨fun K => (He.ma K (He.ga K "Rules") "__init__"), "__init__", "Rules.__init__", defArgs s_Rules____init__, defBody s_Rules____init__, defScope s_Rules____init__⟩,
 ⟨fun K => He.ga K "_law_first", "_law_first", "_law_first", defArgs s__law_first, defBody s__law_first, defScope s__law_first⟩,
 ⟨fun K => He.ga K "_law_field", "_law_field", "_law_field", defArgs s__law_field, defBody s__law_field, defScope s__law_field⟩,
 ⟨fun K => He.ga K "_law_line", "_law_line", "_law_line", defArgs s__law_line, defBody s__law_line, defScope s__law_line⟩,
 ⟨fun K => He.ga K "_law_take", "_law_take", "_law_take", defArgs s__law_take, defBody s__law_take, defScope s__law_take⟩,
 ⟨fun K => He.ga K "_law_some", "_law_some", "_law_some", defArgs s__law_some, defBody s__law_some, defScope s__law_some⟩,
 ⟨fun K => He.ga K "_law_names", "_law_names", "_law_names", defArgs s__law_names, defBody s__law_names, defScope s__law_names⟩,
 ⟨fun K => He.ga K "_law_of", "_law_of", "_law_of", defArgs s__law_of, defBody s__law_of, defScope s__law_of⟩,
 ⟨fun K => (He.ma K (He.ga K "Meeting") "by_rest"), "by_rest", "Meeting.by_rest", defArgs s_Meeting__by_rest, defBody s_Meeting__by_rest, defScope s_Meeting__by_rest⟩,
 ⟨fun K => (He.ma K (He.ga K "Rules") "rule_of"), "rule_of", "Rules.rule_of", defArgs s_Rules__rule_of, defBody s_Rules__rule_of, defScope s_Rules__rule_of⟩,
 ⟨fun K => He.ga K "common", "common", "common", defArgs s_common, defBody s_common, defScope s_common⟩,
 ⟨fun K => He.ga K "inverse", "inverse", "inverse", defArgs s_inverse, defBody s_inverse, defScope s_inverse⟩,
 ⟨fun K => He.ga K "put_together", "put_together", "put_together", defArgs s_put_together, defBody s_put_together, defScope s_put_together⟩,
 ⟨fun K => He.ga K "all_together", "all_together", "all_together", defArgs s_all_together, defBody s_all_together, defScope s_all_together⟩,
 ⟨fun K => He.ga K "is_each", "is_each", "is_each", defArgs s_is_each, defBody s_is_each, defScope s_is_each⟩,
 ⟨fun K => (He.ma K (He.ga K "Rules") "stars_of"), "stars_of", "Rules.stars_of", defArgs s_Rules__stars_of, defBody s_Rules__stars_of, defScope s_Rules__stars_of⟩,
 ⟨fun K => He.ga K "lengths_of", "lengths_of", "lengths_of", defArgs s_lengths_of, defBody s_lengths_of, defScope s_lengths_of⟩,
 ⟨fun K => He.ga K "told_never", "told_never", "told_never", defArgs s_told_never, defBody s_told_never, defScope s_told_never⟩,
 ⟨fun K => (He.ma K (He.ga K "Meeting") "__init__"), "__init__", "Meeting.__init__", defArgs s_Meeting____init__, defBody s_Meeting____init__, defScope s_Meeting____init__⟩,
 ⟨fun K => He.ga K "is_long_year", "is_long_year", "is_long_year", defArgs s_is_long_year, defBody s_is_long_year, defScope s_is_long_year⟩,
 ⟨fun K => He.ga K "days_in", "days_in", "days_in", defArgs s_days_in, defBody s_days_in, defScope s_days_in⟩,
 ⟨fun K => He.ga K "fits_in", "fits_in", "fits_in", defArgs s_fits_in, defBody s_fits_in, defScope s_fits_in⟩,
 ⟨fun K => He.ga K "weekday_by", "weekday_by", "weekday_by", defArgs s_weekday_by, defBody s_weekday_by, defScope s_weekday_by⟩,
 ⟨fun K => (He.ma K (He.ga K "Meeting") "days_from"), "days_from", "Meeting.days_from", defArgs s_Meeting__days_from, defBody s_Meeting__days_from, defScope s_Meeting__days_from⟩,
 ⟨fun K => (He.ma K (He.ga K "Meeting") "minutes_on"), "minutes_on", "Meeting.minutes_on", defArgs s_Meeting__minutes_on, defBody s_Meeting__minutes_on, defScope s_Meeting__minutes_on⟩,
 ⟨fun K => He.ga K "days_ahead", "days_ahead", "days_ahead", defArgs s_days_ahead, defBody s_days_ahead, defScope s_days_ahead⟩,
 ⟨fun K => He.ga K "date_by", "date_by", "date_by", defArgs s_date_by, defBody s_date_by, defScope s_date_by⟩,
 ⟨fun K => (He.ma K (He.ga K "Meeting") "first"), "first", "Meeting.first", defArgs s_Meeting__first, defBody s_Meeting__first, defScope s_Meeting__first⟩,
 ⟨fun K => (pgA K "Rules" "jobs"), "jobs", "Rules.jobs", defArgs s_Rules__jobs, defBody s_Rules__jobs, defScope s_Rules__jobs⟩,
 ⟨fun K => He.ga K "are_unlike", "are_unlike", "are_unlike", defArgs s_are_unlike, defBody s_are_unlike, defScope s_are_unlike⟩,
 ⟨fun K => He.ga K "check_rules", "check_rules", "check_rules", defArgs s_check_rules, defBody s_check_rules, defScope s_check_rules⟩,
 ⟨fun K => He.ga K "all_meet", "all_meet", "all_meet", defArgs s_all_meet, defBody s_all_meet, defScope s_all_meet⟩,
 ⟨fun K => He.ga K "is_integer", "is_integer", "is_integer", defArgs s_is_integer, defBody s_is_integer, defScope s_is_integer⟩,
 ⟨fun K => He.ga K "is_between", "is_between", "is_between", defArgs s_is_between, defBody s_is_between, defScope s_is_between⟩,
 ⟨fun K => He.ga K "are_starts", "are_starts", "are_starts", defArgs s_are_starts, defBody s_are_starts, defScope s_are_starts⟩,
 ⟨fun K => He.ga K "is_piece", "is_piece", "is_piece", defArgs s_is_piece, defBody s_is_piece, defScope s_is_piece⟩,
 ⟨fun K => He.ga K "check_pieces", "check_pieces", "check_pieces", defArgs s_check_pieces, defBody s_check_pieces, defScope s_check_pieces⟩,
 ⟨fun K => He.ga K "do_clash", "do_clash", "do_clash", defArgs s_do_clash, defBody s_do_clash, defScope s_do_clash⟩,
 ⟨fun K => He.ga K "is_at_work", "is_at_work", "is_at_work", defArgs s_is_at_work, defBody s_is_at_work, defScope s_is_at_work⟩,
 ⟨fun K => He.ga K "first_minute", "first_minute", "first_minute", defArgs s_first_minute, defBody s_first_minute, defScope s_first_minute⟩,
 ⟨fun K => He.ga K "clash", "clash", "clash", defArgs s_clash, defBody s_clash, defScope s_clash⟩,
 ⟨fun K => He.ga K "check_job", "check_job", "check_job", defArgs s_check_job, defBody s_check_job, defScope s_check_job⟩,
 ⟨fun K => He.ga K "is_time", "is_time", "is_time", defArgs s_is_time, defBody s_is_time, defScope s_is_time⟩,
 ⟨fun K => He.ga K "check_time", "check_time", "check_time", defArgs s_check_time, defBody s_check_time, defScope s_check_time⟩,
 ⟨fun K => He.ga K "first_missed", "first_missed", "first_missed", defArgs s_first_missed, defBody s_first_missed, defScope s_first_missed⟩,
 ⟨fun K => He.ga K "goes_down", "goes_down", "goes_down", defArgs s_goes_down, defBody s_goes_down, defScope s_goes_down⟩,
 ⟨fun K => He.ga K "fits_day", "fits_day", "fits_day", defArgs s_fits_day, defBody s_fits_day, defScope s_fits_day⟩,
 ⟨fun K => He.ga K "by_hours", "by_hours", "by_hours", defArgs s_by_hours, defBody s_by_hours, defScope s_by_hours⟩,
 ⟨fun K => He.ga K "minutes_of", "minutes_of", "minutes_of", defArgs s_minutes_of, defBody s_minutes_of, defScope s_minutes_of⟩,
 ⟨fun K => He.ga K "fits_time", "fits_time", "fits_time", defArgs s_fits_time, defBody s_fits_time, defScope s_fits_time⟩,
 ⟨fun K => He.ga K "is_run", "is_run", "is_run", defArgs s_is_run, defBody s_is_run, defScope s_is_run⟩,
 ⟨fun K => He.ga K "check_two", "check_two", "check_two", defArgs s_check_two, defBody s_check_two, defScope s_check_two⟩,
 ⟨fun K => He.ga K "why_apart", "why_apart", "why_apart", defArgs s_why_apart, defBody s_why_apart, defScope s_why_apart⟩,
 ⟨fun K => He.ga K "meet", "meet", "meet", defArgs s_meet, defBody s_meet, defScope s_meet⟩,
 ⟨fun K => He.ga K "check_each", "check_each", "check_each", defArgs s_check_each, defBody s_check_each, defScope s_check_each⟩,
 ⟨fun K => He.ga K "check_two_each", "check_two_each", "check_two_each", defArgs s_check_two_each, defBody s_check_two_each, defScope s_check_two_each⟩,
 ⟨fun K => He.ga K "least_apart", "least_apart", "least_apart", defArgs s_least_apart, defBody s_least_apart, defScope s_least_apart⟩,
 ⟨fun K => He.ga K "nearest", "nearest", "nearest", defArgs s_nearest, defBody s_nearest, defScope s_nearest⟩,
 ⟨fun K => He.ga K "fitting_in", "fitting_in", "fitting_in", defArgs s_fitting_in, defBody s_fitting_in, defScope s_fitting_in⟩,
 ⟨fun K => He.ga K "day_on", "day_on", "day_on", defArgs s_day_on, defBody s_day_on, defScope s_day_on⟩,
 ⟨fun K => He.ga K "next_run", "next_run", "next_run", defArgs s_next_run, defBody s_next_run, defScope s_next_run⟩,
 ⟨fun K => He.ga K "are_rests", "are_rests", "are_rests", defArgs s_are_rests, defBody s_are_rests, defScope s_are_rests⟩,
 ⟨fun K => He.ga K "solve", "solve", "solve", defArgs s_solve, defBody s_solve, defScope s_solve⟩,
 ⟨fun K => He.ga K "_law_right", "_law_right", "_law_right", defArgs s__law_right, defBody s__law_right, defScope s__law_right⟩,
 ⟨fun K => He.ga K "law", "law", "law", defArgs s_law, defBody s_law, defScope s_law⟩]
def fa : List Ex := [fun K => (He.Fa.glo "_law_cells").ok K,
 fun K => (He.Fa.glo "_law_pot").ok K,
 fun K => (He.Fa.glo "read_integer").ok K,
 fun K => (He.Fa.glo "read_number").ok K,
 fun K => (He.Fa.glo "is_name").ok K,
 fun K => (He.Fa.glo "_law_first").ok K,
 fun K => (He.Fa.glo "_law_field").ok K,
 fun K => (He.Fa.glo "_law_line").ok K,
 fun K => (He.Fa.glo "_law_take").ok K,
 fun K => (He.Fa.glo "_law_some").ok K,
 fun K => (He.Fa.glo "_law_names").ok K,
 fun K => (He.Fa.glo "_law_of").ok K,
 fun K => (He.Fa.glo "common").ok K,
 fun K => (He.Fa.glo "inverse").ok K,
 fun K => (He.Fa.glo "put_together").ok K,
 fun K => (He.Fa.glo "all_together").ok K,
 fun K => (He.Fa.glo "is_each").ok K,
 fun K => (He.Fa.glo "lengths_of").ok K,
 fun K => (He.Fa.glo "told_never").ok K,
 fun K => (He.Fa.glo "is_long_year").ok K,
 fun K => (He.Fa.glo "days_in").ok K,
 fun K => (He.Fa.glo "fits_in").ok K,
 fun K => (He.Fa.glo "weekday_by").ok K,
 fun K => (He.Fa.glo "days_ahead").ok K,
 fun K => (He.Fa.glo "date_by").ok K,
 fun K => (He.Fa.glo "are_unlike").ok K,
 fun K => (He.Fa.glo "check_rules").ok K,
 fun K => (He.Fa.glo "all_meet").ok K,
 fun K => (He.Fa.glo "is_integer").ok K,
 fun K => (He.Fa.glo "is_between").ok K,
 fun K => (He.Fa.glo "are_starts").ok K,
 fun K => (He.Fa.glo "is_piece").ok K,
 fun K => (He.Fa.glo "check_pieces").ok K,
 fun K => (He.Fa.glo "do_clash").ok K,
 fun K => (He.Fa.glo "is_at_work").ok K,
 fun K => (He.Fa.glo "first_minute").ok K,
 fun K => (He.Fa.glo "clash").ok K,
 fun K => (He.Fa.glo "check_job").ok K,
 fun K => (He.Fa.glo "is_time").ok K,
 fun K => (He.Fa.glo "check_time").ok K,
 fun K => (He.Fa.glo "first_missed").ok K,
 fun K => (He.Fa.glo "goes_down").ok K,
 fun K => (He.Fa.glo "fits_day").ok K,
 fun K => (He.Fa.glo "by_hours").ok K,
 fun K => (He.Fa.glo "minutes_of").ok K,
 fun K => (He.Fa.glo "fits_time").ok K,
 fun K => (He.Fa.glo "is_run").ok K,
 fun K => (He.Fa.glo "check_two").ok K,
 fun K => (He.Fa.glo "why_apart").ok K,
 fun K => (He.Fa.glo "meet").ok K,
 fun K => (He.Fa.glo "check_each").ok K,
 fun K => (He.Fa.glo "check_two_each").ok K,
 fun K => (He.Fa.glo "least_apart").ok K,
 fun K => (He.Fa.glo "nearest").ok K,
 fun K => (He.Fa.glo "fitting_in").ok K,
 fun K => (He.Fa.glo "day_on").ok K,
 fun K => (He.Fa.glo "next_run").ok K,
 fun K => (He.Fa.glo "are_rests").ok K,
 fun K => (He.Fa.glo "solve").ok K,
 fun K => (He.Fa.glo "_law_right").ok K,
 fun K => (He.Fa.glo "law").ok K,
 fun K => (He.Fa.free "range").ok K,
 fun K => (He.Fa.free "all").ok K,
 fun K => (He.Fa.free "len").ok K,
 fun K => (He.Fa.free "min").ok K,
 fun K => (He.Fa.free "max").ok K,
 fun K => (He.Fa.free "list").ok K,
 fun K => (He.Fa.free "sum").ok K,
 fun K => (He.Fa.free "abs").ok K,
 fun K => (He.Fa.free "int").ok K,
 fun K => (He.Fa.free "zip").ok K,
 fun K => (He.Fa.free "tuple").ok K,
 fun K => (He.Fa.free "set").ok K,
 fun K => (He.Fa.free "isinstance").ok K,
 fun K => (He.Fa.free "str").ok K,
 fun K => (He.Fa.free "enumerate").ok K,
 fun K => (He.Fa.free "bool").ok K,
 fun K => (He.Fa.str "TAKES" "takes").ok K,
 fun K => (He.Fa.str "JOB" "job").ok K,
 fun K => (He.Fa.int "MOST_JOBS_reading" 12).ok K,
 fun K => (He.Fa.str "EACH" "each").ok K,
 fun K => (He.Fa.str "AT" "at").ok K,
 fun K => (He.Fa.str "OR" "or").ok K,
 fun K => (He.Fa.str "FROM" "from").ok K,
 fun K => (He.Fa.int "MOST_EACH_reading" 999999).ok K,
 fun K => (He.Fa.int "LAST_TIME" 210379679).ok K,
 fun K => (He.Fa.str "FIGURES" "0123456789").ok K,
 fun K => (He.Fa.str "STAR" "*").ok K,
 fun K => (He.Fa.int "MOST_SIGNS" 8).ok K,
 fun K => (He.Fa.str "LETTERS" "abcdefghijklmnopqrstuvwxyz").ok K,
 fun K => (He.Fa.int "MOST_JOBS_meets" 6).ok K,
 fun K => (He.Fa.str "TWO" "two").ok K,
 fun K => (He.Fa.str "LATE_meets" "late").ok K,
 fun K => (He.Fa.str "MEET" "meet").ok K,
 fun K => (He.Fa.int "MINUTES" 1440).ok K,
 fun K => (He.Fa.int "LAST_YEAR" 2399).ok K,
 fun K => (He.Fa.int "MONTHS" 12).ok K,
 fun K => (He.Fa.int "FIRST_WEEKDAY" 6).ok K,
 fun K => (He.Fa.int "FIRST_YEAR" 2000).ok K,
 fun K => (He.Fa.int "MOST_PIECES" 5).ok K,
 fun K => (He.Fa.int "MOST_EVERY" 1440).ok K,
 fun K => (He.Fa.int "MOST_EACH_missed" 999999).ok K,
 fun K => (He.Fa.str "NEVER" "never").ok K,
 fun K => (He.Fa.str "MISSED" "missed").ok K,
 fun K => (He.Fa.str "LATE_missed" "late").ok K,
 fun K => (He.Fa.int "DAYS" 146097).ok K,
 fun K => (He.Fa.str "APART" "apart").ok K,
 fun K => (He.Fa.str "RESTS" "rests").ok K,
 fun K => (He.Fa.str "MINUTE_WORD" "minutes").ok K,
 fun K => (He.Fa.str "DAY_WORD" "days").ok K,
 fun K => (He.Fa.str "ALL" "all").ok K,
 fun K => (He.Fa.int "MOST_RESTS" 6).ok K,
 fun K => (He.Fa.int "MOST_ROUND" 999999).ok K,
 fun K => (He.Fa.int "MOST_NUMBER" 999999999).ok K,
 fun K => (He.Fa.glo "LENGTHS").ok K,
 fun K => He.tupB K "LENGTHS" (c_LENGTHS.map He.Dv.int),
 fun K => (He.Fa.glo "RuleReader").ok K,
 fun K => (He.Fa.cls "RuleReader").ok K,
 fun K => (He.Fa.mkr "RuleReader").ok K,
 fun K => (He.Fa.glo "Rules").ok K,
 fun K => (He.Fa.cls "Rules").ok K,
 fun K => (He.Fa.mkr "Rules").ok K,
 isiB "Rules",
 fun K => (He.Fa.glo "Meeting").ok K,
 fun K => (He.Fa.cls "Meeting").ok K,
 fun K => (He.Fa.mkr "Meeting").ok K,
 fun K => (He.Fa.meth "RuleReader" "takes").ok K,
 fun K => (He.Fa.meth "RuleReader" "found").ok K,
 fun K => (He.Fa.meth "RuleReader" "takes_long").ok K,
 fun K => (He.Fa.meth "RuleReader" "takes_each").ok K,
 fun K => (He.Fa.meth "RuleReader" "takes_fields").ok K,
 fun K => (He.Fa.meth "Meeting" "first").ok K,
 fun K => (He.Fa.meth "Rules" "rule_of").ok K,
 fun K => (He.Fa.meth "Meeting" "by_rest").ok K,
 fun K => (He.Fa.meth "Rules" "stars_of").ok K,
 fun K => (He.Fa.meth "Meeting" "days_from").ok K,
 fun K => (He.Fa.meth "Meeting" "minutes_on").ok K,
 propB "Rules" "jobs",
 fun K => (He.Fa.cls "RuleReader").ok K,
 fun K => (He.Fa.noat "RuleReader" "own_text").ok K,
 fun K => (He.Fa.cls "Rules").ok K,
 fun K => (He.Fa.noat "Rules" "own_text").ok K,
 fun K => (He.Fa.cls "Meeting").ok K,
 fun K => (He.Fa.noat "Meeting" "own_text").ok K,
 fun K => (He.Fa.cls "RuleReader").ok K,
 fun K => (He.Fa.noat "RuleReader" "own_rules").ok K,
 fun K => (He.Fa.cls "Rules").ok K,
 fun K => (He.Fa.noat "Rules" "own_rules").ok K,
 fun K => (He.Fa.cls "Meeting").ok K,
 fun K => (He.Fa.noat "Meeting" "own_rules").ok K,
 fun K => (He.Fa.cls "RuleReader").ok K,
 fun K => (He.Fa.noat "RuleReader" "own_stars").ok K,
 fun K => (He.Fa.cls "Rules").ok K,
 fun K => (He.Fa.noat "Rules" "own_stars").ok K,
 fun K => (He.Fa.cls "Meeting").ok K,
 fun K => (He.Fa.noat "Meeting" "own_stars").ok K,
 fun K => (He.Fa.cls "RuleReader").ok K,
 fun K => (He.Fa.noat "RuleReader" "own_takes").ok K,
 fun K => (He.Fa.cls "Rules").ok K,
 fun K => (He.Fa.noat "Rules" "own_takes").ok K,
 fun K => (He.Fa.cls "Meeting").ok K,
 fun K => (He.Fa.noat "Meeting" "own_takes").ok K,
 fun K => (He.Fa.cls "RuleReader").ok K,
 fun K => (He.Fa.noat "RuleReader" "own_jobs").ok K,
 fun K => (He.Fa.cls "Rules").ok K,
 fun K => (He.Fa.noat "Rules" "own_jobs").ok K,
 fun K => (He.Fa.cls "Meeting").ok K,
 fun K => (He.Fa.noat "Meeting" "own_jobs").ok K,
 fun K => (He.Fa.cls "RuleReader").ok K,
 fun K => (He.Fa.noat "RuleReader" "own_fields").ok K,
 fun K => (He.Fa.cls "Rules").ok K,
 fun K => (He.Fa.noat "Rules" "own_fields").ok K,
 fun K => (He.Fa.cls "Meeting").ok K,
 fun K => (He.Fa.noat "Meeting" "own_fields").ok K,
 fun K => (He.Fa.cls "RuleReader").ok K,
 fun K => (He.Fa.noat "RuleReader" "own_rest").ok K,
 fun K => (He.Fa.cls "Rules").ok K,
 fun K => (He.Fa.noat "Rules" "own_rest").ok K,
 fun K => (He.Fa.cls "Meeting").ok K,
 fun K => (He.Fa.noat "Meeting" "own_rest").ok K,
 fun K => (He.Fa.cls "RuleReader").ok K,
 fun K => (He.Fa.noat "RuleReader" "own_begin").ok K,
 fun K => (He.Fa.cls "Rules").ok K,
 fun K => (He.Fa.noat "Rules" "own_begin").ok K,
 fun K => (He.Fa.cls "Meeting").ok K,
 fun K => (He.Fa.noat "Meeting" "own_begin").ok K,
 fun K => (He.Fa.cls "RuleReader").ok K,
 fun K => (He.Fa.noat "RuleReader" "own_minutes").ok K,
 fun K => (He.Fa.cls "Rules").ok K,
 fun K => (He.Fa.noat "Rules" "own_minutes").ok K,
 fun K => (He.Fa.cls "Meeting").ok K,
 fun K => (He.Fa.noat "Meeting" "own_minutes").ok K,
 fun K => (He.Fa.cls "RuleReader").ok K,
 fun K => (He.Fa.noat "RuleReader" "own_is_ever").ok K,
 fun K => (He.Fa.cls "Rules").ok K,
 fun K => (He.Fa.noat "Rules" "own_is_ever").ok K,
 fun K => (He.Fa.cls "Meeting").ok K,
 fun K => (He.Fa.noat "Meeting" "own_is_ever").ok K,
 fun K => (He.Fa.cls "RuleReader").ok K,
 fun K => (He.Fa.noat "RuleReader" "own_by_rest").ok K,
 fun K => (He.Fa.cls "Rules").ok K,
 fun K => (He.Fa.noat "Rules" "own_by_rest").ok K,
 fun K => (He.Fa.cls "Meeting").ok K,
 fun K => (He.Fa.noat "Meeting" "own_by_rest").ok K]
end K91
set_option maxHeartbeats 0
/-! againandagain_k91_whole_rests_and_pieces: the head; printed. -/
namespace K91
open PySem PySem.Spec PyProof.Rows L2 Mi
abbrev rowH : PySem.W.OpenRow := PySem.W.OpenLaw.row PySem.Challenge.rw_againandagain_k91_whole_rests_and_pieces
abbrev hkH : PySem.W.Hook := hookN 5 fa fn
def obH (s : PySem.W.SharedT) : He.AlD := obsN 5 fa fn (HandSHeadRun.getT s)
theorem obH_eq (s : PySem.W.SharedT) : obH s = hkH.obs s.abs := obsN_eq (HandSHeadRun.getT_eq s)
def namesH : List PySem.Str := (["_wall", "JobError", "BadJobs", "BadNumbers", "BadPieces", "BadRests", "BadRules", "BadStarts", "BadTime", "NoJob", "NoRules", "NotEach", "LETTERS", "FIGURES", "MOST_SIGNS", "is_integer", "is_between", "is_name", "are_unlike", "read_integer", "common", "DAYS", "MINUTES", "FIRST_YEAR", "LAST_YEAR", "MONTHS", "FIRST_WEEKDAY", "LENGTHS", "is_time", "check_time"] : List PySem.Str) ++ (["is_long_year", "days_in", "days_ahead", "date_by", "weekday_by", "JOB", "TAKES", "AT", "OR", "EACH", "FROM", "STAR", "MOST_JOBS_reading", "MOST_EACH_reading", "LAST_TIME", "FIELDS", "read_part", "read_field", "read_number", "RuleReader", "Rules", "check_rules", "check_job", "fits_in", "fits_day", "minutes_of", "by_hours", "is_each", "fits_time", "is_run"] : List PySem.Str) ++ (["fitting_in", "day_on", "next_run", "lengths_of", "told_never", "MOST_EACH_missed", "MISSED", "NEVER", "LATE_missed", "first_missed", "goes_down", "ALL", "TWO", "MOST_RESTS", "MOST_ROUND", "MOST_NUMBER", "are_rests", "put_together", "inverse", "all_together", "solve", "check_each", "check_two_each", "least_apart", "nearest", "MEET", "APART", "RESTS", "LATE_meets", "MINUTE_WORD"] : List PySem.Str) ++ (["DAY_WORD", "MOST_JOBS_meets", "Meeting", "check_two", "why_apart", "meet", "all_meet", "MOST_PIECES", "MOST_EVERY", "is_piece", "check_pieces", "are_starts", "do_clash", "is_at_work", "first_minute", "clash", "_law_pot", "_law_take", "_law_of", "_law_some", "_law_cells", "_law_names", "_law_field", "_law_line", "_law_first", "_law_right"] : List PySem.Str)
theorem runH (w : World) : HandSHeadRun.RunEq rowH (PySem.W.view rowH.prog [126]) hkH obH 40000 namesH w := by
  intro os
  kernel_rfl
end K91
/-! Mi: Python values as pure data, a store for what is shared, and how both lie in the abstract heap. -/
namespace Mi
open PySem PySem.Spec PyProof.Rows L2

abbrev St := L2.St
inductive D where
  | non | bl (b : Bool) | int (i : Int) | str (s : Str) | tup (ds : List D) | obj (n : Nat)
inductive O where
  | lst (ds : List D)
  | cst (ds : List D)
  | dic (kvs : List (Key × D))
  | dit (kvs : List (List Key × D))
  | ins (c : Nat) (fs : List (Str × D))
inductive R where
  | v (d : D) | l (o : O) | o (o : O) | b (o : O)
abbrev Sto := List O
abbrev M (α : Type) := Sto → Option (α × Sto)
def M.pure {α : Type} (a : α) : M α := fun s => some (a, s)
def M.bind {α β : Type} (m : M α) (f : α → M β) : M β := fun s => match m s with
  | some (a, s') => f a s'
  | none => none
def M.fail {α : Type} : M α := fun _ => none
instance : Monad M where
  pure := M.pure
  bind := M.bind
theorem bind_run {α β : Type} {m : M α} {f : α → M β} {s : Sto} {r : β × Sto} (h : (m >>= f) s = some r) : ∃ a s', m s = some (a, s') ∧ f a s' = some r := by
  have h' : (match m s with | some (a, s') => f a s' | none => none) = some r := h
  cases q : m s with
  | none => rw [q] at h'; cases h'
  | some p => rw [q] at h'; exact ⟨p.1, p.2, rfl, h'⟩
@[simp] theorem bind_some {α β : Type} {m : M α} {f : α → M β} {s s' : Sto} {a : α} (h : m s = some (a, s')) : (m >>= f) s = f a s' := by
  show (match m s with | some (a, s') => f a s' | none => none) = _
  rw [h]
@[simp] theorem pure_run {α : Type} {a : α} {s : Sto} : (Pure.pure a : M α) s = some (a, s) := rfl
theorem pure_inv {α : Type} {a b : α} {s s' : Sto} (h : (Pure.pure a : M α) s = some (b, s')) : b = a ∧ s' = s := by
  have h' : some (a, s) = some (b, s') := h
  injection h' with h'
  injection h' with h1 h2
  exact ⟨h1.symm, h2.symm⟩

def M.ofO {α : Type} (o : Option α) : M α := fun s => match o with
  | some a => some (a, s)
  | none => none
theorem ofO_inv {α : Type} {o : Option α} {b : α} {s s' : Sto} (h : M.ofO o s = some (b, s')) : o = some b ∧ s' = s := by
  cases o with
  | none => cases h
  | some a =>
    have h' : some (a, s) = some (b, s') := h
    injection h' with h'
    injection h' with h1 h2
    exact ⟨congrArg some h1, h2.symm⟩
def M.ite {α : Type} (c : Bool) (a : α) : M α := if c = true then pure a else M.fail
theorem ite_inv {α : Type} {c : Bool} {a b : α} {s s' : Sto} (h : M.ite c a s = some (b, s')) : c = true ∧ b = a ∧ s' = s := by
  unfold M.ite at h
  split at h
  · obtain ⟨rfl, rfl⟩ := pure_inv h
    exact ⟨by assumption, rfl, rfl⟩
  · cases h

abbrev Env := List (Option R)
/-- what is fixed: the written part, where the classes stand -/
structure Kx where
  K : PySem.W.Frag
  cls : List Addr

section
variable (G : Kx) (H : Hp) (α : List Addr)
mutual
inductive Rep (G : Kx) (H : Hp) (α : List Addr) : V → D → Prop
  | non : Rep G H α .non .non
  | bl (b : Bool) : Rep G H α (.bl b) (.bl b)
  | int (i : Int) : Rep G H α (.int i) (.int i)
  | str (s : Str) : Rep G H α (.str s) (.str s)
  | tup {a : Addr} {xs : List V} {ds : List D} : SqT G.K H a xs → RepL G H α xs ds → Rep G H α (.ref a) (.tup ds)
  | obj {a : Addr} {n : Nat} : α[n]? = some a → Rep G H α (.ref a) (.obj n)
inductive RepL (G : Kx) (H : Hp) (α : List Addr) : List V → List D → Prop
  | nil : RepL G H α [] []
  | cons {v : V} {vs : List V} {d : D} {ds : List D} : Rep G H α v d → RepL G H α vs ds → RepL G H α (v :: vs) (d :: ds)
end

/-- pairs: a dict's, an instance's fields -/
inductive RepP {κ : Type} : List (κ × V) → List (κ × D) → Prop
  | nil : RepP [] []
  | cons {k : κ} {v : V} {vs : List (κ × V)} {d : D} {ds : List (κ × D)} : Rep G H α v d → RepP vs ds → RepP ((k, v) :: vs) ((k, d) :: ds)
/-- what stands still through the whole law -/
def Stat (a : Addr) (xs : List V) : Prop :=
  (∃ o, H a = some (.frz o (.lst xs))) ∨ ∃ (o : Obj) (its : Array Value) (n : Nat), G.K.lookup a = some o ∧ o.cls = .type "list" ∧ o.dict = none ∧ o.data = .seq its n ∧ its.size ≤ sizeLine ∧ Vals xs its.toList
/-- what stands at a -/
def RepO (a : Addr) : O → Prop
  | .lst ds => ∃ xs, H a = some (.lst xs) ∧ RepL G H α xs ds
  | .cst ds => ∃ xs, Stat G H a xs ∧ RepL G H α xs ds
  | .dic kvs => ∃ ks, H a = some (.dK ks) ∧ RepP G H α ks kvs
  | .dit kvs => ∃ ks, H a = some (.dT ks) ∧ RepP G H α ks kvs
  | .ins c fs => ∃ C dx vs, G.cls[c]? = some C ∧ H a = some (.ins C dx vs) ∧ RepP G H α vs fs
def O.mov : O → Prop
  | .cst _ => False
  | _ => True
/-- what is read at a -/
def RepB (own : Addr → Prop) (a : Addr) (o : O) : Prop := RepO G H α a o ∧ (o.mov → a ∉ α ∧ ¬ own a)
def RepR (fr own : Addr → Prop) (v : V) : R → Prop
  | .v d => Rep G H α v d
  | .l o => ∃ a, v = .ref a ∧ fr a ∧ a ∉ α ∧ RepO G H α a o ∧ o.mov
  | .o o => ∃ a, v = .ref a ∧ RepB G H α (fun _ => False) a o
  | .b o => ∃ a, v = .ref a ∧ RepB G H α own a o
structure RepS (st : Sto) : Prop where
  len : α.length = st.length
  nd : α.Nodup
  obj : ∀ (n : Nat) (o : O) (a : Addr), st[n]? = some o → α[n]? = some a → RepO G H α a o
  mv : ∀ (n : Nat) (o : O), st[n]? = some o → o.mov
end
def Own (σ : St) (env : Env) (a : Addr) : Prop := ∃ (i : Nat) (o : O), env[i]? = some (some (.l o)) ∧ σ[i]? = some (some (.ref a))
def RepSlot (G : Kx) (H : Hp) (α : List Addr) (own : Addr → Prop) (v : V) : R → Prop
  | .v d => Rep G H α v d
  | .l o => ∃ a, v = .ref a ∧ a ∉ α ∧ RepO G H α a o ∧ o.mov
  | .o _ => False
  | .b o => ∃ a, v = .ref a ∧ RepB G H α own a o
structure RepE (G : Kx) (H : Hp) (α : List Addr) (σ : St) (env : Env) : Prop where
  len : σ.length = env.length
  val : ∀ (i : Nat) (r : R), env[i]? = some (some r) → ∃ v, σ[i]? = some (some v) ∧ RepSlot G H α (Own σ env) v r
  sep : ∀ (i j : Nat) (a : Addr) (o o' : O), env[i]? = some (some (.l o)) → env[j]? = some (some (.l o')) → σ[i]? = some (some (.ref a)) → σ[j]? = some (some (.ref a)) → i = j
structure Ext (own : Addr → Prop) (α : List Addr) (H : Hp) (α' : List Addr) (H' : Hp) : Prop where
  pre : ∃ β, α' = α ++ β ∧ ∀ b ∈ β, H b = none ∨ own b
  keep : ∀ a o, H a = some o → a ∉ α → ¬ own a → H' a = some o
  dom : ∀ a, H' a = none → H a = none
  tups : ∀ a xs, H a = some (.tup xs) → H' a = some (.tup xs)
  frzs : ∀ a o u, H a = some (.frz o u) → H' a = some (.frz o u)
abbrev Non : Addr → Prop := fun _ => False

section
variable {G : Kx} {H H' H'' : Hp} {α α' α'' : List Addr} {own own' : Addr → Prop} {σ : St} {env : Env} {st : Sto}
theorem Ext.rfl' : Ext own α H α H := ⟨⟨[], by simp, by simp⟩, fun _ _ h _ _ => h, fun _ h => h, fun _ _ h => h, fun _ _ _ h => h⟩
theorem Ext.trans (e1 : Ext own α H α' H') (e2 : Ext own' α' H' α'' H'') (h : ∀ a, own' a → own a ∨ H a = none) : Ext own α H α'' H'' := by
  obtain ⟨β1, rfl, p1⟩ := e1.pre
  obtain ⟨β2, rfl, p2⟩ := e2.pre
  refine ⟨⟨β1 ++ β2, by simp, fun b hb => ?_⟩, fun a o ha hn ho => ?_, fun a h' => e1.dom a (e2.dom a h'), fun a xs ha => e2.tups _ _ (e1.tups _ _ ha), fun a o u ha => e2.frzs _ _ _ (e1.frzs _ _ _ ha)⟩
  · rcases List.mem_append.mp hb with hb | hb
    · exact p1 b hb
    · rcases p2 b hb with q | q
      · exact .inl (e1.dom b q)
      · exact (h b q).symm
  · refine e2.keep a o (e1.keep a o ha hn ho) ?_ ?_
    · intro z
      rcases List.mem_append.mp z with z | z
      · exact hn z
      · rcases p1 a z with q | q
        · rw [ha] at q; cases q
        · exact ho q
    · intro z
      rcases h a z with q | q
      · exact ho q
      · rw [ha] at q; cases q
theorem Ext.trans0 (e1 : Ext Non α H α' H') (e2 : Ext Non α' H' α'' H'') : Ext Non α H α'' H'' := e1.trans e2 fun _ h => h.elim
theorem Ext.mono (e : Ext own α H α' H') (h : ∀ a, own a → own' a) : Ext own' α H α' H' := by
  obtain ⟨⟨β, rfl, p⟩, k, d, t, f⟩ := e
  exact ⟨⟨β, rfl, fun b hb => (p b hb).imp id (h b)⟩, fun a o ha hn ho => k a o ha hn fun z => ho (h a z), d, t, f⟩
theorem Ext.pre0 (e : Ext own α H α' H') {n : Nat} {a : Addr} (h : α[n]? = some a) : α'[n]? = some a := by
  obtain ⟨β, rfl, _⟩ := e.pre
  rw [List.getElem?_append_left (List.getElem?_eq_some_iff.mp h).1]
  exact h
theorem SqT.ext {a : Addr} {xs : List V} (h : SqT G.K H a xs) (e : Ext own α H α' H') : SqT G.K H' a xs := by
  rcases h with h | h
  · rcases h with h | ⟨o, h⟩
    · exact .inl (.inl (e.tups _ _ h))
    · exact .inl (.inr ⟨o, e.frzs _ _ _ h⟩)
  · exact .inr h
theorem Stat.ext {a : Addr} {xs : List V} (h : Stat G H a xs) (e : Ext own α H α' H') : Stat G H' a xs := by
  rcases h with ⟨o, h⟩ | h
  · exact .inl ⟨o, e.frzs _ _ _ h⟩
  · exact .inr h
theorem Stat.sq {a : Addr} {xs : List V} (h : Stat G H a xs) : SqL G.K H a xs := by
  rcases h with ⟨o, h⟩ | h
  · exact .inl (.inr ⟨o, h⟩)
  · exact .inr h
mutual
theorem Rep.ext (e : Ext own α H α' H') : ∀ {v : V} {d : D}, Rep G H α v d → Rep G H' α' v d
  | _, _, .non => .non
  | _, _, .bl b => .bl b
  | _, _, .int i => .int i
  | _, _, .str s => .str s
  | _, _, .tup h r => .tup (SqT.ext h e) (RepL.ext e r)
  | _, _, .obj h => .obj (e.pre0 h)
theorem RepL.ext (e : Ext own α H α' H') : ∀ {vs : List V} {ds : List D}, RepL G H α vs ds → RepL G H' α' vs ds
  | _, _, .nil => .nil
  | _, _, .cons r s => .cons (Rep.ext e r) (RepL.ext e s)
end
theorem RepP.ext {κ : Type} (e : Ext own α H α' H') : ∀ {vs : List (κ × V)} {ds : List (κ × D)}, RepP G H α vs ds → RepP G H' α' vs ds
  | _, _, .nil => .nil
  | _, _, .cons r s => .cons (r.ext e) (RepP.ext e s)
theorem RepP.length {κ : Type} : ∀ {vs : List (κ × V)} {ds : List (κ × D)}, RepP G H α vs ds → vs.length = ds.length
  | _, _, .nil => rfl
  | _, _, .cons _ s => congrArg (· + 1) (RepP.length s)
theorem RepO.has {a : Addr} {o : O} (h : RepO G H α a o) (m : o.mov) : ∃ u, H a = some u := by
  cases o with
  | lst ds => obtain ⟨xs, h, _⟩ := h; exact ⟨_, h⟩
  | cst ds => exact m.elim
  | dic kvs => obtain ⟨ks, h, _⟩ := h; exact ⟨_, h⟩
  | dit kvs => obtain ⟨ks, h, _⟩ := h; exact ⟨_, h⟩
  | ins c fs => obtain ⟨C, dx, vs, _, h, _⟩ := h; exact ⟨_, h⟩
theorem RepO.ext {a : Addr} {o : O} (h : RepO G H α a o) (e : Ext own α H α' H') (hs : o.mov → ∀ u, H a = some u → H' a = some u) : RepO G H' α' a o := by
  cases o with
  | lst ds => obtain ⟨xs, h, r⟩ := h; exact ⟨xs, hs trivial _ h, r.ext e⟩
  | cst ds => obtain ⟨xs, h, r⟩ := h; exact ⟨xs, h.ext e, r.ext e⟩
  | dic kvs => obtain ⟨ks, h, r⟩ := h; exact ⟨ks, hs trivial _ h, r.ext e⟩
  | dit kvs => obtain ⟨ks, h, r⟩ := h; exact ⟨ks, hs trivial _ h, r.ext e⟩
  | ins c fs => obtain ⟨C, dx, vs, hc, h, r⟩ := h; exact ⟨C, dx, vs, hc, hs trivial _ h, r.ext e⟩
theorem Ext.notin (e : Ext own α H α' H') {a : Addr} {u : HO} (h : H a = some u) (hn : a ∉ α) (ho : ¬ own a) : a ∉ α' := by
  obtain ⟨β, rfl, p⟩ := e.pre
  intro z
  rcases List.mem_append.mp z with z | z
  · exact hn z
  · rcases p a z with q | q
    · rw [h] at q; cases q
    · exact ho q
theorem RepO.kept {a : Addr} {o : O} (h : RepO G H α a o) (m : o.mov) (hn : a ∉ α) (ho : ¬ own a) (e : Ext own α H α' H') : RepO G H' α' a o ∧ a ∉ α' := by
  obtain ⟨u, hu⟩ := h.has m
  exact ⟨RepO.ext h e fun _ w hw => e.keep _ _ hw hn ho, e.notin hu hn ho⟩
theorem RepB.ext {a : Addr} {o : O} {ow : Addr → Prop} (h : RepB G H α ow a o) (e : Ext own α H α' H') (ho : ∀ a, own a → ow a) : RepB G H' α' ow a o := by
  obtain ⟨h, q⟩ := h
  refine ⟨RepO.ext h e fun m w hw => e.keep _ _ hw (q m).1 fun z => (q m).2 (ho _ z), fun m => ?_⟩
  exact ⟨(RepO.kept h m (q m).1 (fun z => (q m).2 (ho _ z)) e).2, (q m).2⟩
theorem RepE.ext (h : RepE G H α σ env) (e : Ext Non α H α' H') : RepE G H' α' σ env := by
  refine ⟨h.len, fun i r hi => ?_, h.sep⟩
  obtain ⟨v, hv, q⟩ := h.val i r hi
  refine ⟨v, hv, ?_⟩
  cases r with
  | v d => exact Rep.ext e q
  | l o =>
    obtain ⟨a, rfl, hn, q, m⟩ := q
    obtain ⟨h1, h2⟩ := RepO.kept q m hn (fun z => z) e
    exact ⟨a, rfl, h2, h1, m⟩
  | o o => exact q
  | b o =>
    obtain ⟨a, rfl, q⟩ := q
    exact ⟨a, rfl, RepB.ext q e fun _ z => z.elim⟩
theorem RepR.ext {fr ow : Addr → Prop} {v : V} {r : R} (h : RepR G H α fr ow v r) (e : Ext Non α H α' H') : RepR G H' α' fr ow v r := by
  cases r with
  | v d => exact Rep.ext e h
  | l o =>
    obtain ⟨a, rfl, hf, hn, q, m⟩ := h
    obtain ⟨h1, h2⟩ := RepO.kept q m hn (fun z => z) e
    exact ⟨a, rfl, hf, h2, h1, m⟩
  | o o =>
    obtain ⟨a, rfl, q⟩ := h
    exact ⟨a, rfl, RepB.ext q e fun _ z => z.elim⟩
  | b o =>
    obtain ⟨a, rfl, q⟩ := h
    exact ⟨a, rfl, RepB.ext q e fun _ z => z.elim⟩
theorem RepR.mono {fr fr' ow : Addr → Prop} {v : V} {r : R} (h : RepR G H α fr ow v r) (hf : ∀ a, fr a → fr' a) : RepR G H α fr' ow v r := by
  cases r with
  | l o => obtain ⟨a, rfl, h1, h2, q⟩ := h; exact ⟨a, rfl, hf a h1, h2, q⟩
  | _ => exact h
theorem RepL.length : ∀ {vs : List V} {ds : List D}, RepL G H α vs ds → vs.length = ds.length
  | _, _, .nil => rfl
  | _, _, .cons _ s => congrArg (· + 1) (RepL.length s)
theorem RepL.append : ∀ {vs ws : List V} {ds es : List D}, RepL G H α vs ds → RepL G H α ws es → RepL G H α (vs ++ ws) (ds ++ es)
  | _, _, _, _, .nil, h => h
  | _, _, _, _, .cons r s, h => .cons r (RepL.append s h)
theorem RepL.get : ∀ {vs : List V} {ds : List D} {i : Nat} {d : D}, RepL G H α vs ds → ds[i]? = some d → ∃ v, vs[i]? = some v ∧ Rep G H α v d
  | _, _, _, _, .nil, e => by simp at e
  | _, _, 0, _, .cons r _, e => by simp at e; subst e; exact ⟨_, rfl, r⟩
  | _, _, i + 1, d, .cons _ s, e => by
    obtain ⟨v, h1, h2⟩ := RepL.get (i := i) (d := d) s (by simpa using e)
    exact ⟨v, by simpa using h1, h2⟩
theorem RepL.take : ∀ {vs : List V} {ds : List D} (n : Nat), RepL G H α vs ds → RepL G H α (vs.take n) (ds.take n)
  | _, _, 0, _ => .nil
  | _, _, _ + 1, .nil => .nil
  | _, _, n + 1, .cons r s => .cons r (RepL.take n s)
theorem RepL.drop : ∀ {vs : List V} {ds : List D} (n : Nat), RepL G H α vs ds → RepL G H α (vs.drop n) (ds.drop n)
  | _, _, 0, h => h
  | _, _, _ + 1, .nil => .nil
  | _, _, n + 1, .cons _ s => RepL.drop n s
theorem RepL.reverse : ∀ {vs : List V} {ds : List D}, RepL G H α vs ds → RepL G H α vs.reverse ds.reverse
  | _, _, .nil => .nil
  | _, _, .cons r s => by rw [List.reverse_cons, List.reverse_cons]; exact (RepL.reverse s).append (.cons r .nil)
theorem RepL.set {v : V} {d : D} (r : Rep G H α v d) : ∀ {vs : List V} {ds : List D} (i : Nat), RepL G H α vs ds → RepL G H α (vs.set i v) (ds.set i d)
  | _, _, _, .nil => .nil
  | _, _, 0, .cons _ s => .cons r s
  | _, _, i + 1, .cons q s => .cons q (RepL.set r i s)
theorem RepL.repl {v : V} {d : D} (r : Rep G H α v d) : ∀ (n : Nat), RepL G H α (List.replicate n v) (List.replicate n d)
  | 0 => .nil
  | n + 1 => .cons r (RepL.repl r n)
theorem RepL.flat {vs : List V} {ds : List D} (r : RepL G H α vs ds) : ∀ (n : Nat), RepL G H α (List.replicate n vs).flatten (List.replicate n ds).flatten
  | 0 => .nil
  | n + 1 => by
    (rw [List.replicate_succ, List.replicate_succ, List.flatten_cons, List.flatten_cons]); exact r.append (RepL.flat r n)
theorem RepL.dropLast {vs : List V} {ds : List D} (r : RepL G H α vs ds) : RepL G H α vs.dropLast ds.dropLast := by
  rw [List.dropLast_eq_take, List.dropLast_eq_take, r.length]
  exact r.take _
theorem RepL.erase : ∀ {vs : List V} {ds : List D} (i : Nat), RepL G H α vs ds → RepL G H α (vs.eraseIdx i) (ds.eraseIdx i)
  | _, _, _, .nil => .nil
  | _, _, 0, .cons _ s => s
  | _, _, i + 1, .cons q s => .cons q (RepL.erase i s)
theorem RepL.ints : ∀ {vs : List V} {ns : List Int}, RepL G H α vs (ns.map .int) → vs = ns.map .int
  | _, [], .nil => rfl
  | _, n :: ns, .cons r s => by
    cases r
    rw [RepL.ints s]
    rfl
theorem RepL.ofInts : ∀ (ns : List Int), RepL G H α (ns.map .int) (ns.map .int)
  | [] => .nil
  | n :: ns => .cons (.int n) (RepL.ofInts ns)
theorem RepL.bools : ∀ {vs : List V} {ns : List Bool}, RepL G H α vs (ns.map .bl) → vs = ns.map .bl
  | _, [], .nil => rfl
  | _, n :: ns, .cons r s => by
    cases r
    rw [RepL.bools s]
    rfl
/-! ### a new object -/
theorem RepS.fresh {p : Addr} (h : RepS G H α st) (hp : H p = none) : p ∉ α := fun z => by
  obtain ⟨n, hn⟩ := List.mem_iff_getElem?.mp z
  have hl : n < st.length := by rw [← h.len]; exact (List.getElem?_eq_some_iff.mp hn).1
  have ho : st[n]? = some st[n] := List.getElem?_eq_getElem hl
  obtain ⟨u, hu⟩ := (h.obj n _ p ho hn).has (h.mv n _ ho)
  rw [hp] at hu; cases hu
theorem Ext.new {p : Addr} {u : HO} (hp : H p = none) : Ext own α H α (upd H p u) :=
  have ne : ∀ {a : Addr} {o : HO}, H a = some o → upd H p u a = some o := fun h => by rw [upd_ne (ne_of_none h hp)]; exact h
  ⟨⟨[], by simp, by simp⟩, fun a o h _ _ => ne h, fun a h => by
    by_cases e : a = p
    · subst e; exact hp
    · rw [upd_ne e] at h; exact h, fun _ _ h => ne h, fun _ _ _ h => ne h⟩
theorem RepS.ext {α : List Addr} (h : RepS G H α st) (e : Ext own α H α H') (hs : ∀ a u, H a = some u → H' a = some u) : RepS G H' α st :=
  ⟨h.len, h.nd, fun n o a h1 h2 => RepO.ext (h.obj n o a h1 h2) e fun _ u hu => hs a u hu, h.mv⟩
theorem RepS.new {p : Addr} {u : HO} (h : RepS G H α st) (hp : H p = none) : RepS G (upd H p u) α st :=
  h.ext (Ext.new (own := Non) hp) fun a w hw => by rw [upd_ne (ne_of_none hw hp)]; exact hw
end
end Mi
/-! Mi: the readings of expressions as computations over pure data. -/
namespace Mi
open PySem PySem.Spec PyProof.Rows L2

abbrev Fresh (H : Hp) : Addr → Prop := fun a => H a = none
abbrev All : Addr → Prop := fun _ => True
def tE (G : Kx) (m : Env → M R) : TE := fun σ H Q => ∃ α env st r st', RepE G H α σ env ∧ RepS G H α st ∧ m env st = some (r, st') ∧
  ∀ v α' H', Ext Non α H α' H' → RepS G H' α' st' → RepR G H' α' (Fresh H) (Own σ env) v r → Q v H'
def tT (G : Kx) (m : Env → M Bool) : TT := fun σ H Q => ∃ α env st r st', RepE G H α σ env ∧ RepS G H α st ∧ m env st = some (r, st') ∧
  ∀ α' H', Ext Non α H α' H' → RepS G H' α' st' → Q r H'
/-- the new lists among some values -/
def Tmp (vs : List V) (rs : List R) (a : Addr) : Prop := ∃ (i : Nat) (o : O), rs[i]? = some (.l o) ∧ vs[i]? = some (.ref a)
inductive RepRs (G : Kx) (H : Hp) (α : List Addr) (fr own : Addr → Prop) : List V → List R → Prop
  | nil : RepRs G H α fr own [] []
  | cons {v : V} {vs : List V} {r : R} {rs : List R} : RepR G H α fr own v r → RepRs G H α fr own vs rs → (∀ o a, r = .l o → v = .ref a → ¬ Tmp vs rs a) → RepRs G H α fr own (v :: vs) (r :: rs)
def tA (G : Kx) (m : Env → M (List R)) : TA := fun σ H Q => ∃ α env st r st', RepE G H α σ env ∧ RepS G H α st ∧ m env st = some (r, st') ∧
  ∀ vs α' H', Ext Non α H α' H' → RepS G H' α' st' → RepRs G H' α' (Fresh H) (Own σ env) vs r → Q vs H'
theorem RepRs.ext {G : Kx} {H H' : Hp} {α α' : List Addr} {fr own : Addr → Prop} (e : Ext Non α H α' H') : ∀ {vs : List V} {rs : List R}, RepRs G H α fr own vs rs → RepRs G H' α' fr own vs rs
  | _, _, .nil => .nil
  | _, _, .cons r s d => .cons (r.ext e) (s.ext e) d
theorem RepRs.mono {G : Kx} {H : Hp} {α : List Addr} {fr fr' own : Addr → Prop} (h : ∀ a, fr a → fr' a) : ∀ {vs : List V} {rs : List R}, RepRs G H α fr own vs rs → RepRs G H α fr' own vs rs
  | _, _, .nil => .nil
  | _, _, .cons r s d => .cons (r.mono h) (s.mono h) d
theorem RepRs.tmp {G : Kx} {H : Hp} {α : List Addr} {fr own : Addr → Prop} {a : Addr} : ∀ {vs : List V} {rs : List R}, RepRs G H α fr own vs rs → Tmp vs rs a → fr a
  | _, _, .nil, ⟨i, o, h, _⟩ => by simp at h
  | _, _, .cons r s d, ⟨0, o, h1, h2⟩ => by
    simp at h1 h2
    subst h1 h2
    obtain ⟨b, e, hf, _⟩ := r
    cases e
    exact hf
  | _, _, .cons r s d, ⟨i + 1, o, h1, h2⟩ => s.tmp ⟨i, o, by simpa using h1, by simpa using h2⟩
theorem RepRs.length {G : Kx} {H : Hp} {α : List Addr} {fr own : Addr → Prop} : ∀ {vs : List V} {rs : List R}, RepRs G H α fr own vs rs → vs.length = rs.length
  | _, _, .nil => rfl
  | _, _, .cons r s _ => congrArg (· + 1) s.length
theorem _root_.L2.PE.wk {X : Cx} {e : Expr} {t t' : TE} (h : PE X e t) (w : ∀ σ H Q, t' σ H Q → t σ H Q) : PE X e t' := ⟨fun pins s σ H Q I h' => h.run pins s σ H Q I (w _ _ _ h')⟩
theorem _root_.L2.PT.wk {X : Cx} {e : Expr} {t t' : TT} (h : PT X e t) (w : ∀ σ H Q, t' σ H Q → t σ H Q) : PT X e t' := ⟨fun pins s σ H Q I h' => h.run pins s σ H Q I (w _ _ _ h')⟩
theorem _root_.L2.PW.wk {X : Cx} {e : Expr} {t t' : TT} (h : PW X e t) (w : ∀ σ H Q, t' σ H Q → t σ H Q) : PW X e t' := ⟨fun wh pins s σ H Q I h' => h.run wh pins s σ H Q I (w _ _ _ h')⟩
theorem _root_.L2.PA.wk {X : Cx} {e : List Expr} {t t' : TA} (h : PA X e t) (w : ∀ σ H Q, t' σ H Q → t σ H Q) : PA X e t' := ⟨fun p pins s σ H Q I h' => h.run p pins s σ H Q I (w _ _ _ h')⟩
theorem _root_.L2.PS.wk {X : Cx} {e : Stmt} {t t' : TS} (h : PS X e t) (w : ∀ D σ H, t' D σ H → t D σ H) : PS X e t' := ⟨fun pins s σ H D I h' => h.run pins s σ H D I (w _ _ _ h')⟩
theorem _root_.L2.PSs.wk {X : Cx} {e : List Stmt} {t t' : TS} (h : PSs X e t) (w : ∀ D σ H, t' D σ H → t D σ H) : PSs X e t' := ⟨fun pins s σ H D I h' => h.run pins s σ H D I (w _ _ _ h')⟩
abbrev gx (X : Cx) (C : List Addr) : Kx := ⟨X.K, C⟩
abbrev SimE (X : Cx) (C : List Addr) (e : Expr) (m : Env → M R) : Prop := PE X e (tE (gx X C) m)
abbrev SimT (X : Cx) (C : List Addr) (e : Expr) (m : Env → M Bool) : Prop := PT X e (tT (gx X C) m)
abbrev SimW (X : Cx) (C : List Addr) (e : Expr) (m : Env → M Bool) : Prop := PW X e (tT (gx X C) m)
abbrev SimA (X : Cx) (C : List Addr) (e : List Expr) (m : Env → M (List R)) : Prop := PA X e (tA (gx X C) m)

/-! ### names and constants -/
def rdSlot : R → R
  | .v d => .v d
  | .l o => .o o
  | .b o => .b o
  | .o o => .o o
def eVar (i : Nat) : Env → M R := fun env st => match env[i]? with
  | some (some r) => some (rdSlot r, st)
  | _ => none
def eC (d : D) : Env → M R := fun _ st => some (.v d, st)
section
variable {X : Cx} {C : List Addr}
theorem var {i : Nat} {x : Str} {pos : Pos} (hN : X.N[i]? = some x) (hv : Vis X.env.scope x) (hd : (x == ("__debug__" : Str)) = false := by decide) (hcd : (x == ("__classdict__" : Str)) = false := by decide) : SimE X C (.Name x pos) (eVar i) := by
  refine (pe_var hN hv hd hcd).wk fun σ H Q h => ?_
  obtain ⟨α, env, st, r, st', hE, hS, hm, k⟩ := h
  unfold eVar at hm
  cases q : env[i]? with
  | none => rw [q] at hm; cases hm
  | some o =>
    cases o with
    | none => rw [q] at hm; cases hm
    | some r0 =>
      rw [q] at hm
      injection hm with hm
      injection hm with h1 h2
      subst h1 h2
      obtain ⟨v, hv, rs⟩ := hE.val i r0 q
      refine ⟨v, hv, k v α H Ext.rfl' hS ?_⟩
      cases r0 with
      | v d => exact rs
      | l o =>
        obtain ⟨a, rfl, hn, ro, m⟩ := rs
        exact ⟨a, rfl, ro, fun _ => ⟨hn, fun z => z⟩⟩
      | o o => exact rs.elim
      | b o => exact rs
theorem con {e : Expr} {v : V} {d : D} (h : PE X e (tC v)) (r : ∀ H α, Rep (gx X C) H α v d) : SimE X C e (eC d) := by
  refine h.wk fun σ H Q h => ?_
  obtain ⟨α, env, st, r', st', hE, hS, hm, k⟩ := h
  injection hm with hm
  injection hm with h1 h2
  subst h1 h2
  exact k v α H Ext.rfl' hS (r H α)
theorem cint {i : Int} {j : Nat} {pos : Pos} : SimE X C (.Constant (.int i) j pos) (eC (.int i)) := con pe_int fun _ _ => .int i
theorem cbl {b : Bool} {j : Nat} {pos : Pos} : SimE X C (.Constant (.bool b) j pos) (eC (.bl b)) := con pe_bl fun _ _ => .bl b
theorem cnon {j : Nat} {pos : Pos} : SimE X C (.Constant .none j pos) (eC .non) := con pe_non fun _ _ => .non
theorem cstr {x : Str} {j : Nat} {pos : Pos} : SimE X C (.Constant (.str x) j pos) (eC (.str x)) := con pe_str fun _ _ => .str x
theorem glob {x : Str} {v : V} {d : D} {u : Value} {pos : Pos} (hg : Gl X x) (hm : X.mg x = some u) (r : RelV v u) (r2 : ∀ H α, Rep (gx X C) H α v d) (hd : (x == ("__debug__" : Str)) = false := by decide) : SimE X C (.Name x pos) (eC d) := con (pe_glob hg hm r hd) r2

/-! ### operations on values -/
def rU1 (G : Kx) (g : R → M R) : V → Hp → VK → Prop := fun x H Q => ∃ α own st rx r st', RepR G H α All own x rx ∧ RepS G H α st ∧ g rx st = some (r, st') ∧
  ∀ v α' H', Ext Non α H α' H' → RepS G H' α' st' → RepR G H' α' (Fresh H) own v r → Q v H'
def rU2 (G : Kx) (g : R → R → M R) : V → V → Hp → VK → Prop := fun x y H Q => ∃ α own st rx ry r st', RepR G H α All own x rx ∧ RepR G H α All own y ry ∧ RepS G H α st ∧ g rx ry st = some (r, st') ∧
  ∀ v α' H', Ext Non α H α' H' → RepS G H' α' st' → RepR G H' α' (Fresh H) own v r → Q v H'
def eU (g : R → M R) (ma : Env → M R) : Env → M R := fun env => ma env >>= g
def eOp (g : R → R → M R) (ma mb : Env → M R) : Env → M R := fun env => ma env >>= fun a => mb env >>= fun b => g a b
theorem to1 {G : Kx} {g : R → M R} {ma : Env → M R} {σ : St} {H : Hp} {Q : VK} (h : tE G (eU g ma) σ H Q) : tE G ma σ H fun x H1 => rU1 G g x H1 Q := by
  obtain ⟨α, env, st, r, st', hE, hS, hm, k⟩ := h
  obtain ⟨ra, s1, e1, e2⟩ := bind_run hm
  exact ⟨α, env, st, ra, s1, hE, hS, e1, fun x α1 H1 X1 S1 R1 => ⟨α1, Own σ env, s1, ra, r, st', R1.mono (fun _ _ => trivial), S1, e2, fun v α2 H2 X2 S2 R2 =>
    k v α2 H2 (X1.trans0 X2) S2 (R2.mono fun a h => X1.dom _ h)⟩⟩
theorem to2 {G : Kx} {g : R → R → M R} {ma mb : Env → M R} {σ : St} {H : Hp} {Q : VK} (h : tE G (eOp g ma mb) σ H Q) : tOp (rU2 G g) (tE G ma) (tE G mb) σ H Q := by
  obtain ⟨α, env, st, r, st', hE, hS, hm, k⟩ := h
  obtain ⟨ra, s1, e1, hm⟩ := bind_run hm
  obtain ⟨rb, s2, e2, e3⟩ := bind_run hm
  exact ⟨α, env, st, ra, s1, hE, hS, e1, fun x α1 H1 X1 S1 R1 => ⟨α1, env, s1, rb, s2, hE.ext X1, S1, e2, fun y α2 H2 X2 S2 R2 =>
    ⟨α2, Own σ env, s2, ra, rb, r, st', (R1.ext X2).mono (fun _ _ => trivial), R2.mono (fun _ _ => trivial), S2, e3, fun v α3 H3 X3 S3 R3 =>
      k v α3 H3 ((X1.trans0 X2).trans0 X3) S3 (R3.mono fun a h => X1.dom _ (X2.dom _ h))⟩⟩⟩
abbrev OpS (X : Cx) (C : List Addr) (f : Value → Value → Sem Value) (g : R → R → M R) : Prop := OpR X f (rU2 (gx X C) g)
abbrev UnS (X : Cx) (C : List Addr) (f : Value → Sem Value) (g : R → M R) : Prop := UnR X f (rU1 (gx X C) g)
theorem _root_.L2.OpR.wk {f : Value → Value → Sem Value} {r r' : R2} (h : OpR X f r) (w : ∀ x y H Q, r' x y H Q → r x y H Q) : OpR X f r' := fun pins s σ H x y v u Q I rx ry q => h pins s σ H x y v u Q I rx ry (w _ _ _ _ q)
theorem _root_.L2.UnR.wk {f : Value → Sem Value} {r r' : V → Hp → VK → Prop} (h : UnR X f r) (w : ∀ x H Q, r' x H Q → r x H Q) : UnR X f r' := fun pins s σ H x v Q I rx q => h pins s σ H x v Q I rx (w _ _ _ q)
theorem _root_.L2.IxR.wk {r r' : R2} (h : IxR X r) (w : ∀ x y H Q, r' x y H Q → r x y H Q) : IxR X r' := fun a b pins s σ H x y v u Q I rx ry q => h a b pins s σ H x y v u Q I rx ry (w _ _ _ _ q)
theorem _root_.L2.SlR.wk {r r' : V → Option Int → Option Int → Hp → VK → Prop} (h : SlR X r) (w : ∀ x a b H Q, r' x a b H Q → r x a b H Q) : SlR X r' := fun pins s σ H x v vl vu lo hi sl Q I rx h1 h2 h3 q => h pins s σ H x v vl vu lo hi sl Q I rx h1 h2 h3 (w _ _ _ _ _ q)
theorem _root_.L2.CallR.wk {f : Value} {r r' : List V → Hp → VK → Prop} (h : CallR X f r) (w : ∀ xs H Q, r' xs H Q → r xs H Q) : CallR X f r' := fun pins s σ H xs us Q I rx q => h pins s σ H xs us Q I rx (w _ _ _ q)
theorem bin {op : Operator} {g : R → R → M R} {a b : Expr} {ma mb : Env → M R} {pos : Pos} (ho : OpS X C (binaryOp op) g) (ha : SimE X C a ma) (hb : SimE X C b mb) : SimE X C (.BinOp a op b pos) (eOp g ma mb) :=
  (pe_op ho ha hb).wk fun _ _ _ h => to2 h
theorem un {op : UnaryOp} {g : R → M R} {a : Expr} {ma : Env → M R} {pos : Pos} (ho : UnS X C (unaryOp op) g) (ha : SimE X C a ma) : SimE X C (.UnaryOp op a pos) (eU g ma) :=
  (pe_un ho ha).wk fun _ _ _ h => to1 h
theorem cmp {op : CmpOp} {g : R → R → M R} {a b : Expr} {ma mb : Env → M R} {pos : Pos} (ho : OpS X C (compareOp op) g) (ha : SimE X C a ma) (hb : SimE X C b mb) (hm : behindInMarks op b = false) : SimE X C (.Compare a [op] [b] pos) (eOp g ma mb) :=
  (pe_cmpR ho ha hb hm).wk fun _ _ _ h => to2 h

/-! ### the operators -/
def iv : Int → R := fun i => .v (.int i)
def bv : Bool → R := fun b => .v (.bl b)
def gI (c : Int → Int → Bool) (f : Int → Int → R) : R → R → M R
  | .v (.int i), .v (.int j) => if c i j = true then pure (f i j) else M.fail
  | _, _ => M.fail
def lenOk (n : Nat) : Bool := decide (n ≤ 16777216)
theorem lenOk_le {n : Nat} (h : lenOk n = true) : n ≤ sizeLine := by
  have := of_decide_eq_true h
  rw [sizeLine_eq]
  exact this
end

/-- a list that may be changed -/
def asLst : R → M (List D)
  | .l (.lst ds) => pure ds
  | .o (.lst ds) => pure ds
  | .b (.lst ds) => pure ds
  | .v (.obj n) => fun st => match st[n]? with
    | some (.lst ds) => some (ds, st)
    | _ => none
  | _ => M.fail
/-- a list, a tuple -/
def asSeq : R → M (List D)
  | .v (.tup ds) => pure ds
  | .o (.cst ds) => pure ds
  | .b (.cst ds) => pure ds
  | r => asLst r
section
variable {G : Kx} {H : Hp} {α : List Addr} {fr own : Addr → Prop} {st st' : Sto} {v : V} {r : R} {ds : List D}
theorem asLst_ok (hr : RepR G H α fr own v r) (hS : RepS G H α st) (h : asLst r st = some (ds, st')) : st' = st ∧ ∃ a xs, v = .ref a ∧ H a = some (.lst xs) ∧ RepL G H α xs ds := by
  have no : ∀ {p : Prop}, (none : Option (List D × Sto)) = some (ds, st') → p := fun h => nomatch h
  cases r with
  | v d =>
    cases d with
    | obj n =>
      have h' : (match st[n]? with | some (.lst ds) => some (ds, st) | _ => none) = some (ds, st') := h
      split at h'
      · rename_i ds' q
        injection h' with h'
        injection h' with h1 h2
        subst h1 h2
        cases hr with
        | obj ha =>
          obtain ⟨xs, h1, h2⟩ := hS.obj n _ _ q ha
          exact ⟨rfl, _, xs, rfl, h1, h2⟩
      · cases h'
    | _ => exact no h
  | l o =>
    cases o with
    | lst ds =>
      obtain ⟨rfl, rfl⟩ := pure_inv h
      obtain ⟨a, rfl, _, _, ⟨xs, h1, h2⟩, _⟩ := hr
      exact ⟨rfl, a, xs, rfl, h1, h2⟩
    | _ => exact no h
  | o o =>
    cases o with
    | lst ds =>
      obtain ⟨rfl, rfl⟩ := pure_inv h
      obtain ⟨a, rfl, ⟨xs, h1, h2⟩, _⟩ := hr
      exact ⟨rfl, a, xs, rfl, h1, h2⟩
    | _ => exact no h
  | b o =>
    cases o with
    | lst ds =>
      obtain ⟨rfl, rfl⟩ := pure_inv h
      obtain ⟨a, rfl, ⟨xs, h1, h2⟩, _⟩ := hr
      exact ⟨rfl, a, xs, rfl, h1, h2⟩
    | _ => exact no h
theorem asSeq_ok (hr : RepR G H α fr own v r) (hS : RepS G H α st) (h : asSeq r st = some (ds, st')) : st' = st ∧ ∃ a xs, v = .ref a ∧ (SqL G.K H a xs ∨ SqT G.K H a xs) ∧ RepL G H α xs ds := by
  unfold asSeq at h
  split at h
  · obtain ⟨rfl, rfl⟩ := pure_inv h
    cases hr with
    | tup h1 h2 => exact ⟨rfl, _, _, rfl, .inr h1, h2⟩
  · obtain ⟨rfl, rfl⟩ := pure_inv h
    obtain ⟨a, rfl, ⟨xs, h1, h2⟩, _⟩ := hr
    exact ⟨rfl, a, xs, rfl, .inl h1.sq, h2⟩
  · obtain ⟨rfl, rfl⟩ := pure_inv h
    obtain ⟨a, rfl, ⟨xs, h1, h2⟩, _⟩ := hr
    exact ⟨rfl, a, xs, rfl, .inl h1.sq, h2⟩
  · obtain ⟨rfl, a, xs, rfl, h1, h2⟩ := asLst_ok hr hS h
    exact ⟨rfl, a, xs, rfl, .inl (SqL.of h1), h2⟩
/-- the end: a plain value -/
theorem endV {x : V} {d : D} {st : Sto} {Q : VK} (k : ∀ v α' H', Ext Non α H α' H' → RepS G H' α' st → RepR G H' α' (Fresh H) own v (.v d) → Q v H') (hS : RepS G H α st) (h : Rep G H α x d) : Q x H := k x α H Ext.rfl' hS h
/-- the end: a new list -/
theorem endL {p : Addr} {xs : List V} {ds : List D} {st : Sto} {Q : VK} (k : ∀ v α' H', Ext Non α H α' H' → RepS G H' α' st → RepR G H' α' (Fresh H) own v (.l (.lst ds)) → Q v H') (hS : RepS G H α st) (hp : H p = none) (h : RepL G H α xs ds) : Q (.ref p) (upd H p (.lst xs)) :=
  k _ α _ (Ext.new hp) (hS.new hp) ⟨p, rfl, hp, hS.fresh hp, ⟨xs, upd_same, h.ext (Ext.new (own := Non) hp)⟩, trivial⟩
/-- the end: a new tuple -/
theorem endT {p : Addr} {xs : List V} {ds : List D} {st : Sto} {Q : VK} (k : ∀ v α' H', Ext Non α H α' H' → RepS G H' α' st → RepR G H' α' (Fresh H) own v (.v (.tup ds)) → Q v H') (hS : RepS G H α st) (hp : H p = none) (h : RepL G H α xs ds) : Q (.ref p) (upd H p (.tup xs)) :=
  k _ α _ (Ext.new hp) (hS.new hp) (.tup (SqT.of upd_same) (h.ext (Ext.new (own := Non) hp)))
end
section
variable {X : Cx} {C : List Addr}
theorem gI_ok {f : Value → Value → Sem Value} {c : Int → Int → Bool} {P : Int → Int → Prop} {h : Int → Int → V} {d : Int → Int → D} (ho : OpR X f (rI P h)) (hc : ∀ i j, c i j = true → P i j) (hd : ∀ H α i j, Rep (gx X C) H α (h i j) (d i j)) : OpS X C f (gI c fun i j => .v (d i j)) := by
  refine ho.wk fun x y H Q q => ?_
  obtain ⟨α, own, st, rx, ry, r, st', hx, hy, hS, hm, k⟩ := q
  unfold gI at hm
  split at hm
  · rename_i i j
    cases hx
    cases hy
    split at hm
    · rename_i hcc
      obtain ⟨rfl, rfl⟩ := pure_inv hm
      exact ⟨i, j, rfl, rfl, hc i j hcc, endV k hS (hd H α i j)⟩
    · cases hm
  · cases hm
theorem gI_ok0 {f : Value → Value → Sem Value} {h : Int → Int → V} {d : Int → Int → D} (ho : OpR X f (rI0 h)) (hd : ∀ H α i j, Rep (gx X C) H α (h i j) (d i j)) : OpS X C f (gI (fun _ _ => true) fun i j => .v (d i j)) := by
  refine ho.wk fun x y H Q q => ?_
  obtain ⟨α, own, st, rx, ry, r, st', hx, hy, hS, hm, k⟩ := q
  unfold gI at hm
  split at hm
  · rename_i i j
    cases hx
    cases hy
    rw [if_pos rfl] at hm
    obtain ⟨rfl, rfl⟩ := pure_inv hm
    exact ⟨i, j, rfl, rfl, endV k hS (hd H α i j)⟩
  · cases hm
def gAdd : R → R → M R
  | .v (.int i), .v (.int j) => pure (iv (i + j))
  | .v (.str x), .v (.str y) => if lenOk (x.length + y.length) = true then pure (.v (.str (x ++ y))) else M.fail
  | .v (.tup xs), .v (.tup ys) => if lenOk (xs.length + ys.length) = true then pure (.v (.tup (xs ++ ys))) else M.fail
  | a, b => asLst a >>= fun xs => asLst b >>= fun ys => if lenOk (xs.length + ys.length) = true then pure (.l (.lst (xs ++ ys))) else M.fail
theorem op_addD : OpS X C (binaryOp .Add) gAdd := by
  refine (op_add.or (op_add_str.or (op_catA.or op_cat))).wk fun x y H Q q => ?_
  obtain ⟨α, own, st, rx, ry, r, st', hx, hy, hS, hm, k⟩ := q
  unfold gAdd at hm
  split at hm
  · rename_i i j
    cases hx; cases hy
    obtain ⟨rfl, rfl⟩ := pure_inv hm
    exact .inl ⟨i, j, rfl, rfl, endV k hS (.int _)⟩
  · rename_i a b
    cases hx; cases hy
    split at hm
    · rename_i hl
      obtain ⟨rfl, rfl⟩ := pure_inv hm
      exact .inr (.inl ⟨a, b, rfl, rfl, lenOk_le hl, endV k hS (.str _)⟩)
    · cases hm
  · rename_i xs ys
    cases hx with
    | tup h1 h2 =>
      rename_i a xs'
      cases hy with
      | tup g1 g2 =>
        rename_i b ys'
        split at hm
        · rename_i hl
          obtain ⟨rfl, rfl⟩ := pure_inv hm
          refine .inr (.inr (.inl ⟨a, b, xs', ys', rfl, rfl, h1, g1, by rw [h2.length, g2.length]; exact lenOk_le hl, fun e => ?_, fun _ e => ?_, fun _ _ p hp => ?_⟩))
          · subst e
            cases h2
            exact endV k hS (.tup g1 g2)
          · subst e
            cases g2
            refine endV k hS (.tup h1 ?_)
            rw [List.append_nil]
            exact h2
          · exact endT k hS hp (h2.append g2)
        · cases hm
  · obtain ⟨xs, s1, e1, hm1⟩ := bind_run hm
    obtain ⟨ys, s2, e2, hm2⟩ := bind_run hm1
    clear hm hm1
    obtain ⟨rfl, a, xs', rfl, h1, h2⟩ := asLst_ok hx hS e1
    obtain ⟨rfl, b, ys', rfl, g1, g2⟩ := asLst_ok hy hS e2
    split at hm2
    · rename_i hl
      obtain ⟨rfl, rfl⟩ := pure_inv hm2
      exact .inr (.inr (.inr ⟨a, b, xs', ys', rfl, rfl, h1, g1, by rw [h2.length, g2.length]; exact lenOk_le hl, fun p hp => endL k hS hp (h2.append g2)⟩))
    · cases hm2
def gSub := gI (fun _ _ => true) fun i j => .v (.int (i - j))
theorem op_subD : OpS X C (binaryOp .Sub) gSub := gI_ok0 op_sub fun _ _ _ _ => .int _
def cMul (i j : Int) : Bool := ((decide (-18446744073709551616 < i) && decide (i < 18446744073709551616)) || (decide (-18446744073709551616 < j) && decide (j < 18446744073709551616))) || decide ((Builtin.Int.intBits i : Int) + (Builtin.Int.intBits j : Int) ≤ 134217728)
theorem op_mulO : OpR X (binaryOp .Mult) (rI IntMulOk fun i j => .int (i * j)) := opI fun _ _ _ _ _ _ _ hc q => mul_int q hc
theorem op_powO : OpR X (binaryOp .Pow) (rI (fun i j => 0 ≤ j ∧ (Builtin.Int.intBits i : Int) * j ≤ 2 ^ 27) fun i j => .int (i ^ j.toNat)) := opI fun _ _ _ _ _ _ _ hc q => pow_int hc.1 hc.2 q
def gMul : R → R → M R
  | .v (.int i), .v (.int j) => if cMul i j = true then pure (iv (i * j)) else M.fail
  | .v (.tup xs), .v (.int k) => if (decide (2 ≤ k) && decide (k ≤ 1000) && decide (xs.length ≤ 1000) && !xs.isEmpty) = true then pure (.v (.tup (List.replicate k.toNat xs).flatten)) else M.fail
  | a, .v (.int k) => asLst a >>= fun xs => if (decide (-(2 ^ 63) ≤ k) && decide (k < 2 ^ 63) && lenOk (xs.length * k.toNat)) = true then pure (.l (.lst (List.replicate k.toNat xs).flatten)) else M.fail
  | _, _ => M.fail
theorem op_mulD : OpS X C (binaryOp .Mult) gMul := by
  refine (op_mulO.or (op_repT.or op_rep)).wk fun x y H Q q => ?_
  obtain ⟨α, own, st, rx, ry, r, st', hx, hy, hS, hm, k⟩ := q
  unfold gMul at hm
  split at hm
  · rename_i i j
    cases hx; cases hy
    split at hm
    · rename_i hc
      obtain ⟨rfl, rfl⟩ := pure_inv hm
      refine .inl ⟨i, j, rfl, rfl, ?_, endV k hS (.int _)⟩
      unfold cMul at hc
      rw [Bool.or_eq_true] at hc
      rcases hc with hc | hc
      · exact CMul.ok (by simpa [CMul] using hc)
      · have h2 := of_decide_eq_true hc
        exact CMulX.ok h2
    · cases hm
  · rename_i xs n
    cases hx with
    | tup h1 h2 =>
      cases hy
      split at hm
      · rename_i hc
        obtain ⟨rfl, rfl⟩ := pure_inv hm
        simp only [Bool.and_eq_true, decide_eq_true_eq, Bool.not_eq_true', List.isEmpty_eq_false_iff] at hc
        obtain ⟨⟨⟨c1, c2⟩, c3⟩, c4⟩ := hc
        refine .inr (.inl ⟨_, n, _, rfl, rfl, h1, ?_, c1, c2, by rw [h2.length]; exact c3, fun p hp => endT k hS hp (h2.flat _)⟩)
        intro e
        subst e
        cases h2
        exact c4 rfl
      · cases hm
  · rename_i n _ _
    obtain ⟨xs, s1, e1, hm2⟩ := bind_run hm
    clear hm
    obtain ⟨rfl, a, xs', rfl, h1, h2⟩ := asLst_ok hx hS e1
    cases hy
    split at hm2
    · rename_i hc
      obtain ⟨rfl, rfl⟩ := pure_inv hm2
      (simp only [Bool.and_eq_true, decide_eq_true_eq] at hc); obtain ⟨⟨c1, c2⟩, c3⟩ := hc
      exact .inr (.inr ⟨a, n, xs', rfl, rfl, h1, c1, c2, by rw [h2.length]; exact lenOk_le c3, fun p hp => endL k hS hp (h2.flat _)⟩)
    · cases hm2
  · cases hm
def gMod := gI (fun _ j => decide (j ≠ 0)) fun i j => .v (.int (i.fmod j))
theorem op_modD : OpS X C (binaryOp .Mod) gMod := gI_ok op_modN (fun _ _ h => of_decide_eq_true h) fun _ _ _ _ => .int _
def gFdiv := gI (fun _ j => decide (j ≠ 0) && decide (j.natAbs < 1073741824)) fun i j => .v (.int (i.fdiv j))
theorem op_fdivD : OpS X C (binaryOp .FloorDiv) gFdiv := gI_ok op_fdivN (fun _ _ h => by simpa [CDivN] using h) fun _ _ _ _ => .int _
def gPow := gI (fun i j => decide (0 ≤ j) && decide ((Builtin.Int.intBits i : Int) * j ≤ 134217728)) fun i j => .v (.int (i ^ j.toNat))
theorem op_powD : OpS X C (binaryOp .Pow) gPow := gI_ok op_powO (fun _ _ h => by
  (simp only [Bool.and_eq_true, decide_eq_true_eq] at h); exact h) fun _ _ _ _ => .int _
def gLt := gI (fun _ _ => true) fun i j => .v (.bl (decide (i < j)))
def gLe := gI (fun _ _ => true) fun i j => .v (.bl (decide (i ≤ j)))
def gGt := gI (fun _ _ => true) fun i j => .v (.bl (decide (j < i)))
def gGe := gI (fun _ _ => true) fun i j => .v (.bl (decide (j ≤ i)))
theorem op_ltD : OpS X C (compareOp .Lt) gLt := gI_ok0 op_lt fun _ _ _ _ => .bl _
theorem op_leD : OpS X C (compareOp .LtE) gLe := gI_ok0 op_le fun _ _ _ _ => .bl _
theorem op_gtD : OpS X C (compareOp .Gt) gGt := gI_ok0 op_gt fun _ _ _ _ => .bl _
theorem op_geD : OpS X C (compareOp .GtE) gGe := gI_ok0 op_ge fun _ _ _ _ => .bl _
def gNeg : R → M R
  | .v (.int i) => pure (iv (-i))
  | _ => M.fail
theorem op_negD : UnS X C (unaryOp .USub) gNeg := by
  refine un_neg.wk fun x H Q q => ?_
  obtain ⟨α, own, st, rx, r, st', hx, hS, hm, k⟩ := q
  unfold gNeg at hm
  split at hm
  · cases hx
    obtain ⟨rfl, rfl⟩ := pure_inv hm
    exact ⟨_, rfl, endV k hS (.int _)⟩
  · cases hm

/-! ### equality -/
mutual
/-- data without the store: at most so deep -/
def pdD : Nat → Sto → D → Option PyData
  | _, _, .non => some .none
  | _, _, .bl b => some (.bool b)
  | _, _, .int i => some (.int i)
  | _, _, .str x => some (.str x)
  | 0, _, _ => none
  | k + 1, st, .tup ds => (pdL k st ds).map .tuple
  | k + 1, st, .obj n => match st[n]? with
    | some (.lst ds) => (pdL k st ds).map .list
    | _ => none
def pdL : Nat → Sto → List D → Option (List PyData)
  | _, _, [] => some []
  | k, st, d :: ds => match pdD k st d, pdL k st ds with
    | some p, some ps => some (p :: ps)
    | _, _ => none
end
def pdR (st : Sto) : R → Option PyData
  | .v d => pdD 8 st d
  | .l (.lst ds) | .o (.lst ds) | .b (.lst ds) => (pdL 8 st ds).map .list
  | .o (.cst ds) | .b (.cst ds) => (pdL 8 st ds).map .list
  | _ => none
section
variable {G : Kx} {H : Hp} {α : List Addr} {fr own : Addr → Prop} {st st' : Sto} {v : V} {r : R} {ds : List D}
mutual
theorem pdD_ok (hS : RepS G H α st) : ∀ (k : Nat) {d : D} {v : V} {p : PyData}, Rep G H α v d → pdD k st d = some p → Dp G.K H v p
  | k, .non, _, _, .non, e => by cases k <;> (unfold pdD at e; cases e; exact .non)
  | k, .bl b, _, _, .bl _, e => by cases k <;> (unfold pdD at e; cases e; exact .bl b)
  | k, .int i, _, _, .int _, e => by cases k <;> (unfold pdD at e; cases e; exact .int i)
  | k, .str x, _, _, .str _, e => by cases k <;> (unfold pdD at e; cases e; exact .str x)
  | 0, .tup _, _, _, _, e => by unfold pdD at e; cases e
  | 0, .obj _, _, _, _, e => by unfold pdD at e; cases e
  | k + 1, .tup ds, _, _, .tup h1 h2, e => by
    unfold pdD at e
    cases q : pdL k st ds with
    | none => rw [q] at e; cases e
    | some ps =>
      rw [q] at e
      cases e
      exact .tup h1 (pdL_ok hS k h2 q)
  | k + 1, .obj n, _, _, .obj h1, e => by
    unfold pdD at e
    split at e
    · rename_i ds q
      cases q2 : pdL k st ds with
      | none => rw [q2] at e; cases e
      | some ps =>
        rw [q2] at e
        cases e
        obtain ⟨xs, g1, g2⟩ := hS.obj n _ _ q h1
        exact .lst (SqL.of g1) (pdL_ok hS k g2 q2)
    · cases e
theorem pdL_ok (hS : RepS G H α st) : ∀ (k : Nat) {ds : List D} {vs : List V} {ps : List PyData}, RepL G H α vs ds → pdL k st ds = some ps → DpAll G.K H vs ps
  | k, [], _, _, .nil, e => by cases k <;> (unfold pdL at e; cases e; exact .nil)
  | k, d :: ds, _, _, .cons h1 h2, e => by
    unfold pdL at e
    split at e
    · rename_i p ps e1 e2
      cases e
      exact .cons (pdD_ok hS k h1 e1) (pdL_ok hS k h2 e2)
    · cases e
end
theorem pdR_ok (hr : RepR G H α fr own v r) (hS : RepS G H α st) {p : PyData} (h : pdR st r = some p) : Dp G.K H v p := by
  have fin : ∀ {ds : List D} {a : Addr} {xs : List V}, SqL G.K H a xs → RepL G H α xs ds → (pdL 8 st ds).map .list = some p → Dp G.K H (.ref a) p := fun {ds a xs} h1 h2 h => by
    cases q : pdL 8 st ds with
    | none => rw [q] at h; cases h
    | some ps =>
      rw [q] at h
      cases h
      exact .lst h1 (pdL_ok hS 8 h2 q)
  unfold pdR at h
  split at h
  · exact pdD_ok hS 8 hr h
  · obtain ⟨a, rfl, _, _, ⟨xs, h1, h2⟩, _⟩ := hr
    exact fin (SqL.of h1) h2 h
  · obtain ⟨a, rfl, ⟨xs, h1, h2⟩, _⟩ := hr
    exact fin (SqL.of h1) h2 h
  · obtain ⟨a, rfl, ⟨xs, h1, h2⟩, _⟩ := hr
    exact fin (SqL.of h1) h2 h
  · obtain ⟨a, rfl, ⟨xs, h1, h2⟩, _⟩ := hr
    exact fin h1.sq h2 h
  · obtain ⟨a, rfl, ⟨xs, h1, h2⟩, _⟩ := hr
    exact fin h1.sq h2 h
  · cases h
end
end
def gCmp (f : PyData → PyData → Bool) : R → R → M R := fun a b st => match pdR st a, pdR st b with
  | some p, some q => if (SeqAt.shaped p && SeqAt.shaped q) = true then some (bv (f p q), st) else none
  | _, _ => none
def gEq := gCmp PyData.eqv
def gNe := gCmp fun p q => !PyData.eqv p q
section
variable {X : Cx} {C : List Addr}
theorem gCmp_ok {f : Value → Value → Sem Value} {g : PyData → PyData → Bool} (ho : OpR X f (fun x y H Q => ∃ d e, Dp X.K H x d ∧ Dp X.K H y e ∧ SeqAt.shaped d = true ∧ SeqAt.shaped e = true ∧ Q (.bl (g d e)) H)) : OpS X C f (gCmp g) := by
  refine ho.wk fun x y H Q q => ?_
  obtain ⟨α, own, st, rx, ry, r, st', hx, hy, hS, hm, k⟩ := q
  unfold gCmp at hm
  split at hm
  · rename_i p q e1 e2
    split at hm
    · rename_i hc
      injection hm with hm
      injection hm with h1 h2
      subst h1 h2
      rw [Bool.and_eq_true] at hc
      exact ⟨p, q, pdR_ok hx hS e1, pdR_ok hy hS e2, hc.1, hc.2, endV k hS (.bl _)⟩
    · cases hm
  · cases hm
theorem op_eqM {n : Nat} (hr : Room n X.A) : OpS X C (compareOp .Eq) gEq := gCmp_ok (op_eqD hr.units)
theorem op_neM {n : Nat} (hr : Room n X.A) : OpS X C (compareOp .NotEq) gNe := gCmp_ok (op_neD hr.units)
/-- is None -/
def isNon : R → Bool
  | .v .non => true
  | _ => false
def gIsN : R → R → M R := fun a b => match b with
  | .v .non => pure (bv (isNon a))
  | _ => M.fail
def gNotN : R → R → M R := fun a b => match b with
  | .v .non => pure (bv (!isNon a))
  | _ => M.fail
theorem isNon_ok {G : Kx} {H : Hp} {α : List Addr} {fr own : Addr → Prop} {v : V} {r : R} (h : RepR G H α fr own v r) : decide (v = .non) = isNon r := by
  cases r with
  | v d => cases h <;> simp [isNon]
  | l o => obtain ⟨a, rfl, _⟩ := h; simp [isNon]
  | o o => obtain ⟨a, rfl, _⟩ := h; simp [isNon]
  | b o => obtain ⟨a, rfl, _⟩ := h; simp [isNon]
theorem op_isND : OpS X C (compareOp .Is) gIsN := by
  refine op_isN.wk fun x y H Q q => ?_
  obtain ⟨α, own, st, rx, ry, r, st', hx, hy, hS, hm, k⟩ := q
  unfold gIsN at hm
  split at hm
  · cases hy
    obtain ⟨rfl, rfl⟩ := pure_inv hm
    refine ⟨rfl, ?_⟩
    rw [isNon_ok hx]
    exact endV k hS (.bl _)
  · cases hm
theorem op_notND : OpS X C (compareOp .IsNot) gNotN := by
  refine op_notN.wk fun x y H Q q => ?_
  obtain ⟨α, own, st, rx, ry, r, st', hx, hy, hS, hm, k⟩ := q
  unfold gNotN at hm
  split at hm
  · cases hy
    obtain ⟨rfl, rfl⟩ := pure_inv hm
    refine ⟨rfl, ?_⟩
    rw [isNon_ok hx]
    exact endV k hS (.bl _)
  · cases hm

/-! ### items and slices -/
def gIx : R → R → M R
  | .v (.str x), .v (.int i) => M.ofO (if lenOk x.length = true then (atI x.cps.toList i).map fun c => .v (.str ⟨#[c]⟩) else none)
  | a, .v (.int i) => asSeq a >>= fun ds => M.ofO ((atI ds i).map .v)
  | _, _ => M.fail
theorem RepL.at {G : Kx} {H : Hp} {α : List Addr} {xs : List V} {ds : List D} {i : Int} {d : D} (h : RepL G H α xs ds) (e : atI ds i = some d) : ∃ v, atI xs i = some v ∧ Rep G H α v d := by
  unfold atI at e ⊢
  rw [h.length]
  cases q : ixN ds.length i with
  | none => rw [q] at e; cases e
  | some j =>
    rw [q] at e
    exact h.get e
theorem ix_D : IxR X (rU2 (gx X C) gIx) := by
  refine (ix_list.or (ix_tup.or ix_str)).wk fun x y H Q q => ?_
  obtain ⟨α, own, st, rx, ry, r, st', hx, hy, hS, hm, k⟩ := q
  unfold gIx at hm
  split at hm
  · rename_i z i
    cases hx; cases hy
    obtain ⟨e, rfl⟩ := ofO_inv hm
    split at e
    · rename_i hl
      cases q : atI z.cps.toList i with
      | none => rw [q] at e; cases e
      | some c =>
        rw [q] at e
        cases e
        exact .inr (.inr ⟨z, i, c, rfl, rfl, lenOk_le hl, q, endV k hS (.str _)⟩)
    · cases e
  · rename_i i _
    obtain ⟨ds, s1, e1, hm2⟩ := bind_run hm
    clear hm
    obtain ⟨rfl, a, xs, rfl, h1, h2⟩ := asSeq_ok hx hS e1
    cases hy
    obtain ⟨e, rfl⟩ := ofO_inv hm2
    cases q : atI ds i with
    | none => rw [q] at e; cases e
    | some d =>
      rw [q] at e
      cases e
      obtain ⟨v, e', rv⟩ := h2.at q
      rcases h1 with h1 | h1
      · exact .inl ⟨a, xs, i, v, rfl, rfl, h1, e', endV k hS rv⟩
      · exact .inr (.inl ⟨a, xs, i, v, rfl, rfl, h1, e', endV k hS rv⟩)
  · cases hm
theorem ix {a b : Expr} {ma mb : Env → M R} {pos : Pos} (ha : SimE X C a ma) (hb : SimE X C b mb) (hs : PlainIx b) : SimE X C (.Subscript a b pos) (eOp gIx ma mb) :=
  (pe_ix ix_D ha hb hs).wk fun _ _ _ h => to2 h
def cutD (ds : List D) (lo hi : Option Int) : List D := (ds.drop (HT.sIx ds.length 0 lo)).take (HT.sIx ds.length ds.length hi - HT.sIx ds.length 0 lo)
theorem RepL.cut {G : Kx} {H : Hp} {α : List Addr} {xs : List V} {ds : List D} (h : RepL G H α xs ds) (lo hi : Option Int) : RepL G H α (cutV xs lo hi) (cutD ds lo hi) := by
  unfold cutV cutD
  rw [h.length]
  exact (h.drop _).take _
def gSl (a : R) (lo hi : Option Int) : M R := match a with
  | .v (.tup ds) => pure (.v (.tup (cutD ds lo hi)))
  | .v (.str x) => if lenOk x.length = true then pure (.v (.str (cutS x lo hi))) else M.fail
  | .o (.cst ds) => pure (.l (.lst (cutD ds lo hi)))
  | .b (.cst ds) => pure (.l (.lst (cutD ds lo hi)))
  | a => asLst a >>= fun ds => pure (.l (.lst (cutD ds lo hi)))
/-- the bounds of a slice -/
def ePart : Option (Env → M R) → Env → M (Option Int)
  | none => fun _ => pure none
  | some m => fun env => m env >>= fun r => match r with
    | .v (.int i) => pure (some i)
    | _ => M.fail
def tO (G : Kx) (m : Env → M (Option Int)) : TO := fun σ H Q => ∃ α env st r st', RepE G H α σ env ∧ RepS G H α st ∧ m env st = some (r, st') ∧
  ∀ α' H', Ext Non α H α' H' → RepS G H' α' st' → Q r H'
theorem PO.wk {e : Option Expr} {t t' : TO} (h : PO X e t) (w : ∀ σ H Q, t' σ H Q → t σ H Q) : PO X e t' := ⟨fun pins s σ H Q I h' => h.run pins s σ H Q I (w _ _ _ h')⟩
abbrev SimO (X : Cx) (C : List Addr) (e : Option Expr) (m : Env → M (Option Int)) : Prop := PO X e (tO (gx X C) m)
theorem part0 : SimO X C none (ePart none) := PO.wk po_none fun σ H Q h => by
  obtain ⟨α, env, st, r, st', hE, hS, hm, k⟩ := h
  obtain ⟨rfl, rfl⟩ := pure_inv hm
  exact k α H Ext.rfl' hS
theorem part1 {e : Expr} {m : Env → M R} (h : SimE X C e m) : SimO X C (some e) (ePart (some m)) := PO.wk (po_some h) fun σ H Q h => by
  obtain ⟨α, env, st, r, st', hE, hS, hm, k⟩ := h
  obtain ⟨ra, s1, e1, hm⟩ := bind_run hm
  refine ⟨α, env, st, ra, s1, hE, hS, e1, fun v α1 H1 X1 S1 R1 => ?_⟩
  split at hm
  · obtain ⟨rfl, rfl⟩ := pure_inv hm
    cases R1
    exact ⟨_, rfl, k α1 H1 X1 S1⟩
  · cases hm
def eSl (ma : Env → M R) (ml mh : Env → M (Option Int)) : Env → M R := fun env => ma env >>= fun a => ml env >>= fun l => mh env >>= fun h => gSl a l h
theorem to_sl {G : Kx} {ma : Env → M R} {ml mh : Env → M (Option Int)} {σ : St} {H : Hp} {Q : VK} (h : tE G (eSl ma ml mh) σ H Q) :
    tSl (fun x lo hi H Q => ∃ α own st rx r st', RepR G H α All own x rx ∧ RepS G H α st ∧ gSl rx lo hi st = some (r, st') ∧ ∀ v α' H', Ext Non α H α' H' → RepS G H' α' st' → RepR G H' α' (Fresh H) own v r → Q v H')
      (tE G ma) (tO G ml) (tO G mh) σ H Q := by
  obtain ⟨α, env, st, r, st', hE, hS, hm, k⟩ := h
  obtain ⟨ra, s1, e1, hm1⟩ := bind_run hm
  obtain ⟨lo, s2, e2, hm2⟩ := bind_run hm1
  obtain ⟨hi, s3, e3, e4⟩ := bind_run hm2
  exact ⟨α, env, st, ra, s1, hE, hS, e1, fun x α1 H1 X1 S1 R1 => ⟨α1, env, s1, lo, s2, hE.ext X1, S1, e2, fun α2 H2 X2 S2 => ⟨α2, env, s2, hi, s3, (hE.ext X1).ext X2, S2, e3, fun α3 H3 X3 S3 =>
    ⟨α3, Own σ env, s3, ra, r, st', ((R1.ext X2).ext X3).mono (fun _ _ => trivial), S3, e4, fun v α4 H4 X4 S4 R4 =>
      k v α4 H4 (((X1.trans0 X2).trans0 X3).trans0 X4) S4 (R4.mono fun a h => X1.dom _ (X2.dom _ (X3.dom _ h)))⟩⟩⟩⟩
theorem sl_D : SlR X (fun x lo hi H Q => ∃ α own st rx r st', RepR (gx X C) H α All own x rx ∧ RepS (gx X C) H α st ∧ gSl rx lo hi st = some (r, st') ∧ ∀ v α' H', Ext Non α H α' H' → RepS (gx X C) H' α' st' → RepR (gx X C) H' α' (Fresh H) own v r → Q v H') := by
  refine (sl_tupA.or (sl_list.or sl_str)).wk fun x lo hi H Q q => ?_
  obtain ⟨α, own, st, rx, r, st', hx, hS, hm, k⟩ := q
  unfold gSl at hm
  split at hm
  · rename_i ds
    obtain ⟨rfl, rfl⟩ := pure_inv hm
    cases hx with
    | tup h1 h2 =>
      refine .inl ⟨_, _, rfl, h1, fun hw => ?_, fun _ p hp => endT k hS hp (h2.cut lo hi)⟩
      refine endV k hS (.tup h1 ?_)
      have e : cutD ds lo hi = ds := by
        unfold cutD
        rw [← h2.length, hw.1, hw.2, h2.length]
        simp
      rw [e]
      exact h2
  · rename_i z
    cases hx
    split at hm
    · rename_i hl
      obtain ⟨rfl, rfl⟩ := pure_inv hm
      exact .inr (.inr ⟨z, rfl, lenOk_le hl, endV k hS (.str _)⟩)
    · cases hm
  · obtain ⟨rfl, rfl⟩ := pure_inv hm
    obtain ⟨a, rfl, ⟨xs, h1, h2⟩, _⟩ := hx
    exact .inr (.inl ⟨a, xs, rfl, h1.sq, fun p hp => endL k hS hp (h2.cut lo hi)⟩)
  · obtain ⟨rfl, rfl⟩ := pure_inv hm
    obtain ⟨a, rfl, ⟨xs, h1, h2⟩, _⟩ := hx
    exact .inr (.inl ⟨a, xs, rfl, h1.sq, fun p hp => endL k hS hp (h2.cut lo hi)⟩)
  · obtain ⟨ds, s1, e1, hm2⟩ := bind_run hm
    clear hm
    obtain ⟨rfl, rfl⟩ := pure_inv hm2
    obtain ⟨rfl, a, xs, rfl, h1, h2⟩ := asLst_ok hx hS e1
    exact .inr (.inl ⟨a, xs, rfl, SqL.of h1, fun p hp => endL k hS hp (h2.cut lo hi)⟩)
theorem sl {a : Expr} {lo hi : Option Expr} {ma : Env → M R} {ml mh : Env → M (Option Int)} {p2 pos : Pos} (ha : SimE X C a ma) (hl : SimO X C lo ml) (hh : SimO X C hi mh) : SimE X C (.Subscript a (.Slice lo hi none p2) pos) (eSl ma ml mh) :=
  (pe_slice sl_D ha hl hh).wk fun _ _ _ h => to_sl h
/-- xs[::-1] of a list -/
def gRevL (a : R) : M R := asLst a >>= fun ds => pure (.l (.lst ds.reverse))
theorem revL {e : Expr} {m : Env → M R} {k : Nat} {p1 p2 p3 pos : Pos} (he : SimE X C e m) : SimE X C (.Subscript e (.Slice none none (some (.UnaryOp .USub (.Constant (.int 1) k p1) p2)) p3) pos) (eU gRevL m) :=
  (pe_revL he).wk fun σ H Q h => by
    obtain ⟨α, env, st, r, st', hE, hS, hm, k⟩ := to1 h
    refine ⟨α, env, st, r, st', hE, hS, hm, fun v α1 H1 X1 S1 R1 => ?_⟩
    obtain ⟨α2, own, s2, rx, r2, s3, hx, hS2, hm2, k2⟩ := k v α1 H1 X1 S1 R1
    obtain ⟨ds, s4, e4, hm3⟩ := bind_run hm2
    obtain ⟨rfl, rfl⟩ := pure_inv hm3
    obtain ⟨rfl, a, xs, rfl, h1, h2⟩ := asLst_ok hx hS2 e4
    exact ⟨a, xs, rfl, SqL.of h1, fun p hp => endL k2 hS2 hp h2.reverse⟩
end
end Mi
/-! Mi: tests, arguments, displays, calls of built-ins and of defs. -/
namespace Mi
open PySem PySem.Spec PyProof.Rows L2

/-! ### tests -/
/-- a value's truth -/
def truR : R → M Bool
  | .v .non => pure false
  | .v (.bl b) => pure b
  | .v (.int i) => pure (i != 0)
  | .v (.str x) => if lenOk x.length = true then pure ((x.length : Int) != 0) else M.fail
  | r => asSeq r >>= fun ds => pure (!ds.isEmpty)
def tTr (m : Env → M R) : Env → M Bool := fun env => m env >>= truR
/-- a truth value -/
def isBl : R → M Bool
  | .v (.bl b) => pure b
  | _ => M.fail
def tBl (m : Env → M R) : Env → M Bool := fun env => m env >>= isBl
def tAnd2 (a b : Env → M Bool) : Env → M Bool := fun env => a env >>= fun c => if c = true then b env else pure false
def tOr2 (a b : Env → M Bool) : Env → M Bool := fun env => a env >>= fun c => if c = true then pure true else b env
def tNot1 (a : Env → M Bool) : Env → M Bool := fun env => a env >>= fun c => pure (!c)
def eIf (t : Env → M Bool) (a b : Env → M R) : Env → M R := fun env => t env >>= fun c => if c = true then a env else b env
/-- a test as a value -/
def eT (t : Env → M Bool) : Env → M R := fun env => t env >>= fun c => pure (.v (.bl c))
theorem RepL.isEmpty {G : Kx} {H : Hp} {α : List Addr} {vs : List V} {ds : List D} (h : RepL G H α vs ds) : vs.isEmpty = ds.isEmpty := by
  cases h <;> rfl
section
variable {X : Cx} {C : List Addr} {e a b c : Expr} {rest : List Expr} {pos : Pos} {m ma mb : Env → M R} {t u : Env → M Bool}
theorem truV_ok {G : Kx} {H : Hp} {α : List Addr} {fr own : Addr → Prop} {st st' : Sto} {v : V} {r : R} {k : Bool} (hr : RepR G H α fr own v r) (hS : RepS G H α st) (h : truR r st = some (k, st')) : st' = st ∧ TruV G.K v H k := by
  unfold truR at h
  split at h
  · cases hr
    obtain ⟨rfl, rfl⟩ := pure_inv h
    exact ⟨rfl, rfl⟩
  · cases hr
    obtain ⟨rfl, rfl⟩ := pure_inv h
    exact ⟨rfl, rfl⟩
  · cases hr
    obtain ⟨rfl, rfl⟩ := pure_inv h
    exact ⟨rfl, rfl⟩
  · cases hr
    split at h
    · rename_i hl
      obtain ⟨rfl, rfl⟩ := pure_inv h
      exact ⟨rfl, lenOk_le hl, rfl⟩
    · cases h
  · obtain ⟨ds, s1, e1, h2⟩ := bind_run h
    clear h
    obtain ⟨rfl, rfl⟩ := pure_inv h2
    obtain ⟨rfl, a, xs, rfl, h1, h2⟩ := asSeq_ok hr hS e1
    refine ⟨rfl, ?_⟩
    rcases h1 with h1 | h1
    · exact .inl ⟨xs, h1, by rw [h2.isEmpty]⟩
    · exact .inr (.inl ⟨xs, h1, by rw [h2.isEmpty]⟩)
theorem t_truth (he : SimE X C e m) (hw : ∀ whole, isTrue e X.env whole = (do let v ← whole; standAt e.pos; holding [v] (truthy v))) : SimT X C e (tTr m) :=
  (pt_truth he hw).wk fun σ H Q h => by
    obtain ⟨α, env, st, r, st', hE, hS, hm, k⟩ := h
    obtain ⟨ra, s1, e1, e2⟩ := bind_run hm
    refine ⟨α, env, st, ra, s1, hE, hS, e1, fun v α1 H1 X1 S1 R1 => ?_⟩
    obtain ⟨rfl, tv⟩ := truV_ok R1 S1 e2
    exact ⟨r, tv, k α1 H1 X1 S1⟩
/-- a comparison whose answer is a truth value -/
theorem t_bl (h : ∀ t : TE, PE X e t → PT X e (tTest t)) (he : SimE X C e m) : SimT X C e (tBl m) :=
  (h _ he).wk fun σ H Q h => by
    obtain ⟨α, env, st, r, st', hE, hS, hm, k⟩ := h
    obtain ⟨ra, s1, e1, e2⟩ := bind_run hm
    refine ⟨α, env, st, ra, s1, hE, hS, e1, fun v α1 H1 X1 S1 R1 => ?_⟩
    unfold isBl at e2
    split at e2
    · cases R1
      obtain ⟨rfl, rfl⟩ := pure_inv e2
      exact ⟨_, rfl, k α1 H1 X1 S1⟩
    · cases e2
theorem t_cmp {op : CmpOp} {g : R → R → M R} (ho : OpS X C (compareOp op) g) (ha : SimE X C a ma) (hb : SimE X C b mb) (hm : behindInMarks op b = false) : SimT X C (.Compare a [op] [b] pos) (tBl (eOp g ma mb)) :=
  (pt_cmpR ho ha hb hm).wk fun σ H Q h => by
    obtain ⟨α, env, st, r, st', hE, hS, hm, k⟩ := h
    obtain ⟨ra, s1, e1, e2⟩ := bind_run hm
    refine to2 ⟨α, env, st, ra, s1, hE, hS, e1, fun v α1 H1 X1 S1 R1 => ?_⟩
    unfold isBl at e2
    split at e2
    · cases R1
      obtain ⟨rfl, rfl⟩ := pure_inv e2
      exact ⟨_, rfl, k α1 H1 X1 S1⟩
    · cases e2
/-- a op b op' c -/
def eChain (g g' : R → R → M R) (ma mb mc : Env → M R) : Env → M R := fun env => ma env >>= fun x => mb env >>= fun y => g x y >>= fun z => isBl z >>= fun k => if k = true then mc env >>= fun w => g' y w else pure (.v (.bl false))
theorem to_chain {G : Kx} {g g' : R → R → M R} {ma mb mc : Env → M R} {σ : St} {H : Hp} {Q : VK} (h : tE G (eChain g g' ma mb mc) σ H Q) : tChain (rU2 G g) (rU2 G g') (tE G ma) (tE G mb) (tE G mc) σ H Q := by
  obtain ⟨α, env, st, r, st', hE, hS, hm, k⟩ := h
  obtain ⟨ra, s1, e1, hm1⟩ := bind_run hm
  obtain ⟨rb, s2, e2, hm2⟩ := bind_run hm1
  obtain ⟨rz, s3, e3, hm3⟩ := bind_run hm2
  obtain ⟨kk, s4, e4, hm4⟩ := bind_run hm3
  refine ⟨α, env, st, ra, s1, hE, hS, e1, fun x α1 H1 X1 S1 R1 => ⟨α1, env, s1, rb, s2, hE.ext X1, S1, e2, fun y α2 H2 X2 S2 R2 =>
    ⟨α2, Own σ env, s2, ra, rb, rz, s3, (R1.ext X2).mono (fun _ _ => trivial), R2.mono (fun _ _ => trivial), S2, e3, fun z α3 H3 X3 S3 R3 => ?_⟩⟩⟩
  unfold isBl at e4
  split at e4
  · cases R3
    obtain ⟨rfl, rfl⟩ := pure_inv e4
    refine ⟨_, rfl, ?_⟩
    split
    · rename_i hk
      rw [if_pos hk] at hm4
      obtain ⟨rw', s5, e5, e6⟩ := bind_run hm4
      refine ⟨α3, env, _, rw', s5, ((hE.ext X1).ext X2).ext X3, S3, e5, fun w α4 H4 X4 S4 R4 =>
        ⟨α4, Own σ env, s5, rb, rw', r, st', ((R2.ext X3).ext X4).mono (fun _ _ => trivial), R4.mono (fun _ _ => trivial), S4, e6, fun v α5 H5 X5 S5 R5 =>
          k v α5 H5 ((((X1.trans0 X2).trans0 X3).trans0 X4).trans0 X5) S5 (R5.mono fun a h => X1.dom _ (X2.dom _ (X3.dom _ (X4.dom _ h))))⟩⟩
    · rename_i hk
      rw [if_neg hk] at hm4
      obtain ⟨rfl, rfl⟩ := pure_inv hm4
      exact k _ α3 H3 ((X1.trans0 X2).trans0 X3) S3 (.bl false)
  · cases e4
theorem chain {op op' : CmpOp} {g g' : R → R → M R} {mc : Env → M R} (ho : OpS X C (compareOp op) g) (ho' : OpS X C (compareOp op') g') (ha : SimE X C a ma) (hb : SimE X C b mb) (hc : SimE X C c mc)
    (hm : lastMarks [op, op'] [b, c] = false := by with_unfolding_all rfl) : SimE X C (.Compare a [op, op'] [b, c] pos) (eChain g g' ma mb mc) :=
  (pe_chain ho ho' ha hb hc hm).wk fun _ _ _ h => to_chain h
theorem t_chain {op op' : CmpOp} {g g' : R → R → M R} {mc : Env → M R} (ho : OpS X C (compareOp op) g) (ho' : OpS X C (compareOp op') g') (ha : SimE X C a ma) (hb : SimE X C b mb) (hc : SimE X C c mc)
    (hm : lastMarks [op, op'] [b, c] = false := by with_unfolding_all rfl) : SimT X C (.Compare a [op, op'] [b, c] pos) (tBl (eChain g g' ma mb mc)) :=
  (pt_chain ho ho' ha hb hc hm).wk fun σ H Q h => by
    obtain ⟨α, env, st, r, st', hE, hS, hm, k⟩ := h
    obtain ⟨ra, s1, e1, e2⟩ := bind_run hm
    refine to_chain ⟨α, env, st, ra, s1, hE, hS, e1, fun v α1 H1 X1 S1 R1 => ?_⟩
    unfold isBl at e2
    split at e2
    · cases R1
      obtain ⟨rfl, rfl⟩ := pure_inv e2
      exact ⟨_, rfl, k α1 H1 X1 S1⟩
    · cases e2
theorem t_and1 (ha : SimT X C a t) : SimW X C (.BoolOp .And [a] pos) t := pw_and1 ha
theorem t_or1 (ha : SimT X C a t) : SimW X C (.BoolOp .Or [a] pos) t := pw_or1 ha
theorem t_and (ha : SimT X C a t) (hb : SimW X C (.BoolOp .And (b :: rest) pos) u) : SimW X C (.BoolOp .And (a :: b :: rest) pos) (tAnd2 t u) :=
  (pw_and ha hb).wk fun σ H Q h => by
    obtain ⟨α, env, st, r, st', hE, hS, hm, k⟩ := h
    obtain ⟨ra, s1, e1, e2⟩ := bind_run hm
    refine ⟨α, env, st, ra, s1, hE, hS, e1, fun α1 H1 X1 S1 => ?_⟩
    dsimp only
    split
    · rename_i hk
      rw [if_pos hk] at e2
      exact ⟨α1, env, s1, r, st', hE.ext X1, S1, e2, fun α2 H2 X2 S2 => k α2 H2 (X1.trans0 X2) S2⟩
    · rename_i hk
      rw [if_neg hk] at e2
      obtain ⟨rfl, rfl⟩ := pure_inv e2
      exact k α1 H1 X1 S1
theorem t_or (ha : SimT X C a t) (hb : SimW X C (.BoolOp .Or (b :: rest) pos) u) : SimW X C (.BoolOp .Or (a :: b :: rest) pos) (tOr2 t u) :=
  (pw_or ha hb).wk fun σ H Q h => by
    obtain ⟨α, env, st, r, st', hE, hS, hm, k⟩ := h
    obtain ⟨ra, s1, e1, e2⟩ := bind_run hm
    refine ⟨α, env, st, ra, s1, hE, hS, e1, fun α1 H1 X1 S1 => ?_⟩
    dsimp only
    split
    · rename_i hk
      rw [if_pos hk] at e2
      obtain ⟨rfl, rfl⟩ := pure_inv e2
      exact k α1 H1 X1 S1
    · rename_i hk
      rw [if_neg hk] at e2
      exact ⟨α1, env, s1, r, st', hE.ext X1, S1, e2, fun α2 H2 X2 S2 => k α2 H2 (X1.trans0 X2) S2⟩
theorem t_not (ha : SimT X C a t) : SimT X C (.UnaryOp .Not a pos) (tNot1 t) :=
  (pt_not ha).wk fun σ H Q h => by
    obtain ⟨α, env, st, r, st', hE, hS, hm, k⟩ := h
    obtain ⟨ra, s1, e1, e2⟩ := bind_run hm
    obtain ⟨rfl, rfl⟩ := pure_inv e2
    exact ⟨α, env, st, ra, _, hE, hS, e1, fun α1 H1 X1 S1 => k α1 H1 X1 S1⟩
theorem t_w (ha : SimW X C a t) : SimT X C a t := PW.pt ha
theorem ifx (hc : SimT X C c t) (ha : SimE X C a ma) (hb : SimE X C b mb) : SimE X C (.IfExp c a b pos) (eIf t ma mb) :=
  (pe_ifExp hc ha hb).wk fun σ H Q h => by
    obtain ⟨α, env, st, r, st', hE, hS, hm, k⟩ := h
    obtain ⟨ra, s1, e1, e2⟩ := bind_run hm
    refine ⟨α, env, st, ra, s1, hE, hS, e1, fun α1 H1 X1 S1 => ?_⟩
    dsimp only
    split
    · rename_i hk
      rw [if_pos hk] at e2
      exact ⟨α1, env, s1, r, st', hE.ext X1, S1, e2, fun v α2 H2 X2 S2 R2 => k v α2 H2 (X1.trans0 X2) S2 (R2.mono fun a h => X1.dom _ h)⟩
    · rename_i hk
      rw [if_neg hk] at e2
      exact ⟨α1, env, s1, r, st', hE.ext X1, S1, e2, fun v α2 H2 X2 S2 R2 => k v α2 H2 (X1.trans0 X2) S2 (R2.mono fun a h => X1.dom _ h)⟩
/-! bools as values: and, or, not -/
def eAnd (ma mb : Env → M R) : Env → M R := fun env => ma env >>= fun x => isBl x >>= fun k => if k = true then mb env else pure (.v (.bl false))
def eOr (ma mb : Env → M R) : Env → M R := fun env => ma env >>= fun x => isBl x >>= fun k => if k = true then pure (.v (.bl true)) else mb env
def eNot (ma : Env → M R) : Env → M R := fun env => ma env >>= fun x => isBl x >>= fun k => pure (.v (.bl (!k)))
theorem v_one {op : BoolOp} (ha : SimE X C a ma) : SimE X C (.BoolOp op [a] pos) ma := pe_one ha
theorem v_and (ha : SimE X C a ma) (hb : SimE X C (.BoolOp .And (b :: rest) pos) mb) : SimE X C (.BoolOp .And (a :: b :: rest) pos) (eAnd ma mb) :=
  (pe_and ha hb).wk fun σ H Q h => by
    obtain ⟨α, env, st, r, st', hE, hS, hm, k⟩ := h
    obtain ⟨ra, s1, e1, hm1⟩ := bind_run hm
    obtain ⟨kk, s2, e2, hm2⟩ := bind_run hm1
    refine ⟨α, env, st, ra, s1, hE, hS, e1, fun v α1 H1 X1 S1 R1 => ?_⟩
    unfold isBl at e2
    split at e2
    · cases R1
      obtain ⟨rfl, rfl⟩ := pure_inv e2
      refine ⟨_, rfl, ?_⟩
      split
      · rename_i hk
        rw [if_pos hk] at hm2
        exact ⟨α1, env, _, r, st', hE.ext X1, S1, hm2, fun v α2 H2 X2 S2 R2 => k v α2 H2 (X1.trans0 X2) S2 (R2.mono fun a h => X1.dom _ h)⟩
      · rename_i hk
        rw [if_neg hk] at hm2
        obtain ⟨rfl, rfl⟩ := pure_inv hm2
        exact k _ α1 H1 X1 S1 (.bl false)
    · cases e2
theorem v_or (ha : SimE X C a ma) (hb : SimE X C (.BoolOp .Or (b :: rest) pos) mb) : SimE X C (.BoolOp .Or (a :: b :: rest) pos) (eOr ma mb) :=
  (pe_or ha hb).wk fun σ H Q h => by
    obtain ⟨α, env, st, r, st', hE, hS, hm, k⟩ := h
    obtain ⟨ra, s1, e1, hm1⟩ := bind_run hm
    obtain ⟨kk, s2, e2, hm2⟩ := bind_run hm1
    refine ⟨α, env, st, ra, s1, hE, hS, e1, fun v α1 H1 X1 S1 R1 => ?_⟩
    unfold isBl at e2
    split at e2
    · cases R1
      obtain ⟨rfl, rfl⟩ := pure_inv e2
      refine ⟨_, rfl, ?_⟩
      split
      · rename_i hk
        rw [if_pos hk] at hm2
        obtain ⟨rfl, rfl⟩ := pure_inv hm2
        exact k _ α1 H1 X1 S1 (.bl true)
      · rename_i hk
        rw [if_neg hk] at hm2
        exact ⟨α1, env, _, r, st', hE.ext X1, S1, hm2, fun v α2 H2 X2 S2 R2 => k v α2 H2 (X1.trans0 X2) S2 (R2.mono fun a h => X1.dom _ h)⟩
    · cases e2
theorem v_not (ha : SimE X C a ma) : SimE X C (.UnaryOp .Not a pos) (eNot ma) :=
  (pe_not ha).wk fun σ H Q h => by
    obtain ⟨α, env, st, r, st', hE, hS, hm, k⟩ := h
    obtain ⟨ra, s1, e1, hm1⟩ := bind_run hm
    obtain ⟨kk, s2, e2, hm2⟩ := bind_run hm1
    refine ⟨α, env, st, ra, s1, hE, hS, e1, fun v α1 H1 X1 S1 R1 => ?_⟩
    unfold isBl at e2
    split at e2
    · cases R1
      obtain ⟨rfl, rfl⟩ := pure_inv e2
      obtain ⟨rfl, rfl⟩ := pure_inv hm2
      exact ⟨_, rfl, k _ α1 H1 X1 S1 (.bl _)⟩
    · cases e2
end

/-! ### arguments and displays -/
def aNil : Env → M (List R) := fun _ => pure []
def aCons (m : Env → M R) (r : Env → M (List R)) : Env → M (List R) := fun env => m env >>= fun x => r env >>= fun xs => pure (x :: xs)
def aStar (m : Env → M R) (r : Env → M (List R)) : Env → M (List R) := fun env => m env >>= fun x => asSeq x >>= fun ds => r env >>= fun xs => pure (ds.map .v ++ xs)
/-- a value that may be kept -/
def toD : R → M D
  | .v d => pure d
  | _ => M.fail
def toDs : List R → M (List D)
  | [] => pure []
  | r :: rs => toD r >>= fun d => toDs rs >>= fun ds => pure (d :: ds)
def eTup (m : Env → M (List R)) : Env → M R := fun env => m env >>= fun rs => toDs rs >>= fun ds => if lenOk ds.length = true then pure (.v (.tup ds)) else M.fail
def eLst (m : Env → M (List R)) : Env → M R := fun env => m env >>= fun rs => toDs rs >>= fun ds => if lenOk ds.length = true then pure (.l (.lst ds)) else M.fail
theorem RepRs.ofL {G : Kx} {H : Hp} {α : List Addr} {fr own : Addr → Prop} : ∀ {vs : List V} {ds : List D}, RepL G H α vs ds → RepRs G H α fr own vs (ds.map .v)
  | _, _, .nil => .nil
  | _, _, .cons r s => .cons r (RepRs.ofL s) fun _ _ e => nomatch e
theorem RepRs.append {G : Kx} {H : Hp} {α : List Addr} {fr own : Addr → Prop} : ∀ {vs ws : List V} {ds : List D} {qs : List R}, RepL G H α vs ds → RepRs G H α fr own ws qs → RepRs G H α fr own (vs ++ ws) (ds.map .v ++ qs)
  | _, _, _, _, .nil, h => h
  | _, _, _, _, .cons r s, h => .cons r (RepRs.append s h) fun _ _ e => nomatch e
theorem toDs_ok {G : Kx} {H : Hp} {α : List Addr} {fr own : Addr → Prop} : ∀ {vs : List V} {rs : List R} {st st' : Sto} {ds : List D}, RepRs G H α fr own vs rs → toDs rs st = some (ds, st') → st' = st ∧ RepL G H α vs ds
  | _, _, _, _, _, .nil, h => by
    obtain ⟨rfl, rfl⟩ := pure_inv h
    exact ⟨rfl, .nil⟩
  | _, _, _, _, _, .cons (r := r) hr hs _, h => by
    obtain ⟨d, s1, e1, h1⟩ := bind_run h
    obtain ⟨ds, s2, e2, h2⟩ := bind_run h1
    obtain ⟨rfl, rfl⟩ := pure_inv h2
    cases r with
    | v d' =>
      obtain ⟨rfl, rfl⟩ := pure_inv e1
      obtain ⟨rfl, q⟩ := toDs_ok hs e2
      exact ⟨rfl, .cons hr q⟩
    | _ => exact nomatch (show (none : Option (D × Sto)) = some (d, s1) from e1)
section
variable {X : Cx} {C : List Addr} {e a b c : Expr} {es : List Expr} {pos p : Pos} {m ma mb : Env → M R} {ms : Env → M (List R)}
theorem a_nil : SimA X C [] aNil := pa_nil.wk fun σ H Q h => by
  obtain ⟨α, env, st, r, st', hE, hS, hm, k⟩ := h
  obtain ⟨rfl, rfl⟩ := pure_inv hm
  exact k [] α H Ext.rfl' hS .nil
theorem a_cons (ha : SimE X C e m) (hr : SimA X C es ms) (hs : starEach (e :: es) X.env = (false, eval e X.env) :: starEach es X.env := by rfl) : SimA X C (e :: es) (aCons m ms) :=
  (pa_cons ha hr hs).wk fun σ H Q h => by
    obtain ⟨α, env, st, r, st', hE, hS, hm, k⟩ := h
    obtain ⟨ra, s1, e1, hm1⟩ := bind_run hm
    obtain ⟨rs, s2, e2, hm2⟩ := bind_run hm1
    obtain ⟨rfl, rfl⟩ := pure_inv hm2
    exact ⟨α, env, st, ra, s1, hE, hS, e1, fun v α1 H1 X1 S1 R1 => ⟨α1, env, s1, rs, _, hE.ext X1, S1, e2, fun vs α2 H2 X2 S2 R2 =>
      k _ α2 H2 (X1.trans0 X2) S2 (.cons (R1.ext X2) (R2.mono fun a h => X1.dom _ h) fun o a e1 e2 z => by
        subst e1 e2
        obtain ⟨b, e, _, _, ro, m⟩ := R1
        cases e
        obtain ⟨u, hu⟩ := ro.has m
        rw [R2.tmp z] at hu; cases hu)⟩⟩
theorem a_star (ha : SimE X C e m) (hr : SimA X C es ms) (hs : starEach (.Starred e p :: es) X.env = (true, eval e X.env) :: starEach es X.env := by rfl) : SimA X C (.Starred e p :: es) (aStar m ms) :=
  (StX.pa_star ha hr hs).wk fun σ H Q h => by
    obtain ⟨α, env, st, r, st', hE, hS, hm, k⟩ := h
    obtain ⟨ra, s1, e1, hm1⟩ := bind_run hm
    obtain ⟨ds, s2, e2, hm2⟩ := bind_run hm1
    obtain ⟨rs, s3, e3, hm3⟩ := bind_run hm2
    obtain ⟨rfl, rfl⟩ := pure_inv hm3
    refine ⟨α, env, st, ra, s1, hE, hS, e1, fun v α1 H1 X1 S1 R1 => ?_⟩
    obtain ⟨rfl, a, xs, rfl, h1, h2⟩ := asSeq_ok R1 S1 e2
    exact ⟨a, xs, rfl, h1.symm, α1, env, _, rs, _, hE.ext X1, S1, e3, fun vs α2 H2 X2 S2 R2 =>
      k _ α2 H2 (X1.trans0 X2) S2 (RepRs.append (h2.ext X2) (R2.mono fun a h => X1.dom _ h))⟩
theorem tupd {k1 : Nat} (ha : SimA X C es ms) : SimE X C (.Tuple es k1 pos) (eTup ms) :=
  (pe_tup ha).wk fun σ H Q h => by
    obtain ⟨α, env, st, r, st', hE, hS, hm, k⟩ := h
    obtain ⟨rs, s1, e1, hm1⟩ := bind_run hm
    obtain ⟨ds, s2, e2, hm2⟩ := bind_run hm1
    refine ⟨α, env, st, rs, s1, hE, hS, e1, fun vs α1 H1 X1 S1 R1 => ?_⟩
    obtain ⟨rfl, h2⟩ := toDs_ok R1 e2
    split at hm2
    · rename_i hl
      obtain ⟨rfl, rfl⟩ := pure_inv hm2
      refine ⟨by rw [h2.length]; exact lenOk_le hl, fun p hp => ?_⟩
      exact k _ α1 _ (X1.trans0 (Ext.new hp)) (S1.new hp) (.tup (SqT.of upd_same) (h2.ext (Ext.new (own := Non) hp)))
    · cases hm2
theorem lstd (ha : SimA X C es ms) : SimE X C (.List es pos) (eLst ms) :=
  (pe_lst ha).wk fun σ H Q h => by
    obtain ⟨α, env, st, r, st', hE, hS, hm, k⟩ := h
    obtain ⟨rs, s1, e1, hm1⟩ := bind_run hm
    obtain ⟨ds, s2, e2, hm2⟩ := bind_run hm1
    refine ⟨α, env, st, rs, s1, hE, hS, e1, fun vs α1 H1 X1 S1 R1 => ?_⟩
    obtain ⟨rfl, h2⟩ := toDs_ok R1 e2
    split at hm2
    · rename_i hl
      obtain ⟨rfl, rfl⟩ := pure_inv hm2
      refine ⟨by rw [h2.length]; exact lenOk_le hl, fun p hp => ?_⟩
      exact k _ α1 _ (X1.trans0 (Ext.new hp)) (S1.new hp) ⟨p, rfl, X1.dom _ hp, S1.fresh hp, ⟨vs, upd_same, h2.ext (Ext.new (own := Non) hp)⟩, trivial⟩
    · cases hm2

/-! ### calls of built-ins -/
def rUn (G : Kx) (g : List R → M R) : List V → Hp → VK → Prop := fun xs H Q => ∃ α own st rs r st', RepRs G H α All own xs rs ∧ RepS G H α st ∧ g rs st = some (r, st') ∧
  ∀ v α' H', Ext Non α H α' H' → RepS G H' α' st' → RepR G H' α' (Fresh H) own v r → Q v H'
abbrev CallS (X : Cx) (C : List Addr) (f : Value) (g : List R → M R) : Prop := CallR X f (rUn (gx X C) g)
def eB (g : List R → M R) (ms : Env → M (List R)) : Env → M R := fun env => ms env >>= g
theorem to_B {G : Kx} {g : List R → M R} {ms : Env → M (List R)} {σ : St} {H : Hp} {Q : VK} (h : tE G (eB g ms) σ H Q) : tCB (rUn G g) (tA G ms) σ H Q := by
  obtain ⟨α, env, st, r, st', hE, hS, hm, k⟩ := h
  obtain ⟨rs, s1, e1, e2⟩ := bind_run hm
  exact ⟨α, env, st, rs, s1, hE, hS, e1, fun vs α1 H1 X1 S1 R1 => ⟨α1, Own σ env, s1, rs, r, st', R1.mono (fun _ _ => trivial), S1, e2, fun v α2 H2 X2 S2 R2 =>
    k v α2 H2 (X1.trans0 X2) S2 (R2.mono fun a h => X1.dom _ h)⟩⟩
theorem callB {id : String} {x : Str} {g : List R → M R} (hc : CallS X C (.builtin id) g) (hg : Gl X x) (hm : X.mg x = none) (hv : bootBuiltins x = some (.builtin id)) (ha : SimA X C (e :: es) ms) (hn : x ≠ "__name__" := by decide) (hdb : (x == ("__debug__" : Str)) = false := by decide)
    (hs : starEach (e :: es) X.env = (false, eval e X.env) :: starEach es X.env := by rfl) (hpl : (backTo pos (starEach es X.env)).any (·.1) = false := by rfl) : SimE X C (.Call (.Name x p) (e :: es) [] pos) (eB g ms) :=
  (pe_callB hc hg hm hv ha hn hdb hs hpl).wk fun _ _ _ h => to_B h
theorem callTy {T : String} {x : Str} {g : List R → M R} (hc : CallS X C (.type T) g) (hg : Gl X x) (hm : X.mg x = none) (hv : bootBuiltins x = some (.type T)) (ha : SimA X C (e :: es) ms) (hn : x ≠ "__name__" := by decide) (hdb : (x == ("__debug__" : Str)) = false := by decide)
    (hs : starEach (e :: es) X.env = (false, eval e X.env) :: starEach es X.env := by rfl) (hpl : (backTo pos (starEach es X.env)).any (·.1) = false := by rfl) : SimE X C (.Call (.Name x p) (e :: es) [] pos) (eB g ms) :=
  (pe_callTy hc hg hm hv ha hn hdb hs hpl).wk fun _ _ _ h => to_B h
end
end Mi
/-! Mi: the built-ins that are called. -/
namespace Mi
open PySem PySem.Spec PyProof.Rows L2 PySem.W

def allInts : List D → Option (List Int)
  | [] => some []
  | .int i :: r => (allInts r).map (i :: ·)
  | _ => none
theorem allInts_eq : ∀ {ds : List D} {ns : List Int}, allInts ds = some ns → ds = ns.map .int
  | [], ns, h => by cases h; rfl
  | .int i :: r, ns, h => by
    cases q : allInts r with
    | none => rw [allInts, q] at h; cases h
    | some ms =>
      rw [allInts, q] at h
      cases h
      rw [allInts_eq q]
      rfl
  | .non :: _, _, h => nomatch h
  | .bl _ :: _, _, h => nomatch h
  | .str _ :: _, _, h => nomatch h
  | .tup _ :: _, _, h => nomatch h
  | .obj _ :: _, _, h => nomatch h
@[simp] theorem allInts_map : ∀ (ns : List Int), allInts (ns.map .int) = some ns
  | [] => rfl
  | n :: ns => by rw [List.map_cons, allInts, allInts_map ns]; rfl
def allBls : List D → Option (List Bool)
  | [] => some []
  | .bl i :: r => (allBls r).map (i :: ·)
  | _ => none
theorem allBls_eq : ∀ {ds : List D} {ns : List Bool}, allBls ds = some ns → ds = ns.map .bl
  | [], ns, h => by cases h; rfl
  | .bl i :: r, ns, h => by
    cases q : allBls r with
    | none => rw [allBls, q] at h; cases h
    | some ms =>
      rw [allBls, q] at h
      cases h
      rw [allBls_eq q]
      rfl
  | .non :: _, _, h => nomatch h
  | .int _ :: _, _, h => nomatch h
  | .str _ :: _, _, h => nomatch h
  | .tup _ :: _, _, h => nomatch h
  | .obj _ :: _, _, h => nomatch h
@[simp] theorem allBls_map : ∀ (ns : List Bool), allBls (ns.map .bl) = some ns
  | [] => rfl
  | n :: ns => by rw [List.map_cons, allBls, allBls_map ns]; rfl

def bLen : List R → M R
  | [.v (.str x)] => if lenOk x.length = true then pure (.v (.int x.length)) else M.fail
  | [r] => asSeq r >>= fun ds => pure (.v (.int ds.length))
  | _ => M.fail
def bAbs : List R → M R
  | [.v (.int i)] => pure (.v (.int (if i < 0 then -i else i)))
  | _ => M.fail
def bInt : List R → M R
  | [.v (.int i)] => pure (.v (.int i))
  | [.v (.bl b)] => pure (.v (.int (if b then 1 else 0)))
  | _ => M.fail
def maxL : List Int → Int
  | [] => 0
  | n :: ns => ns.foldl max n
def minL : List Int → Int
  | [] => 0
  | n :: ns => ns.foldl min n
def bMax : List R → M R
  | [.v (.int i), .v (.int j)] => pure (.v (.int (if j > i then j else i)))
  | [r] => asSeq r >>= fun ds => M.ofO (allInts ds) >>= fun ns => if ns = [] then M.fail else pure (.v (.int (maxL ns)))
  | _ => M.fail
def bMin : List R → M R
  | [.v (.int i), .v (.int j)] => pure (.v (.int (if j < i then j else i)))
  | [r] => asSeq r >>= fun ds => M.ofO (allInts ds) >>= fun ns => if ns = [] then M.fail else pure (.v (.int (minL ns)))
  | _ => M.fail
/-- a list, not a tuple -/
def asLs : R → M (List D)
  | .v (.tup _) => M.fail
  | r => asSeq r
def bSum : List R → M R
  | [r] => asLs r >>= fun ds => M.ofO (allInts ds) >>= fun ns => pure (.v (.int ns.sum))
  | _ => M.fail
def bAll : List R → M R
  | [r] => asLs r >>= fun ds => M.ofO (allBls ds) >>= fun ns => pure (.v (.bl (ns.all id)))
  | _ => M.fail
def bAny : List R → M R
  | [r] => asLs r >>= fun ds => M.ofO (allBls ds) >>= fun ns => pure (.v (.bl (ns.any id)))
  | _ => M.fail
def sortI (ns : List Int) : List Int := ns.mergeSort fun a b => decide (a ≤ b)
def bSortI : List R → M R
  | [r] => asLs r >>= fun ds => M.ofO (allInts ds) >>= fun ns => pure (.l (.lst ((sortI ns).map .int)))
  | _ => M.fail
def bTup : List R → M R
  | [r] => asSeq r >>= fun ds => pure (.v (.tup ds))
  | _ => M.fail
def bLst : List R → M R
  | [r] => asSeq r >>= fun ds => pure (.l (.lst ds))
  | _ => M.fail
theorem sortI_eq {ns ms : List Int} (h1 : ms.Perm ns) (h2 : ms.Pairwise (· ≤ ·)) : ms = sortI ns := by
  refine List.Perm.eq_of_pairwise (le := (· ≤ ·)) (fun a b _ _ h1 h2 => Int.le_antisymm h1 h2) h2 ?_ (h1.trans (List.mergeSort_perm _ _).symm)
  have := List.pairwise_mergeSort (le := fun a b : Int => decide (a ≤ b)) (fun a b c h1 h2 => by simp at *; omega) (fun a b => by simp; omega) ns
  simpa [sortI] using this
theorem foldl_max : ∀ (ns : List Int) (n : Int), n ≤ ns.foldl max n ∧ (∀ y ∈ ns, y ≤ ns.foldl max n) ∧ (ns.foldl max n = n ∨ ns.foldl max n ∈ ns)
  | [], n => ⟨Int.le_refl _, by simp, .inl rfl⟩
  | a :: r, n => by
    obtain ⟨h1, h2, h3⟩ := foldl_max r (max n a)
    rw [List.foldl_cons]
    refine ⟨by omega, fun y hy => ?_, ?_⟩
    · rcases List.mem_cons.mp hy with rfl | hy
      · omega
      · exact h2 y hy
    · rcases h3 with h3 | h3
      · rw [h3]
        by_cases hc : n ≤ a
        · rw [Int.max_eq_right hc]; exact .inr List.mem_cons_self
        · rw [Int.max_eq_left (by omega)]; exact .inl rfl
      · exact .inr (List.mem_cons_of_mem _ h3)
theorem foldl_min : ∀ (ns : List Int) (n : Int), ns.foldl min n ≤ n ∧ (∀ y ∈ ns, ns.foldl min n ≤ y) ∧ (ns.foldl min n = n ∨ ns.foldl min n ∈ ns)
  | [], n => ⟨Int.le_refl _, by simp, .inl rfl⟩
  | a :: r, n => by
    obtain ⟨h1, h2, h3⟩ := foldl_min r (min n a)
    rw [List.foldl_cons]
    refine ⟨by omega, fun y hy => ?_, ?_⟩
    · rcases List.mem_cons.mp hy with rfl | hy
      · omega
      · exact h2 y hy
    · rcases h3 with h3 | h3
      · rw [h3]
        by_cases hc : n ≤ a
        · rw [Int.min_eq_left hc]; exact .inl rfl
        · rw [Int.min_eq_right (by omega)]; exact .inr List.mem_cons_self
      · exact .inr (List.mem_cons_of_mem _ h3)
theorem maxL_mem {ns : List Int} (h : ns ≠ []) : maxL ns ∈ ns ∧ ∀ y ∈ ns, y ≤ maxL ns := by
  cases ns with
  | nil => exact absurd rfl h
  | cons n r =>
    obtain ⟨h1, h2, h3⟩ := foldl_max r n
    refine ⟨?_, fun y hy => ?_⟩
    · rcases h3 with h3 | h3
      · show r.foldl max n ∈ _; rw [h3]; exact List.mem_cons_self
      · exact List.mem_cons_of_mem _ h3
    · rcases List.mem_cons.mp hy with rfl | hy
      · exact h1
      · exact h2 y hy
theorem minL_mem {ns : List Int} (h : ns ≠ []) : minL ns ∈ ns ∧ ∀ y ∈ ns, minL ns ≤ y := by
  cases ns with
  | nil => exact absurd rfl h
  | cons n r =>
    obtain ⟨h1, h2, h3⟩ := foldl_min r n
    refine ⟨?_, fun y hy => ?_⟩
    · rcases h3 with h3 | h3
      · show r.foldl min n ∈ _; rw [h3]; exact List.mem_cons_self
      · exact List.mem_cons_of_mem _ h3
    · rcases List.mem_cons.mp hy with rfl | hy
      · exact h1
      · exact h2 y hy
section
variable {G : Kx} {H : Hp} {α : List Addr} {fr own : Addr → Prop} {st st' : Sto} {v : V} {vs : List V} {r : R} {ds : List D}
theorem asLs_ok (hr : RepR G H α fr own v r) (hS : RepS G H α st) (h : asLs r st = some (ds, st')) : st' = st ∧ ∃ a xs, v = .ref a ∧ SqL G.K H a xs ∧ RepL G H α xs ds := by
  unfold asLs at h
  split at h
  · exact nomatch (show (none : Option (List D × Sto)) = some (ds, st') from h)
  · rename_i hno
    unfold asSeq at h
    split at h
    · exact absurd rfl (hno _)
    · obtain ⟨rfl, rfl⟩ := pure_inv h
      obtain ⟨a, rfl, ⟨xs, h1, h2⟩, _⟩ := hr
      exact ⟨rfl, a, xs, rfl, h1.sq, h2⟩
    · obtain ⟨rfl, rfl⟩ := pure_inv h
      obtain ⟨a, rfl, ⟨xs, h1, h2⟩, _⟩ := hr
      exact ⟨rfl, a, xs, rfl, h1.sq, h2⟩
    · obtain ⟨rfl, a, xs, rfl, h1, h2⟩ := asLst_ok hr hS h
      exact ⟨rfl, a, xs, rfl, SqL.of h1, h2⟩
theorem reps1 (h : RepRs G H α fr own vs [r]) : ∃ v, vs = [v] ∧ RepR G H α fr own v r := by
  cases h with
  | cons h1 h2 _ => cases h2; exact ⟨_, rfl, h1⟩
theorem reps2 {q : R} (h : RepRs G H α fr own vs [r, q]) : ∃ v w, vs = [v, w] ∧ RepR G H α fr own v r ∧ RepR G H α fr own w q := by
  cases h with
  | cons h1 h2 _ => cases h2 with | cons h2 h3 _ => cases h3; exact ⟨_, _, rfl, h1, h2⟩
end
section
variable {X : Cx} {C : List Addr}
theorem c_len : CallS X C (.builtin "len") bLen := by
  refine (call_len_str.or call_len_seq).wk fun xs H Q q => ?_
  obtain ⟨α, own, st, rs, r, st', hx, hS, hm, k⟩ := q
  unfold bLen at hm
  split at hm
  · obtain ⟨v, rfl, hv⟩ := reps1 hx
    cases hv
    split at hm
    · rename_i hl
      obtain ⟨rfl, rfl⟩ := pure_inv hm
      exact .inl ⟨_, rfl, lenOk_le hl, endV k hS (.int _)⟩
    · cases hm
  · obtain ⟨v, rfl, hv⟩ := reps1 hx
    obtain ⟨ds, s1, e1, hm2⟩ := bind_run hm
    clear hm
    obtain ⟨rfl, rfl⟩ := pure_inv hm2
    obtain ⟨rfl, a, ys, rfl, h1, h2⟩ := asSeq_ok hv hS e1
    refine .inr ⟨a, ys, rfl, h1, ?_⟩
    rw [h2.length]
    exact endV k hS (.int _)
  · cases hm
theorem c_abs : CallS X C (.builtin "abs") bAbs := by
  refine call_abs.wk fun xs H Q q => ?_
  obtain ⟨α, own, st, rs, r, st', hx, hS, hm, k⟩ := q
  unfold bAbs at hm
  split at hm
  · obtain ⟨v, rfl, hv⟩ := reps1 hx
    cases hv
    obtain ⟨rfl, rfl⟩ := pure_inv hm
    exact ⟨_, rfl, endV k hS (.int _)⟩
  · cases hm
theorem c_int : CallS X C (.type "int") bInt := by
  refine call_int1.wk fun xs H Q q => ?_
  obtain ⟨α, own, st, rs, r, st', hx, hS, hm, k⟩ := q
  unfold bInt at hm
  split at hm
  · obtain ⟨v, rfl, hv⟩ := reps1 hx
    cases hv
    obtain ⟨rfl, rfl⟩ := pure_inv hm
    exact .inl ⟨_, rfl, endV k hS (.int _)⟩
  · obtain ⟨v, rfl, hv⟩ := reps1 hx
    cases hv
    obtain ⟨rfl, rfl⟩ := pure_inv hm
    exact .inr ⟨_, rfl, endV k hS (.int _)⟩
  · cases hm
/-- max of a tuple of ints -/
def rMaxT (K : PySem.W.Frag) : List V → Hp → VK → Prop := fun vs H Q => ∃ (a : Addr) (n : Int) (ns : List Int), vs = [V.ref a] ∧ SqT K H a ((n :: ns).map V.int) ∧ Q (.int (ns.foldl max n)) H
def rMinT (K : PySem.W.Frag) : List V → Hp → VK → Prop := fun vs H Q => ∃ (a : Addr) (n : Int) (ns : List Int), vs = [V.ref a] ∧ SqT K H a ((n :: ns).map V.int) ∧ Q (.int (ns.foldl min n)) H
theorem alike_ints' (ns : List Int) : AlikeAll (ns.map PyData.int) := by
  refine ⟨fun x hx y hy => ?_, fun x hx e => ?_⟩
  · obtain ⟨i, _, rfl⟩ := List.mem_map.mp hx
    obtain ⟨j, _, rfl⟩ := List.mem_map.mp hy
    rfl
  · obtain ⟨i, _, rfl⟩ := List.mem_map.mp hx
    cases e
theorem dpAll_ints {K : PySem.W.Frag} {H : Hp} : ∀ (ns : List Int), DpAll K H (ns.map V.int) (ns.map PyData.int)
  | [] => .nil
  | n :: ns => .cons (.int n) (dpAll_ints ns)
theorem depth_ints' : ∀ ns : List Int, PyData.depthAll (ns.map PyData.int) = 0
  | [] => rfl
  | n :: ns => by
    rw [List.map_cons]
    show max 0 (PyData.depthAll (ns.map PyData.int)) = 0
    rw [depth_ints' ns]
    rfl
theorem cr_maxT {n : Nat} (hr : Room n X.A) (hc : X.calm = true) : CallR X (.builtin "max") (rMaxT X.K) := by
  (intro pins s σ H vs us Q I r h); obtain ⟨a, n, ns, rfl, hs, q⟩ := h
  obtain ⟨its, rv, hl, _⟩ := I.tuple hs
  rw [Vals.ref1 r]
  obtain ⟨as, hra⟩ := Dp.readsAll I _ _ _ (dpAll_ints (K := X.K) (H := H) (n :: ns)) rv
  rw [List.map_cons] at hra
  refine max_tuple_data (I.ok.hd hc) hl hra (alike_ints' (n :: ns)) ?_ fun i v h' tk bs _ hrd hk => ?_
  · have := hr.units
    have e := depth_ints' (n :: ns)
    rw [List.map_cons] at e
    rw [e]
    omega
  · rw [maxD_ints] at hrd
    cases hrd
    exact ⟨.int _, H, I.kept hk, ⟨_, rfl⟩, q⟩
theorem cr_minT {n : Nat} (hr : Room n X.A) (hc : X.calm = true) : CallR X (.builtin "min") (rMinT X.K) := by
  (intro pins s σ H vs us Q I r h); obtain ⟨a, n, ns, rfl, hs, q⟩ := h
  obtain ⟨its, rv, hl, _⟩ := I.tuple hs
  rw [Vals.ref1 r]
  obtain ⟨as, hra⟩ := Dp.readsAll I _ _ _ (dpAll_ints (K := X.K) (H := H) (n :: ns)) rv
  rw [List.map_cons] at hra
  refine min_tuple_data (I.ok.hd hc) hl hra (alike_ints' (n :: ns)) ?_ fun i v h' tk bs _ hrd hk => ?_
  · have := hr.units
    have e := depth_ints' (n :: ns)
    rw [List.map_cons] at e
    rw [e]
    omega
  · rw [minD_ints] at hrd
    cases hrd
    exact ⟨.int _, H, I.kept hk, ⟨_, rfl⟩, q⟩
theorem c_max {n : Nat} (hr : Room n X.A) (hc : X.calm = true) : CallS X C (.builtin "max") bMax := by
  refine ((call_max2 hc).or ((cr_max hc).or (cr_maxT hr hc))).wk fun xs H Q q => ?_
  obtain ⟨α, own, st, rs, r, st', hx, hS, hm, k⟩ := q
  unfold bMax at hm
  split at hm
  · obtain ⟨v, w, rfl, hv, hw⟩ := reps2 hx
    cases hv; cases hw
    obtain ⟨rfl, rfl⟩ := pure_inv hm
    exact .inl ⟨_, _, rfl, endV k hS (.int _)⟩
  · obtain ⟨v, rfl, hv⟩ := reps1 hx
    obtain ⟨ds, s1, e1, hm2⟩ := bind_run hm
    obtain ⟨ns, s2, e2, hm3⟩ := bind_run hm2
    clear hm hm2
    obtain ⟨e3, rfl⟩ := ofO_inv e2
    obtain rfl := allInts_eq e3
    obtain ⟨rfl, a, ys, rfl, h1, h2⟩ := asSeq_ok hv hS e1
    obtain rfl := h2.ints
    split at hm3
    · cases hm3
    · rename_i hne
      obtain ⟨rfl, rfl⟩ := pure_inv hm3
      rcases h1 with h1 | h1
      · refine .inr (.inl ⟨a, ns, rfl, h1, List.length_pos_iff.mpr hne, fun m hm hy => ?_⟩)
        have e : m = maxL ns := Int.le_antisymm ((maxL_mem hne).2 m hm) (hy _ (maxL_mem hne).1)
        rw [e]
        exact endV k hS (.int _)
      · cases ns with
        | nil => exact absurd rfl hne
        | cons i r => exact .inr (.inr ⟨a, i, r, rfl, h1, endV k hS (.int _)⟩)
  · cases hm
theorem c_min {n : Nat} (hr : Room n X.A) (hc : X.calm = true) : CallS X C (.builtin "min") bMin := by
  refine ((call_min2 hc).or ((cr_min hc).or (cr_minT hr hc))).wk fun xs H Q q => ?_
  obtain ⟨α, own, st, rs, r, st', hx, hS, hm, k⟩ := q
  unfold bMin at hm
  split at hm
  · obtain ⟨v, w, rfl, hv, hw⟩ := reps2 hx
    cases hv; cases hw
    obtain ⟨rfl, rfl⟩ := pure_inv hm
    exact .inl ⟨_, _, rfl, endV k hS (.int _)⟩
  · obtain ⟨v, rfl, hv⟩ := reps1 hx
    obtain ⟨ds, s1, e1, hm2⟩ := bind_run hm
    obtain ⟨ns, s2, e2, hm3⟩ := bind_run hm2
    clear hm hm2
    obtain ⟨e3, rfl⟩ := ofO_inv e2
    obtain rfl := allInts_eq e3
    obtain ⟨rfl, a, ys, rfl, h1, h2⟩ := asSeq_ok hv hS e1
    obtain rfl := h2.ints
    split at hm3
    · cases hm3
    · rename_i hne
      obtain ⟨rfl, rfl⟩ := pure_inv hm3
      rcases h1 with h1 | h1
      · refine .inr (.inl ⟨a, ns, rfl, h1, List.length_pos_iff.mpr hne, fun m hm hy => ?_⟩)
        have e : m = minL ns := Int.le_antisymm (hy _ (minL_mem hne).1) ((minL_mem hne).2 m hm)
        rw [e]
        exact endV k hS (.int _)
      · cases ns with
        | nil => exact absurd rfl hne
        | cons i r => exact .inr (.inr ⟨a, i, r, rfl, h1, endV k hS (.int _)⟩)
  · cases hm
theorem c_sum (hc : X.calm = true) : CallS X C (.builtin "sum") bSum := by
  refine (cr_sum hc).wk fun xs H Q q => ?_
  obtain ⟨α, own, st, rs, r, st', hx, hS, hm, k⟩ := q
  unfold bSum at hm
  split at hm
  · obtain ⟨v, rfl, hv⟩ := reps1 hx
    obtain ⟨ds, s1, e1, hm2⟩ := bind_run hm
    obtain ⟨ns, s2, e2, hm3⟩ := bind_run hm2
    clear hm hm2
    obtain ⟨e3, rfl⟩ := ofO_inv e2
    obtain rfl := allInts_eq e3
    obtain ⟨rfl, a, ys, rfl, h1, h2⟩ := asLs_ok hv hS e1
    obtain rfl := h2.ints
    obtain ⟨rfl, rfl⟩ := pure_inv hm3
    exact ⟨a, ns, rfl, h1, endV k hS (.int _)⟩
  · cases hm
theorem c_all (hc : X.calm = true) : CallS X C (.builtin "all") bAll := by
  refine (cr_all hc).wk fun xs H Q q => ?_
  obtain ⟨α, own, st, rs, r, st', hx, hS, hm, k⟩ := q
  unfold bAll at hm
  split at hm
  · obtain ⟨v, rfl, hv⟩ := reps1 hx
    obtain ⟨ds, s1, e1, hm2⟩ := bind_run hm
    obtain ⟨ns, s2, e2, hm3⟩ := bind_run hm2
    clear hm hm2
    obtain ⟨e3, rfl⟩ := ofO_inv e2
    obtain rfl := allBls_eq e3
    obtain ⟨rfl, a, ys, rfl, h1, h2⟩ := asLs_ok hv hS e1
    obtain rfl := h2.bools
    obtain ⟨rfl, rfl⟩ := pure_inv hm3
    exact ⟨a, ns, rfl, h1, endV k hS (.bl _)⟩
  · cases hm
theorem c_any (hc : X.calm = true) : CallS X C (.builtin "any") bAny := by
  refine (cr_any hc).wk fun xs H Q q => ?_
  obtain ⟨α, own, st, rs, r, st', hx, hS, hm, k⟩ := q
  unfold bAny at hm
  split at hm
  · obtain ⟨v, rfl, hv⟩ := reps1 hx
    obtain ⟨ds, s1, e1, hm2⟩ := bind_run hm
    obtain ⟨ns, s2, e2, hm3⟩ := bind_run hm2
    clear hm hm2
    obtain ⟨e3, rfl⟩ := ofO_inv e2
    obtain rfl := allBls_eq e3
    obtain ⟨rfl, a, ys, rfl, h1, h2⟩ := asLs_ok hv hS e1
    obtain rfl := h2.bools
    obtain ⟨rfl, rfl⟩ := pure_inv hm3
    exact ⟨a, ns, rfl, h1, endV k hS (.bl _)⟩
  · cases hm
theorem c_sortI : CallS X C (.builtin "sorted") bSortI := by
  refine cr_sortedI.wk fun xs H Q q => ?_
  obtain ⟨α, own, st, rs, r, st', hx, hS, hm, k⟩ := q
  unfold bSortI at hm
  split at hm
  · obtain ⟨v, rfl, hv⟩ := reps1 hx
    obtain ⟨ds, s1, e1, hm2⟩ := bind_run hm
    obtain ⟨ns, s2, e2, hm3⟩ := bind_run hm2
    clear hm hm2
    obtain ⟨e3, rfl⟩ := ofO_inv e2
    obtain rfl := allInts_eq e3
    obtain ⟨rfl, a, ys, rfl, h1, h2⟩ := asLs_ok hv hS e1
    obtain rfl := h2.ints
    obtain ⟨rfl, rfl⟩ := pure_inv hm3
    refine ⟨a, ns, rfl, h1, fun ms p e1 e2 hp => ?_⟩
    rw [sortI_eq e1 e2]
    exact endL k hS hp (.ofInts _)
  · cases hm
theorem c_tuple : CallS X C (.type "tuple") bTup := by
  refine call_tuple_of.wk fun xs H Q q => ?_
  obtain ⟨α, own, st, rs, r, st', hx, hS, hm, k⟩ := q
  unfold bTup at hm
  split at hm
  · obtain ⟨v, rfl, hv⟩ := reps1 hx
    obtain ⟨ds, s1, e1, hm2⟩ := bind_run hm
    clear hm
    obtain ⟨rfl, a, ys, rfl, h1, h2⟩ := asSeq_ok hv hS e1
    obtain ⟨rfl, rfl⟩ := pure_inv hm2
    rcases h1 with h1 | h1
    · exact ⟨a, ys, rfl, .inl ⟨h1, fun l hl => endT k hS hl h2⟩⟩
    · exact ⟨a, ys, rfl, .inr ⟨h1, endV k hS (.tup h1 h2)⟩⟩
  · cases hm
theorem c_list : CallS X C (.type "list") bLst := by
  refine call_list_of.wk fun xs H Q q => ?_
  obtain ⟨α, own, st, rs, r, st', hx, hS, hm, k⟩ := q
  unfold bLst at hm
  split at hm
  · obtain ⟨v, rfl, hv⟩ := reps1 hx
    obtain ⟨ds, s1, e1, hm2⟩ := bind_run hm
    clear hm
    obtain ⟨rfl, a, ys, rfl, h1, h2⟩ := asSeq_ok hv hS e1
    obtain ⟨rfl, rfl⟩ := pure_inv hm2
    exact ⟨a, ys, rfl, h1, fun l hl => endL k hS hl h2⟩
  · cases hm
/-! ### isinstance of a built-in class -/
def tyR (st : Sto) : R → Option String
  | .v .non => some "NoneType"
  | .v (.bl _) => some "bool"
  | .v (.int _) => some "int"
  | .v (.str _) => some "str"
  | .v (.tup _) => some "tuple"
  | .v (.obj n) => match st[n]? with
    | some (.lst _) => some "list"
    | some (.dic _) => some "dict"
    | some (.dit _) => some "dict"
    | _ => none
  | .l (.lst _) | .o (.lst _) | .b (.lst _) => some "list"
  | .l (.dic _) | .o (.dic _) | .b (.dic _) => some "dict"
  | _ => none
def gIsT (T : String) : R → M R := fun r st => match tyR st r with
  | some t => match kitB t T with
    | some b => some (.v (.bl b), st)
    | none => none
  | none => none
theorem tyR_ok {G : Kx} {H : Hp} {α : List Addr} {fr own : Addr → Prop} {st : Sto} {v : V} {r : R} {t : String} (hr : RepR G H α fr own v r) (hS : RepS G H α st) (h : tyR st r = some t) : TyX G.K H v (.type t) := by
  have dic : ∀ {a : Addr} {kvs : List (Key × D)}, RepO G H α a (.dic kvs) → TyX G.K H (.ref a) (.type "dict") := fun h => by
    obtain ⟨ks, h, _⟩ := h
    exact .base (.dK h)
  unfold tyR at h
  split at h
  · cases h; cases hr; exact .base .non
  · cases h; cases hr; exact .base (.bl _)
  · cases h; cases hr; exact .base (.int _)
  · cases h; cases hr; exact .base (.str _)
  · cases h
    cases hr with
    | tup h1 h2 =>
      rcases h1 with (h1 | ⟨o, h1⟩) | ⟨o, its, n, h1, h2, _⟩
      · exact .base (.tup h1)
      · exact .fTuple h1
      · exact .kTuple h1 h2
  · split at h
    · rename_i q
      cases h
      cases hr with
      | obj ha =>
        obtain ⟨xs, h1, _⟩ := hS.obj _ _ _ q ha
        exact .base (.lst h1)
    · rename_i q
      cases h
      cases hr with
      | obj ha => exact dic (hS.obj _ _ _ q ha)
    · rename_i q
      cases h
      cases hr with
      | obj ha =>
        obtain ⟨ks, h1, _⟩ := hS.obj _ _ _ q ha
        exact .base (.dT h1)
    · cases h
  · cases h; obtain ⟨a, rfl, _, _, ⟨xs, h1, _⟩, _⟩ := hr; exact .base (.lst h1)
  · cases h; obtain ⟨a, rfl, ⟨xs, h1, _⟩, _⟩ := hr; exact .base (.lst h1)
  · cases h; obtain ⟨a, rfl, ⟨xs, h1, _⟩, _⟩ := hr; exact .base (.lst h1)
  · cases h; obtain ⟨a, rfl, _, _, h1, _⟩ := hr; exact dic h1
  · cases h; obtain ⟨a, rfl, h1, _⟩ := hr; exact dic h1
  · cases h; obtain ⟨a, rfl, h1, _⟩ := hr; exact dic h1
  · cases h
theorem isT {T : String} {x : Str} {e : Expr} {p p2 pos : Pos} {m : Env → M R} (hg : Gl X "isinstance") (hm : X.mg "isinstance" = none) (hg2 : Gl X x) (hm2 : X.mg x = none) (hv : bootBuiltins x = some (.type T)) (hk : ClsV (.ty T) (.type T)) (he : SimE X C e m)
    (hn : x ≠ "__name__" := by decide) (hdb : (x == ("__debug__" : Str)) = false := by decide)
    (h1 : starEach [e, .Name x p2] X.env = (false, eval e X.env) :: starEach [.Name x p2] X.env := by rfl) (h2 : starEach [.Name x p2] X.env = (false, eval (.Name x p2) X.env) :: starEach [] X.env := by rfl)
    (hpl : (backTo pos (starEach [.Name x p2] X.env)).any (·.1) = false := by rfl) : SimE X C (.Call (.Name "isinstance" p) [e, .Name x p2] [] pos) (eU (gIsT T) m) := by
  refine (pe_callB call_isi hg hm PyProof.Rows.boot_isinstance (pa_cons he (pa_cons (pe_bltn (v := .ty T) hg2 hm2 hv rfl hn hdb) pa_nil h2) h1) (by decide) (by decide) h1 hpl).wk fun σ H Q h => ?_
  obtain ⟨α, env, st, r, st', hE, hS, hm, k⟩ := to1 h
  refine ⟨α, env, st, r, st', hE, hS, hm, fun v α1 H1 X1 S1 R1 => ?_⟩
  obtain ⟨α2, own, s2, rx, r2, s3, hx, hS2, hm2, k2⟩ := k v α1 H1 X1 S1 R1
  unfold gIsT at hm2
  split at hm2
  · rename_i t e1
    split at hm2
    · rename_i b e2
      injection hm2 with hm2
      injection hm2 with g1 g2
      subst g1 g2
      exact ⟨v, .ty T, _, _, b, rfl, hk, tyR_ok hx hS2 e1, kit_ty e2, endV k2 hS2 (.bl b)⟩
    · cases hm2
  · cases hm2
end
end Mi
/-! Mi: statements. -/
namespace Mi
open PySem PySem.Spec PyProof.Rows L2

inductive Fl where
  | nx (env : Env) | bk (env : Env) | ct (env : Env) | rt (r : R)
def EndOk (G : Kx) (H : Hp) (σ : St) (env : Env) (α' : List Addr) (H' : Hp) (D : Ends) : Fl → Prop
  | .nx env' => ∀ σ', RepE G H' α' σ' env' → (∀ a, Own σ' env' a → Own σ env a ∨ H a = none) → D.nx σ' H'
  | .bk env' => ∀ σ', RepE G H' α' σ' env' → (∀ a, Own σ' env' a → Own σ env a ∨ H a = none) → D.bk σ' H'
  | .ct env' => ∀ σ', RepE G H' α' σ' env' → (∀ a, Own σ' env' a → Own σ env a ∨ H a = none) → D.ct σ' H'
  | .rt r => ∀ v, RepR G H' α' (fun a => H a = none ∨ Own σ env a) Non v r → D.rt v H'
def tS (G : Kx) (m : Env → M Fl) : TS := fun D σ H => ∃ α env st fl st', RepE G H α σ env ∧ RepS G H α st ∧ m env st = some (fl, st') ∧
  ∀ α' H', Ext (Own σ env) α H α' H' → RepS G H' α' st' → EndOk G H σ env α' H' D fl
abbrev SimS (X : Cx) (C : List Addr) (s : Stmt) (m : Env → M Fl) : Prop := PS X s (tS (gx X C) m)
abbrev SimSs (X : Cx) (C : List Addr) (s : List Stmt) (m : Env → M Fl) : Prop := PSs X s (tS (gx X C) m)
theorem EndOk.back {G : Kx} {H H1 : Hp} {σ σ1 : St} {env e1 : Env} {α' : List Addr} {H' : Hp} {D : Ends} {fl : Fl} (k : EndOk G H σ env α' H' D fl) (h : ∀ a, Own σ1 e1 a ∨ H1 a = none → Own σ env a ∨ H a = none) : EndOk G H1 σ1 e1 α' H' D fl := by
  cases fl with
  | nx e => exact fun σ' E' O' => k σ' E' fun a ha => h a (O' a ha)
  | bk e => exact fun σ' E' O' => k σ' E' fun a ha => h a (O' a ha)
  | ct e => exact fun σ' E' O' => k σ' E' fun a ha => h a (O' a ha)
  | rt r => exact fun v hv => k v (hv.mono fun a ha => (h a ha.symm).symm)
def sNil : Env → M Fl := fun env => pure (.nx env)
def sSeq (a b : Env → M Fl) : Env → M Fl := fun env => a env >>= fun fl => match fl with
  | .nx e => b e
  | f => pure f
def toO : R → R
  | .b o => .o o
  | r => r
def sRet (m : Env → M R) : Env → M Fl := fun env => m env >>= fun r => pure (.rt (toO r))
/-- return x, x a name: a list of its own is handed over -/
def sRetV (i : Nat) : Env → M Fl := fun env => match env[i]? with
  | some (some r) => pure (.rt (toO r))
  | _ => M.fail
def sRetN : Env → M Fl := fun _ => pure (.rt (.v .non))
def sExpr (m : Env → M R) : Env → M Fl := fun env => m env >>= fun _ => pure (.nx env)
def sIf (t : Env → M Bool) (a b : Env → M Fl) : Env → M Fl := fun env => t env >>= fun c => if c = true then a env else b env
def sNever : Env → M Fl := fun _ => M.fail
section
variable {X : Cx} {C : List Addr} {st : Stmt} {rest : List Stmt} {e : Expr} {pos : Pos} {m : Env → M R} {a b : Env → M Fl} {t : Env → M Bool}
theorem s_nil : SimSs X C [] sNil := pss_nil.wk fun D σ H h => by
  obtain ⟨α, env, st, fl, st', hE, hS, hm, k⟩ := h
  obtain ⟨rfl, rfl⟩ := pure_inv hm
  exact k α H Ext.rfl' hS σ hE fun _ h => .inl h
theorem s_cons (h1 : SimS X C st a) (h2 : SimSs X C rest b) : SimSs X C (st :: rest) (sSeq a b) := (pss_cons h1 h2).wk fun D σ H h => by
  obtain ⟨α, env, s0, fl, st', hE, hS, hm, k⟩ := h
  obtain ⟨f1, s1, e1, hm1⟩ := bind_run hm
  refine ⟨α, env, s0, f1, s1, hE, hS, e1, fun α1 H1 X1 S1 => ?_⟩
  cases f1 with
  | nx env1 =>
    intro σ1 E1 O1
    refine ⟨α1, env1, s1, fl, st', E1, S1, hm1, fun α2 H2 X2 S2 => ?_⟩
    refine (k α2 H2 (X1.trans X2 O1) S2).back fun a ha => ?_
    rcases ha with ha | ha
    · exact O1 a ha
    · exact .inr (X1.dom a ha)
  | _ =>
    obtain ⟨rfl, rfl⟩ := pure_inv hm1
    exact k α1 H1 X1 S1
theorem s_one (h1 : SimS X C st a) : SimSs X C [st] a := pss_one h1
theorem s_never : SimS X C st sNever := ps_never.wk fun D σ H h => by
  obtain ⟨α, env, s0, fl, st', hE, hS, hm, k⟩ := h
  exact nomatch (show (none : Option (Fl × Sto)) = some (fl, st') from hm)
theorem s_pass : SimS X C (.Pass pos) sNil := ps_pass.wk fun D σ H h => by
  obtain ⟨α, env, st, fl, st', hE, hS, hm, k⟩ := h
  obtain ⟨rfl, rfl⟩ := pure_inv hm
  exact k α H Ext.rfl' hS σ hE fun _ h => .inl h
def sBreak : Env → M Fl := fun env => pure (.bk env)
def sCont : Env → M Fl := fun env => pure (.ct env)
theorem s_break : SimS X C (.Break pos) sBreak := ps_break.wk fun D σ H h => by
  obtain ⟨α, env, st, fl, st', hE, hS, hm, k⟩ := h
  obtain ⟨rfl, rfl⟩ := pure_inv hm
  exact k α H Ext.rfl' hS σ hE fun _ h => .inl h
theorem toO_ok {G : Kx} {H : Hp} {α : List Addr} {fr own : Addr → Prop} {v : V} {r : R} (h : RepR G H α fr own v r) : RepR G H α fr Non v (toO r) := by
  cases r with
  | b o =>
    obtain ⟨a, rfl, q, w⟩ := h
    exact ⟨a, rfl, q, fun m => ⟨(w m).1, fun z => z⟩⟩
  | _ => exact h
theorem s_ret (he : SimE X C e m) : SimS X C (.Return (some e) pos) (sRet m) := (ps_ret he).wk fun D σ H h => by
  obtain ⟨α, env, s0, fl, st', hE, hS, hm, k⟩ := h
  obtain ⟨r, s1, e1, hm1⟩ := bind_run hm
  obtain ⟨rfl, rfl⟩ := pure_inv hm1
  exact ⟨α, env, s0, r, _, hE, hS, e1, fun v α1 H1 X1 S1 R1 => k α1 H1 (X1.mono fun _ z => z.elim) S1 v ((toO_ok R1).mono fun a ha => .inl ha)⟩
theorem s_retV {i : Nat} {x : Str} {p : Pos} (hN : X.N[i]? = some x) (hv : Vis X.env.scope x) (hd : (x == ("__debug__" : Str)) = false := by decide) (hcd : (x == ("__classdict__" : Str)) = false := by decide) : SimS X C (.Return (some (.Name x p)) pos) (sRetV i) :=
  (ps_ret (pe_var hN hv hd hcd)).wk fun D σ H h => by
    obtain ⟨α, env, s0, fl, st', hE, hS, hm, k⟩ := h
    unfold sRetV at hm
    cases q : env[i]? with
    | none => rw [q] at hm; exact nomatch (show (none : Option (Fl × Sto)) = some (fl, st') from hm)
    | some o =>
      cases o with
      | none => rw [q] at hm; exact nomatch (show (none : Option (Fl × Sto)) = some (fl, st') from hm)
      | some r =>
        rw [q] at hm
        obtain ⟨rfl, rfl⟩ := pure_inv hm
        obtain ⟨v, hv, rs⟩ := hE.val i r q
        refine ⟨v, hv, k α H Ext.rfl' hS v ?_⟩
        cases r with
        | v d => exact rs
        | l o =>
          obtain ⟨a, rfl, hn, ro, m⟩ := rs
          exact ⟨a, rfl, .inr ⟨i, o, q, hv⟩, hn, ro, m⟩
        | o o => exact rs.elim
        | b o =>
          obtain ⟨a, rfl, q, w⟩ := rs
          exact ⟨a, rfl, q, fun m => ⟨(w m).1, fun z => z⟩⟩
theorem s_retN : SimS X C (.Return none pos) sRetN := ps_retN.wk fun D σ H h => by
  obtain ⟨α, env, s0, fl, st', hE, hS, hm, k⟩ := h
  obtain ⟨rfl, rfl⟩ := pure_inv hm
  exact k α H Ext.rfl' hS _ .non
theorem s_expr (he : SimE X C e m) (hs : swapsWith e none pos.line X.env = pure false := by rfl) : SimS X C (.Expr e pos) (sExpr m) := (ps_expr he hs).wk fun D σ H h => by
  obtain ⟨α, env, s0, fl, st', hE, hS, hm, k⟩ := h
  obtain ⟨r, s1, e1, hm1⟩ := bind_run hm
  obtain ⟨rfl, rfl⟩ := pure_inv hm1
  exact ⟨α, env, s0, r, _, hE, hS, e1, fun v α1 H1 X1 S1 R1 => k α1 H1 (X1.mono fun _ z => z.elim) S1 σ (hE.ext X1) fun _ h => .inl h⟩
theorem s_doc {x : Str} {j : Nat} {p2 : Pos} : SimS X C (.Expr (.Constant (.str x) j p2) pos) sNil := ps_doc.wk fun D σ H h => by
  obtain ⟨α, env, st, fl, st', hE, hS, hm, k⟩ := h
  obtain ⟨rfl, rfl⟩ := pure_inv hm
  exact k α H Ext.rfl' hS σ hE fun _ h => .inl h
theorem s_if {c : Expr} {sa sb : List Stmt} (hc : SimT X C c t) (ha : SimSs X C sa a) (hb : SimSs X C sb b) : SimS X C (.If c sa sb pos) (sIf t a b) := (ps_if hc ha hb).wk fun D σ H h => by
  obtain ⟨α, env, s0, fl, st', hE, hS, hm, k⟩ := h
  obtain ⟨r, s1, e1, hm1⟩ := bind_run hm
  refine ⟨α, env, s0, r, s1, hE, hS, e1, fun α1 H1 X1 S1 => ?_⟩
  have fin : ∀ {m : Env → M Fl}, m env s1 = some (fl, st') → tS (gx X C) m D σ H1 := fun h => ⟨α1, env, s1, fl, st', hE.ext X1, S1, h, fun α2 H2 X2 S2 =>
    (k α2 H2 ((X1.mono (own' := Own σ env) fun _ z => z.elim).trans X2 fun a h => .inl h) S2).back fun a ha => ha.imp id (X1.dom a)⟩
  dsimp only
  split
  · rename_i hk
    rw [if_pos hk] at hm1
    exact fin hm1
  · rename_i hk
    rw [if_neg hk] at hm1
    exact fin hm1
end

/-! ### slots -/
theorem own_set {σ : St} {env : Env} {i : Nat} {v : V} {r : R} {a : Addr} (hi : i < env.length) (h : Own (σ.set i (some v)) (env.set i (some r)) a) : (Own σ env a ∧ True) ∨ (∃ o, r = .l o ∧ v = .ref a) := by
  obtain ⟨j, o, h1, h2⟩ := h
  by_cases e : i = j
  · subst e
    rw [List.getElem?_set_self hi] at h1
    cases h1
    have hl : i < σ.length := by
      have := (List.getElem?_eq_some_iff.mp h2).1
      simpa using this
    rw [List.getElem?_set_self hl] at h2
    cases h2
    exact .inr ⟨o, rfl, rfl⟩
  · rw [List.getElem?_set_ne e] at h1 h2
    exact .inl ⟨⟨j, o, h1, h2⟩, trivial⟩
/-- a value laid into a slot, as it may be kept -/
def keepR : R → Option R
  | .v d => some (.v d)
  | .l o => some (.b o)
  | .b o => some (.b o)
  | .o _ => none
/-- .. a list as its own -/
def keepL : R → Option R
  | .v d => some (.v d)
  | .l o => some (.l o)
  | _ => none
section
variable {G : Kx} {H H0 : Hp} {α α0 : List Addr} {σ : St} {env : Env} {i : Nat} {v : V} {r q : R}
theorem RepSlot.own {ow ow' : Addr → Prop} (h : RepSlot G H α ow v r) (hw : ∀ a, v = .ref a → (∀ o, r = .b o → o.mov → ow' a → ow a)) : RepSlot G H α ow' v r := by
  cases r with
  | b o =>
    obtain ⟨a, rfl, q, w⟩ := h
    exact ⟨a, rfl, q, fun m => ⟨(w m).1, fun z => (w m).2 (hw a rfl o rfl m z)⟩⟩
  | _ => exact h
theorem slot_some {ow : Addr → Prop} {a : Addr} {o : O} (h : RepSlot G H α ow (.ref a) r) (e : r = .l o ∨ r = .b o) (m : o.mov) : ∃ u, H a = some u := by
  rcases e with rfl | rfl
  · obtain ⟨b, e, _, q, _⟩ := h
    cases e
    exact q.has m
  · obtain ⟨b, e, q, _⟩ := h
    cases e
    exact q.has m
/-- a stands in no slot as a list -/
def NoSlot (σ : St) (env : Env) (a : Addr) : Prop := ∀ (j : Nat) (r : R) (o : O), env[j]? = some (some r) → (r = .l o ∨ r = .b o) → o.mov → σ[j]? ≠ some (some (.ref a))
theorem RepE.noSlot (hE : RepE G H0 α0 σ env) {a : Addr} (h : H0 a = none) : NoSlot σ env a := fun j r o h1 e m h2 => by
  obtain ⟨v, g1, g2⟩ := hE.val j r h1
  rw [h2] at g1
  cases g1
  obtain ⟨u, hu⟩ := slot_some g2 e m
  rw [h] at hu; cases hu
theorem NoSlot.own {a : Addr} (h : NoSlot σ env a) (hm : RepE G H α σ env) : ¬ Own σ env a := fun ⟨j, o, h1, h2⟩ => by
  obtain ⟨v, g1, g2⟩ := hm.val j _ h1
  obtain ⟨b, _, _, _, m⟩ := g2
  exact h j _ o h1 (.inl rfl) m h2
theorem RepE.setN (hE : RepE G H α σ env) (hr : RepR G H α (NoSlot σ env) (Own σ env) v r) (hq : keepR r = some q ∨ keepL r = some q) (hi : i < env.length) :
    RepE G H α (σ.set i (some v)) (env.set i (some q)) ∧ ∀ a, Own (σ.set i (some v)) (env.set i (some q)) a → Own σ env a ∨ ∃ o, q = .l o ∧ r = .l o ∧ v = .ref a := by
  have hiσ : i < σ.length := by rw [hE.len]; exact hi
  have hown : ∀ a, Own (σ.set i (some v)) (env.set i (some q)) a → Own σ env a ∨ (∃ o, q = .l o ∧ r = .l o ∧ v = .ref a ∧ NoSlot σ env a) := fun a ha => by
    rcases own_set hi ha with h | ⟨o, rfl, rfl⟩
    · exact .inl h.1
    · rcases hq with hq | hq
      · cases r <;> cases hq
      · cases r with
        | l o' =>
          cases hq
          obtain ⟨b, e, hf, _⟩ := hr
          cases e
          exact .inr ⟨_, rfl, rfl, rfl, hf⟩
        | _ => cases hq
  refine ⟨⟨by rw [List.length_set, List.length_set]; exact hE.len, fun j s hj => ?_, fun j l a o o' h1 h2 h3 h4 => ?_⟩, fun a ha => (hown a ha).imp id fun ⟨o, h1, h2, h3, _⟩ => ⟨o, h1, h2, h3⟩⟩
  · by_cases e : i = j
    · subst e
      rw [List.getElem?_set_self hi] at hj
      cases hj
      refine ⟨v, List.getElem?_set_self hiσ, ?_⟩
      rcases hq with hq | hq
      · cases r with
        | v d => cases hq; exact hr
        | l o =>
          cases hq
          obtain ⟨a, rfl, hf, hn, ro, m⟩ := hr
          refine ⟨a, rfl, ro, fun _ => ⟨hn, fun z => ?_⟩⟩
          rcases hown a z with h | ⟨_, h, _⟩
          · exact hf.own hE h
          · cases h
        | b o =>
          cases hq
          obtain ⟨a, rfl, ro, w⟩ := hr
          refine ⟨a, rfl, ro, fun m => ⟨(w m).1, fun z => ?_⟩⟩
          rcases hown a z with h | ⟨_, h, _⟩
          · exact (w m).2 h
          · cases h
        | o o => cases hq
      · cases r with
        | v d => cases hq; exact hr
        | l o =>
          cases hq
          obtain ⟨a, rfl, hf, hn, ro, m⟩ := hr
          exact ⟨a, rfl, hn, ro, m⟩
        | _ => cases hq
    · rw [List.getElem?_set_ne e] at hj
      obtain ⟨w, g1, g2⟩ := hE.val j s hj
      refine ⟨w, by rw [List.getElem?_set_ne e]; exact g1, g2.own fun a ha o ho m z => ?_⟩
      rcases hown a z with h | ⟨o2, _, _, _, h⟩
      · exact h
      · subst ha
        exact (h j s o hj (.inr ho) m g1).elim
  · have side : ∀ {j l : Nat} {a : Addr} {o o' : O}, i = j → i ≠ l → (env.set i (some q))[j]? = some (some (.l o)) → (env.set i (some q))[l]? = some (some (.l o')) → (σ.set i (some v))[j]? = some (some (.ref a)) → (σ.set i (some v))[l]? = some (some (.ref a)) → False := by
      intro j l a o o' e ne k1 k2 k3 k4
      subst e
      rw [List.getElem?_set_self hi] at k1
      rw [List.getElem?_set_self hiσ] at k3
      rw [List.getElem?_set_ne ne] at k2 k4
      cases k1
      cases k3
      obtain ⟨w, g1, g2⟩ := hE.val l _ k2
      obtain ⟨_, _, _, _, m⟩ := g2
      rcases hq with hq | hq
      · cases r <;> cases hq
      · cases r with
        | l o' =>
          cases hq
          obtain ⟨b, e, hf, _⟩ := hr
          cases e
          exact hf l _ _ k2 (.inl rfl) m k4
        | _ => cases hq
    by_cases e1 : i = j
    · by_cases e2 : i = l
      · omega
      · exact (side e1 e2 h1 h2 h3 h4).elim
    · by_cases e2 : i = l
      · exact (side e2 e1 h2 h1 h4 h3).elim
      · rw [List.getElem?_set_ne e1] at h1 h3
        rw [List.getElem?_set_ne e2] at h2 h4
        exact hE.sep j l a o o' h1 h2 h3 h4
theorem RepE.setR (hE0 : RepE G H0 α0 σ env) (X : Ext Non α0 H0 α H) (hr : RepR G H α (Fresh H0) (Own σ env) v r) (hq : keepR r = some q ∨ keepL r = some q) (hi : i < env.length) :
    RepE G H α (σ.set i (some v)) (env.set i (some q)) ∧ ∀ a, Own (σ.set i (some v)) (env.set i (some q)) a → Own σ env a ∨ H0 a = none := by
  obtain ⟨h1, h2⟩ := (hE0.ext X).setN (hr.mono fun a h => hE0.noSlot h) hq hi
  refine ⟨h1, fun a ha => (h2 a ha).imp id fun ⟨o, _, e, e2⟩ => ?_⟩
  subst e e2
  obtain ⟨b, e, hf, _⟩ := hr
  cases e
  exact hf
end
/-- name = value -/
def sSet (i : Nat) (m : Env → M R) : Env → M Fl := fun env => m env >>= fun r => M.ofO (keepR r) >>= fun q => if i < env.length then pure (.nx (env.set i (some q))) else M.fail
/-- name = a list of its own -/
def sSetL (i : Nat) (m : Env → M R) : Env → M Fl := fun env => m env >>= fun r => M.ofO (keepL r) >>= fun q => if i < env.length then pure (.nx (env.set i (some q))) else M.fail
/-- name = a list that others may change, too -/
def alloc : R → M R
  | .l o => fun st => some (.v (.obj st.length), st ++ [o])
  | .v d => pure (.v d)
  | _ => M.fail
def sSetI (i : Nat) (m : Env → M R) : Env → M Fl := fun env => m env >>= fun r => alloc r >>= fun q => if i < env.length then pure (.nx (env.set i (some q))) else M.fail
section
variable {G : Kx} {D : Ends} {σ : St} {H : Hp} {i : Nat} {m : Env → M R}
theorem set_of (h : tS G (sSet i m) D σ H) : tAsg (tE G m) (gName i) D σ H := by
  obtain ⟨α, env, s0, fl, st', hE, hS, hm, k⟩ := h
  obtain ⟨r, s1, e1, hm1⟩ := bind_run hm
  obtain ⟨q, s2, e2, hm2⟩ := bind_run hm1
  obtain ⟨e3, rfl⟩ := ofO_inv e2
  split at hm2
  · rename_i hi
    obtain ⟨rfl, rfl⟩ := pure_inv hm2
    refine ⟨α, env, s0, r, _, hE, hS, e1, fun v α1 H1 X1 S1 R1 => ?_⟩
    obtain ⟨h1, h2⟩ := hE.setR X1 R1 (.inl e3) hi
    exact k α1 H1 (X1.mono fun _ z => z.elim) S1 _ h1 h2
  · cases hm2
theorem setL_of (h : tS G (sSetL i m) D σ H) : tAsg (tE G m) (gName i) D σ H := by
  obtain ⟨α, env, s0, fl, st', hE, hS, hm, k⟩ := h
  obtain ⟨r, s1, e1, hm1⟩ := bind_run hm
  obtain ⟨q, s2, e2, hm2⟩ := bind_run hm1
  obtain ⟨e3, rfl⟩ := ofO_inv e2
  split at hm2
  · rename_i hi
    obtain ⟨rfl, rfl⟩ := pure_inv hm2
    refine ⟨α, env, s0, r, _, hE, hS, e1, fun v α1 H1 X1 S1 R1 => ?_⟩
    obtain ⟨h1, h2⟩ := hE.setR X1 R1 (.inr e3) hi
    exact k α1 H1 (X1.mono fun _ z => z.elim) S1 _ h1 h2
  · cases hm2
/-- a value gets a number -/
theorem alloc_ok {H0 : Hp} {α0 α : List Addr} {ow : Addr → Prop} {st st' : Sto} {v : V} {r q : R} (X : Ext Non α0 H0 α H) (hS : RepS G H α st) (hr : RepR G H α (Fresh H0) ow v r) (h : alloc r st = some (q, st')) :
    ∃ α', Ext Non α0 H0 α' H ∧ RepS G H α' st' ∧ ∃ d, q = .v d ∧ Rep G H α' v d := by
  cases r with
  | l o =>
    have h : some (R.v (.obj st.length), st ++ [o]) = some (q, st') := h
    injection h with h
    injection h with h1 h2
    subst h1 h2
    obtain ⟨a, rfl, hf, hn, ro, m⟩ := hr
    have X2 : Ext (fun b => b = a) α H (α ++ [a]) H := ⟨⟨[a], rfl, fun b hb => .inr (by simpa using hb)⟩, fun _ _ h _ _ => h, fun _ h => h, fun _ _ h => h, fun _ _ _ h => h⟩
    obtain ⟨β, e, p⟩ := X.pre
    have X3 : Ext Non α0 H0 (α ++ [a]) H := ⟨⟨β ++ [a], by rw [e]; simp, fun b hb => by
      rcases List.mem_append.mp hb with hb | hb
      · exact p b hb
      · have : b = a := by simpa using hb
        subst this
        exact .inl hf⟩, X.keep, X.dom, X.tups, X.frzs⟩
    have ext : ∀ {b : Addr} {o : O}, RepO G H α b o → RepO G H (α ++ [a]) b o := fun h => RepO.ext h X2 fun _ _ h => h
    refine ⟨α ++ [a], X3, ⟨by simp [hS.len], List.nodup_append.mpr ⟨hS.nd, by simp, fun x hx y hy => by
      have : y = a := by simpa using hy
      subst this
      intro e
      subst e
      exact hn hx⟩, fun n o' b h1 h2 => ?_, fun n o' h1 => ?_⟩, .obj st.length, rfl, .obj (by rw [← hS.len]; simp)⟩
    · by_cases hl : n < st.length
      · rw [List.getElem?_append_left hl] at h1
        rw [List.getElem?_append_left (by rw [hS.len]; exact hl)] at h2
        exact ext (hS.obj n o' b h1 h2)
      · have hb := (List.getElem?_eq_some_iff.mp h1).1
        have e : n = st.length := by simp at hb; omega
        subst e
        rw [List.getElem?_append_right (Nat.le_refl _)] at h1
        rw [← hS.len, List.getElem?_append_right (Nat.le_refl _)] at h2
        simp at h1 h2
        subst h1 h2
        exact ext ro
    · by_cases hl : n < st.length
      · rw [List.getElem?_append_left hl] at h1
        exact hS.mv n o' h1
      · have hb := (List.getElem?_eq_some_iff.mp h1).1
        have e : n = st.length := by simp at hb; omega
        subst e
        rw [List.getElem?_append_right (Nat.le_refl _)] at h1
        simp at h1
        subst h1
        exact m
  | v d =>
    obtain ⟨rfl, rfl⟩ := pure_inv h
    exact ⟨α, X, hS, d, rfl, hr⟩
  | _ => exact nomatch (show (none : Option (R × Sto)) = some (q, st') from h)
theorem setI_of (h : tS G (sSetI i m) D σ H) : tAsg (tE G m) (gName i) D σ H := by
  obtain ⟨α, env, s0, fl, st', hE, hS, hm, k⟩ := h
  obtain ⟨r, s1, e1, hm1⟩ := bind_run hm
  obtain ⟨q, s2, e2, hm2⟩ := bind_run hm1
  split at hm2
  · rename_i hi
    obtain ⟨rfl, rfl⟩ := pure_inv hm2
    refine ⟨α, env, s0, r, s1, hE, hS, e1, fun v α1 H1 X1 S1 R1 => ?_⟩
    obtain ⟨α2, X2, S2, d, rfl, rd⟩ := alloc_ok X1 S1 R1 e2
    obtain ⟨h1, h2⟩ := hE.setR X2 (v := v) (r := .v d) rd (.inl rfl) hi
    exact k α2 H1 (X2.mono fun _ z => z.elim) S2 _ h1 h2
  · cases hm2
end
end Mi
/-! Mi: targets, lists that change. -/
namespace Mi
open PySem PySem.Spec PyProof.Rows L2

section
variable {G : Kx} {H : Hp} {α : List Addr} {σ : St} {env : Env} {st : Sto} {a : Addr} {u : HO}
/-- the object at a is changed -/
theorem Ext.upd1 {old : HO} (ha : H a = some old) (hm : ∀ xs, old ≠ .tup xs) (hf : ∀ o w, old ≠ .frz o w) {own : Addr → Prop} (ho : a ∈ α ∨ own a) : Ext own α H α (upd H a u) :=
  ⟨⟨[], by simp, by simp⟩, fun b o hb hn hw => by
    have : b ≠ a := fun e => by
      subst e
      rcases ho with ho | ho
      · exact hn ho
      · exact hw ho
    rw [upd_ne this]; exact hb, fun b h => by
    by_cases e : b = a
    · subst e; rw [upd_same] at h; cases h
    · rw [upd_ne e] at h; exact h, fun b xs h => by
    rw [upd_ne (fun e => by subst e; rw [ha] at h; cases h; exact hm _ rfl)]; exact h, fun b o w h => by
    rw [upd_ne (fun e => by subst e; rw [ha] at h; cases h; exact hf _ _ rfl)]; exact h⟩
theorem RepS.updOwn {old : HO} (hS : RepS G H α st) (ha : H a = some old) (hm : ∀ xs, old ≠ .tup xs) (hf : ∀ o w, old ≠ .frz o w) (hn : a ∉ α) : RepS G (upd H a u) α st :=
  ⟨hS.len, hS.nd, fun n o b h1 h2 => RepO.ext (hS.obj n o b h1 h2) (Ext.upd1 (own := fun c => c = a) ha hm hf (.inr rfl)) fun _ w hw => by
    rw [upd_ne (fun e => by subst e; exact hn (List.mem_of_getElem? h2))]; exact hw, hS.mv⟩
theorem RepE.updOwn {i : Nat} {xs xs' : List V} {ds ds' : List D} (hE : RepE G H α σ env) (hi : env[i]? = some (some (.l (.lst ds)))) (hσ : σ[i]? = some (some (.ref a))) (ha : H a = some (.lst xs)) (hn : a ∉ α) (hr : RepL G H α xs' ds') :
    RepE G (upd H a (.lst xs')) α σ (env.set i (some (.l (.lst ds')))) ∧ ∀ b, Own σ (env.set i (some (.l (.lst ds')))) b → Own σ env b := by
  have X : Ext (fun c => c = a) α H α (upd H a (.lst xs')) := Ext.upd1 ha (fun _ e => nomatch e) (fun _ _ e => nomatch e) (.inr rfl)
  have hlt : i < env.length := (List.getElem?_eq_some_iff.mp hi).1
  have own : ∀ b, Own σ (env.set i (some (.l (.lst ds')))) b → Own σ env b := fun b ⟨j, o, h1, h2⟩ => by
    by_cases e : i = j
    · subst e
      exact ⟨i, _, hi, h2⟩
    · rw [List.getElem?_set_ne e] at h1
      exact ⟨j, o, h1, h2⟩
  refine ⟨⟨by rw [List.length_set]; exact hE.len, fun j r hj => ?_, fun j l b o o' h1 h2 h3 h4 => ?_⟩, own⟩
  · by_cases e : i = j
    · subst e
      rw [List.getElem?_set_self hlt] at hj
      cases hj
      exact ⟨_, hσ, a, rfl, hn, ⟨xs', upd_same, hr.ext X⟩, trivial⟩
    · rw [List.getElem?_set_ne e] at hj
      obtain ⟨v, g1, g2⟩ := hE.val j r hj
      refine ⟨v, g1, ?_⟩
      cases r with
      | v d => exact Rep.ext X g2
      | l o =>
        (obtain ⟨b, rfl, h1, h2, m⟩ := g2); have hb : b ≠ a := fun z => by
          subst z
          exact e (hE.sep i j b _ _ hi hj hσ g1)
        exact ⟨b, rfl, h1, RepO.ext h2 X fun _ w hw => by rw [upd_ne hb]; exact hw, m⟩
      | o o => exact g2
      | b o =>
        obtain ⟨b, rfl, h1, h2⟩ := g2
        (refine ⟨b, rfl, RepO.ext h1 X fun m w hw => ?_, fun m => ⟨(h2 m).1, fun z => (h2 m).2 (own b z)⟩⟩); have hb : b ≠ a := fun z => by
          subst z
          exact (h2 m).2 ⟨i, _, hi, hσ⟩
        rw [upd_ne hb]; exact hw
  · have conv : ∀ {j : Nat} {o : O}, (env.set i (some (.l (.lst ds'))))[j]? = some (some (.l o)) → ∃ o, env[j]? = some (some (.l o)) := fun {j o} h => by
      by_cases e : i = j
      · subst e; exact ⟨_, hi⟩
      · rw [List.getElem?_set_ne e] at h; exact ⟨o, h⟩
    obtain ⟨p, g1⟩ := conv h1
    obtain ⟨q, g2⟩ := conv h2
    exact hE.sep j l b p q g1 g2 h3 h4
/-- a list of the store is changed -/
theorem RepS.updObj {n : Nat} {xs xs' : List V} {ds ds' : List D} (hS : RepS G H α st) (hn : st[n]? = some (.lst ds)) (hα : α[n]? = some a) (ha : H a = some (.lst xs)) (hr : RepL G H α xs' ds') :
    RepS G (upd H a (.lst xs')) α (st.set n (.lst ds')) := by
  have X : Ext (fun c => c = a) α H α (upd H a (.lst xs')) := Ext.upd1 ha (fun _ e => nomatch e) (fun _ _ e => nomatch e) (.inr rfl)
  have hlt : n < st.length := (List.getElem?_eq_some_iff.mp hn).1
  refine ⟨by rw [List.length_set]; exact hS.len, hS.nd, fun j o b h1 h2 => ?_, fun j o h1 => ?_⟩
  · by_cases e : n = j
    · subst e
      rw [List.getElem?_set_self hlt] at h1
      cases h1
      rw [hα] at h2
      cases h2
      exact ⟨xs', upd_same, hr.ext X⟩
    · rw [List.getElem?_set_ne e] at h1
      (refine RepO.ext (hS.obj j o b h1 h2) X fun _ w hw => ?_); have hb : b ≠ a := fun z => by
        subst z
        have l1 : n < α.length := (List.getElem?_eq_some_iff.mp hα).1
        have l2 : j < α.length := (List.getElem?_eq_some_iff.mp h2).1
        exact e ((List.getElem_inj hS.nd).mp ((List.getElem?_eq_some_iff.mp hα).2.trans (List.getElem?_eq_some_iff.mp h2).2.symm))
      rw [upd_ne hb]; exact hw
  · by_cases e : n = j
    · subst e
      rw [List.getElem?_set_self hlt] at h1
      cases h1
      trivial
    · rw [List.getElem?_set_ne e] at h1
      exact hS.mv j o h1
end
section
variable {X : Cx} {C : List Addr} {e : Expr} {pos pos' : Pos} {m : Env → M R} {x : Str} {i : Nat}
theorem s_set (hN : X.N.Nodup) (hi : X.N[i]? = some x) (hx : Loc X.env.scope x) (he : SimE X C e m) (hs : swapsWith e (some (.Name x pos')) pos.line X.env = pure false := by rfl) (hf : X.fn x = true ∨ X.env.scope.names.lookup x = some .local := by first | exact .inl rfl | exact .inr rfl | assumption) :
    SimS X C (.Assign [.Name x pos'] e pos) (sSet i m) := (ps_set hN hi hx he hs hf).wk fun _ _ _ h => set_of h
theorem s_setL (hN : X.N.Nodup) (hi : X.N[i]? = some x) (hx : Loc X.env.scope x) (he : SimE X C e m) (hs : swapsWith e (some (.Name x pos')) pos.line X.env = pure false := by rfl) (hf : X.fn x = true ∨ X.env.scope.names.lookup x = some .local := by first | exact .inl rfl | exact .inr rfl | assumption) :
    SimS X C (.Assign [.Name x pos'] e pos) (sSetL i m) := (ps_set hN hi hx he hs hf).wk fun _ _ _ h => setL_of h
theorem s_setI (hN : X.N.Nodup) (hi : X.N[i]? = some x) (hx : Loc X.env.scope x) (he : SimE X C e m) (hs : swapsWith e (some (.Name x pos')) pos.line X.env = pure false := by rfl) (hf : X.fn x = true ∨ X.env.scope.names.lookup x = some .local := by first | exact .inl rfl | exact .inr rfl | assumption) :
    SimS X C (.Assign [.Name x pos'] e pos) (sSetI i m) := (ps_set hN hi hx he hs hf).wk fun _ _ _ h => setI_of h

/-! ### targets -/
abbrev Tg := D → Env → M Env
/-- slots but those are as they were -/
def Alike (is : List Nat) (σ σ' : St) : Prop := σ'.length = σ.length ∧ ∀ j, j ∉ is → σ'[j]? = σ[j]?
theorem Alike.refl {is : List Nat} {σ : St} : Alike is σ σ := ⟨rfl, fun _ _ => rfl⟩
theorem Alike.trans {is js : List Nat} {σ σ' σ'' : St} (h : Alike is σ σ') (h' : Alike js σ' σ'') : Alike (is ++ js) σ σ'' :=
  ⟨h'.1.trans h.1, fun j hj => by
    simp only [List.mem_append, not_or] at hj
    exact (h'.2 j hj.2).trans (h.2 j hj.1)⟩
def tG (G : Kx) (is : List Nat) (g : Tg) : TG := fun v σ H Q => ∃ α env d st env' st', RepE G H α σ env ∧ RepS G H α st ∧ Rep G H α v d ∧ g d env st = some (env', st') ∧
  ∀ σ' α' H', Ext Non α H α' H' → RepS G H' α' st' → RepE G H' α' σ' env' → (∀ a, Own σ' env' a → Own σ env a ∨ H a = none) → Alike is σ σ' → Q σ' H'
def tGs (G : Kx) (is : List Nat) (g : List D → Env → M Env) : TGs := fun vs σ H Q => ∃ α env ds st env' st', RepE G H α σ env ∧ RepS G H α st ∧ RepL G H α vs ds ∧ g ds env st = some (env', st') ∧
  ∀ σ' α' H', Ext Non α H α' H' → RepS G H' α' st' → RepE G H' α' σ' env' → (∀ a, Own σ' env' a → Own σ env a ∨ H a = none) → Alike is σ σ' → Q σ' H'
abbrev SimG (X : Cx) (C : List Addr) (e : Expr) (is : List Nat) (g : Tg) : Prop := PG X e (tG (gx X C) is g)
abbrev SimGs (X : Cx) (C : List Addr) (e : List Expr) (is : List Nat) (g : List D → Env → M Env) : Prop := PGs X e (tGs (gx X C) is g)
theorem PG.wk {e : Expr} {t t' : TG} (h : PG X e t) (w : ∀ v σ H Q, t' v σ H Q → t v σ H Q) : PG X e t' := ⟨fun pins s σ H v u Q I r h' => h.run pins s σ H v u Q I r (w _ _ _ _ h')⟩
theorem PGs.wk {e : List Expr} {t t' : TGs} (h : PGs X e t) (w : ∀ v σ H Q, t' v σ H Q → t v σ H Q) : PGs X e t' := ⟨fun pins s σ H v u Q I r h' => h.run pins s σ H v u Q I r (w _ _ _ _ h')⟩
def gN (i : Nat) : Tg := fun d env => if i < env.length then pure (env.set i (some (.v d))) else M.fail
def gNl : List D → Env → M Env := fun ds env => if ds.isEmpty = true then pure env else M.fail
def gCs (g : Tg) (r : List D → Env → M Env) : List D → Env → M Env := fun ds env => match ds with
  | d :: ds => g d env >>= fun e => r ds e
  | [] => M.fail
/-- (a, b, ..) of a tuple with as many -/
def gTp (n : Nat) (r : List D → Env → M Env) : Tg := fun d env => match d with
  | .tup ds => if ds.length = n then r ds env else M.fail
  | _ => M.fail
theorem g_name (hN : X.N.Nodup) (hi : X.N[i]? = some x) (hx : Loc X.env.scope x) (hf : X.fn x = true ∨ X.env.scope.names.lookup x = some .local := by first | exact .inl rfl | exact .inr rfl | assumption) : SimG X C (.Name x pos) [i] (gN i) :=
  PG.wk (pg_name hN hi hx hf) fun v σ H Q h => by
    obtain ⟨α, env, d, st, env', st', hE, hS, hr, hm, k⟩ := h
    unfold gN at hm
    split at hm
    · rename_i hl
      obtain ⟨rfl, rfl⟩ := pure_inv hm
      obtain ⟨h1, h2⟩ := hE.setR Ext.rfl' (v := v) (r := .v d) hr (.inl rfl) hl
      exact k _ α H Ext.rfl' hS h1 h2 ⟨by simp, fun j hj => List.getElem?_set_ne (fun e => hj (by simp [e]))⟩
    · cases hm
theorem g_nil : SimGs X C [] [] gNl := PGs.wk pgs_nil fun v σ H Q h => by
  obtain ⟨α, env, ds, st, env', st', hE, hS, hr, hm, k⟩ := h
  unfold gNl at hm
  split at hm
  · rename_i he
    obtain ⟨rfl, rfl⟩ := pure_inv hm
    cases hr with
    | nil => exact ⟨rfl, k σ α H Ext.rfl' hS hE (fun _ h => .inl h) .refl⟩
    | cons _ _ => cases he
  · cases hm
theorem g_cons {es : List Expr} {is js : List Nat} {g : Tg} {r : List D → Env → M Env} (h1 : SimG X C e is g) (h2 : SimGs X C es js r) (hs : (assignEach (e :: es) X.env).map (·.2) = assign e X.env :: (assignEach es X.env).map (·.2) := by rfl) : SimGs X C (e :: es) (is ++ js) (gCs g r) :=
  PGs.wk (pgs_cons h1 h2 hs) fun vs σ H Q h => by
    obtain ⟨α, env, ds, st, env', st', hE, hS, hr, hm, k⟩ := h
    cases hr with
    | nil => exact nomatch (show (none : Option (Env × Sto)) = some (env', st') from hm)
    | cons r1 rs =>
      obtain ⟨e1, s1, g1, hm1⟩ := bind_run hm
      refine ⟨_, _, rfl, α, env, _, st, e1, s1, hE, hS, r1, g1, fun σ1 α1 H1 X1 S1 E1 O1 L1 => ⟨α1, e1, _, s1, env', st', E1, S1, rs.ext X1, hm1, fun σ2 α2 H2 X2 S2 E2 O2 L2 => ?_⟩⟩
      refine k σ2 α2 H2 (X1.trans0 X2) S2 E2 (fun a ha => ?_) (L1.trans L2)
      rcases O2 a ha with h | h
      · exact O1 a h
      · exact .inr (X1.dom a h)
theorem g_tup {es : List Expr} {is : List Nat} {r : List D → Env → M Env} {k n : Nat} (hc : X.calm = true) (h : SimGs X C es is r) (hn : (assignEach es X.env).length = n := by rfl) (hst : (assignEach es X.env).findIdx? (·.1) = none := by rfl) : SimG X C (.Tuple es k pos) is (gTp n r) :=
  PG.wk (pg_tup hc h hn hst) fun v σ H Q h => by
    obtain ⟨α, env, d, st, env', st', hE, hS, hr, hm, k⟩ := h
    cases hr with
    | tup h1 h2 =>
      have hm' : (if _ = n then r _ env else M.fail) st = some (env', st') := hm
      split at hm'
      · rename_i hl
        exact ⟨_, _, rfl, h1, by rw [h2.length]; exact hl, α, env, _, st, env', st', hE, hS, h2, hm', k⟩
      · cases hm'
    | _ => exact nomatch (show (none : Option (Env × Sto)) = some (env', st') from hm)
/-- a target = a value, not a list -/
def sAsg (g : Tg) (m : Env → M R) : Env → M Fl := fun env => m env >>= fun r => toD r >>= fun d => g d env >>= fun e => pure (.nx e)
theorem s_asg {tg : Expr} {is : List Nat} {g : Tg} (he : SimE X C e m) (hg : SimG X C tg is g) (hs : swapsWithSole [tg] e pos.line X.env = pure false := by rfl) (hw : swappedStores [tg] e X.env = pure none := by rfl)
    (h1 : (assignEach [tg] X.env).map (·.2) = [assign tg X.env] := by rfl) : SimS X C (.Assign [tg] e pos) (sAsg g m) := (ps_asg he hg hs hw h1).wk fun D' σ H h => by
  obtain ⟨α, env, s0, fl, st', hE, hS, hm, k⟩ := h
  obtain ⟨r, s1, e1, hm1⟩ := bind_run hm
  obtain ⟨d, s2, e2, hm2⟩ := bind_run hm1
  obtain ⟨env1, s3, e3, hm3⟩ := bind_run hm2
  obtain ⟨rfl, rfl⟩ := pure_inv hm3
  refine ⟨α, env, s0, r, s1, hE, hS, e1, fun v α1 H1 X1 S1 R1 => ?_⟩
  cases r with
  | v d' =>
    obtain ⟨rfl, rfl⟩ := pure_inv e2
    exact ⟨α1, env, _, _, env1, _, hE.ext X1, S1, R1, e3, fun σ2 α2 H2 X2 S2 E2 O2 _ =>
      k α2 H2 ((X1.trans0 X2).mono fun _ z => z.elim) S2 σ2 E2 fun a ha => (O2 a ha).imp id (X1.dom a)⟩
  | _ => exact nomatch (show (none : Option (D × Sto)) = some (d, s2) from e2)

/-! ### a, b = x, y -/
/-- how a value is laid into a name: as a value, as a list of its own, with a number -/
inductive Md where
  | f | l | i
def laid : Md → R → M R
  | _, .v d => pure (.v d)
  | .f, .l o => pure (.b o)
  | .l, .l o => pure (.l o)
  | .i, .l o => alloc (.l o)
  | _, _ => M.fail
def layAll : List (Nat × Md) → List R → Env → M Env
  | [], [], env => pure env
  | (i, k) :: ks, r :: rs, env => laid k r >>= fun q => if i < env.length then layAll ks rs (env.set i (some q)) else M.fail
  | _, _, _ => M.fail
def sPar (ks : List (Nat × Md)) (m : Env → M (List R)) : Env → M Fl := fun env => m env >>= fun rs => layAll ks rs env >>= fun e => pure (.nx e)
def setAll : List Nat → List V → St → St
  | i :: ks, v :: vs, σ => setAll ks vs (σ.set i (some v))
  | _, _, σ => σ
section
variable {G : Kx} {H : Hp} {α : List Addr} {σ : St} {env : Env} {st : Sto} {a : Addr}
theorem Ext.grow (a : Addr) : Ext (fun c => c = a) α H (α ++ [a]) H := ⟨⟨[a], rfl, fun b hb => .inr (by simpa using hb)⟩, fun _ _ h _ _ => h, fun _ h => h, fun _ _ h => h, fun _ _ _ h => h⟩
theorem RepE.grow (hE : RepE G H α σ env) (hn : NoSlot σ env a) : RepE G H (α ++ [a]) σ env := by
  refine ⟨hE.len, fun i r hi => ?_, hE.sep⟩
  obtain ⟨v, hv, q⟩ := hE.val i r hi
  refine ⟨v, hv, ?_⟩
  have ne : ∀ {b : Addr} {o : O}, (r = .l o ∨ r = .b o) → o.mov → v = .ref b → b ≠ a := fun e m h z => by
    subst z
    rw [h] at hv
    exact hn i r _ hi e m hv
  cases r with
  | v d => exact Rep.ext (Ext.grow a) q
  | l o =>
    obtain ⟨b, rfl, h1, h2, m⟩ := q
    exact ⟨b, rfl, by simp [h1, ne (.inl rfl) m rfl], RepO.ext h2 (Ext.grow a) fun _ _ h => h, m⟩
  | o o => exact q
  | b o =>
    obtain ⟨b, rfl, h1, h2⟩ := q
    exact ⟨b, rfl, RepO.ext h1 (Ext.grow a) fun _ _ h => h, fun m => ⟨by simp [(h2 m).1, ne (.inr rfl) m rfl], (h2 m).2⟩⟩
theorem RepRs.grow {fr own : Addr → Prop} : ∀ {vs : List V} {rs : List R}, RepRs G H α fr own vs rs → (∀ r ∈ rs, (∃ d, r = .v d) ∨ ∃ o, r = .l o) → ¬ Tmp vs rs a → RepRs G H (α ++ [a]) fr own vs rs
  | _, _, .nil, _, _ => .nil
  | _, _, .cons (v := v) (r := r) r1 s d, hk, ht => by
    refine .cons ?_ (s.grow (fun r h => hk r (List.mem_cons_of_mem _ h)) fun ⟨i, o, h1, h2⟩ => ht ⟨i + 1, o, by simpa using h1, by simpa using h2⟩) d
    rcases hk r List.mem_cons_self with ⟨d, rfl⟩ | ⟨o, rfl⟩
    · exact Rep.ext (Ext.grow a) r1
    · obtain ⟨b, rfl, h0, h1, h2, m⟩ := r1
      refine ⟨b, rfl, h0, ?_, RepO.ext h2 (Ext.grow a) fun _ _ h => h, m⟩
      have : b ≠ a := fun z => by
        subst z
        exact ht ⟨0, o, rfl, rfl⟩
      simp [h1, this]
theorem RepRs.own {fr own own' fr' : Addr → Prop} (hf : ∀ a, fr a → fr' a) : ∀ {vs : List V} {rs : List R}, RepRs G H α fr own vs rs → (∀ r ∈ rs, (∃ d, r = .v d) ∨ ∃ o, r = .l o) → RepRs G H α fr' own' vs rs
  | _, _, .nil, _ => .nil
  | _, _, .cons (v := v) (r := r) r1 s d, hk => by
    refine .cons ?_ (s.own hf (fun r h => hk r (List.mem_cons_of_mem _ h))) d
    rcases hk r List.mem_cons_self with ⟨d, rfl⟩ | ⟨o, rfl⟩
    · exact r1
    · obtain ⟨b, rfl, h0, h1⟩ := r1
      exact ⟨b, rfl, hf b h0, h1⟩
theorem RepRs.frs {fr fr' own : Addr → Prop} : ∀ {vs : List V} {rs : List R}, RepRs G H α fr own vs rs → (∀ a, fr a → Tmp vs rs a → fr' a) → RepRs G H α fr' own vs rs
  | _, _, .nil, _ => .nil
  | _, _, .cons (v := v) (r := r) r1 s d, hf => by
    refine .cons ?_ (s.frs fun a h ⟨i, o, h1, h2⟩ => hf a h ⟨i + 1, o, by simpa using h1, by simpa using h2⟩) d
    cases r with
    | l o =>
      obtain ⟨b, rfl, h0, h1⟩ := r1
      exact ⟨b, rfl, hf b h0 ⟨0, o, rfl, rfl⟩, h1⟩
    | _ => exact r1
/-- one value is laid -/
theorem laid_ok {st' : Sto} {i : Nat} {k : Md} {v : V} {r q : R} (hE : RepE G H α σ env) (hS : RepS G H α st) (hr : RepR G H α (NoSlot σ env) (Own σ env) v r) (h : laid k r st = some (q, st')) (hl : i < env.length) :
    ((∃ d, r = .v d) ∨ ∃ o, r = .l o) ∧ ∃ α', (α' = α ∨ ∃ a o, r = .l o ∧ v = .ref a ∧ α' = α ++ [a]) ∧ RepS G H α' st' ∧ RepE G H α' (σ.set i (some v)) (env.set i (some q)) ∧
      (∀ b, Own (σ.set i (some v)) (env.set i (some q)) b → Own σ env b ∨ ∃ o, r = .l o ∧ v = .ref b) ∧
      ∀ b, NoSlot σ env b → (∀ o, r = .l o → v ≠ .ref b) → NoSlot (σ.set i (some v)) (env.set i (some q)) b := by
  have nos : ∀ {q : R}, (∀ o, (q = .l o ∨ q = .b o) → o.mov → ∃ o, r = .l o) → ∀ b, NoSlot σ env b → (∀ o, r = .l o → v ≠ .ref b) → NoSlot (σ.set i (some v)) (env.set i (some q)) b := fun {q} hq b hn ht j s o h1 h2 m h3 => by
    by_cases e : i = j
    · subst e
      rw [List.getElem?_set_self hl] at h1
      rw [List.getElem?_set_self (by rw [hE.len]; exact hl)] at h3
      cases h1
      cases h3
      obtain ⟨o, ho⟩ := hq o h2 m
      exact ht o ho rfl
    · rw [List.getElem?_set_ne e] at h1 h3
      exact hn j s o h1 h2 m h3
  cases r with
  | v d =>
    have : q = .v d ∧ st' = st := by
      cases k <;> exact pure_inv h
    obtain ⟨rfl, rfl⟩ := this
    obtain ⟨g1, g2⟩ := hE.setN hr (.inl rfl) hl
    exact ⟨.inl ⟨d, rfl⟩, α, .inl rfl, hS, g1, fun b hb => (g2 b hb).imp id fun ⟨o, e, _⟩ => (nomatch e), nos fun o e _ => by rcases e with e | e <;> cases e⟩
  | l o =>
    refine ⟨.inr ⟨o, rfl⟩, ?_⟩
    cases k with
    | f =>
      obtain ⟨rfl, rfl⟩ := pure_inv h
      obtain ⟨g1, g2⟩ := hE.setN hr (.inl rfl) hl
      exact ⟨α, .inl rfl, hS, g1, fun b hb => (g2 b hb).imp id fun ⟨o, e, _⟩ => (nomatch e), nos fun o _ _ => ⟨_, rfl⟩⟩
    | l =>
      obtain ⟨rfl, rfl⟩ := pure_inv h
      obtain ⟨g1, g2⟩ := hE.setN hr (.inr rfl) hl
      exact ⟨α, .inl rfl, hS, g1, fun b hb => (g2 b hb).imp id fun ⟨o, _, e, e2⟩ => ⟨o, e, e2⟩, nos fun o _ _ => ⟨_, rfl⟩⟩
    | i =>
      obtain ⟨a, rfl, hf, hn, ro, m⟩ := hr
      obtain ⟨α', X', S', d, rfl, rd⟩ := alloc_ok (H0 := fun b => if b = a then none else H b) (α0 := α) (ow := Non) (H := H) (α := α) ⟨⟨[], by simp, by simp⟩, fun b o hb _ _ => by
          split at hb
          · cases hb
          · exact hb, fun b hb => by
          split
          · rfl
          · exact hb, fun b xs hb => by
          split at hb
          · cases hb
          · exact hb, fun b o u hb => by
          split at hb
          · cases hb
          · exact hb⟩ hS (v := .ref a) (r := .l o) ⟨a, rfl, by simp, hn, ro, m⟩ h
      have h' : some (R.v (.obj st.length), st ++ [o]) = some (R.v d, st') := h
      injection h' with h'
      injection h' with h1 h2
      injection h1 with h1
      subst h1 h2
      have e : α' = α ++ [a] := by
        obtain ⟨β, e, _⟩ := X'.pre
        have l1 := S'.len
        rw [e] at l1
        rw [List.length_append, List.length_append, hS.len] at l1
        have l2 : β.length = 1 := by simpa using l1
        cases rd with
        | obj q =>
          rw [e, List.getElem?_append_right (by rw [hS.len]; exact Nat.le_refl _), hS.len, Nat.sub_self] at q
          cases β with
          | nil => cases l2
          | cons b β =>
            cases β with
            | nil =>
              have : b = a := by simpa using q
              rw [e, this]
            | cons _ _ => simp at l2
      subst e
      obtain ⟨g1, g2⟩ := (hE.grow hf).setN (v := .ref a) (r := .v (.obj st.length)) rd (.inl rfl) hl
      exact ⟨_, .inr ⟨a, o, rfl, rfl, rfl⟩, S', g1, fun b hb => (g2 b hb).imp id fun ⟨o, e, _⟩ => (nomatch e), nos fun o e _ => by rcases e with e | e <;> cases e⟩
  | o o => exact (by cases k <;> exact nomatch (show (none : Option (R × Sto)) = some (q, st') from h))
  | b o => exact (by cases k <;> exact nomatch (show (none : Option (R × Sto)) = some (q, st') from h))
theorem plain_of : ∀ {ks : List (Nat × Md)} {rs : List R} {env env' : Env} {st st' : Sto}, layAll ks rs env st = some (env', st') → (∀ r ∈ rs, (∃ d, r = .v d) ∨ ∃ o, r = .l o) ∧ rs.length = ks.length
  | [], [], _, _, _, _, _ => ⟨fun _ h => (nomatch h), rfl⟩
  | [], _ :: _, _, env', _, st', h => nomatch (show (none : Option (Env × Sto)) = some (env', st') from h)
  | _ :: _, [], _, env', _, st', h => nomatch (show (none : Option (Env × Sto)) = some (env', st') from h)
  | (i, k) :: ks, r :: rs, env, env', st, st', h => by
    obtain ⟨q, s1, e1, h1⟩ := bind_run h
    split at h1
    · obtain ⟨p1, p2⟩ := plain_of h1
      (refine ⟨fun x hx => ?_, congrArg (· + 1) p2⟩); rcases List.mem_cons.mp hx with rfl | hx
      · cases x with
        | v d => exact .inl ⟨d, rfl⟩
        | l o => exact .inr ⟨o, rfl⟩
        | o o => cases k <;> exact nomatch (show (none : Option (R × Sto)) = some (q, s1) from e1)
        | b o => cases k <;> exact nomatch (show (none : Option (R × Sto)) = some (q, s1) from e1)
      · exact p1 x hx
    · cases h1
theorem layAll_ok {fr : Addr → Prop} : ∀ {ks : List (Nat × Md)} {vs : List V} {rs : List R} {α : List Addr} {σ : St} {env env' : Env} {st st' : Sto},
    RepE G H α σ env → RepS G H α st → RepRs G H α (fun a => NoSlot σ env a ∧ fr a) (Own σ env) vs rs → layAll ks rs env st = some (env', st') →
    ∃ β, (∀ a ∈ β, fr a) ∧ RepS G H (α ++ β) st' ∧ RepE G H (α ++ β) (setAll (ks.map (·.1)) vs σ) env' ∧ (∀ a, Own (setAll (ks.map (·.1)) vs σ) env' a → Own σ env a ∨ fr a)
  | [], vs, rs, α, σ, env, env', st, st', hE, hS, hr, h => by
    have e := (plain_of h).2
    cases rs with
    | nil =>
      obtain ⟨rfl, rfl⟩ := pure_inv h
      have e2 : setAll (([] : List (Nat × Md)).map (·.1)) vs σ = σ := by cases vs <;> rfl
      exact ⟨[], by simp, by simpa using hS, by rw [e2]; simpa using hE, fun a h => .inl (by rw [e2] at h; exact h)⟩
    | cons _ _ => cases e
  | (i, k) :: ks, vs, rs, α, σ, env, env', st, st', hE, hS, hr, h => by
    obtain ⟨hp, _⟩ := plain_of h
    cases hr with
    | nil => exact nomatch (show (none : Option (Env × Sto)) = some (env', st') from h)
    | @cons v vs r rs r1 rr dd =>
      obtain ⟨q, s1, e1, h1⟩ := bind_run h
      split at h1
      · rename_i hl
        obtain ⟨kd, α1, hα, S1, E1, O1, N1⟩ := laid_ok hE hS (RepR.mono r1 fun a (h : NoSlot σ env a ∧ fr a) => h.1) e1 hl
        have hp' : ∀ r ∈ rs, (∃ d, r = R.v d) ∨ ∃ o, r = R.l o := fun r h => hp r (List.mem_cons_of_mem _ h)
        have frv : ∀ a o, r = R.l o → v = V.ref a → fr a := fun a o e1 e2 => by
          subst e1 e2
          obtain ⟨b, e, h, _⟩ := r1
          cases e
          exact h.2
        have rr1 : RepRs G H α1 (fun a => NoSlot σ env a ∧ fr a) (Own σ env) vs rs := by
          rcases hα with e | ⟨a, o, e1, e2, e⟩
          · rw [e]; exact rr
          · rw [e]; exact rr.grow hp' (dd o a e1 e2)
        have rr2 : RepRs G H α1 (fun a => NoSlot (σ.set i (some v)) (env.set i (some q)) a ∧ fr a) (Own (σ.set i (some v)) (env.set i (some q))) vs rs :=
          RepRs.own (fun _ h => h) (RepRs.frs (fr' := fun a => NoSlot (σ.set i (some v)) (env.set i (some q)) a ∧ fr a) rr1 fun a h ht => ⟨N1 a h.1 fun o e1 e2 => dd o a e1 e2 ht, h.2⟩) hp'
        obtain ⟨β, b1, b2, b3, b4⟩ := layAll_ok E1 S1 rr2 h1
        have own : ∀ a, Own (setAll (((i, k) :: ks).map (·.1)) (v :: vs) σ) env' a → Own σ env a ∨ fr a := fun a ha => by
          rcases b4 a ha with h | h
          · rcases O1 a h with h | ⟨o, e1, e2⟩
            · exact .inl h
            · exact .inr (frv a o e1 e2)
          · exact .inr h
        rcases hα with e | ⟨a, o, e1, e2, e⟩
        · subst e
          exact ⟨β, b1, b2, b3, own⟩
        · subst e
          rw [List.append_assoc] at b2 b3
          exact ⟨[a] ++ β, fun x hx => by
            rcases List.mem_append.mp hx with hx | hx
            · have : x = a := by simpa using hx
              rw [this]
              exact frv a o e1 e2
            · exact b1 x hx, b2, b3, own⟩
      · cases h1
end
section
variable {X : Cx} {C : List Addr} {a b c : Expr} {m : Env → M (List R)} {x y z : Str} {i j l : Nat}
theorem par_of {G : Kx} {D : Ends} {σ : St} {H : Hp} {ks : List (Nat × Md)} {m : Env → M (List R)} (h : tS G (sPar ks m) D σ H) : tA G m σ H fun vs H1 => vs.length = ks.length ∧ D.nx (setAll (ks.map (·.1)) vs σ) H1 := by
  obtain ⟨α, env, s0, fl, st', hE, hS, hm, k⟩ := h
  obtain ⟨rs, s1, e1, hm1⟩ := bind_run hm
  obtain ⟨env', s2, e2, hm2⟩ := bind_run hm1
  obtain ⟨rfl, rfl⟩ := pure_inv hm2
  refine ⟨α, env, s0, rs, s1, hE, hS, e1, fun vs α1 H1 X1 S1 R1 => ?_⟩
  refine ⟨by rw [R1.length]; exact (plain_of e2).2, ?_⟩
  obtain ⟨β, b1, b2, b3, b4⟩ := layAll_ok (fr := Fresh H) (hE.ext X1) S1 (R1.frs fun a h _ => ⟨hE.noSlot h, h⟩) e2
  obtain ⟨β0, p1, p2⟩ := X1.pre
  refine k (α1 ++ β) H1 ?_ b2 _ b3 b4
  exact ⟨⟨β0 ++ β, by rw [p1]; simp, fun b hb => by
    rcases List.mem_append.mp hb with hb | hb
    · exact .inl ((p2 b hb).resolve_right fun z => z)
    · exact .inl (b1 b hb)⟩, fun a o h1 h2 _ => X1.keep a o h1 h2 fun z => z, X1.dom, X1.tups, X1.frzs⟩
theorem s_par2 {k1 k2 : Md} {px py pt pos : Pos} {kt kt2 pt2} (hc : X.calm = true) (hN : X.N.Nodup) (hi : X.N[i]? = some x) (hj : X.N[j]? = some y) (hij : i ≠ j)
    (hx : X.env.scope.names.lookup x = some .local) (hy : X.env.scope.names.lookup y = some .local) (ha : SimA X C [a, b] m)
    (hw : swappedStores [.Tuple [.Name x px, .Name y py] kt pt] (.Tuple [a, b] kt2 pt2) X.env = pure (some [x, y]))
    (hs : swapsWithSole [.Tuple [.Name x px, .Name y py] kt pt] (.Tuple [a, b] kt2 pt2) pos.line X.env = pure false := by rfl) :
    SimS X C (.Assign [.Tuple [.Name x px, .Name y py] kt pt] (.Tuple [a, b] kt2 pt2) pos) (sPar [(i, k1), (j, k2)] m) :=
  (ps_par hc hN hi hj hij hx hy ha hw hs).wk fun D σ H h => by
    obtain ⟨α, env, s0, rs, s1, hE, hS, e1, k⟩ := par_of h
    refine ⟨α, env, s0, rs, s1, hE, hS, e1, fun vs α1 H1 X1 S1 R1 => ?_⟩
    obtain ⟨q1, q2⟩ := k vs α1 H1 X1 S1 R1
    match vs, q1 with
    | [v, w], _ => exact ⟨v, w, rfl, q2⟩
theorem s_par3 {k1 k2 k3 : Md} {px py pz pt pos : Pos} {kt kt2 pt2} (hc : X.calm = true) (hN : X.N.Nodup) (hi : X.N[i]? = some x) (hj : X.N[j]? = some y) (hl : X.N[l]? = some z) (hij : i ≠ j) (hil : i ≠ l) (hjl : j ≠ l)
    (hx : X.env.scope.names.lookup x = some .local) (hy : X.env.scope.names.lookup y = some .local) (hz : X.env.scope.names.lookup z = some .local) (ha : SimA X C [a, b, c] m)
    (hw : swappedStores [.Tuple [.Name x px, .Name y py, .Name z pz] kt pt] (.Tuple [a, b, c] kt2 pt2) X.env = pure (some [x, y, z]))
    (hs : swapsWithSole [.Tuple [.Name x px, .Name y py, .Name z pz] kt pt] (.Tuple [a, b, c] kt2 pt2) pos.line X.env = pure false := by rfl) :
    SimS X C (.Assign [.Tuple [.Name x px, .Name y py, .Name z pz] kt pt] (.Tuple [a, b, c] kt2 pt2) pos) (sPar [(i, k1), (j, k2), (l, k3)] m) :=
  (ps_par3 hc hN hi hj hl hij hil hjl hx hy hz ha hw hs).wk fun D σ H h => by
    obtain ⟨α, env, s0, rs, s1, hE, hS, e1, k⟩ := par_of h
    refine ⟨α, env, s0, rs, s1, hE, hS, e1, fun vs α1 H1 X1 S1 R1 => ?_⟩
    obtain ⟨q1, q2⟩ := k vs α1 H1 X1 S1 R1
    match vs, q1 with
    | [u, v, w], _ => exact ⟨u, v, w, rfl, q2⟩
end
end
end Mi
/-! Mi: lists that change: append, extend, pop, x[i] = v. -/
namespace Mi
open PySem PySem.Spec PyProof.Rows L2

/-- a slot that holds a list of its own -/
def ownAt (i : Nat) (env : Env) : Option (List D) := match env[i]? with
  | some (some (.l (.lst ds))) => some ds
  | _ => none
theorem ownAt_ok {i : Nat} {env : Env} {ds : List D} (h : ownAt i env = some ds) : env[i]? = some (some (.l (.lst ds))) := by
  unfold ownAt at h
  split at h
  · rename_i q; cases h; exact q
  · cases h
def stAt (n : Nat) (st : Sto) : Option (List D) := match st[n]? with
  | some (.lst ds) => some ds
  | _ => none
theorem stAt_ok {n : Nat} {st : Sto} {ds : List D} (h : stAt n st = some ds) : st[n]? = some (.lst ds) := by
  unfold stAt at h
  split at h
  · rename_i q; cases h; exact q
  · cases h
/-- x.m(args) as a statement, x a list of its own: f tells the new list -/
def sOwn (i : Nat) (f : List D → List R → M (List D)) (ms : Env → M (List R)) : Env → M Fl := fun env => ms env >>= fun rs => M.ofO (ownAt i env) >>= fun ds => f ds rs >>= fun ds' => pure (.nx (env.set i (some (.l (.lst ds')))))
/-- x.m(args), x a list with a number: f tells the value and the new list -/
def lstNo : R → M Nat
  | .v (.obj n) => fun st => match stAt n st with
    | some _ => some (n, st)
    | none => none
  | _ => M.fail
def inSt (n : Nat) (f : List D → M (R × List D)) : M R := fun st => match stAt n st with
  | some ds => match f ds st with
    | some ((r, ds'), st') => some (r, st'.set n (.lst ds'))
    | none => none
  | none => none
def eMut (f : List D → List R → M (R × List D)) (mo : Env → M R) (ms : Env → M (List R)) : Env → M R := fun env => mo env >>= fun o => lstNo o >>= fun n => ms env >>= fun rs => inSt n fun ds => f ds rs
theorem lstNo_ok {G : Kx} {H : Hp} {α : List Addr} {fr own : Addr → Prop} {st st' : Sto} {v : V} {r : R} {n : Nat} (hr : RepR G H α fr own v r) (hS : RepS G H α st) (h : lstNo r st = some (n, st')) :
    st' = st ∧ ∃ a xs, v = .ref a ∧ α[n]? = some a ∧ H a = some (.lst xs) := by
  have no : ∀ {p : Prop}, (none : Option (Nat × Sto)) = some (n, st') → p := fun h => nomatch h
  cases r with
  | v d =>
    cases d with
    | obj k =>
      have h' : (match stAt k st with | some _ => some (k, st) | none => none) = some (n, st') := h
      split at h'
      · rename_i ds q
        injection h' with h'
        injection h' with h1 h2
        subst h1 h2
        cases hr with
        | obj ha =>
          obtain ⟨xs, h1, h2⟩ := hS.obj k _ _ (stAt_ok q) ha
          exact ⟨rfl, _, xs, rfl, ha, h1⟩
      · cases h'
    | _ => exact no h
  | _ => exact no h
/-- what a method asks and does, by values: the list ds at a, the arguments -/
def MtD (X : Cx) (C : List Addr) (id : String) (f : List D → List R → M (R × List D)) : Prop := ∃ r : V → List V → Hp → VK → Prop, MtR X id r ∧
  ∀ {H : Hp} {α : List Addr} {own : Addr → Prop} {a : Addr} {xs : List V} {ds : List D} {vs : List V} {rs : List R} {st st' : Sto} {q : R} {ds' : List D} {Q : VK},
    H a = some (.lst xs) → RepL (gx X C) H α xs ds → RepRs (gx X C) H α All own vs rs → RepS (gx X C) H α st → f ds rs st = some ((q, ds'), st') →
    st' = st ∧ ((∀ v xs', RepL (gx X C) H α xs' ds' → (∃ d, q = .v d ∧ Rep (gx X C) H α v d) → Q v (upd H a (.lst xs'))) → r (.ref a) vs H Q)
def fAppend (ds : List D) (rs : List R) : M (R × List D) := match rs with
  | [.v d] => if lenOk (ds.length + 1) = true then pure (.v .non, ds ++ [d]) else M.fail
  | _ => M.fail
def fExtend (ds : List D) (rs : List R) : M (R × List D) := match rs with
  | [r] => asLst r >>= fun es => if lenOk (ds.length + es.length) = true then pure (.v .non, ds ++ es) else M.fail
  | _ => M.fail
def fPop (ds : List D) (rs : List R) : M (R × List D) := match rs with
  | [] => M.ofO (ds.getLast?) >>= fun d => pure (.v d, ds.dropLast)
  | [.v (.int i)] => if (decide (-(2 ^ 63) ≤ i) && decide (i < 2 ^ 63)) = true then M.ofO (seqIndex? i ds.length) >>= fun k => M.ofO ds[k]? >>= fun d => pure (.v d, ds.eraseIdx k) else M.fail
  | _ => M.fail
section
variable {X : Cx} {C : List Addr}
theorem mt_appendD : MtD X C "list.append" fAppend := ⟨rAppend, mt_append, fun {H α own a xs ds vs rs st st' q ds' Q} ha hr hv hS h => by
  unfold fAppend at h
  split at h
  · obtain ⟨v, rfl, hv1⟩ := reps1 hv
    split at h
    · rename_i hl
      obtain ⟨h1, rfl⟩ := pure_inv h
      cases h1
      refine ⟨rfl, fun k => ⟨a, xs, v, rfl, rfl, ha, ?_, k _ _ (hr.append (.cons hv1 .nil)) ⟨_, rfl, .non⟩⟩⟩
      rw [hr.length]
      exact lenOk_le hl
    · cases h
  · exact nomatch (show (none : Option ((R × List D) × Sto)) = some ((q, ds'), st') from h)⟩
theorem mt_extendD : MtD X C "list.extend" fExtend := ⟨rExtend, mt_extend, fun {H α own a xs ds vs rs st st' q ds' Q} ha hr hv hS h => by
  unfold fExtend at h
  split at h
  · obtain ⟨v, rfl, hv1⟩ := reps1 hv
    obtain ⟨es, s1, e1, h1⟩ := bind_run h
    clear h
    obtain ⟨rfl, b, ys, rfl, g1, g2⟩ := asLst_ok hv1 hS e1
    split at h1
    · rename_i hl
      obtain ⟨h2, rfl⟩ := pure_inv h1
      cases h2
      refine ⟨rfl, fun k => ⟨a, b, xs, ys, rfl, rfl, ha, g1, ?_, k _ _ (hr.append g2) ⟨_, rfl, .non⟩⟩⟩
      rw [hr.length, g2.length]
      exact lenOk_le hl
    · cases h1
  · exact nomatch (show (none : Option ((R × List D) × Sto)) = some ((q, ds'), st') from h)⟩
theorem mt_popD : MtD X C "list.pop" fPop := ⟨fun x xs H Q => rPop x xs H Q ∨ rPopAt x xs H Q, MtR.or mt_pop mt_popAt, fun {H α own a xs ds vs rs st st' q ds' Q} ha hr hv hS h => by
  unfold fPop at h
  split at h
  · cases hv
    obtain ⟨d, s1, e1, h1⟩ := bind_run h
    clear h
    obtain ⟨e2, rfl⟩ := ofO_inv e1
    obtain ⟨h2, rfl⟩ := pure_inv h1
    cases h2
    rw [List.getLast?_eq_getElem?] at e2
    obtain ⟨v, g1, g2⟩ := hr.get e2
    refine ⟨rfl, fun k => .inl ⟨a, xs, v, rfl, rfl, ha, by rw [hr.length]; exact g1, k _ _ hr.dropLast ⟨_, rfl, g2⟩⟩⟩
  · rename_i i
    obtain ⟨v, rfl, hv1⟩ := reps1 hv
    cases hv1
    split at h
    · rename_i hc
      rw [Bool.and_eq_true, decide_eq_true_eq, decide_eq_true_eq] at hc
      obtain ⟨j, s1, e1, h1⟩ := bind_run h
      obtain ⟨d, s2, e2, h2⟩ := bind_run h1
      clear h h1
      obtain ⟨e3, rfl⟩ := ofO_inv e1
      obtain ⟨e4, rfl⟩ := ofO_inv e2
      obtain ⟨h3, rfl⟩ := pure_inv h2
      cases h3
      obtain ⟨v, g1, g2⟩ := hr.get e4
      refine ⟨rfl, fun k => .inr ⟨a, xs, i, j, v, rfl, rfl, ha, hc.1, hc.2, by rw [hr.length]; exact e3, g1, k _ _ (hr.erase j) ⟨_, rfl, g2⟩⟩⟩
    · cases h
  · exact nomatch (show (none : Option ((R × List D) × Sto)) = some ((q, ds'), st') from h)⟩
variable {o e : Expr} {es : List Expr} {ms : Env → M (List R)} {mo : Env → M R} {name : Str} {apos cpos pos p : Pos} {id : String} {f : List D → List R → M (R × List D)} {i : Nat} {x : Str}
/-- the list of its own is read, then the arguments -/
theorem own_turn {G : Kx} {D' : Ends} {σ : St} {H : Hp} {T : String} {r : V → List V → Hp → VK → Prop}
    (hT : ∀ {a : Addr} {xs : List V} {H : Hp}, H a = some (.lst xs) → tyV G.K T (.ref a) H)
    (hr : ∀ {H : Hp} {α : List Addr} {own : Addr → Prop} {a : Addr} {xs : List V} {ds : List D} {vs : List V} {rs : List R} {st st' : Sto} {q : R} {ds' : List D} {Q : VK},
      H a = some (.lst xs) → RepL G H α xs ds → RepRs G H α All own vs rs → RepS G H α st → f ds rs st = some ((q, ds'), st') →
      st' = st ∧ ((∀ v xs', RepL G H α xs' ds' → (∃ d, q = .v d ∧ Rep G H α v d) → Q v (upd H a (.lst xs'))) → r (.ref a) vs H Q))
    (h : tS G (sOwn i (fun ds rs => f ds rs >>= fun p => pure p.2) ms) D' σ H) : tBM G.K T r (tVar i) (tA G ms) σ H fun _ H1 => D'.nx σ H1 := by
  obtain ⟨α, env, s0, fl, st', hE, hS, hm, k⟩ := h
  obtain ⟨rs, s1, e1, hm1⟩ := bind_run hm
  obtain ⟨ds, s2, e2, hm2⟩ := bind_run hm1
  obtain ⟨ds', s3, e3, hm3⟩ := bind_run hm2
  obtain ⟨⟨q, ds2⟩, s4, e4, hm4⟩ := bind_run e3
  obtain ⟨rfl, rfl⟩ := pure_inv hm4
  obtain ⟨rfl, rfl⟩ := pure_inv hm3
  obtain ⟨e5, rfl⟩ := ofO_inv e2
  have e6 := ownAt_ok e5
  obtain ⟨v, g1, g2⟩ := hE.val i _ e6
  obtain ⟨a, rfl, hn, ⟨xs, ha, hx⟩, _⟩ := g2
  refine ⟨_, g1, hT ha, α, env, s0, rs, _, hE, hS, e1, fun vs α1 H1 X1 S1 R1 => ?_⟩
  have ha1 := X1.keep a _ ha hn fun z => z
  have hn1 := X1.notin ha hn fun z => z
  obtain ⟨rfl, kk⟩ := hr (Q := fun _ H1 => D'.nx σ H1) ha1 (hx.ext X1) (R1.mono (fun _ _ => trivial)) S1 e4
  refine kk fun v xs' hx' _ => ?_
  have hE1 := hE.ext X1
  obtain ⟨h1, h2⟩ := hE1.updOwn e6 g1 ha1 hn1 hx'
  have oa : Own σ env a := ⟨i, _, e6, g1⟩
  exact k α1 _ ((X1.mono (own' := Own σ env) fun _ z => z.elim).trans (Ext.upd1 (own := Own σ env) ha1 (fun _ e => nomatch e) (fun _ _ e => nomatch e) (.inr oa)) fun a h => .inl h) (S1.updOwn ha1 (fun _ e => nomatch e) (fun _ _ e => nomatch e) hn1) σ h1 fun b hb => .inl (h2 b hb)
theorem tyL {K : PySem.W.Frag} {a : Addr} {xs : List V} {H : Hp} (h : H a = some (.lst xs)) : tyV K "list" (.ref a) H := .inl ⟨rfl, xs, SqL.of h⟩
/-- x.m(args) as a statement, x a list of its own -/
theorem s_own (hm : MtD X C id f) (slot : Slot "list" name id) (hty : typeOf (.builtin id) = pure (.type "method_descriptor")) (hN : X.N[i]? = some x) (hv : Vis X.env.scope x) (ha : SimA X C (e :: es) ms) (hd : (x == ("__debug__" : Str)) = false := by decide) (hcd : (x == ("__classdict__" : Str)) = false := by decide)
    (hbase : attributeBase (.Name x p) name X.env (eval (.Name x p) X.env) = eval (.Name x p) X.env := by rfl) (hfew : ((backTo cpos (starEach (e :: es) X.env)).all (fun x => !x.1) && (backToKw cpos (keywordEach [] X.env)).all (fun x => x.1.isSome) && decide ((e :: es).length + ([] : List Keyword).length + (if ([] : List Keyword).isEmpty then 0 else 1) < 30)) = true := by rfl)
    (hline : (apos.endLine == cpos.line) = true := by rfl) (hs : starEach (e :: es) X.env = (false, eval e X.env) :: starEach es X.env := by rfl) (hplain : (backTo cpos (starEach es X.env)).any (·.1) = false := by rfl)
    (hsw : swapsWith (.Call (.Attribute (.Name x p) name apos) (e :: es) [] cpos) none pos.line X.env = pure false := by rfl) :
    SimS X C (.Expr (.Call (.Attribute (.Name x p) name apos) (e :: es) [] cpos) pos) (sOwn i (fun ds rs => f ds rs >>= fun p => pure p.2) ms) := by
  obtain ⟨r, h1, h2⟩ := hm
  exact (ps_expr (pe_bm PySem.F.plainAttrs_list slot hty h1 (pe_var hN hv hd hcd) ha hbase hfew hline hs hplain) hsw).wk fun D' σ H h => own_turn (G := gx X C) (fun h => tyL h) (fun g1 g2 g3 g4 g5 => h2 g1 g2 g3 g4 g5) h
theorem to_mut {G : Kx} {σ : St} {H : Hp} {Q : VK} {r : V → List V → Hp → VK → Prop}
    (hr : ∀ {H : Hp} {α : List Addr} {own : Addr → Prop} {a : Addr} {xs : List V} {ds : List D} {vs : List V} {rs : List R} {st st' : Sto} {q : R} {ds' : List D} {Q : VK},
      H a = some (.lst xs) → RepL G H α xs ds → RepRs G H α All own vs rs → RepS G H α st → f ds rs st = some ((q, ds'), st') →
      st' = st ∧ ((∀ v xs', RepL G H α xs' ds' → (∃ d, q = .v d ∧ Rep G H α v d) → Q v (upd H a (.lst xs'))) → r (.ref a) vs H Q))
    (h : tE G (eMut f mo ms) σ H Q) : tBM G.K "list" r (tE G mo) (tA G ms) σ H Q := by
  obtain ⟨α, env, s0, rr, st', hE, hS, hm, k⟩ := h
  obtain ⟨ro, s1, e1, hm1⟩ := bind_run hm
  obtain ⟨n, s2, e2, hm2⟩ := bind_run hm1
  obtain ⟨rs, s3, e3, hm3⟩ := bind_run hm2
  refine ⟨α, env, s0, ro, s1, hE, hS, e1, fun v α1 H1 X1 S1 R1 => ?_⟩
  obtain ⟨rfl, a, xs1, rfl, hα, ha1⟩ := lstNo_ok R1 S1 e2
  refine ⟨tyL ha1, α1, env, _, rs, s3, hE.ext X1, S1, e3, fun vs α2 H2 X2 S2 R2 => ?_⟩
  unfold inSt at hm3
  split at hm3
  · rename_i ds q1
    have q2 := stAt_ok q1
    split at hm3
    · rename_i r1 ds' s4 q3
      injection hm3 with hm3
      injection hm3 with z1 z2
      subst z1 z2
      obtain ⟨xs, h1, h2⟩ := S2.obj n _ _ q2 (X2.pre0 hα)
      obtain ⟨rfl, kk⟩ := hr (Q := Q) h1 h2 (R2.mono (fun _ _ => trivial)) S2 q3
      refine kk fun v xs' hx' ⟨d, e, hd⟩ => ?_
      subst e
      have hin : a ∈ α2 := List.mem_of_getElem? (X2.pre0 hα)
      have X3 : Ext Non α2 H2 α2 (upd H2 a (.lst xs')) := Ext.upd1 h1 (fun _ e => nomatch e) (fun _ _ e => nomatch e) (.inl hin)
      exact k v α2 _ ((X1.trans0 X2).trans0 X3) (S2.updObj q2 (X2.pre0 hα) h1 hx') (hd.ext X3)
    · cases hm3
  · cases hm3
theorem mutl (hm : MtD X C id f) (slot : Slot "list" name id) (hty : typeOf (.builtin id) = pure (.type "method_descriptor")) (ho : SimE X C o mo) (ha : SimA X C (e :: es) ms) (hbase : attributeBase o name X.env (eval o X.env) = eval o X.env := by rfl) (hfew : ((backTo cpos (starEach (e :: es) X.env)).all (fun x => !x.1) && (backToKw cpos (keywordEach [] X.env)).all (fun x => x.1.isSome) && decide ((e :: es).length + ([] : List Keyword).length + (if ([] : List Keyword).isEmpty then 0 else 1) < 30)) = true := by rfl) (hline : (apos.endLine == cpos.line) = true := by rfl) (hs : starEach (e :: es) X.env = (false, eval e X.env) :: starEach es X.env := by rfl) (hplain : (backTo cpos (starEach es X.env)).any (·.1) = false := by rfl) :
    SimE X C (.Call (.Attribute o name apos) (e :: es) [] cpos) (eMut f mo ms) := by
  obtain ⟨r, h1, h2⟩ := hm
  exact (pe_bm PySem.F.plainAttrs_list slot hty h1 ho ha hbase hfew hline hs hplain).wk fun σ H Q h => to_mut (G := gx X C) (fun g1 g2 g3 g4 g5 => h2 g1 g2 g3 g4 g5) h
theorem mutl0 (hm : MtD X C id f) (slot : Slot "list" name id) (hty : typeOf (.builtin id) = pure (.type "method_descriptor")) (ho : SimE X C o mo)
    (hbase : attributeBase o name X.env (eval o X.env) = eval o X.env := by rfl) (hline : (apos.endLine == cpos.line) = true := by rfl) :
    SimE X C (.Call (.Attribute o name apos) [] [] cpos) (eMut f mo aNil) := by
  obtain ⟨r, h1, h2⟩ := hm
  refine (pe_bm0 PySem.F.plainAttrs_list slot hty h1 ho hbase hline).wk fun σ H Q h => ?_
  obtain ⟨α, env, s0, ro, s1, hE, hS, e1, k⟩ := to_mut (G := gx X C) (fun g1 g2 g3 g4 g5 => h2 g1 g2 g3 g4 g5) h
  refine ⟨α, env, s0, ro, s1, hE, hS, e1, fun v α1 H1 X1 S1 R1 => ?_⟩
  obtain ⟨t1, α2, env2, st2, r2, s2, _, S2, hm2, k2⟩ := k v α1 H1 X1 S1 R1
  obtain ⟨rfl, rfl⟩ := pure_inv hm2
  exact ⟨t1, k2 [] α2 H1 Ext.rfl' S2 .nil⟩

/-! ### x = y.pop(), y a list of its own -/
/-- x = y.pop(args) where both are names -/
def sPop (j i : Nat) (ms : Env → M (List R)) : Env → M Fl := fun env => ms env >>= fun rs => M.ofO (ownAt i env) >>= fun ds => fPop ds rs >>= fun p => toD p.1 >>= fun d =>
  if j < env.length then pure (.nx ((env.set i (some (.l (.lst p.2)))).set j (some (.v d)))) else M.fail
theorem pop_turn {G : Kx} {D' : Ends} {σ : St} {H : Hp} {r : V → List V → Hp → VK → Prop} {j : Nat}
    (hr : ∀ {H : Hp} {α : List Addr} {own : Addr → Prop} {a : Addr} {xs : List V} {ds : List D} {vs : List V} {rs : List R} {st st' : Sto} {q : R} {ds' : List D} {Q : VK},
      H a = some (.lst xs) → RepL G H α xs ds → RepRs G H α All own vs rs → RepS G H α st → fPop ds rs st = some ((q, ds'), st') →
      st' = st ∧ ((∀ v xs', RepL G H α xs' ds' → (∃ d, q = .v d ∧ Rep G H α v d) → Q v (upd H a (.lst xs'))) → r (.ref a) vs H Q))
    (h : tS G (sPop j i ms) D' σ H) : tBM G.K "list" r (tVar i) (tA G ms) σ H fun v H1 => D'.nx (σ.set j (some v)) H1 := by
  obtain ⟨α, env, s0, fl, st', hE, hS, hm, k⟩ := h
  obtain ⟨rs, s1, e1, hm1⟩ := bind_run hm
  obtain ⟨ds, s2, e2, hm2⟩ := bind_run hm1
  obtain ⟨⟨q, ds'⟩, s3, e3, hm3⟩ := bind_run hm2
  obtain ⟨d, s4, e4, hm4⟩ := bind_run hm3
  split at hm4
  · rename_i hj
    obtain ⟨rfl, rfl⟩ := pure_inv hm4
    obtain ⟨e5, rfl⟩ := ofO_inv e2
    have e6 := ownAt_ok e5
    obtain ⟨v, g1, g2⟩ := hE.val i _ e6
    obtain ⟨a, rfl, hn, ⟨xs, ha, hx⟩, _⟩ := g2
    refine ⟨_, g1, tyL ha, α, env, s0, rs, _, hE, hS, e1, fun vs α1 H1 X1 S1 R1 => ?_⟩
    have ha1 := X1.keep a _ ha hn fun z => z
    have hn1 := X1.notin ha hn fun z => z
    obtain ⟨rfl, kk⟩ := hr (Q := fun v H1 => D'.nx (σ.set j (some v)) H1) ha1 (hx.ext X1) (R1.mono (fun _ _ => trivial)) S1 e3
    refine kk fun v xs' hx' ⟨d', e7, hd⟩ => ?_
    subst e7
    obtain ⟨rfl, rfl⟩ := pure_inv e4
    have hE1 := hE.ext X1
    obtain ⟨h1, h2⟩ := hE1.updOwn e6 g1 ha1 hn1 hx'
    have oa : Own σ env a := ⟨i, _, e6, g1⟩
    have X3 : Ext (Own σ env) α1 H1 α1 (upd H1 a (.lst xs')) := Ext.upd1 ha1 (fun _ e => nomatch e) (fun _ _ e => nomatch e) (.inr oa)
    obtain ⟨h3, h4⟩ := h1.setN (i := j) (v := v) (r := .v d) (hd.ext X3) (.inl rfl) (by rw [List.length_set]; exact hj)
    refine k α1 _ ((X1.mono (own' := Own σ env) fun _ z => z.elim).trans X3 fun a h => .inl h) (S1.updOwn ha1 (fun _ e => nomatch e) (fun _ _ e => nomatch e) hn1) _ h3 fun b hb => ?_
    rcases h4 b hb with h | ⟨o, e, _⟩
    · exact .inl (h2 b h)
    · cases e
  · cases hm4
theorem s_pop0 {y : Str} {j : Nat} {py : Pos} (hN : X.N.Nodup) (hj : X.N[j]? = some y) (hy : Loc X.env.scope y) (hi : X.N[i]? = some x) (hv : Vis X.env.scope x) (hd : (x == ("__debug__" : Str)) = false := by decide) (hcd : (x == ("__classdict__" : Str)) = false := by decide)
    (hbase : attributeBase (.Name x p) "pop" X.env (eval (.Name x p) X.env) = eval (.Name x p) X.env := by rfl) (hline : (apos.endLine == cpos.line) = true := by rfl)
    (hs : swapsWith (.Call (.Attribute (.Name x p) "pop" apos) [] [] cpos) (some (.Name y py)) pos.line X.env = pure false := by rfl) (hf : X.fn y = true ∨ X.env.scope.names.lookup y = some .local := by first | exact .inl rfl | exact .inr rfl | assumption) :
    SimS X C (.Assign [.Name y py] (.Call (.Attribute (.Name x p) "pop" apos) [] [] cpos) pos) (sPop j i aNil) := by
  obtain ⟨r, h1, h2⟩ := mt_popD (X := X) (C := C)
  refine (ps_set hN hj hy (pe_bm0 PySem.F.plainAttrs_list PySem.F.slot_list_pop PySem.F.type_list_pop h1 (pe_var hi hv hd hcd) hbase hline) hs hf).wk fun D' σ H h => ?_
  obtain ⟨v, g1, t1, α, env, s0, rs, s1, hE, hS, e1, k⟩ := pop_turn (G := gx X C) (r := r) (fun g1 g2 g3 g4 g5 => h2 g1 g2 g3 g4 g5) h
  obtain ⟨rfl, rfl⟩ := pure_inv e1
  exact ⟨v, g1, t1, k [] α H Ext.rfl' hS .nil⟩
end
end Mi
/-! Mi: loops, what is walked, comprehensions. -/
namespace Mi
open PySem PySem.Spec PyProof.Rows L2

/-- what is walked: its items; what must hold of the store at every turn (a list of the store stays as it is) -/
structure Itm where
  ds : List D
  ck : Sto → Prop
structure ItOk (G : Kx) (J : It) (it : Itm) (P : List Addr → Hp → Prop) (W : Addr → Prop) : Prop where
  go : ∀ α i H, P α H → i < it.ds.length → J.go i H
  stop : ∀ α i H, P α H → it.ds.length ≤ i → J.stop i H
  yld : ∀ α i H x H', P α H → i < it.ds.length → J.yld i H x H' → (H' = H ∨ ∃ T u, H T = none ∧ H' = upd H T u) ∧ ∃ d, it.ds[i]? = some d ∧ Rep G H' α x d
  keep : ∀ own α H α' H' st, (∀ a, W a → ¬ own a) → Ext own α H α' H' → P α H → RepS G H' α' st → it.ck st → P α' H'
def tI (G : Kx) (m : Env → M Itm) : TI := fun σ H R => ∃ α env st it st', RepE G H α σ env ∧ RepS G H α st ∧ m env st = some (it, st') ∧
  ∀ α' H' J P W, Ext Non α H α' H' → RepS G H' α' st' → ItOk G J it P W → P α' H' → (∀ a, W a → H' a ≠ none ∧ ¬ Own σ env a) → R J H'
theorem PI.wk {X : Cx} {tg e : Expr} {t t' : TI} (h : PI X tg e t) (w : ∀ σ H R, t' σ H R → t σ H R) : PI X tg e t' := ⟨fun pins s σ H R I h' => h.run pins s σ H R I (w _ _ _ h')⟩
abbrev SimI (X : Cx) (C : List Addr) (tg e : Expr) (m : Env → M Itm) : Prop := PI X tg e (tI (gx X C) m)
/-- one turn of what the walk yields -/
theorem Ext.yld {own : Addr → Prop} {α : List Addr} {H H' : Hp} (h : H' = H ∨ ∃ T u, H T = none ∧ H' = upd H T u) : Ext own α H α H' := by
  rcases h with rfl | ⟨T, u, h1, rfl⟩
  · exact Ext.rfl'
  · exact Ext.new h1
theorem RepS.yld {G : Kx} {α : List Addr} {H H' : Hp} {st : Sto} (hS : RepS G H α st) (h : H' = H ∨ ∃ T u, H T = none ∧ H' = upd H T u) : RepS G H' α st := by
  rcases h with rfl | ⟨T, u, h1, rfl⟩
  · exact hS
  · exact hS.new h1

/-! ### for -/
open Classical in
noncomputable def forL (ck : Sto → Prop) (g : Tg) (b : Env → M Fl) : List D → Env → M Fl
  | [], env => fun st => if ck st then some (.nx env, st) else none
  | d :: ds, env => fun st => if ck st then (g d env >>= fun e => b e >>= fun fl => match fl with
      | .nx e' => forL ck g b ds e'
      | .ct e' => forL ck g b ds e'
      | .bk e' => pure (.nx e')
      | .rt r => pure (.rt r)) st else none
/-- a list of its own is locked while it is walked -/
def freeze1 (i : Nat) (env : Env) : Env := match env[i]? with
  | some (some (.l o)) => env.set i (some (.b o))
  | _ => env
def freeze : List Nat → Env → Env
  | [], env => env
  | i :: is, env => freeze is (freeze1 i env)
noncomputable def sFor (fz : List Nat) (mi : Env → M Itm) (g : Tg) (b : Env → M Fl) : Env → M Fl := fun env => mi (freeze fz env) >>= fun it => forL it.ck g b it.ds (freeze fz env)
section
variable {G : Kx} {H : Hp} {α : List Addr} {σ : St} {env : Env}
theorem freeze1_ok {i : Nat} (hE : RepE G H α σ env) : RepE G H α σ (freeze1 i env) ∧ ∀ a, Own σ (freeze1 i env) a → Own σ env a := by
  unfold freeze1
  split
  · rename_i o q
    have hlt : i < env.length := (List.getElem?_eq_some_iff.mp q).1
    have own : ∀ a, Own σ (env.set i (some (.b o))) a → Own σ env a ∧ ∃ j, j ≠ i ∧ ∃ o, env[j]? = some (some (.l o)) ∧ σ[j]? = some (some (.ref a)) := fun a ⟨j, o', h1, h2⟩ => by
      by_cases e : i = j
      · subst e
        rw [List.getElem?_set_self hlt] at h1
        cases h1
      · rw [List.getElem?_set_ne e] at h1
        exact ⟨⟨j, o', h1, h2⟩, j, fun z => e z.symm, o', h1, h2⟩
    refine ⟨⟨by rw [List.length_set]; exact hE.len, fun j r hj => ?_, fun j l a o1 o2 h1 h2 h3 h4 => ?_⟩, fun a h => (own a h).1⟩
    · by_cases e : i = j
      · subst e
        rw [List.getElem?_set_self hlt] at hj
        cases hj
        obtain ⟨v, g1, g2⟩ := hE.val i _ q
        obtain ⟨a, rfl, hn, ro, m⟩ := g2
        refine ⟨_, g1, a, rfl, ro, fun _ => ⟨hn, fun z => ?_⟩⟩
        obtain ⟨_, j, ne, o', h1, h2⟩ := own a z
        exact ne (hE.sep j i a _ _ h1 q h2 g1)
      · rw [List.getElem?_set_ne e] at hj
        obtain ⟨v, g1, g2⟩ := hE.val j r hj
        exact ⟨v, g1, g2.own fun a _ _ _ _ z => (own a z).1⟩
    · have conv : ∀ {j : Nat} {o' : O}, (env.set i (some (.b o)))[j]? = some (some (.l o')) → env[j]? = some (some (.l o')) := fun {j o'} h => by
        by_cases e : i = j
        · subst e; rw [List.getElem?_set_self hlt] at h; cases h
        · rw [List.getElem?_set_ne e] at h; exact h
      exact hE.sep j l a _ _ (conv h1) (conv h2) h3 h4
  · exact ⟨hE, fun _ h => h⟩
theorem freeze_ok : ∀ {fz : List Nat} {env : Env}, RepE G H α σ env → RepE G H α σ (freeze fz env) ∧ ∀ a, Own σ (freeze fz env) a → Own σ env a
  | [], _, hE => ⟨hE, fun _ h => h⟩
  | i :: is, env, hE => by
    obtain ⟨h1, h2⟩ := freeze1_ok (i := i) hE
    obtain ⟨h3, h4⟩ := freeze_ok (fz := is) h1
    exact ⟨h3, fun a h => h2 a (h4 a h)⟩
end
section
variable {X : Cx} {C : List Addr} {tg iter : Expr} {body : List Stmt} {mi : Env → M Itm} {g : Tg} {b : Env → M Fl} {pos : Pos} {is : List Nat}
theorem for_of {G : Kx} {D' : Ends} {σ : St} {H : Hp} {fz : List Nat} (h : tS G (sFor fz mi g b) D' σ H) : tFor (tI G mi) (tG G is g) (tS G b) D' σ H := by
  obtain ⟨α, env0, s0, fl, st', hE0, hS, hm, k⟩ := h
  obtain ⟨hE, hO⟩ := freeze_ok (fz := fz) hE0
  generalize hz : freeze fz env0 = env at *
  obtain ⟨it, s1, e1, hm1⟩ := bind_run (show (mi env >>= fun it => forL it.ck g b it.ds env) s0 = some (fl, st') by rw [← hz]; exact hm)
  refine ⟨α, env, s0, it, s1, hE, hS, e1, fun α1 H1 J P W X1 S1 K1 P1 W1 => ?_⟩
  have W2 : ∀ a, W a → H1 a ≠ none ∧ ¬ Own σ env a := W1
  -- the word of the loop
  refine ⟨fun i m σ2 H2 => ∃ α2 env2 st2, m = it.ds.length - i ∧ i ≤ it.ds.length ∧ RepE G H2 α2 σ2 env2 ∧ RepS G H2 α2 st2 ∧ Ext (Own σ env) α H α2 H2 ∧ (∀ a, H1 a ≠ none → H2 a ≠ none) ∧
      (∀ a, Own σ2 env2 a → Own σ env a ∨ H a = none) ∧ (∀ a, W a → H2 a ≠ none ∧ ¬ Own σ2 env2 a) ∧ (it.ck st2 → P α2 H2) ∧ forL it.ck g b (it.ds.drop i) env2 st2 = some (fl, st'),
    ⟨it.ds.length, α1, env, s1, by simp, Nat.zero_le _, hE.ext X1, S1, X1.mono fun _ z => z.elim, fun _ h => h, fun _ h => .inl h, W2, fun _ => P1, by simpa using hm1⟩, ?_⟩
  rintro i m σ2 H2 ⟨α2, env2, st2, rfl, hi, E2, S2, X2, T2, O2, W3, P2, r2⟩
  by_cases hlt : i < it.ds.length
  · rw [List.drop_eq_getElem_cons hlt] at r2
    unfold forL at r2
    split at r2
    · rename_i hck
      obtain ⟨e3, s3, g3, r3⟩ := bind_run r2
      obtain ⟨f4, s4, g4, r4⟩ := bind_run r3
      have P2' := P2 hck
      refine .inr ⟨K1.go α2 i H2 P2' hlt, fun σ' H' => ∃ α3 env3 st3, RepE G H' α3 σ' env3 ∧ RepS G H' α3 st3 ∧ Ext (Own σ env) α H α3 H' ∧ (∀ a, H1 a ≠ none → H' a ≠ none) ∧
        (∀ a, Own σ' env3 a → Own σ env a ∨ H a = none) ∧ (∀ a, W a → H' a ≠ none ∧ ¬ Own σ' env3 a) ∧ (it.ck st3 → P α3 H') ∧ forL it.ck g b (it.ds.drop (i + 1)) env3 st3 = some (fl, st'), ?_, fun x H3 y3 => ?_⟩
      · rintro σ' H' ⟨α3, env3, st3, E3, S3, X3, T3, O3, W4, P3, r5⟩
        exact ⟨it.ds.length - (i + 1), by omega, α3, env3, st3, rfl, hlt, E3, S3, X3, T3, O3, W4, P3, r5⟩
      · obtain ⟨hy, d, hd, rd⟩ := K1.yld α2 i H2 x H3 P2' hlt y3
        rw [List.getElem?_eq_getElem hlt] at hd
        cases hd
        have E3 := E2.ext (Ext.yld (own := Non) hy)
        have S3 := S2.yld (G := G) hy
        refine ⟨α2, env2, _, st2, e3, s3, E3, S3, rd, g3, fun σ4 α4 H4 X4 S4 E4 O4 _ => ⟨α4, e3, s3, f4, s4, E4, S4, g4, fun α5 H5 X5 S5 => ?_⟩⟩
        have X24 : Ext (Own σ2 env2) α2 H2 α4 H4 := (Ext.yld hy).trans (X4.mono (own' := Own σ2 env2) fun _ z => z.elim) fun a h => .inl h
        have dom3 : ∀ a, H3 a = none → H2 a = none := (Ext.yld (own := Non) (α := α2) hy).dom
        have O4' : ∀ a, Own σ4 e3 a → Own σ2 env2 a ∨ H2 a = none := fun a ha => (O4 a ha).imp id (dom3 a)
        have X25 : Ext (Own σ2 env2) α2 H2 α5 H5 := X24.trans X5 O4'
        have X5' : Ext (Own σ env) α H α5 H5 := X2.trans X25 O2
        have ownW : ∀ σ6 env6, (∀ a, Own σ6 env6 a → Own σ4 e3 a ∨ H4 a = none) → ∀ a, W a → ¬ Own σ6 env6 a := fun σ6 env6 h a hw z => by
          rcases h a z with z | z
          · rcases O4' a z with z | z
            · exact (W3 a hw).2 z
            · exact (W3 a hw).1 z
          · exact (W3 a hw).1 (X24.dom a z)
        have own0 : ∀ σ6 env6, (∀ a, Own σ6 env6 a → Own σ4 e3 a ∨ H4 a = none) → ∀ a, Own σ6 env6 a → Own σ env a ∨ H a = none := fun σ6 env6 h a z => by
          rcases h a z with z | z
          · rcases O4' a z with z | z
            · exact O2 a z
            · exact .inr (X2.dom a z)
          · exact .inr (X2.dom a (X24.dom a z))
        have nx : ∀ env6, forL it.ck g b (it.ds.drop (i + 1)) env6 s4 = some (fl, st') → ∀ σ6, RepE G H5 α5 σ6 env6 → (∀ a, Own σ6 env6 a → Own σ4 e3 a ∨ H4 a = none) →
            ∃ α3 env3 st3, RepE G H5 α3 σ6 env3 ∧ RepS G H5 α3 st3 ∧ Ext (Own σ env) α H α3 H5 ∧ (∀ a, H1 a ≠ none → H5 a ≠ none) ∧ (∀ a, Own σ6 env3 a → Own σ env a ∨ H a = none) ∧ (∀ a, W a → H5 a ≠ none ∧ ¬ Own σ6 env3 a) ∧ (it.ck st3 → P α3 H5) ∧
              forL it.ck g b (it.ds.drop (i + 1)) env3 st3 = some (fl, st') := fun env6 r6 σ6 E6 O6 =>
          ⟨α5, env6, s4, E6, S5, X5', fun a h z => T2 a h (X25.dom a z), own0 σ6 env6 O6, fun a hw => ⟨fun z => (W3 a hw).1 (X25.dom a z), ownW σ6 env6 O6 a hw⟩,
            fun hc => K1.keep _ α2 H2 α5 H5 s4 (fun a hw => (W3 a hw).2) X25 P2' S5 hc, r6⟩
        cases f4 with
        | nx e6 => exact fun σ6 E6 O6 => nx e6 r4 σ6 E6 O6
        | ct e6 => exact fun σ6 E6 O6 => nx e6 r4 σ6 E6 O6
        | bk e6 =>
          obtain ⟨rfl, rfl⟩ := pure_inv r4
          intro σ6 E6 O6
          exact k α5 H5 (X5'.mono hO) S5 σ6 E6 fun a ha => (own0 σ6 e6 O6 a ha).imp (hO a) id
        | rt r =>
          obtain ⟨rfl, rfl⟩ := pure_inv r4
          intro v hv
          refine k α5 H5 (X5'.mono hO) S5 v (hv.mono fun a ha => ?_)
          rcases ha with ha | ha
          · exact .inl (X2.dom a (X24.dom a ha))
          · rcases O4' a ha with z | z
            · exact ((O2 a z).imp (hO a) id).symm
            · exact .inl (X2.dom a z)
    · cases r2
  · have e : it.ds.drop i = [] := List.drop_eq_nil_of_le (by omega)
    rw [e] at r2
    unfold forL at r2
    split at r2
    · rename_i hck
      injection r2 with r2
      injection r2 with z1 z2
      subst z1 z2
      exact .inl ⟨K1.stop α2 i H2 (P2 hck) (by omega), k α2 H2 (X2.mono hO) S2 σ2 E2 fun a ha => (O2 a ha).imp (hO a) id⟩
    · cases r2
theorem s_for {fz : List Nat} (hp : PassesOwn (model X.prog X.w) X.A X.env X.xe) (hc : X.calm = true) (hi : SimI X C tg iter mi) (hg : SimG X C tg is g) (hb : SimSs X C body b)
    (hs : ∀ x, foldedSetIterable iter X.env x = pure x := by intro _; rfl) : SimS X C (.For tg iter body [] pos) (sFor fz mi g b) := (ps_for hp hc hi hg hb hs).wk fun _ _ _ h => for_of h

/-! ### while -/
def whileN : Nat → (Env → M Bool) → (Env → M Fl) → Env → M Fl
  | 0, _, _, _ => M.fail
  | n + 1, t, b, env => t env >>= fun c => if c = true then (b env >>= fun fl => match fl with
      | .nx e => whileN n t b e
      | .ct e => whileN n t b e
      | .bk e => pure (.nx e)
      | .rt r => pure (.rt r)) else pure (.nx env)
open Classical in
noncomputable def sWhile (t : Env → M Bool) (b : Env → M Fl) : Env → M Fl := fun env st => if h : ∃ r, ∃ n, whileN n t b env st = some r then some (Classical.choose h) else none
theorem whileN_mono {t : Env → M Bool} {b : Env → M Fl} : ∀ {n m : Nat} {env : Env} {st : Sto} {r : Fl × Sto}, n ≤ m → whileN n t b env st = some r → whileN m t b env st = some r
  | 0, _, _, _, _, _, h => nomatch h
  | n + 1, 0, _, _, _, hl, _ => absurd hl (by omega)
  | n + 1, m + 1, env, st, r, hl, h => by
    obtain ⟨c, s1, e1, h1⟩ := bind_run h
    show (t env >>= _) st = some r
    rw [bind_some e1]
    split at h1
    · rename_i hc
      rw [if_pos hc]
      obtain ⟨fl, s2, e2, h2⟩ := bind_run h1
      rw [bind_some e2]
      cases fl with
      | nx e => exact whileN_mono (by omega) h2
      | ct e => exact whileN_mono (by omega) h2
      | bk e => exact h2
      | rt q => exact h2
    · rename_i hc
      rw [if_neg hc]
      exact h1
theorem while_some {n : Nat} {t : Env → M Bool} {b : Env → M Fl} {env : Env} {st : Sto} {r : Fl × Sto} (h : whileN n t b env st = some r) : sWhile t b env st = some r := by
  have hx : ∃ r, ∃ n, whileN n t b env st = some r := ⟨r, n, h⟩
  unfold sWhile
  rw [dif_pos hx]
  obtain ⟨m, hm⟩ := Classical.choose_spec hx
  have h1 := whileN_mono (Nat.le_max_left n m) h
  have h2 := whileN_mono (Nat.le_max_right n m) hm
  rw [h1] at h2
  exact h2.symm
theorem while_inv {t : Env → M Bool} {b : Env → M Fl} {env : Env} {st : Sto} {r : Fl × Sto} (h : sWhile t b env st = some r) : ∃ n, whileN n t b env st = some r := by
  unfold sWhile at h
  split at h
  · rename_i hx
    obtain ⟨m, hm⟩ := Classical.choose_spec hx
    rw [h] at hm
    exact ⟨m, hm⟩
  · cases h
theorem while_of {G : Kx} {D' : Ends} {σ : St} {H : Hp} {t : Env → M Bool} (h : tS G (sWhile t b) D' σ H) : tWhile (tT G t) (tS G b) D' σ H := by
  obtain ⟨α, env, s0, fl, st', hE, hS, hm, k⟩ := h
  obtain ⟨n, hn⟩ := while_inv hm
  refine ⟨fun m σ2 H2 => ∃ α2 env2 st2, RepE G H2 α2 σ2 env2 ∧ RepS G H2 α2 st2 ∧ Ext (Own σ env) α H α2 H2 ∧ (∀ a, Own σ2 env2 a → Own σ env a ∨ H a = none) ∧ whileN m t b env2 st2 = some (fl, st'),
    ⟨n, α, env, s0, hE, hS, Ext.rfl', fun _ h => .inl h, hn⟩, ?_⟩
  rintro m σ2 H2 ⟨α2, env2, st2, E2, S2, X2, O2, r2⟩
  cases m with
  | zero => exact nomatch (show (none : Option (Fl × Sto)) = some (fl, st') from r2)
  | succ m =>
    obtain ⟨c, s3, e3, r3⟩ := bind_run r2
    refine ⟨α2, env2, st2, c, s3, E2, S2, e3, fun α3 H3 X3 S3 => ?_⟩
    have X3' : Ext (Own σ2 env2) α2 H2 α3 H3 := X3.mono fun _ z => z.elim
    dsimp only
    split
    · rename_i hc
      rw [if_pos hc] at r3
      obtain ⟨f4, s4, e4, r4⟩ := bind_run r3
      refine ⟨fun σ' H' => ∃ α5 env5 st5, RepE G H' α5 σ' env5 ∧ RepS G H' α5 st5 ∧ Ext (Own σ env) α H α5 H' ∧ (∀ a, Own σ' env5 a → Own σ env a ∨ H a = none) ∧ whileN m t b env5 st5 = some (fl, st'),
        fun σ' H' ⟨α5, env5, st5, h⟩ => ⟨m, Nat.lt_succ_self m, α5, env5, st5, h⟩, α3, env2, s3, f4, s4, E2.ext X3, S3, e4, fun α5 H5 X5 S5 => ?_⟩
      have X25 : Ext (Own σ2 env2) α2 H2 α5 H5 := X3'.trans X5 fun a h => .inl h
      have X5' : Ext (Own σ env) α H α5 H5 := X2.trans X25 O2
      have own0 : ∀ σ6 env6, (∀ a, Own σ6 env6 a → Own σ2 env2 a ∨ H3 a = none) → ∀ a, Own σ6 env6 a → Own σ env a ∨ H a = none := fun σ6 env6 h a z => by
        rcases h a z with z | z
        · exact O2 a z
        · exact .inr (X2.dom a (X3.dom a z))
      cases f4 with
      | nx e6 => exact fun σ6 E6 O6 => ⟨α5, e6, s4, E6, S5, X5', own0 σ6 e6 O6, r4⟩
      | ct e6 => exact fun σ6 E6 O6 => ⟨α5, e6, s4, E6, S5, X5', own0 σ6 e6 O6, r4⟩
      | bk e6 =>
        obtain ⟨rfl, rfl⟩ := pure_inv r4
        exact fun σ6 E6 O6 => k α5 H5 X5' S5 σ6 E6 (own0 σ6 e6 O6)
      | rt r =>
        obtain ⟨rfl, rfl⟩ := pure_inv r4
        intro v hv
        refine k α5 H5 X5' S5 v (hv.mono fun a ha => ?_)
        rcases ha with ha | ha
        · exact .inl (X2.dom a (X3.dom a ha))
        · exact (O2 a ha).symm
    · rename_i hc
      rw [if_neg hc] at r3
      obtain ⟨rfl, rfl⟩ := pure_inv r3
      exact k α3 H3 (X2.trans X3' O2) S3 σ2 (E2.ext X3) fun a ha => O2 a ha
theorem s_while {c : Expr} {t : Env → M Bool} (hp : PassesOwn (model X.prog X.w) X.A X.env X.xe) (hc : SimT X C c t) (hb : SimSs X C body b) : SimS X C (.While c body [] pos) (sWhile t b) := (ps_while hp hc hb).wk fun _ _ _ h => while_of h
end
end Mi
/-! Mi: what is walked: lists, tuples, ranges, enumerate, zip. -/
namespace Mi
open PySem PySem.Spec PyProof.Rows L2

/-! ### lists and tuples alike: b tells a list -/
def SqK (b : Bool) (K : PySem.W.Frag) (H : Hp) (a : Addr) (xs : List V) : Prop := cond b (SqL K H a xs) (SqT K H a xs)
def ItK (b : Bool) (h : Heap) (it a : Addr) (i : Nat) : Prop := cond b (h.IsListIter it a i) (h.IsTupleIter it a i)
def IsK (b : Bool) (h : Heap) (a : Addr) (its : Array Value) : Prop := cond b (h.IsList a its) (h.IsTuple a its)
def itObj (b : Bool) (a : Addr) : Obj := { cls := .type (cond b "list_iterator" "tuple_iterator"), data := .fields #[.ref a, .int 0 0] }
section
variable {X : Cx} {pins : List (Addr × Obj)} {σ : St} {H : Hp} {s : Shared} {a it : Addr} {xs ys : List V} {b : Bool}
theorem sqK_is (I : Inv X pins σ H s) (h : SqK b X.K H a xs) : ∃ its : List Value, Vals xs its ∧ IsK b s.heap a its.toArray ∧ a < s.heap.objs.size := by
  cases b with
  | true =>
    obtain ⟨its, rv, p, _⟩ := I.list h
    exact ⟨its, rv, p.isList, p.lt⟩
  | false =>
    obtain ⟨its, rv, p, _⟩ := I.tuple h
    exact ⟨its, rv, p, p.lt⟩
theorem sqK_inj (I : Inv X pins σ H s) (h : SqK b X.K H a xs) (h' : SqK b X.K H a ys) : xs = ys := by
  cases b with
  | true => exact I.list_inj h h'
  | false => exact I.tuple_inj h h'
theorem begins_K (b : Bool) (a : Addr) (its : Array Value) : Begins (.ref a) (itObj b a) fun h => IsK b h a its := by
  cases b with
  | true => exact begins_list a its
  | false => exact begins_tuple a its
theorem draws_K {prog : Program} {w : World} {A : Around} (hh : A.handled = none) (b : Bool) (it a : Addr) (hne : a ≠ it) (its : Array Value) :
    Draws prog w A it [it, a] its.size (fun i v => its[i]? = some v) (fun i h => ItK b h it a i ∧ IsK b h a its) := by
  cases b with
  | true => exact Draws.list hh it a hne its
  | false => exact Draws.tuple hh it a hne its
theorem ItK.obj {h : Heap} {i : Nat} (x : ItK b h it a i) : ∃ o, h.get? it = some o ∧ ∀ v, o.data ≠ .cell v := by
  cases b with
  | true => obtain ⟨o, e, _, d⟩ := x; exact ⟨o, e, fun v z => by rw [d] at z; cases z⟩
  | false => obtain ⟨o, e, _, d⟩ := x; exact ⟨o, e, fun v z => by rw [d] at z; cases z⟩
theorem ItK.move {h h' : Heap} {i : Nat} (x : ItK b h it a i) (k : ∀ o, h.get? it = some o → h'.get? it = some o) : ItK b h' it a i := by
  cases b with
  | true => obtain ⟨o, e, c, d⟩ := x; exact ⟨o, k o e, c, d⟩
  | false => obtain ⟨o, e, c, d⟩ := x; exact ⟨o, k o e, c, d⟩
theorem itK_new {h : Heap} (e : h.get? it = some (itObj b a)) : ItK b h it a 0 := by
  cases b with
  | true => exact ⟨_, e, rfl, rfl⟩
  | false => exact ⟨_, e, rfl, rfl⟩
end

/-! ### for x in a list or a tuple -/
def iSeq (K : PySem.W.Frag) (tl : TE) : TI := fun σ H R => tl σ H fun x H1 => ∃ a, x = .ref a ∧ (((∃ xs, SqL K H1 a xs) ∧ R (Itl K a) H1) ∨ ((∃ xs, SqT K H1 a xs) ∧ R (Itt K a) H1))
theorem pi_seq {X : Cx} {tg l : Expr} {tl : TE} (hl : PE X l tl) : PI X tg l (iSeq X.K tl) := by
  (refine ⟨fun pins s σ H R I h => ?_⟩); refine thn (hl.run pins s σ H _ I h) fun v s1 ⟨x, H1, I1, r1, a, e, q⟩ => ?_
  subst e
  cases r1
  have new : ∀ c ∈ [s1.heap.objs.size], FpOk X pins H1 c := fun c hc => by
    have e : c = s1.heap.objs.size := by simpa using hc
    (subst e); exact I1.fpOk (Nat.le_refl _) (I1.hok.fresh (Nat.le_refl _))
  rcases q with ⟨⟨xs, hq⟩, q⟩ | ⟨⟨xs, hq⟩, q⟩
  · obtain ⟨its, rv, p, hz⟩ := I1.list hq
    exact wpAny_pyIter_list p.isList ⟨s1.heap.objs.size, [s1.heap.objs.size], _, _, H1, rfl, I1.kept (t' := s1.toks) fun b o e => Heap.get?_push_of_some _ e, turn_list a _, ⟨_, Heap.get?_push_size _ rfl, rfl, rfl⟩, new, q⟩
  · obtain ⟨its, rv, p, hz⟩ := I1.tuple hq
    exact wpAny_pyIter_tuple (show s1.heap.IsTuple a its.toArray from p) ⟨s1.heap.objs.size, [s1.heap.objs.size], _, _, H1, rfl, I1.kept (t' := s1.toks) fun b o e => Heap.get?_push_of_some _ e, turn_tuple a _, ⟨_, Heap.get?_push_size _ rfl, rfl, rfl⟩, new, q⟩

/-! ### enumerate -/
def IteK (b : Bool) (K : PySem.W.Frag) (a : Addr) (n : Nat) : It :=
  ⟨fun i H => i < n ∧ ∃ xs, SqK b K H a xs ∧ xs.length = n, fun i H v H' => ∃ T x, v = .ref T ∧ H T = none ∧ H' = upd H T (.tup [.int (i : Nat), x]) ∧ ∀ xs, SqK b K H a xs → xs[i]? = some x, fun i H => n ≤ i ∧ ∃ xs, SqK b K H a xs ∧ xs.length = n⟩
theorem tupOk {X : Cx} {pins : List (Addr × Obj)} {σ : St} {H : Hp} {s : Shared} {h' : Heap} {tk : Nat} {ch : List Addr} {T : Addr} {xs : List V} {us : Array Value} (I : Inv X pins σ H s) (hf : ∀ b ∈ ch, FpOk X pins H b)
    (k : ∀ b o, b ∉ ch → s.heap.get? b = some o → h'.get? b = some o) (hT : s.heap.objs.size ≤ T) (ht : h'.IsTuple T us) (hv : Vals xs us.toList) (hl : xs.length ≤ sizeLine) :
    Inv X pins σ (upd H T (.tup xs)) { s with heap := h', toks := tk } :=
  I.turnedNew k hf hT ⟨hl, us.toList, hv, by
    have e : us.toList.toArray = us := by simp
    rw [e]
    exact ht⟩
theorem turn_enumK {P : Program} {w : World} {K : PySem.W.Frag} {elts : List Expr} {kk : Nat} {tpos : Pos} (b : Bool) (a e it : Addr) (n : Nat) :
    Turn P w K (.Tuple elts kk tpos) (IteK b K a n) [e, it] e (fun i h => (∃ old, IsEnum h e it (0 + ((i : Nat) : Int)) old) ∧ ItK b h it a i ∧ e ≠ it ∧ a ≠ it ∧ e ≠ a ∧ i ≤ n) where
  mem := by simp
  obj := fun i h st c hc => by
    obtain ⟨⟨old, he⟩, hi, _⟩ := st
    rcases (show c = e ∨ c = it by simpa using hc) with z | z
    · rw [z]; exact ⟨_, he, fun v q => nomatch q⟩
    · rw [z]; exact hi.obj
  keep := fun i h h' st k => let ⟨⟨old, he⟩, hi, r⟩ := st; ⟨⟨old, k e (by simp) _ he⟩, hi.move fun o q => k it (by simp) o q, r⟩
  item := by
    (intro X hP hw hK hc i pins s σ H E I hf st hg); subst hP hw hK
    obtain ⟨he, hit, n1, n2, n3, hin⟩ := st
    obtain ⟨hlt, xs, hq, hn⟩ := hg
    obtain ⟨its, rv, p, hz⟩ := sqK_is I hq
    have hsz : its.toArray.size = n := by simp [← rv.length, hn]
    have Gs := GoesN.enumFrom (prog := X.prog) (w := X.w) (A := X.A) (elts := elts) (x1 := kk) (pos := tpos) 0 (draws_K (A := X.A.in1) (I.ok.hd hc) b it a n2 its.toArray) e n1 (by simp [n1, n3]) (by simp)
    refine thn (Gs.goes i s (fun v s2 => ∃ x H', Inv X pins σ H' s2 ∧ RelV x v ∧ (IteK b X.K a n).yld i H x H' ∧ ((∃ old, IsEnum s2.heap e it (0 + ((i + 1 : Nat) : Int)) old) ∧ ItK b s2.heap it a (i + 1) ∧ e ≠ it ∧ a ≠ it ∧ e ≠ a ∧ i + 1 ≤ n) ∧ ∀ c ∈ [e, it], H' c = none) E (by rw [hsz]; exact hlt) ⟨he, hit, p⟩ fun v h' tk Y st' hk htk => ?_) fun _ _ h => h
    obtain ⟨T, t, u, rfl, hT, hu, hTup⟩ := Y
    obtain ⟨he', hit', _⟩ := st'
    (have hu' : its[i]? = some u := by simpa using hu); have hxi : i < xs.length := by rw [hn]; exact hlt
    obtain ⟨u2, g1, g2⟩ := rv.get (List.getElem?_eq_getElem hxi)
    rw [hu'] at g1
    cases g1
    refine ⟨.ref T, _, tupOk (xs := [.int (i : Nat), xs[i]]) I hf hk hT hTup (.cons ⟨t, by simp⟩ (.cons g2 .nil)) (by show 2 ≤ sizeLine; decide), rfl, ⟨T, xs[i], rfl, I.hok.fresh hT, rfl, fun ys hy => by rw [sqK_inj I hy hq]; exact List.getElem?_eq_getElem hxi⟩, ⟨he', hit', n1, n2, n3, hlt⟩, fun c hcm => ?_⟩
    have hlt2 : c < s.heap.objs.size := by
      rcases (show c = e ∨ c = it by simpa using hcm) with z | z
      · obtain ⟨_, q⟩ := he; rw [z]; exact Heap.lt_size q
      · obtain ⟨o, q, _⟩ := hit.obj; rw [z]; exact Heap.lt_size q
    rw [upd_ne (Nat.ne_of_lt (Nat.lt_of_lt_of_le hlt2 hT))]
    exact (hf c hcm).1
  done := by
    (intro X hP hw hK hc i pins s σ H E I hf st hg); subst hP hw hK
    obtain ⟨he, hit, n1, n2, n3, hin⟩ := st
    obtain ⟨hle, xs, hq, hn⟩ := hg
    have ei : i = n := Nat.le_antisymm hin hle
    subst ei
    obtain ⟨its, rv, p, hz⟩ := sqK_is I hq
    have hsz : its.toArray.size = i := by simp [← rv.length, hn]
    have Gs := GoesN.enumFrom (prog := X.prog) (w := X.w) (A := X.A) (elts := elts) (x1 := kk) (pos := tpos) 0 (draws_K (A := X.A.in1) (I.ok.hd hc) b it a n2 its.toArray) e n1 (by simp [n1, n3]) (by simp)
    rw [hsz] at Gs
    refine Gs.stops s (fun s1 => Inv X pins σ H s1) E ⟨he, hit, p⟩ fun h' tk hk _ => ?_
    exact I.turnedL (ch := [e, it]) hk hf
  self := fun A i s Q E st h => let ⟨⟨_, he⟩, _⟩ := st; wpAny_pyIter_enum he h
set_option maxHeartbeats 1000000 in
/-- enumerate(v) makes an iterator of v and the counter -/
theorem enum_new1 {v : Value} {o : Obj} {Hv : Heap → Prop} (B : Begins v o Hv) :
    Meets (Builtin.«enumerate.__new__» ⟨[.type "enumerate", v], []⟩) (fun _ R s => Hv s.heap ∧
      R (.ok (.ret (.ref (s.heap.push o).objs.size))) { s with heap := (s.heap.push o).push { cls := .type "enumerate", data := .fields #[.none, .bool false, .ref s.heap.objs.size, rawInt 0, .none, .none] } }) :=
  .of_wp fun prog w A R s h => by
    (obtain ⟨hp, g, d, tk, os⟩ := s); obtain ⟨hv, hR⟩ := h
    have self := sub_enumerate
    have begun : ∀ {A' : Around} {E Q : Value → Shared → Prop}, Q (.ref hp.objs.size) ⟨hp.push o, g, d, tk, os⟩ → wpAny (model prog w) A' (pyIter v) Q E ⟨hp, g, d, tk, os⟩ := fun q => B.iter prog w _ _ _ _ hv q
    wp_walk using begun
    (refine wpAny_stack_any fun st => wpAny_pure ?_); split
    · rename_i c _ _ _ _ _
      cases (c == Value.type "enumerate") <;> (wp_walk using begun; exact ⟨_, rfl, hR⟩)
    · wp_walk using begun
      exact ⟨_, rfl, hR⟩
theorem enum_call1 {prog : Program} {w : World} {A : Around} {E : Value → Shared → Prop} {s : Shared} {v : Value} {o : Obj} {Hv : Heap → Prop} {Q : Value → Shared → Prop} (B : Begins v o Hv) (hv : Hv s.heap)
    (k : ∀ h', IsEnum h' (s.heap.objs.size + 1) s.heap.objs.size 0 .none → h'.get? s.heap.objs.size = some o → (∀ b o, s.heap.get? b = some o → h'.get? b = some o) → Q (.ref (s.heap.objs.size + 1)) { s with heap := h' }) :
    wpAny (model prog w) A (call (.type "enumerate") [v]) Q E s := by
  refine callType_new F.called_enumerate (by decide) (F.typeCall_enumerate_1 _) (F.newCall_enumerate_1 _) (fun obj => F.args_object_init_2 obj _) F.entry_enumerate_new (enum_new1 B) ⟨hv, ?_⟩
  have sz : (s.heap.push o).objs.size = s.heap.objs.size + 1 := Heap.size_push ..
  have at1 : ((s.heap.push o).push { cls := .type "enumerate", data := .fields #[.none, .bool false, .ref s.heap.objs.size, rawInt 0, .none, .none] }).get? (s.heap.objs.size + 1) = some { cls := .type "enumerate", data := .fields #[.none, .bool false, .ref s.heap.objs.size, rawInt 0, .none, .none] } := by
    (rw [← sz]); exact Heap.get?_push_size _ rfl
  show _ ∧ _
  rw [sz]
  exact ⟨⟨_, at1, rfl⟩, k _ at1 (Heap.get?_push_of_some _ (Heap.get?_push_size _ B.free)) fun b o x => Heap.get?_push_of_some _ (Heap.get?_push_of_some _ x)⟩
theorem fresh_some {X : Cx} {pins : List (Addr × Obj)} {σ : St} {H : Hp} {s : Shared} (I : Inv X pins σ H s) {ch : List Addr} (h : ∀ c ∈ ch, s.heap.objs.size ≤ c) : ∀ c ∈ ch, FpOk X pins H c := fun c hc => I.fpOk (h c hc) (I.hok.fresh (h c hc))
def iEnumK (K : PySem.W.Frag) (te : TE) : TI := fun σ H R => te σ H fun x H1 => ∃ b a xs, [x] = [V.ref a] ∧ SqK b K H1 a xs ∧ R (IteK b K a xs.length) H1
theorem pi_enumK {X : Cx} {e : Expr} {te : TE} {p pos tpos : Pos} {elts : List Expr} {kk : Nat} (hg : Gl X "enumerate") (hm : X.mg "enumerate" = none) (he : PE X e te) (hs : starEach [e] X.env = (false, eval e X.env) :: starEach [] X.env := by rfl) :
    PI X (.Tuple elts kk tpos) (.Call (.Name "enumerate" p) [e] [] pos) (iEnumK X.K te) := by
  (refine ⟨fun pins s σ H R I h => ?_⟩); refine Call_ (ld_blt I hg hm boot_enumerate (PyProof.Rows.callWith_type1 (thn ((pa_cons he pa_nil hs).run pos pins s σ H (fun vs H1 => ∃ b a xs, vs = [V.ref a] ∧ SqK b X.K H1 a xs ∧ R (IteK b X.K a xs.length) H1) I h) fun us s1 ⟨vs, H1, I1, r1, q1⟩ => ?_) hs rfl))
  obtain ⟨b, a, xs, ex, hq, q⟩ := q1
  subst ex
  (obtain ⟨u, rfl, ru⟩ := vals1 r1); cases ru
  obtain ⟨its, rv, p', hlt⟩ := sqK_is I1 hq
  refine enum_call1 (begins_K b a its.toArray) p' fun h' he' ho hk => wpAny_pyIter_enum he' ?_
  (have I2 : Inv X pins σ H1 { s1 with heap := h' } := I1.kept (t' := s1.toks) hk); refine ⟨s1.heap.objs.size + 1, [s1.heap.objs.size + 1, s1.heap.objs.size], _, _, H1, rfl, I2, turn_enumK b a (s1.heap.objs.size + 1) s1.heap.objs.size xs.length,
    ⟨⟨.none, by simpa using he'⟩, itK_new ho, Nat.succ_ne_self _, Nat.ne_of_lt hlt, Nat.ne_of_gt (Nat.lt_succ_of_lt hlt), Nat.zero_le _⟩, fresh_some I1 fun c hc => ?_, q⟩
  rcases (show c = s1.heap.objs.size + 1 ∨ c = s1.heap.objs.size by simpa using hc) with z | z
  · rw [z]; exact Nat.le_succ _
  · rw [z]; exact Nat.le_refl _

/-! ### zip of two, in any mix -/
def ItzK (b1 b2 : Bool) (K : PySem.W.Frag) (a1 a2 : Addr) (n1 n2 : Nat) : It :=
  ⟨fun i H => i < min n1 n2 ∧ (∃ xs, SqK b1 K H a1 xs ∧ xs.length = n1) ∧ ∃ ys, SqK b2 K H a2 ys ∧ ys.length = n2,
    fun i H v H' => ∃ T x y, v = .ref T ∧ H T = none ∧ H' = upd H T (.tup [x, y]) ∧ (∀ xs, SqK b1 K H a1 xs → xs[i]? = some x) ∧ ∀ ys, SqK b2 K H a2 ys → ys[i]? = some y,
    fun i H => min n1 n2 ≤ i ∧ (∃ xs, SqK b1 K H a1 xs ∧ xs.length = n1) ∧ ∃ ys, SqK b2 K H a2 ys ∧ ys.length = n2⟩
structure Zs2 (h : Heap) (b1 b2 : Bool) (a1 a2 z TI TO i1 i2 : Addr) (i n1 n2 : Nat) : Prop where
  zip : IsZip h z TI TO .none
  ti : IsTupOf2 h TI (.ref i1) (.ref i2)
  to : ∃ x y, IsTupOf2 h TO x y
  it1 : ItK b1 h i1 a1 i
  it2 : ItK b2 h i2 a2 i
  sep : ZipSep2 z TI TO i1 i2 [i1, a1] [i2, a2]
  ne1 : a1 ≠ i1
  ne2 : a2 ≠ i2
  le : i ≤ min n1 n2
theorem turn_zipK {P : Program} {w : World} {K : PySem.W.Frag} {elts : List Expr} {kk : Nat} {tpos : Pos} (b1 b2 : Bool) (a1 a2 z TI TO i1 i2 : Addr) (n1 n2 : Nat) :
    Turn P w K (.Tuple elts kk tpos) (ItzK b1 b2 K a1 a2 n1 n2) [z, TI, TO, i1, i2] z (fun i h => Zs2 h b1 b2 a1 a2 z TI TO i1 i2 i n1 n2) where
  mem := by simp
  obj := fun i h st c hc => by
    obtain ⟨⟨x, y, hto⟩, ti⟩ := And.intro st.to st.ti
    rcases (show c = z ∨ c = TI ∨ c = TO ∨ c = i1 ∨ c = i2 by simpa using hc) with q | q | q | q | q
    · rw [q]; exact ⟨_, st.zip, fun v q => nomatch q⟩
    · rw [q]; exact ⟨_, ti, fun v q => nomatch q⟩
    · rw [q]; exact ⟨_, hto, fun v q => nomatch q⟩
    · rw [q]; exact st.it1.obj
    · rw [q]; exact st.it2.obj
  keep := fun i h h' st k => by
    obtain ⟨x, y, hto⟩ := st.to
    exact ⟨k z (by simp) _ st.zip, k TI (by simp) _ st.ti, ⟨x, y, k TO (by simp) _ hto⟩, st.it1.move fun o q => k i1 (by simp) o q, st.it2.move fun o q => k i2 (by simp) o q, st.sep, st.ne1, st.ne2, st.le⟩
  item := by
    (intro X hP hw hK hc i pins s σ H E I hf st hg); subst hP hw hK
    obtain ⟨hlt, ⟨xs, hq, hn⟩, ys, hq2, hn2⟩ := hg
    obtain ⟨its, rv, p, hz⟩ := sqK_is I hq
    obtain ⟨its2, rv2, p2, hz2⟩ := sqK_is I hq2
    have hsz : its.toArray.size = n1 := by simp [← rv.length, hn]
    have hsz2 : its2.toArray.size = n2 := by simp [← rv2.length, hn2]
    have Gs := GoesN.zip2 (prog := X.prog) (w := X.w) (A := X.A) (elts := elts) (x1 := kk) (pos := tpos) st.sep (draws_K (A := X.A.in1) (I.ok.hd hc) b1 i1 a1 st.ne1 its.toArray) (draws_K (A := X.A.in1) (I.ok.hd hc) b2 i2 a2 st.ne2 its2.toArray)
    rw [hsz, hsz2] at Gs
    refine thn (Gs.goes i s (fun v s2 => ∃ x H', Inv X pins σ H' s2 ∧ RelV x v ∧ (ItzK b1 b2 X.K a1 a2 n1 n2).yld i H x H' ∧ Zs2 s2.heap b1 b2 a1 a2 z TI TO i1 i2 (i + 1) n1 n2 ∧ ∀ c ∈ [z, TI, TO, i1, i2], H' c = none) E hlt ⟨st.zip, st.ti, st.to, ⟨st.it1, p⟩, ⟨st.it2, p2⟩⟩ fun v h' tk Y st' hk htk => ?_) fun _ _ h => h
    obtain ⟨T, u, u2, rfl, hT, hu, hu2, hTup⟩ := Y
    obtain ⟨zz, tt, too, ⟨q1, _⟩, q2, _⟩ := st'
    (have hu' : its[i]? = some u := by simpa using hu); have hu2' : its2[i]? = some u2 := by simpa using hu2
    have hxi : i < xs.length := by omega
    have hyi : i < ys.length := by omega
    obtain ⟨w1, g1, g2⟩ := rv.get (List.getElem?_eq_getElem hxi)
    rw [hu'] at g1
    cases g1
    obtain ⟨w2, g3, g4⟩ := rv2.get (List.getElem?_eq_getElem hyi)
    rw [hu2'] at g3
    cases g3
    refine ⟨.ref T, _, tupOk (xs := [xs[i], ys[i]]) I hf (fun c o hcn => hk c o fun hcm => hcn ?_) hT hTup (.cons g2 (.cons g4 .nil)) (by show 2 ≤ sizeLine; decide), rfl,
      ⟨T, xs[i], ys[i], rfl, I.hok.fresh hT, rfl, fun l hl => by rw [sqK_inj I hl hq]; exact List.getElem?_eq_getElem hxi, fun l hl => by rw [sqK_inj I hl hq2]; exact List.getElem?_eq_getElem hyi⟩, ⟨zz, tt, too, q1, q2, st.sep, st.ne1, st.ne2, hlt⟩, fun c hcm => ?_⟩
    · rcases (show c = z ∨ c = TO ∨ c = i1 ∨ c = i2 by simpa using hcm) with z' | z' | z' | z' <;> simp [z']
    · have hlt2 : c < s.heap.objs.size := by
        obtain ⟨x, y, hto⟩ := st.to
        rcases (show c = z ∨ c = TI ∨ c = TO ∨ c = i1 ∨ c = i2 by simpa using hcm) with q | q | q | q | q
        · rw [q]; exact Heap.lt_size st.zip
        · rw [q]; exact Heap.lt_size st.ti
        · rw [q]; exact Heap.lt_size hto
        · obtain ⟨o, e, _⟩ := st.it1.obj; rw [q]; exact Heap.lt_size e
        · obtain ⟨o, e, _⟩ := st.it2.obj; rw [q]; exact Heap.lt_size e
      rw [upd_ne (Nat.ne_of_lt (Nat.lt_of_lt_of_le hlt2 hT))]
      exact (hf c hcm).1
  done := by
    (intro X hP hw hK hc i pins s σ H E I hf st hg); subst hP hw hK
    obtain ⟨hle, ⟨xs, hq, hn⟩, ys, hq2, hn2⟩ := hg
    obtain ⟨its, rv, p, hz⟩ := sqK_is I hq
    obtain ⟨its2, rv2, p2, hz2⟩ := sqK_is I hq2
    have hsz : its.toArray.size = n1 := by simp [← rv.length, hn]
    have hsz2 : its2.toArray.size = n2 := by simp [← rv2.length, hn2]
    have Gs := GoesN.zip2 (prog := X.prog) (w := X.w) (A := X.A) (elts := elts) (x1 := kk) (pos := tpos) st.sep (draws_K (A := X.A.in1) (I.ok.hd hc) b1 i1 a1 st.ne1 its.toArray) (draws_K (A := X.A.in1) (I.ok.hd hc) b2 i2 a2 st.ne2 its2.toArray)
    rw [hsz, hsz2] at Gs
    have ei : i = min n1 n2 := Nat.le_antisymm st.le hle
    refine Gs.stops s (fun s1 => Inv X pins σ H s1) E ?_ fun h' tk hk _ => ?_
    · rw [← ei]
      exact ⟨st.zip, st.ti, st.to, ⟨st.it1, p⟩, ⟨st.it2, p2⟩⟩
    · refine I.turnedL (ch := [z, TI, TO, i1, i2]) (fun c o hcn => hk c o fun hcm => hcn ?_) hf
      rcases (show c = z ∨ c = TO ∨ c = i1 ∨ c = i2 by simpa using hcm) with z' | z' | z' | z' <;> simp [z']
  self := fun A i s Q E st h => wpAny_pyIter_zip st.zip h
def iZipK (K : PySem.W.Frag) (ta : TA) : TI := fun σ H R => ta σ H fun vs H1 => ∃ b1 b2 a1 a2 xs ys, vs = [V.ref a1, V.ref a2] ∧ SqK b1 K H1 a1 xs ∧ SqK b2 K H1 a2 ys ∧ R (ItzK b1 b2 K a1 a2 xs.length ys.length) H1
theorem pi_zipK {X : Cx} {e e2 : Expr} {ta : TA} {p pos tpos : Pos} {elts : List Expr} {kk : Nat} (hg : Gl X "zip") (hm : X.mg "zip" = none) (ha : PA X [e, e2] ta) (hs : starEach [e, e2] X.env = (false, eval e X.env) :: starEach [e2] X.env := by rfl) (hpl : (backTo pos (starEach [e2] X.env)).any (·.1) = false := by rfl) :
    PI X (.Tuple elts kk tpos) (.Call (.Name "zip" p) [e, e2] [] pos) (iZipK X.K ta) := by
  (refine ⟨fun pins s σ H R I h => ?_⟩); refine Call_ (ld_blt I hg hm PyProof.Rows.boot_zip (PyProof.Rows.callWith_type1 (thn (ha.run pos pins s σ H _ I h) fun us s1 ⟨vs, H1, I1, r1, q1⟩ => ?_) hs hpl))
  obtain ⟨b1, b2, a1, a2, xs, ys, ex, hq, hq2, q⟩ := q1
  subst ex
  obtain ⟨u, u2, rfl, ru, ru2⟩ := vals2 r1
  cases ru
  cases ru2
  obtain ⟨its, rv, p1, l1⟩ := sqK_is I1 hq
  obtain ⟨its2, rv2, p2, l2⟩ := sqK_is I1 hq2
  refine zip_begins2 (begins_K b1 a1 its.toArray) (begins_K b2 a2 its2.toArray) p1 p2 fun h' hz hti hto o1 o2 _ hk => wpAny_pyIter_zip hz ?_
  (have I2 : Inv X pins σ H1 { s1 with heap := h' } := I1.kept (t' := s1.toks) hk); refine ⟨s1.heap.objs.size + 4, [s1.heap.objs.size + 4, s1.heap.objs.size + 2, s1.heap.objs.size + 3, s1.heap.objs.size, s1.heap.objs.size + 1], _, _, H1, rfl, I2,
    turn_zipK b1 b2 a1 a2 _ (s1.heap.objs.size + 2) (s1.heap.objs.size + 3) s1.heap.objs.size (s1.heap.objs.size + 1) xs.length ys.length,
    ⟨hz, hti, ⟨_, _, hto⟩, itK_new o1, itK_new o2, zip_sep2 (by simpa using l1) (by simpa using l2), Nat.ne_of_lt l1, Nat.ne_of_lt (Nat.lt_succ_of_lt l2), Nat.zero_le _⟩, fresh_some I1 fun c hc => ?_, q⟩
  rcases (show c = s1.heap.objs.size + 4 ∨ c = s1.heap.objs.size + 2 ∨ c = s1.heap.objs.size + 3 ∨ c = s1.heap.objs.size ∨ c = s1.heap.objs.size + 1 by simpa using hc) with z | z | z | z | z
  · rw [z]; exact Nat.le_add_right _ _
  · rw [z]; exact Nat.le_add_right _ _
  · rw [z]; exact Nat.le_add_right _ _
  · rw [z]; exact Nat.le_refl _
  · rw [z]; exact Nat.le_add_right _ _

/-! ### the walks as items -/
section
variable {G : Kx} {H : Hp} {α : List Addr} {own : Addr → Prop} {st st' : Sto} {v : V} {r : R}
/-- what is walked of a value: its items, and that it stays -/
def asIt : R → M Itm
  | .v (.obj n) => fun st => match stAt n st with
    | some ds => some (⟨ds, fun s => stAt n s = some ds⟩, st)
    | none => none
  | .v (.tup ds) => pure ⟨ds, fun _ => True⟩
  | .o (.cst ds) => pure ⟨ds, fun _ => True⟩
  | .b (.cst ds) => pure ⟨ds, fun _ => True⟩
  | .l (.lst ds) => pure ⟨ds, fun _ => True⟩
  | .b (.lst ds) => pure ⟨ds, fun _ => True⟩
  | _ => M.fail
structure Held (G : Kx) (b : Bool) (a : Addr) (it : Itm) (P : List Addr → Hp → Prop) (W : Addr → Prop) : Prop where
  sq : ∀ α H, P α H → ∃ xs, SqK b G.K H a xs ∧ RepL G H α xs it.ds
  keep : ∀ own α H α' H' st, (∀ a, W a → ¬ own a) → Ext own α H α' H' → P α H → RepS G H' α' st → it.ck st → P α' H'
theorem asIt_ok {fr : Addr → Prop} {it : Itm} (hr : RepR G H α fr own v r) (hS : RepS G H α st) (hf : ∀ a, fr a → ¬ own a) (h : asIt r st = some (it, st')) :
    st' = st ∧ ∃ b a P W, v = .ref a ∧ Held G b a it P W ∧ P α H ∧ ∀ c, W c → H c ≠ none ∧ ¬ own c := by
  have no : ∀ {p : Prop}, (none : Option (Itm × Sto)) = some (it, st') → p := fun h => nomatch h
  have cst : ∀ {ds : List D} {a : Addr}, RepO G H α a (.cst ds) → st' = st → it = ⟨ds, fun _ => True⟩ → v = .ref a → st' = st ∧ ∃ b a P W, v = .ref a ∧ Held G b a it P W ∧ P α H ∧ ∀ c, W c → H c ≠ none ∧ ¬ own c := fun {ds a} ho e1 e2 e3 => by
    subst e2
    exact ⟨e1, true, a, fun α H => ∃ xs, Stat G H a xs ∧ RepL G H α xs ds, fun _ => False, e3, ⟨fun α H ⟨xs, h1, h2⟩ => ⟨xs, h1.sq, h2⟩, fun own α H α' H' st _ X ⟨xs, h1, h2⟩ _ _ => ⟨xs, h1.ext X, h2.ext X⟩⟩, ho, fun _ z => z.elim⟩
  have mov : ∀ {ds : List D} {a : Addr}, RepO G H α a (.lst ds) → a ∉ α → ¬ own a → st' = st → it = ⟨ds, fun _ => True⟩ → v = .ref a → st' = st ∧ ∃ b a P W, v = .ref a ∧ Held G b a it P W ∧ P α H ∧ ∀ c, W c → H c ≠ none ∧ ¬ own c := fun {ds a} ho hn hw e1 e2 e3 => by
    subst e2
    refine ⟨e1, true, a, fun α H => a ∉ α ∧ RepO G H α a (.lst ds), fun c => c = a, e3, ⟨fun α H ⟨_, xs, h1, h2⟩ => ⟨xs, SqL.of h1, h2⟩, fun own α H α' H' st hW X ⟨h1, h2⟩ _ _ => ?_⟩, ⟨hn, ho⟩, fun c e => ?_⟩
    · obtain ⟨q1, q2⟩ := RepO.kept h2 trivial h1 (hW a rfl) X
      exact ⟨q2, q1⟩
    · subst e
      obtain ⟨u, hu⟩ := ho.has trivial
      exact ⟨by rw [hu]; exact fun z => (nomatch z), hw⟩
  cases r with
  | v d =>
    cases d with
    | tup ds =>
      obtain ⟨e1, e2⟩ := pure_inv h
      cases hr with
      | @tup a xs _ h1 h2 =>
        subst e1
        exact ⟨e2, false, a, fun α H => ∃ xs, SqT G.K H a xs ∧ RepL G H α xs ds, fun _ => False, rfl, ⟨fun _ _ h => h, fun own α H α' H' st _ X ⟨xs, h1, h2⟩ _ _ => ⟨xs, SqT.ext h1 X, h2.ext X⟩⟩, ⟨xs, h1, h2⟩, fun _ z => z.elim⟩
    | obj n =>
      have h' : (match stAt n st with | some ds => some ((⟨ds, fun s => stAt n s = some ds⟩ : Itm), st) | none => none) = some (it, st') := h
      split at h'
      · rename_i ds q
        injection h' with h'
        injection h' with e1 e2
        subst e1
        cases hr with
        | @obj a _ ha =>
          refine ⟨e2.symm, true, a, fun α H => α[n]? = some a ∧ ∃ xs, H a = some (.lst xs) ∧ RepL G H α xs ds, fun _ => False, rfl, ⟨fun α H ⟨_, xs, h1, h2⟩ => ⟨xs, SqL.of h1, h2⟩, fun own α H α' H' st2 _ X ⟨h1, _⟩ S2 hc => ?_⟩, ⟨ha, hS.obj n _ _ (stAt_ok q) ha⟩, fun _ z => z.elim⟩
          exact ⟨X.pre0 h1, S2.obj n _ _ (stAt_ok hc) (X.pre0 h1)⟩
      · cases h'
    | _ => exact no h
  | l o =>
    cases o with
    | lst ds =>
      obtain ⟨e1, e2⟩ := pure_inv h
      obtain ⟨a, rfl, hfa, hn, ro, _⟩ := hr
      exact mov ro hn (hf a hfa) e2 e1 rfl
    | _ => exact no h
  | o o =>
    cases o with
    | cst ds =>
      obtain ⟨e1, e2⟩ := pure_inv h
      obtain ⟨a, rfl, ro, _⟩ := hr
      exact cst ro e2 e1 rfl
    | _ => exact no h
  | b o =>
    cases o with
    | cst ds =>
      obtain ⟨e1, e2⟩ := pure_inv h
      obtain ⟨a, rfl, ro, _⟩ := hr
      exact cst ro e2 e1 rfl
    | lst ds =>
      obtain ⟨e1, e2⟩ := pure_inv h
      obtain ⟨a, rfl, ro, w⟩ := hr
      exact mov ro (w trivial).1 (w trivial).2 e2 e1 rfl
    | _ => exact no h
theorem itOk_list {a : Addr} {it : Itm} {P : List Addr → Hp → Prop} {W : Addr → Prop} (h : Held G true a it P W) : ItOk G (Itl G.K a) it P W where
  go := fun α i H hp hi => by
    obtain ⟨xs, h1, h2⟩ := h.sq α H hp
    have hx : i < xs.length := by rw [h2.length]; exact hi
    exact ⟨xs, xs[i], h1, List.getElem?_eq_getElem hx⟩
  stop := fun α i H hp hi => by
    obtain ⟨xs, h1, h2⟩ := h.sq α H hp
    exact ⟨xs, h1, by rw [h2.length]; exact hi⟩
  yld := fun α i H x H' hp hi ⟨e, hy⟩ => by
    subst e
    obtain ⟨xs, h1, h2⟩ := h.sq α _ hp
    refine ⟨.inl rfl, it.ds[i], List.getElem?_eq_getElem hi, ?_⟩
    obtain ⟨v, g1, g2⟩ := h2.get (List.getElem?_eq_getElem hi)
    have := hy xs h1
    rw [g1] at this
    cases this
    exact g2
  keep := h.keep
theorem itOk_tup {a : Addr} {it : Itm} {P : List Addr → Hp → Prop} {W : Addr → Prop} (h : Held G false a it P W) : ItOk G (Itt G.K a) it P W where
  go := fun α i H hp hi => by
    obtain ⟨xs, h1, h2⟩ := h.sq α H hp
    have hx : i < xs.length := by rw [h2.length]; exact hi
    exact ⟨xs, xs[i], h1, List.getElem?_eq_getElem hx⟩
  stop := fun α i H hp hi => by
    obtain ⟨xs, h1, h2⟩ := h.sq α H hp
    exact ⟨xs, h1, by rw [h2.length]; exact hi⟩
  yld := fun α i H x H' hp hi ⟨e, hy⟩ => by
    subst e
    obtain ⟨xs, h1, h2⟩ := h.sq α _ hp
    refine ⟨.inl rfl, it.ds[i], List.getElem?_eq_getElem hi, ?_⟩
    obtain ⟨v, g1, g2⟩ := h2.get (List.getElem?_eq_getElem hi)
    have := hy xs h1
    rw [g1] at this
    cases this
    exact g2
  keep := h.keep
def enumD : Nat → List D → List D
  | _, [] => []
  | k, d :: ds => .tup [.int (k : Nat), d] :: enumD (k + 1) ds
theorem enumD_length : ∀ (k : Nat) (ds : List D), (enumD k ds).length = ds.length
  | _, [] => rfl
  | k, _ :: ds => congrArg (· + 1) (enumD_length (k + 1) ds)
theorem enumD_get : ∀ (k : Nat) (ds : List D) (i : Nat) (d : D), ds[i]? = some d → (enumD k ds)[i]? = some (.tup [.int ((k + i : Nat) : Int), d])
  | _, [], _, _, h => by simp at h
  | k, _ :: _, 0, d, h => by
    simp at h
    subst h
    rfl
  | k, _ :: ds, i + 1, d, h => by
    have := enumD_get (k + 1) ds i d (by simpa using h)
    show (enumD (k + 1) ds)[i]? = _
    rw [this]
    have e : k + 1 + i = k + (i + 1) := by omega
    rw [e]
def zipD : List D → List D → List D
  | a :: as, b :: bs => .tup [a, b] :: zipD as bs
  | _, _ => []
theorem zipD_length : ∀ (as bs : List D), (zipD as bs).length = min as.length bs.length
  | [], _ => by simp [zipD]
  | _ :: _, [] => by simp [zipD]
  | _ :: as, _ :: bs => by
    show (zipD as bs).length + 1 = _
    rw [zipD_length as bs]
    simp only [List.length_cons]
    omega
theorem zipD_get : ∀ (as bs : List D) (i : Nat) (x y : D), as[i]? = some x → bs[i]? = some y → (zipD as bs)[i]? = some (.tup [x, y])
  | [], _, _, _, _, h, _ => by simp at h
  | _ :: _, [], _, _, _, _, h => by simp at h
  | a :: _, b :: _, 0, x, y, h1, h2 => by
    simp at h1 h2
    subst h1 h2
    rfl
  | _ :: as, _ :: bs, i + 1, x, y, h1, h2 => zipD_get as bs i x y (by simpa using h1) (by simpa using h2)
theorem itOk_enum {b : Bool} {a : Addr} {it : Itm} {P : List Addr → Hp → Prop} {W : Addr → Prop} {n : Nat} (h : Held G b a it P W) (hn : n = it.ds.length) : ItOk G (IteK b G.K a n) ⟨enumD 0 it.ds, it.ck⟩ P W where
  go := fun α i H hp hi => by
    obtain ⟨xs, h1, h2⟩ := h.sq α H hp
    exact ⟨by rw [hn]; simpa [enumD_length] using hi, xs, h1, by rw [hn]; exact h2.length⟩
  stop := fun α i H hp hi => by
    obtain ⟨xs, h1, h2⟩ := h.sq α H hp
    exact ⟨by rw [hn]; simpa [enumD_length] using hi, xs, h1, by rw [hn]; exact h2.length⟩
  yld := fun α i H x H' hp hi ⟨T, y, e1, e2, e3, hy⟩ => by
    subst e1 e3
    have hi' : i < it.ds.length := by simpa [enumD_length] using hi
    obtain ⟨xs, h1, h2⟩ := h.sq α H hp
    refine ⟨.inr ⟨T, _, e2, rfl⟩, .tup [.int ((0 + i : Nat) : Int), it.ds[i]], enumD_get 0 it.ds i _ (List.getElem?_eq_getElem hi'), ?_⟩
    obtain ⟨v, g1, g2⟩ := h2.get (List.getElem?_eq_getElem hi')
    have := hy xs h1
    rw [g1] at this
    cases this
    rw [Nat.zero_add]
    exact .tup (SqT.of upd_same) (.cons (.int _) (.cons (g2.ext (Ext.new (own := Non) e2)) .nil))
  keep := h.keep
theorem itOk_zip {b1 b2 : Bool} {a1 a2 : Addr} {it1 it2 : Itm} {P1 P2 : List Addr → Hp → Prop} {W1 W2 : Addr → Prop} {n1 n2 : Nat} (h1 : Held G b1 a1 it1 P1 W1) (h2 : Held G b2 a2 it2 P2 W2) (e1 : n1 = it1.ds.length) (e2 : n2 = it2.ds.length) :
    ItOk G (ItzK b1 b2 G.K a1 a2 n1 n2) ⟨zipD it1.ds it2.ds, fun s => it1.ck s ∧ it2.ck s⟩ (fun α H => P1 α H ∧ P2 α H) (fun c => W1 c ∨ W2 c) where
  go := fun α i H hp hi => by
    obtain ⟨xs, g1, g2⟩ := h1.sq α H hp.1
    obtain ⟨ys, g3, g4⟩ := h2.sq α H hp.2
    exact ⟨by rw [e1, e2]; simpa [zipD_length] using hi, ⟨xs, g1, by rw [e1]; exact g2.length⟩, ys, g3, by rw [e2]; exact g4.length⟩
  stop := fun α i H hp hi => by
    obtain ⟨xs, g1, g2⟩ := h1.sq α H hp.1
    obtain ⟨ys, g3, g4⟩ := h2.sq α H hp.2
    exact ⟨by rw [e1, e2]; simpa [zipD_length] using hi, ⟨xs, g1, by rw [e1]; exact g2.length⟩, ys, g3, by rw [e2]; exact g4.length⟩
  yld := fun α i H x H' hp hi ⟨T, u, w, q1, q2, q3, hy1, hy2⟩ => by
    subst q1 q3
    have hi' : i < min it1.ds.length it2.ds.length := by simpa [zipD_length] using hi
    have l1 : i < it1.ds.length := by omega
    have l2 : i < it2.ds.length := by omega
    obtain ⟨xs, g1, g2⟩ := h1.sq α H hp.1
    obtain ⟨ys, g3, g4⟩ := h2.sq α H hp.2
    refine ⟨.inr ⟨T, _, q2, rfl⟩, _, zipD_get _ _ i _ _ (List.getElem?_eq_getElem l1) (List.getElem?_eq_getElem l2), ?_⟩
    obtain ⟨v1, f1, f2⟩ := g2.get (List.getElem?_eq_getElem l1)
    obtain ⟨v2, f3, f4⟩ := g4.get (List.getElem?_eq_getElem l2)
    have k1 := hy1 xs g1
    have k2 := hy2 ys g3
    rw [f1] at k1
    rw [f3] at k2
    cases k1
    cases k2
    exact .tup (SqT.of upd_same) (.cons (f2.ext (Ext.new (own := Non) q2)) (.cons (f4.ext (Ext.new (own := Non) q2)) .nil))
  keep := fun own α H α' H' st hW X hp S hc => ⟨h1.keep own α H α' H' st (fun c hc => hW c (.inl hc)) X hp.1 S hc.1, h2.keep own α H α' H' st (fun c hc => hW c (.inr hc)) X hp.2 S hc.2⟩
end
def rangeD (lo : Int) (n : Nat) : List D := (List.range n).map fun i => .int (lo + (i : Nat))
def rangeC (lo c : Int) (n : Nat) : List D := (List.range n).map fun i => .int (lo + (i : Nat) * c)
theorem itOk_rng {G : Kx} {lo : Int} {n : Nat} : ItOk G (Itr lo n) ⟨rangeD lo n, fun _ => True⟩ (fun _ _ => True) (fun _ => False) where
  go := fun α i H _ hi => by show i < n; simpa [rangeD] using hi
  stop := fun α i H _ hi => by show n ≤ i; simpa [rangeD] using hi
  yld := fun α i H x H' _ hi ⟨e1, e2⟩ => by
    subst e1 e2
    have hi' : i < n := by simpa [rangeD] using hi
    exact ⟨.inl rfl, .int (lo + (i : Nat)), by simp [rangeD, hi'], .int _⟩
  keep := fun _ _ _ _ _ _ _ _ _ _ _ => trivial
theorem itOk_rngC {G : Kx} {lo c : Int} {n : Nat} : ItOk G (Itc lo c n) ⟨rangeC lo c n, fun _ => True⟩ (fun _ _ => True) (fun _ => False) where
  go := fun α i H _ hi => by show i < n; simpa [rangeC] using hi
  stop := fun α i H _ hi => by show n ≤ i; simpa [rangeC] using hi
  yld := fun α i H x H' _ hi ⟨e1, e2⟩ => by
    subst e1 e2
    have hi' : i < n := by simpa [rangeC] using hi
    exact ⟨.inl rfl, .int (lo + (i : Nat) * c), by simp [rangeC, hi'], .int _⟩
  keep := fun _ _ _ _ _ _ _ _ _ _ _ => trivial
def smallI (i : Int) : Bool := decide (-4611686018427387904 ≤ i) && decide (i < 4611686018427387904)
theorem smallI_ok {i : Int} (h : smallI i = true) : -(2 ^ 62) ≤ i ∧ i < 2 ^ 62 := by
  unfold smallI at h
  rw [Bool.and_eq_true, decide_eq_true_eq, decide_eq_true_eq] at h
  exact h
/-- as many turns as range(i, j, c) has -/
def rgN (i j c : Int) : Nat := if 0 < c then ((j - i + (c - 1)) / c).toNat else ((i - j + (-c - 1)) / (-c)).toNat
def mSeq (m : Env → M R) : Env → M Itm := fun env => m env >>= asIt
def mEnum (m : Env → M R) : Env → M Itm := fun env => m env >>= fun r => asIt r >>= fun it => pure ⟨enumD 0 it.ds, it.ck⟩
def mZip (m1 m2 : Env → M R) : Env → M Itm := fun env => m1 env >>= fun r1 => m2 env >>= fun r2 => asIt r1 >>= fun i1 => asIt r2 >>= fun i2 => pure ⟨zipD i1.ds i2.ds, fun s => i1.ck s ∧ i2.ck s⟩
def mR1 (ms : Env → M (List R)) : Env → M Itm := fun env => ms env >>= fun rs => match rs with
  | [.v (.int j)] => M.ite (smallI j) ⟨rangeD 0 j.toNat, fun _ => True⟩
  | _ => M.fail
def mR2 (ms : Env → M (List R)) : Env → M Itm := fun env => ms env >>= fun rs => match rs with
  | [.v (.int i), .v (.int j)] => M.ite (smallI i && smallI j) ⟨rangeD i (j - i).toNat, fun _ => True⟩
  | _ => M.fail
/-- as many turns as range(i, j, c) has -/
def rgN3 (i j c : Int) : Nat := (Builtin.Range.rangeSize i j c).toNat
def rgOk (i j c : Int) : Bool := decide (c ≠ 0) && decide (c.natAbs < 1073741824) && Builtin.Range.small i j c && decide (Builtin.Range.rangeSize i j c = (rgN3 i j c : Nat))
def mR3 (ms : Env → M (List R)) : Env → M Itm := fun env => ms env >>= fun rs => match rs with
  | [.v (.int i), .v (.int j), .v (.int c)] => M.ite (rgOk i j c) ⟨rangeC i c (rgN3 i j c), fun _ => True⟩
  | _ => M.fail
section
variable {X : Cx} {C : List Addr} {tg e e2 : Expr} {es : List Expr} {m m2 : Env → M R} {ms : Env → M (List R)} {p pos tpos : Pos} {elts : List Expr} {kk : Nat}
theorem i_seq (he : SimE X C e m) : SimI X C tg e (mSeq m) := PI.wk (pi_seq he) fun σ H R h => by
  obtain ⟨α, env, s0, it, st', hE, hS, hm, k⟩ := h
  obtain ⟨r, s1, e1, e2⟩ := bind_run hm
  refine ⟨α, env, s0, r, s1, hE, hS, e1, fun v α1 H1 X1 S1 R1 => ?_⟩
  obtain ⟨rfl, b, a, P, W, rfl, hh, hp, hw⟩ := asIt_ok R1 S1 (fun a ha => (hE.noSlot ha).own hE) e2
  refine ⟨a, rfl, ?_⟩
  obtain ⟨xs, h1, _⟩ := hh.sq α1 H1 hp
  cases b with
  | true => exact .inl ⟨⟨xs, h1⟩, k α1 H1 _ P W X1 S1 (itOk_list hh) hp hw⟩
  | false => exact .inr ⟨⟨xs, h1⟩, k α1 H1 _ P W X1 S1 (itOk_tup hh) hp hw⟩
theorem i_enum (hg : Gl X "enumerate") (hm : X.mg "enumerate" = none) (he : SimE X C e m) (hs : starEach [e] X.env = (false, eval e X.env) :: starEach [] X.env := by rfl) :
    SimI X C (.Tuple elts kk tpos) (.Call (.Name "enumerate" p) [e] [] pos) (mEnum m) := PI.wk (pi_enumK hg hm he hs) fun σ H R h => by
  obtain ⟨α, env, s0, it, st', hE, hS, hm, k⟩ := h
  obtain ⟨r, s1, e1, hm1⟩ := bind_run hm
  obtain ⟨it1, s2, e2, hm2⟩ := bind_run hm1
  obtain ⟨rfl, rfl⟩ := pure_inv hm2
  refine ⟨α, env, s0, r, s1, hE, hS, e1, fun v α1 H1 X1 S1 R1 => ?_⟩
  obtain ⟨rfl, b, a, P, W, rfl, hh, hp, hw⟩ := asIt_ok R1 S1 (fun a ha => (hE.noSlot ha).own hE) e2
  obtain ⟨xs, h1, h2⟩ := hh.sq α1 H1 hp
  exact ⟨b, a, xs, rfl, h1, k α1 H1 _ P W X1 S1 (itOk_enum hh h2.length) hp hw⟩
theorem i_zip (hg : Gl X "zip") (hm : X.mg "zip" = none) (h1 : SimE X C e m) (h2 : SimE X C e2 m2) (hs : starEach [e, e2] X.env = (false, eval e X.env) :: starEach [e2] X.env := by rfl) (hs2 : starEach [e2] X.env = (false, eval e2 X.env) :: starEach [] X.env := by rfl) (hpl : (backTo pos (starEach [e2] X.env)).any (·.1) = false := by rfl) :
    SimI X C (.Tuple elts kk tpos) (.Call (.Name "zip" p) [e, e2] [] pos) (mZip m m2) := PI.wk (pi_zipK hg hm (pa_cons h1 (pa_cons h2 pa_nil hs2) hs) hs hpl) fun σ H R h => by
  obtain ⟨α, env, s0, it, st', hE, hS, hm, k⟩ := h
  obtain ⟨r, s1, e1, hm1⟩ := bind_run hm
  obtain ⟨r2, s2, e2, hm2⟩ := bind_run hm1
  obtain ⟨it1, s3, e3, hm3⟩ := bind_run hm2
  obtain ⟨it2, s4, e4, hm4⟩ := bind_run hm3
  obtain ⟨rfl, rfl⟩ := pure_inv hm4
  refine ⟨α, env, s0, r, s1, hE, hS, e1, fun v α1 H1 X1 S1 R1 => ⟨α1, env, s1, r2, s2, hE.ext X1, S1, e2, fun v2 α2 H2 X2 S2 R2 => ?_⟩⟩
  have fr2 : ∀ a, Fresh H1 a → ¬ Own σ env a := fun a ha => ((hE.ext X1).noSlot ha).own (hE.ext X1)
  obtain ⟨rfl, b, a, P, W, rfl, hh, hp, hw⟩ := asIt_ok (R1.ext X2) S2 (fun a ha => (hE.noSlot ha).own hE) e3
  obtain ⟨rfl, b2, a2, P2, W2, rfl, hh2, hp2, hw2⟩ := asIt_ok R2 S2 fr2 e4
  obtain ⟨xs, g1, g2⟩ := hh.sq α2 H2 hp
  obtain ⟨ys, g3, g4⟩ := hh2.sq α2 H2 hp2
  exact ⟨b, b2, a, a2, xs, ys, rfl, g1, g3, k α2 H2 _ _ _ (X1.trans0 X2) S2 (itOk_zip hh hh2 g2.length g4.length) ⟨hp, hp2⟩ fun c hc => hc.elim (hw c) (hw2 c)⟩
theorem i_range1 {a : Expr} (hg : Gl X "range") (hm : X.mg "range" = none) (ha : SimA X C [a] ms) (hs : starEach [a] X.env = [(false, eval a X.env)] := by rfl) : SimI X C tg (.Call (.Name "range" p) [a] [] pos) (mR1 ms) :=
  PI.wk (pi_range1 hg hm ha hs) fun σ H R h => by
    obtain ⟨α, env, s0, it, st', hE, hS, hm, k⟩ := h
    obtain ⟨rs, s1, e1, hm1⟩ := bind_run hm
    refine ⟨α, env, s0, rs, s1, hE, hS, e1, fun vs α1 H1 X1 S1 R1 => ?_⟩
    split at hm1
    · obtain ⟨hc, rfl, rfl⟩ := ite_inv hm1
      obtain ⟨v, rfl, hv⟩ := reps1 R1
      cases hv
      obtain ⟨h1, h2⟩ := smallI_ok hc
      exact ⟨_, rfl, h1, h2, k α1 H1 _ _ _ X1 S1 itOk_rng trivial fun _ z => z.elim⟩
    · cases hm1
theorem i_range2 {a b : Expr} (hg : Gl X "range") (hm : X.mg "range" = none) (ha : SimA X C [a, b] ms) (hs : starEach [a, b] X.env = [(false, eval a X.env), (false, eval b X.env)] := by rfl) (hs2 : starEach [b] X.env = [(false, eval b X.env)] := by rfl) : SimI X C tg (.Call (.Name "range" p) [a, b] [] pos) (mR2 ms) :=
  PI.wk (pi_range2 hg hm ha hs hs2) fun σ H R h => by
    obtain ⟨α, env, s0, it, st', hE, hS, hm, k⟩ := h
    obtain ⟨rs, s1, e1, hm1⟩ := bind_run hm
    refine ⟨α, env, s0, rs, s1, hE, hS, e1, fun vs α1 H1 X1 S1 R1 => ?_⟩
    split at hm1
    · obtain ⟨hc, rfl, rfl⟩ := ite_inv hm1
      obtain ⟨v, w, rfl, hv, hw⟩ := reps2 R1
      cases hv; cases hw
      rw [Bool.and_eq_true] at hc
      obtain ⟨h1, h2⟩ := smallI_ok hc.1
      obtain ⟨h3, h4⟩ := smallI_ok hc.2
      exact ⟨_, _, rfl, ⟨h1, h2, h3, h4⟩, k α1 H1 _ _ _ X1 S1 itOk_rng trivial fun _ z => z.elim⟩
    · cases hm1
theorem i_range3 {a b c : Expr} (hg : Gl X "range") (hm : X.mg "range" = none) (ha : SimA X C [a, b, c] ms) (hs : starEach [a, b, c] X.env = (false, eval a X.env) :: starEach [b, c] X.env := by rfl)
    (hpl : (backTo pos (starEach [b, c] X.env)).any (·.1) = false := by rfl) : SimI X C tg (.Call (.Name "range" p) [a, b, c] [] pos) (mR3 ms) :=
  PI.wk (pi_range3 hg hm ha hs hpl) fun σ H R h => by
    obtain ⟨α, env, s0, it, st', hE, hS, hm, k⟩ := h
    obtain ⟨rs, s1, e1, hm1⟩ := bind_run hm
    refine ⟨α, env, s0, rs, s1, hE, hS, e1, fun vs α1 H1 X1 S1 R1 => ?_⟩
    split at hm1
    · obtain ⟨hc, rfl, rfl⟩ := ite_inv hm1
      cases R1 with
      | cons h1 R1 _ =>
        obtain ⟨v, w, rfl, hv, hw⟩ := reps2 R1
        cases h1; cases hv; cases hw
        unfold rgOk at hc
        (simp only [Bool.and_eq_true, decide_eq_true_eq] at hc); exact ⟨_, _, _, _, rfl, ⟨hc.1.1.1, hc.1.1.2, hc.1.2, hc.2⟩, k α1 H1 _ _ _ X1 S1 itOk_rngC trivial fun _ z => z.elim⟩
    · cases hm1
end
end Mi
/-! Mi: comprehensions. -/
namespace Mi
open PySem PySem.Spec PyProof.Rows L2

def wipeE (env : Env) : List Nat → Env
  | [] => env
  | v :: vs => (wipeE env vs).set v none
open Classical in
noncomputable def compL (ck : Sto → Prop) (g : Tg) (t : Env → M Bool) (m : Env → M R) (env : Env) : List D → List D → M (List D)
  | [], acc => fun st => if ck st then some (acc, st) else none
  | d :: ds, acc => fun st => if ck st then (g d env >>= fun e => t e >>= fun c => if c = true then (m e >>= fun r => toD r >>= fun y => if lenOk (acc.length + 1) = true then compL ck g t m env ds (acc ++ [y]) else M.fail) else compL ck g t m env ds acc) st else none
noncomputable def eComp (vs : List Nat) (mi : Env → M Itm) (g : Tg) (t : Env → M Bool) (m : Env → M R) : Env → M R := fun env => mi env >>= fun it => compL it.ck g t m (wipeE env vs) it.ds [] >>= fun ds => pure (.l (.lst ds))
def tTrue : Env → M Bool := fun _ => pure true
section
variable {G : Kx} {H : Hp} {α : List Addr} {σ : St} {env : Env}
theorem wipeE_length : ∀ (env : Env) (vs : List Nat), (wipeE env vs).length = env.length
  | _, [] => rfl
  | env, v :: vs => by unfold wipeE; rw [List.length_set, wipeE_length env vs]
theorem wipe_in : ∀ {vs : List Nat} {j : Nat}, j ∈ vs → j < env.length → (wipeE env vs)[j]? = some none
  | v :: vs, j, h, hl => by
    unfold wipeE
    by_cases e : v = j
    · subst e; rw [List.getElem?_set_self (by rw [wipeE_length]; exact hl)]
    · rw [List.getElem?_set_ne e]
      exact wipe_in ((List.mem_cons.mp h).resolve_left fun z => e z.symm) hl
theorem wipe_no : ∀ {vs : List Nat} {env : Env} {σ : St} {j : Nat}, j ∉ vs → (wipeE env vs)[j]? = env[j]? ∧ (wipe σ vs)[j]? = σ[j]?
  | [], _, _, _, _ => ⟨rfl, rfl⟩
  | v :: vs, env, σ, j, h => by
    simp only [List.mem_cons, not_or] at h
    obtain ⟨h1, h2⟩ := wipe_no (env := env) (σ := σ) h.2
    unfold wipeE wipe
    rw [List.getElem?_set_ne (fun e => h.1 e.symm), List.getElem?_set_ne (fun e => h.1 e.symm)]
    exact ⟨h1, h2⟩
theorem wipe_inS : ∀ {vs : List Nat} {j : Nat}, j ∈ vs → j < σ.length → (wipe σ vs)[j]? = some none
  | v :: vs, j, h, hl => by
    unfold wipe
    by_cases e : v = j
    · subst e; rw [List.getElem?_set_self (by rw [wipe_length]; exact hl)]
    · rw [List.getElem?_set_ne e]
      exact wipe_inS ((List.mem_cons.mp h).resolve_left fun z => e z.symm) hl
theorem wipe_alike {is vs : List Nat} {σ σ2 : St} (h : Alike is (wipe σ vs) σ2) (hs : ∀ i ∈ is, i ∈ vs) : wipe σ2 vs = wipe σ vs := by
  have l2 : σ2.length = σ.length := by rw [h.1, wipe_length]
  apply List.ext_getElem?
  intro j
  by_cases hj : j ∈ vs
  · by_cases hl : j < σ.length
    · rw [wipe_inS hj hl, wipe_inS hj (by rw [l2]; exact hl)]
    · rw [List.getElem?_eq_none (by rw [wipe_length, l2]; omega), List.getElem?_eq_none (by rw [wipe_length]; omega)]
  · rw [(wipe_no (env := []) (σ := σ2) hj).2, h.2 j fun z => hj (hs j z)]
theorem RepE.wipe (hE : RepE G H α σ env) (vs : List Nat) : RepE G H α (wipe σ vs) (wipeE env vs) ∧ ∀ a, Own (L2.wipe σ vs) (wipeE env vs) a → Own σ env a := by
  have conv : ∀ {j : Nat} {r : R}, (wipeE env vs)[j]? = some (some r) → env[j]? = some (some r) ∧ (L2.wipe σ vs)[j]? = σ[j]? := fun {j r} h => by
    by_cases hj : j ∈ vs
    · by_cases hl : j < env.length
      · rw [wipe_in hj hl] at h; cases h
      · rw [List.getElem?_eq_none (by rw [wipeE_length]; omega)] at h; cases h
    · obtain ⟨h1, h2⟩ := wipe_no (env := env) (σ := σ) hj
      rw [h1] at h
      exact ⟨h, h2⟩
  have own : ∀ a, Own (L2.wipe σ vs) (wipeE env vs) a → Own σ env a := fun a ⟨j, o, h1, h2⟩ => by
    obtain ⟨g1, g2⟩ := conv h1
    rw [g2] at h2
    exact ⟨j, o, g1, h2⟩
  refine ⟨⟨by rw [wipe_length, wipeE_length]; exact hE.len, fun j r hj => ?_, fun i j a o o' h1 h2 h3 h4 => ?_⟩, own⟩
  · obtain ⟨g1, g2⟩ := conv hj
    obtain ⟨v, f1, f2⟩ := hE.val j r g1
    exact ⟨v, by rw [g2]; exact f1, f2.own fun a _ _ _ _ z => own a z⟩
  · obtain ⟨g1, g2⟩ := conv h1
    obtain ⟨g3, g4⟩ := conv h2
    rw [g2] at h3
    rw [g4] at h4
    exact hE.sep i j a o o' g1 g3 h3 h4
end
theorem lc_of {G : Kx} {σ : St} {H : Hp} {Q : VK} {vs is : List Nat} {mi : Env → M Itm} {g : Tg} {t : Env → M Bool} {m : Env → M R} (his : ∀ i ∈ is, i ∈ vs) (h : tE G (eComp vs mi g t m) σ H Q) :
    tLc (tI G mi) (tG G is g) (tT G t) (tE G m) vs σ H Q := by
  obtain ⟨α, env, s0, r, st', hE, hS, hm, k⟩ := h
  obtain ⟨it, s1, e1, hm1⟩ := bind_run hm
  obtain ⟨ds, s2, e2, hm2⟩ := bind_run hm1
  obtain ⟨rfl, rfl⟩ := pure_inv hm2
  refine ⟨α, env, s0, it, s1, hE, hS, e1, fun α1 H1 J P W X1 S1 K1 P1 W1 Dd hD => ?_⟩
  have X0 : Ext Non α1 H1 α1 (upd H1 Dd (.lst [])) := Ext.new hD
  refine ⟨fun i n H2 => ∃ α2 st2 accV acc, n = it.ds.length - i ∧ i ≤ it.ds.length ∧ RepE G H2 α2 σ env ∧ RepS G H2 α2 st2 ∧ Ext Non α H α2 H2 ∧ (∀ a, H1 a ≠ none → H2 a ≠ none) ∧
      H2 Dd = some (.lst accV) ∧ RepL G H2 α2 accV acc ∧ Dd ∉ α2 ∧ (∀ a, W a → a ≠ Dd) ∧ (it.ck st2 → P α2 H2) ∧ compL it.ck g t m (wipeE env vs) (it.ds.drop i) acc st2 = some (ds, st'),
    ⟨it.ds.length, α1, s1, [], [], by simp, Nat.zero_le _, (hE.ext X1).ext X0, S1.new hD, X1.trans0 X0, fun a h z => h (X0.dom a z), upd_same, .nil, S1.fresh hD, fun a hw e => by
      subst e
      exact (W1 a hw).1 hD, fun hc => K1.keep Non α1 H1 α1 _ s1 (fun _ _ z => z) X0 P1 (S1.new hD) hc, by simpa using e2⟩, ?_⟩
  rintro i n H2 ⟨α2, st2, accV, acc, rfl, hi, E2, S2, X2, T2, D2, L2', N2, W2, P2, r2⟩
  by_cases hlt : i < it.ds.length
  · rw [List.drop_eq_getElem_cons hlt] at r2
    unfold compL at r2
    split at r2
    · rename_i hck
      have P2' := P2 hck
      obtain ⟨e3, s3, g3, r3⟩ := bind_run r2
      obtain ⟨c4, s4, g4, r4⟩ := bind_run r3
      refine .inr ⟨K1.go α2 i H2 P2' hlt, fun H' => ∃ α3 st3 accV acc, RepE G H' α3 σ env ∧ RepS G H' α3 st3 ∧ Ext Non α H α3 H' ∧ (∀ a, H1 a ≠ none → H' a ≠ none) ∧
        H' Dd = some (.lst accV) ∧ RepL G H' α3 accV acc ∧ Dd ∉ α3 ∧ (it.ck st3 → P α3 H') ∧ compL it.ck g t m (wipeE env vs) (it.ds.drop (i + 1)) acc st3 = some (ds, st'), ?_, fun x H3 y3 => ?_⟩
      · rintro H' ⟨α3, st3, accV, acc, E3, S3, X3, T3, D3, L3, N3, P3, r5⟩
        exact ⟨it.ds.length - (i + 1), by omega, α3, st3, accV, acc, rfl, hlt, E3, S3, X3, T3, D3, L3, N3, W2, P3, r5⟩
      · obtain ⟨hy, d, hd, rd⟩ := K1.yld α2 i H2 x H3 P2' hlt y3
        rw [List.getElem?_eq_getElem hlt] at hd
        cases hd
        have X23 : Ext Non α2 H2 α2 H3 := Ext.yld hy
        have E3 := E2.ext X23
        have S3 := S2.yld (G := G) hy
        obtain ⟨Ew, Ow⟩ := E3.wipe vs
        refine ⟨α2, wipeE env vs, _, st2, e3, s3, Ew, S3, rd, g3, fun σ4 α4 H4 X4 S4 E4 O4 A4 => ⟨wipe_alike A4 his, α4, e3, s3, c4, s4, E4, S4, g4, fun α5 H5 X5 S5 => ?_⟩⟩
        have X25 : Ext Non α2 H2 α5 H5 := (X23.trans0 X4).trans0 X5
        have D5 := X25.keep _ _ D2 N2 fun z => z
        have N5 := X25.notin D2 N2 fun z => z
        dsimp only
        split
        · rename_i hc
          rw [if_pos hc] at r4
          obtain ⟨r6, s6, g6, r5⟩ := bind_run r4
          obtain ⟨y6, s7, g7, r7⟩ := bind_run r5
          split at r7
          · rename_i hlen
            refine ⟨α5, e3, s4, r6, s6, E4.ext X5, S5, g6, fun v α6 H6 X6 S6 R6 => ?_⟩
            have X26 : Ext Non α2 H2 α6 H6 := X25.trans0 X6
            have D6 := X26.keep _ _ D2 N2 fun z => z
            have N6 := X26.notin D2 N2 fun z => z
            have L6 := L2'.ext X26
            cases r6 with
            | v d6 =>
              obtain ⟨rfl, rfl⟩ := pure_inv g7
              have Xu : Ext (fun c => c = Dd) α6 H6 α6 (upd H6 Dd (.lst (accV ++ [v]))) := Ext.upd1 D6 (fun _ e => nomatch e) (fun _ _ e => nomatch e) (.inr rfl)
              refine ⟨accV, D6, by have := lenOk_le hlen; rw [L6.length]; omega, α6, s7, accV ++ [v], acc ++ [y6], ?_, S6.updOwn D6 (fun _ e => nomatch e) (fun _ _ e => nomatch e) N6, ?_, fun a h z => T2 a h (X26.dom a (Xu.dom a z)), upd_same, ?_, N6, fun hck6 => ?_, r7⟩
              · -- the frame's own lists stand apart from the new one
                have E6 := E2.ext X26
                refine ⟨E6.len, fun j q hj => ?_, E6.sep⟩
                obtain ⟨w, f1, f2⟩ := E6.val j q hj
                refine ⟨w, f1, ?_⟩
                have apart : ∀ {b : Addr} {o : O}, (q = .l o ∨ q = .b o) → o.mov → w = .ref b → b ≠ Dd := fun {b o} e m e2 z => by
                  subst z e2
                  obtain ⟨w0, h1, h2⟩ := (hE.ext X1).val j q hj
                  rw [f1] at h1
                  cases h1
                  obtain ⟨u, hu⟩ := slot_some h2 e m
                  rw [hD] at hu; cases hu
                cases q with
                | v d => exact Rep.ext Xu f2
                | l o =>
                  obtain ⟨b, rfl, h1, h2, mm⟩ := f2
                  exact ⟨b, rfl, h1, RepO.ext h2 Xu fun _ u hu => by rw [upd_ne (apart (.inl rfl) mm rfl)]; exact hu, mm⟩
                | o o => exact f2
                | b o =>
                  obtain ⟨b, rfl, h1, h2⟩ := f2
                  exact ⟨b, rfl, RepO.ext h1 Xu fun mm u hu => by rw [upd_ne (apart (.inr rfl) mm rfl)]; exact hu, h2⟩
              · -- all that stood at the start stands
                have X06 := X2.trans0 X26
                refine ⟨X06.pre, fun a o h1 h2 h3 => ?_, fun a h => X06.dom a (Xu.dom a h), fun a xs h => Xu.tups a xs (X06.tups a xs h), fun a o u h => Xu.frzs a o u (X06.frzs a o u h)⟩
                have ne : a ≠ Dd := fun e => by
                  subst e
                  have := X1.dom _ hD
                  rw [h1] at this; cases this
                rw [upd_ne ne]
                exact X06.keep a o h1 h2 h3
              · exact (L6.ext Xu).append (.cons (Rep.ext Xu R6) .nil)
              · have P6 := K1.keep Non α2 H2 α6 H6 s7 (fun _ _ z => z) X26 P2' S6 hck6
                exact K1.keep (fun c => c = Dd) α6 H6 α6 _ s7 (fun a hw e => W2 a hw e) Xu P6 (S6.updOwn D6 (fun _ e => nomatch e) (fun _ _ e => nomatch e) N6) hck6
            | _ => exact nomatch (show (none : Option (D × Sto)) = some (y6, s7) from g7)
          · cases r7
        · rename_i hc
          rw [if_neg hc] at r4
          exact ⟨α5, s4, accV, acc, E2.ext X25, S5, X2.trans0 X25, fun a h z => T2 a h (X25.dom a z), D5, L2'.ext X25, N5, fun hck5 => K1.keep Non α2 H2 α5 H5 s4 (fun _ _ z => z) X25 P2' S5 hck5, r4⟩
    · cases r2
  · have e : it.ds.drop i = [] := List.drop_eq_nil_of_le (by omega)
    rw [e] at r2
    unfold compL at r2
    split at r2
    · rename_i hck
      injection r2 with r2
      injection r2 with z1 z2
      subst z1 z2
      have P2' := P2 hck
      exact .inl ⟨K1.stop α2 i H2 P2' (by omega), k _ α2 H2 X2 S2 ⟨Dd, rfl, X1.dom _ hD, N2, ⟨accV, D2, L2'⟩, trivial⟩⟩
    · cases r2
abbrev SimTs (X : Cx) (C : List Addr) (e : List Expr) (m : Env → M Bool) : Prop := PTs X e (tT (gx X C) m)
theorem PTs.wk {X : Cx} {e : List Expr} {t t' : TT} (h : PTs X e t) (w : ∀ σ H Q, t' σ H Q → t σ H Q) : PTs X e t' := ⟨fun pins s σ H Q I h' => h.run pins s σ H Q I (w _ _ _ h')⟩
section
variable {X : Cx} {C : List Addr} {elt tg iter : Expr} {ifs : List Expr} {scope : Scope} {own : List (Str × Nat)} {pos spos py : Pos} {mi : Env → M Itm} {g : Tg} {t : Env → M Bool} {m : Env → M R} {is : List Nat} {i : Nat} {y : Str}
theorem ts_nil : SimTs X C [] tTrue := PTs.wk pts_nil fun σ H Q h => by
  obtain ⟨α, env, st, r, st', hE, hS, hm, k⟩ := h
  obtain ⟨rfl, rfl⟩ := pure_inv hm
  exact k α H Ext.rfl' hS
theorem ts_one {c : Expr} (h : SimT X C c t) : SimTs X C [c] t := pts_one h
theorem comp (hc : X.calm = true) (hN : X.N.Nodup) (hi : SimI X C tg iter mi) (ok : BlkOk X.N X.env.scope scope own) (his : ∀ i ∈ is, i ∈ own.map (·.2))
    (hg : ∀ (s : Shared) (H : Hp) (A : Addr) (cl : List (Str × Addr)) (fp : List Addr), SimG (X.blk s H scope (compEnvC scope cl A X.env) fp) C tg is g)
    (ht : ∀ (s : Shared) (H : Hp) (A : Addr) (cl : List (Str × Addr)) (fp : List Addr), SimTs (X.blk s H scope (compEnvC scope cl A X.env) fp) C ifs t)
    (he : ∀ (s : Shared) (H : Hp) (A : Addr) (cl : List (Str × Addr)) (fp : List Addr), SimE (X.blk s H scope (compEnvC scope cl A X.env) fp) C elt m)
    (hs : ∀ x, foldedSetIterable iter X.env x = pure x := by intro _; rfl) : SimE X C (.ListComp elt [⟨tg, iter, ifs, 0⟩] scope pos) (eComp (own.map (·.2)) mi g t m) :=
  (pe_lc hc hN hi ok hg ht he hs).wk fun _ _ _ h => lc_of his h
theorem s_setC (hc : X.calm = true) (hN : X.N.Nodup) (hy : X.N[i]? = some y) (hyl : X.env.scope.names.lookup y = some .local)
    (hsw : swapsWith (.ListComp elt [⟨tg, iter, ifs, 0⟩] scope pos) (some (.Name y py)) spos.line X.env = pure true) (hi : SimI X C tg iter mi) (ok : BlkOk X.N X.env.scope scope own) (his : ∀ i ∈ is, i ∈ own.map (·.2))
    (hg : ∀ (s : Shared) (H : Hp) (A : Addr) (cl : List (Str × Addr)) (fp : List Addr), SimG (X.blk s H scope (compEnvC scope cl A X.env) fp) C tg is g)
    (ht : ∀ (s : Shared) (H : Hp) (A : Addr) (cl : List (Str × Addr)) (fp : List Addr), SimTs (X.blk s H scope (compEnvC scope cl A X.env) fp) C ifs t)
    (he : ∀ (s : Shared) (H : Hp) (A : Addr) (cl : List (Str × Addr)) (fp : List Addr), SimE (X.blk s H scope (compEnvC scope cl A X.env) fp) C elt m)
    (hs : ∀ x, foldedSetIterable iter X.env x = pure x := by intro _; rfl) : SimS X C (.Assign [.Name y py] (.ListComp elt [⟨tg, iter, ifs, 0⟩] scope pos) spos) (sSet i (eComp (own.map (·.2)) mi g t m)) :=
  (ps_setLc hc hN hy hyl hsw hi ok hg ht he hs).wk fun D' σ H h => lc_of (Q := fun x H1 => gName i x σ H1 D'.nx) his (set_of h)
theorem s_setCL (hc : X.calm = true) (hN : X.N.Nodup) (hy : X.N[i]? = some y) (hyl : X.env.scope.names.lookup y = some .local)
    (hsw : swapsWith (.ListComp elt [⟨tg, iter, ifs, 0⟩] scope pos) (some (.Name y py)) spos.line X.env = pure true) (hi : SimI X C tg iter mi) (ok : BlkOk X.N X.env.scope scope own) (his : ∀ i ∈ is, i ∈ own.map (·.2))
    (hg : ∀ (s : Shared) (H : Hp) (A : Addr) (cl : List (Str × Addr)) (fp : List Addr), SimG (X.blk s H scope (compEnvC scope cl A X.env) fp) C tg is g)
    (ht : ∀ (s : Shared) (H : Hp) (A : Addr) (cl : List (Str × Addr)) (fp : List Addr), SimTs (X.blk s H scope (compEnvC scope cl A X.env) fp) C ifs t)
    (he : ∀ (s : Shared) (H : Hp) (A : Addr) (cl : List (Str × Addr)) (fp : List Addr), SimE (X.blk s H scope (compEnvC scope cl A X.env) fp) C elt m)
    (hs : ∀ x, foldedSetIterable iter X.env x = pure x := by intro _; rfl) : SimS X C (.Assign [.Name y py] (.ListComp elt [⟨tg, iter, ifs, 0⟩] scope pos) spos) (sSetL i (eComp (own.map (·.2)) mi g t m)) :=
  (ps_setLc hc hN hy hyl hsw hi ok hg ht he hs).wk fun D' σ H h => lc_of (Q := fun x H1 => gName i x σ H1 D'.nx) his (setL_of h)
end

/-! ### defs -/
/-- an argument as the def takes it: lists are lent -/
def lend : R → R
  | .l o => .b o
  | .o o => .b o
  | r => r
def runFn (n : Nat) (body : Env → M Fl) : List R → M R := fun rs => body (rs.map some ++ List.replicate n none) >>= fun fl => match fl with
  | .rt r => pure (toO r)
  | .nx _ => pure (.v .non)
  | _ => M.fail
/-- what a def promises: it does m; np parameters -/
inductive ArgRs (G : Kx) (H : Hp) (α : List Addr) : List V → List R → Prop
  | nil : ArgRs G H α [] []
  | v {x : V} {xs : List V} {d : D} {rs : List R} : Rep G H α x d → ArgRs G H α xs rs → ArgRs G H α (x :: xs) (.v d :: rs)
  | b {a : Addr} {xs : List V} {o : O} {rs : List R} : RepB G H α Non a o → ArgRs G H α xs rs → ArgRs G H α (.ref a :: xs) (.b o :: rs)
def spF (G : Kx) (np : Nat) (m : List R → M R) : Sp := fun vs H Q _ => vs.length = np ∧ ∃ α rs st r st', ArgRs G H α vs rs ∧ RepS G H α st ∧ m rs st = some (r, st') ∧
  ∀ v α' H', Ext Non α H α' H' → RepS G H' α' st' → RepR G H' α' (Fresh H) Non v r → Q v H'
theorem argRs_get {G : Kx} {H : Hp} {α : List Addr} : ∀ {vs : List V} {rs : List R} {i : Nat} {r : R}, ArgRs G H α vs rs → rs[i]? = some r → ∃ v, vs[i]? = some v ∧ ((∃ d, r = .v d ∧ Rep G H α v d) ∨ ∃ a o, r = .b o ∧ v = .ref a ∧ RepB G H α Non a o)
  | _, _, _, _, .nil, h => by simp at h
  | _, _, 0, _, .v h1 _, h => by simp at h; subst h; exact ⟨_, rfl, .inl ⟨_, rfl, h1⟩⟩
  | _, _, 0, _, .b h1 _, h => by simp at h; subst h; exact ⟨_, rfl, .inr ⟨_, _, rfl, rfl, h1⟩⟩
  | _, _, i + 1, _, .v _ s, h => by
    obtain ⟨v, h1, h2⟩ := argRs_get (i := i) s (by simpa using h)
    exact ⟨v, by simpa using h1, h2⟩
  | _, _, i + 1, _, .b _ s, h => by
    obtain ⟨v, h1, h2⟩ := argRs_get (i := i) s (by simpa using h)
    exact ⟨v, by simpa using h1, h2⟩
theorem argRs_len {G : Kx} {H : Hp} {α : List Addr} : ∀ {vs : List V} {rs : List R}, ArgRs G H α vs rs → vs.length = rs.length
  | _, _, .nil => rfl
  | _, _, .v _ s => congrArg (· + 1) (argRs_len s)
  | _, _, .b _ s => congrArg (· + 1) (argRs_len s)
theorem lend_ok {G : Kx} {H : Hp} {α : List Addr} {fr own : Addr → Prop} : ∀ {vs : List V} {rs : List R}, RepRs G H α fr own vs rs → ArgRs G H α vs (rs.map lend)
  | _, _, .nil => .nil
  | _, _, .cons (r := .v d) h s _ => .v h (lend_ok s)
  | _, _, .cons (r := .l o) h s _ => by
    obtain ⟨a, rfl, _, hn, ro, _⟩ := h
    exact .b ⟨ro, fun _ => ⟨hn, fun z => z⟩⟩ (lend_ok s)
  | _, _, .cons (r := .o o) h s _ => by
    obtain ⟨a, rfl, h⟩ := h
    exact .b h (lend_ok s)
  | _, _, .cons (r := .b o) h s _ => by
    obtain ⟨a, rfl, h, w⟩ := h
    exact .b ⟨h, fun m => ⟨(w m).1, fun z => z⟩⟩ (lend_ok s)
/-- the body of a def -/
theorem body_of {X : Cx} {C : List Addr} {body : List Stmt} {mb : Env → M Fl} {vs : List V} {N : List Str} {H : Hp} {Q : VK} {np n : Nat} {E : XK} (hn : N.length = np + n) (hb : SimSs X C body mb) (h : spF (gx X C) np (runFn n mb) vs H Q E) :
    ∃ t, PSs X body t ∧ t { nx := fun _ H' => Q .non H', rt := Q } (L2.start N vs) H := by
  obtain ⟨hl, α, rs, st, r, st', hA, hS, hm, k⟩ := h
  refine ⟨_, hb, ?_⟩
  obtain ⟨fl, s1, e1, hm1⟩ := bind_run hm
  have lenr : rs.length = np := by rw [← argRs_len hA]; exact hl
  have noown : ∀ a, ¬ Own (L2.start N vs) (rs.map some ++ List.replicate n none) a := fun a ⟨i, o, h1, _⟩ => by
    by_cases hi : i < rs.length
    · rw [List.getElem?_append_left (by simpa using hi), List.getElem?_map, List.getElem?_eq_getElem hi] at h1
      obtain ⟨v, _, h⟩ := argRs_get hA (List.getElem?_eq_getElem hi)
      rcases h with ⟨d, e, _⟩ | ⟨a, o, e, _⟩ <;> (rw [e] at h1; cases h1)
    · rw [List.getElem?_append_right (by simpa using hi)] at h1
      rw [List.getElem?_replicate] at h1
      split at h1 <;> cases h1
  refine ⟨α, rs.map some ++ List.replicate n none, st, fl, s1, ⟨?_, fun i q hi => ?_, fun i j a o o' h1 _ h3 _ => (noown a ⟨i, o, h1, h3⟩).elim⟩, hS, e1, fun α1 H1 X1 S1 => ?_⟩
  · unfold L2.start
    simp only [List.length_append, List.length_map, List.length_replicate]
    omega
  · by_cases hlt : i < rs.length
    · rw [List.getElem?_append_left (by simpa using hlt), List.getElem?_map] at hi
      rw [List.getElem?_eq_getElem hlt] at hi
      have hi' : rs[i] = q := by simpa using hi
      obtain ⟨v, g1, h⟩ := argRs_get hA (List.getElem?_eq_getElem hlt)
      refine ⟨v, ?_, ?_⟩
      · unfold L2.start
        rw [List.getElem?_append_left (by rw [List.length_map]; omega), List.getElem?_map, g1]
        rfl
      · rw [hi'] at h
        rcases h with ⟨d, rfl, h⟩ | ⟨a, o, rfl, rfl, h, w⟩
        · exact h
        · exact ⟨a, rfl, h, fun m => ⟨(w m).1, noown a⟩⟩
    · rw [List.getElem?_append_right (by simpa using hlt), List.getElem?_replicate] at hi
      split at hi <;> cases hi
  · have X1' : Ext Non α H α1 H1 := X1.mono noown
    cases fl with
    | rt q =>
      obtain ⟨rfl, rfl⟩ := pure_inv hm1
      intro v hv
      refine k v α1 H1 X1' S1 ((toO_ok hv).mono fun a ha => ha.resolve_right (noown a))
    | nx e =>
      obtain ⟨rfl, rfl⟩ := pure_inv hm1
      intro σ' _ _
      exact k _ α1 H1 X1' S1 .non
    | bk e => cases hm1
    | ct e => cases hm1
theorem fn_ok {P : Program} {w : World} {K : PySem.W.Frag} {mg : Str → Option Value} {base : Heap} {C : List Addr} {x qual : Str} {st : Stmt} {f : Addr} {fd : FuncData} {N ps : List Str} {k n : Nat} {mb : Env → M Fl}
    (F : Fun K x qual st f fd) (S : FnScope N ps (defScope st)) (hn : N.length = ps.length + n)
    (hb : ∀ (cdv : Value) (A : Around) (outer : List PySem.Env) (s : Shared) (H : Hp) (E : XK), Room k (A.deeper (envOfC qual (defScope st) s.heap.objs.size f cdv)) → SimSs (cxOf CX0 P w K mg base N qual (defScope st) f cdv A outer s H E).nox C (defBody st) mb) :
    FnOk P w K mg base CX0 (k + 1) f fd ps (spF ⟨K, C⟩ ps.length (runFn n mb)) :=
  F.ok S (fun vs H Q E h => h.1) fun cdv A outer s H vs Q E hr h => body_of (X := (cxOf CX0 P w K mg base N qual (defScope st) f cdv A outer s H E).nox) hn (hb cdv A outer s H E hr) h
/-- a call of a def -/
def eCall (np : Nat) (m : List R → M R) (ms : Env → M (List R)) : Env → M R := fun env => ms env >>= fun rs => if rs.length = np then m (rs.map lend) >>= fun r => pure (toO r) else M.fail
section
variable {X : Cx} {C : List Addr} {e : Expr} {es : List Expr} {ms : Env → M (List R)} {x : Str} {p pos : Pos} {k np : Nat} {f : Addr} {fd : FuncData} {ps : List Str} {m : List R → M R}
theorem to_call {G : Kx} {σ : St} {H : Hp} {Q : VK} {E : XK} (h : tE G (eCall np m ms) σ H Q) : tCall (spF G np m) [] E (tA G ms) σ H Q := by
  obtain ⟨α, env, st, r, st', hE, hS, hm, k⟩ := h
  obtain ⟨rs, s1, e1, e2⟩ := bind_run hm
  refine ⟨α, env, st, rs, s1, hE, hS, e1, fun vs α1 H1 X1 S1 R1 => ?_⟩
  split at e2
  · rename_i hl
    obtain ⟨r1, s2, e3, e4⟩ := bind_run e2
    obtain ⟨rfl, rfl⟩ := pure_inv e4
    rw [List.append_nil]
    have hA := lend_ok R1
    refine ⟨by rw [argRs_len hA, List.length_map]; exact hl, α1, _, s1, r1, _, hA, S1, e3, fun v α2 H2 X2 S2 R2 => k _ α2 H2 (X1.trans0 X2) S2 ?_⟩
    have R3 := (toO_ok R2).mono (fr' := Fresh H) fun a h => X1.dom _ h
    revert R3
    cases r1 <;> exact fun z => z
  · cases e2
theorem call (F : FnOk X.prog X.w X.K X.mg X.base L2.CX0 k f fd ps (spF (gx X C) np m)) (hr : Room k X.A) (hg : Gl X x) (hm : X.mg x = some (.ref f)) (hk : PySem.W.keepIn X.K (.ref f) = true) (hb : Binds X.K fd ps [])
    (ha : SimA X C (e :: es) ms) (hdb : (x == ("__debug__" : Str)) = false := by decide) (he : starEach (e :: es) X.env = (false, eval e X.env) :: starEach es X.env := by rfl) (hpl : (backTo pos (starEach es X.env)).any (·.1) = false := by rfl) :
    SimE X C (.Call (.Name x p) (e :: es) [] pos) (eCall np m ms) :=
  (pe_call F hr hg hm hk hb .nil pass0 ha hdb he hpl).wk fun _ _ _ h => to_call h
theorem call0 (F : FnOk X.prog X.w X.K X.mg X.base L2.CX0 k f fd ps (spF (gx X C) np m)) (hr : Room k X.A) (hg : Gl X x) (hm : X.mg x = some (.ref f)) (hk : PySem.W.keepIn X.K (.ref f) = true) (hb : Binds X.K fd ps [])
    (hdb : (x == ("__debug__" : Str)) = false := by decide) :
    SimE X C (.Call (.Name x p) [] [] pos) (eCall np m (fun _ => pure [])) :=
  (pe_call0 F hr hg hm hk hb .nil pass0 hdb).wk fun _ _ _ h => by
    obtain ⟨α, env, st, r, st', hE, hS, hm, k⟩ := to_call (G := gx X C) (E := fun _ _ _ => False) h
    obtain ⟨rfl, rfl⟩ := pure_inv hm
    exact k [] α _ Ext.rfl' hS .nil
end
end Mi
/-! Mi: what the printer of walks leans on. -/
namespace Mi
open PySem PySem.Spec PyProof.Rows L2
section
variable {X : Cx} {C : List Addr} {e a b : Expr} {es : List Expr} {pos p : Pos} {x : Str}
/-- a local name -/
theorem vv (i : Nat) (hN : X.N[i]? = some x := by rfl) (hv : Vis X.env.scope x := by first | exact Or.inl rfl | exact Or.inr (Or.inl rfl) | exact Or.inr (Or.inr rfl))
    (hd : (x == ("__debug__" : Str)) = false := by decide) (hcd : (x == ("__classdict__" : Str)) = false := by decide) : SimE X C (.Name x pos) (eVar i) := var hN hv hd hcd
theorem globI {i : Int} (h : ∃ t, X.mg x = some (.int i t)) (hg : Gl X x := by rfl) (hd : (x == ("__debug__" : Str)) = false := by decide) : SimE X C (.Name x pos) (eC (.int i)) := by
  obtain ⟨t, h⟩ := h
  exact glob (v := .int i) hg h ⟨t, rfl⟩ (fun _ _ => .int i) hd
theorem globS {z : Str} (h : ∃ t, X.mg x = some (.str z t)) (hg : Gl X x := by rfl) (hd : (x == ("__debug__" : Str)) = false := by decide) : SimE X C (.Name x pos) (eC (.str z)) := by
  obtain ⟨t, h⟩ := h
  exact glob (v := .str z) hg h ⟨t, rfl⟩ (fun _ _ => .str z) hd
end
/-! ### defs -/
structure DefOk (K : PySem.W.Frag) (mg : Str → Option Value) (x : Str) (st : Stmt) : Prop where
  ex : ∃ fd, FunD K x x (defArgs st) (defBody st) (defScope st) [] [] (He.ga K x) fd
  mg : mg x = some (.ref (He.ga K x))
def OkF (P : Program) (w : World) (K : PySem.W.Frag) (mg : Str → Option Value) (base : Heap) (C : List Addr) (x : Str) (k : Nat) (ps : List Str) (m : List R → M R) : Prop :=
  ∃ fd, FnOk P w K mg base L2.CX0 k (He.ga K x) fd ps (spF ⟨K, C⟩ ps.length m) ∧ L2.Binds K fd ps [] ∧ PySem.W.keepIn K (.ref (He.ga K x)) = true ∧ mg x = some (.ref (He.ga K x)) ∧ ∃ oc od osl, K.lookup (He.ga K x) = some ⟨oc, od, .func fd, osl⟩
theorem looked {K : PySem.W.Frag} {x q : Str} {ar : Arguments} {b : List Stmt} {sc : Scope} {dv : List L2.V} {kw : List (Str × L2.V)} {f : Addr} {fd : FuncData} (F : FunD K x q ar b sc dv kw f fd) : ∃ oc od osl, K.lookup f = some ⟨oc, od, .func fd, osl⟩ := by
  obtain ⟨oc, od, dV, kV, doc, pm, an, cdv, ct, osl, h1, h2, _⟩ := F.ex
  exact ⟨oc, od, osl, h2⟩
theorem sameFn {K : PySem.W.Frag} {f : Addr} {fd fd' : FuncData} (h : ∃ oc od osl, K.lookup f = some ⟨oc, od, .func fd, osl⟩) (h' : ∃ oc od osl, K.lookup f = some ⟨oc, od, .func fd', osl⟩) : fd = fd' := by
  obtain ⟨_, _, _, h⟩ := h
  obtain ⟨_, _, _, h'⟩ := h'
  rw [h] at h'
  cases h'
  rfl
/-- a list as it comes from outside -/
theorem seqB {G : Kx} {H : Hp} {a : Addr} {ns : List Int} (h : SqL G.K H a (ns.map L2.V.int)) : ∃ o, (o = .lst (ns.map .int) ∨ o = .cst (ns.map .int)) ∧ RepB G H [] Non a o := by
  rcases h with h | h
  · rcases h with h | ⟨u, h⟩
    · exact ⟨_, .inl rfl, ⟨_, h, RepL.ofInts ns⟩, fun _ => ⟨by simp, fun z => z⟩⟩
    · exact ⟨_, .inr rfl, ⟨_, .inl ⟨u, h⟩, RepL.ofInts ns⟩, fun z => z.elim⟩
  · exact ⟨_, .inr rfl, ⟨_, .inr h, RepL.ofInts ns⟩, fun z => z.elim⟩
theorem RepS.nil {G : Kx} {H : Hp} : RepS G H [] [] := ⟨rfl, List.nodup_nil, fun n o a h => by simp at h, fun n o h => by simp at h⟩
theorem okF {P : Program} {w : World} {K : PySem.W.Frag} {mg : Str → Option Value} {base : Heap} {C : List Addr} {x : Str} {st : Stmt} {N ps : List Str} {k n : Nat} {mb : Env → M Fl}
    (D : DefOk K mg x st) (S : FnScope N ps (defScope st)) (hn : N.length = ps.length + n)
    (hb : ∀ (kV doc pm : Value) (an : Option Addr) (cdv ct : Value) (us : List Value), us.length = ps.length → bindArgs (PySem.W.fnOf x x (defArgs st) (defBody st) (defScope st) .none kV doc pm an cdv ct) ⟨us, []⟩ = pure (ps.zip us))
    (h : ∀ (cdv : Value) (A : Around) (outer : List PySem.Env) (s : Shared) (H : Hp) (E : XK), Room k (A.deeper (envOfC x (defScope st) s.heap.objs.size (He.ga K x) cdv)) → SimSs (cxOf L2.CX0 P w K mg base N x (defScope st) (He.ga K x) cdv A outer s H E).nox C (defBody st) mb) :
    OkF P w K mg base C x (k + 1) ps (runFn n mb) := by
  obtain ⟨fd, F⟩ := D.ex
  refine ⟨fd, F.ok S (fun vs H Q E h => h.1) fun cdv A outer s H vs Q E hr hs => ?_, F.bindsN hb, F.kp, D.mg, looked F⟩
  obtain ⟨t, h1, h2⟩ := body_of (X := (cxOf L2.CX0 P w K mg base N x (defScope st) (He.ga K x) cdv A outer s H E).nox) hn (h cdv A outer s H E hr) hs
  exact ⟨t, h1.nox, h2⟩
section
variable {X : Cx} {C : List Addr} {e : Expr} {es : List Expr} {ms : Env → M (List R)} {x : Str} {p pos : Pos} {j k : Nat} {ps : List Str} {m : List R → M R}
theorem callF (F : OkF X.prog X.w X.K X.mg X.base C x j ps m) (hr : Room k X.A) (ha : SimA X C (e :: es) ms) (hj : j ≤ k := by decide) (hg : Gl X x := by rfl) (hdb : (x == ("__debug__" : Str)) = false := by decide) (he : starEach (e :: es) X.env = (false, eval e X.env) :: starEach es X.env := by rfl) (hpl : (backTo pos (starEach es X.env)).any (·.1) = false := by rfl) :
    SimE X C (.Call (.Name x p) (e :: es) [] pos) (eCall ps.length m ms) := by
  obtain ⟨fd, F, hb, hk, hm, _⟩ := F
  exact call F (hr.mono hj) hg hm hk hb ha hdb he hpl
theorem callF0 (F : OkF X.prog X.w X.K X.mg X.base C x j ps m) (hr : Room k X.A) (hj : j ≤ k := by decide) (hg : Gl X x := by rfl) (hdb : (x == ("__debug__" : Str)) = false := by decide) :
    SimE X C (.Call (.Name x p) [] [] pos) (eCall ps.length m (fun _ => pure [])) := by
  obtain ⟨fd, F, hb, hk, hm, _⟩ := F
  exact call0 F (hr.mono hj) hg hm hk hb hdb
end
end Mi
/-! Mj: instances: made, fields, methods, properties. -/
namespace Mi
open PySem PySem.Spec PyProof.Rows L2

section
variable {G : Kx} {H : Hp} {α : List Addr} {st : Sto} {a : Addr} {o : O}
/-- a new object gets a number -/
theorem RepS.push (hS : RepS G H α st) (hn : a ∉ α) (ro : RepO G H α a o) (m : o.mov) : RepS G H (α ++ [a]) (st ++ [o]) := by
  have X2 : Ext (fun b => b = a) α H (α ++ [a]) H := Ext.grow a
  have ext : ∀ {b : Addr} {o : O}, RepO G H α b o → RepO G H (α ++ [a]) b o := fun h => RepO.ext h X2 fun _ _ h => h
  have last : ∀ {n : Nat} {o' : O}, (st ++ [o])[n]? = some o' → ¬ n < st.length → n = st.length ∧ o' = o := fun {n o'} h hl => by
    have hb := (List.getElem?_eq_some_iff.mp h).1
    have e : n = st.length := by simp at hb; omega
    subst e
    rw [List.getElem?_append_right (Nat.le_refl _)] at h
    simp at h
    exact ⟨rfl, h.symm⟩
  refine ⟨by simp [hS.len], List.nodup_append.mpr ⟨hS.nd, by simp, fun x hx y hy => ?_⟩, fun n o' b h1 h2 => ?_, fun n o' h1 => ?_⟩
  · have : y = a := by simpa using hy
    subst this
    intro e
    subst e
    exact hn hx
  · by_cases hl : n < st.length
    · rw [List.getElem?_append_left hl] at h1
      rw [List.getElem?_append_left (by rw [hS.len]; exact hl)] at h2
      exact ext (hS.obj n o' b h1 h2)
    · obtain ⟨rfl, rfl⟩ := last h1 hl
      rw [← hS.len, List.getElem?_append_right (Nat.le_refl _)] at h2
      simp at h2
      subst h2
      exact ext ro
  · by_cases hl : n < st.length
    · rw [List.getElem?_append_left hl] at h1
      exact hS.mv n o' h1
    · obtain ⟨_, rfl⟩ := last h1 hl
      exact m
/-- an object of the store is changed -/
theorem RepS.updO {n : Nat} {u : HO} {o' : O} (hS : RepS G H α st) {old : HO} (hm : ∀ xs, old ≠ .tup xs) (hf : ∀ o w, old ≠ .frz o w) (hn : st[n]? = some o) (hα : α[n]? = some a) (ha : H a = some old) (hr : RepO G (upd H a u) α a o') (m : o'.mov) :
    RepS G (upd H a u) α (st.set n o') := by
  have X : Ext (fun c => c = a) α H α (upd H a u) := Ext.upd1 ha hm hf (.inr rfl)
  have hlt : n < st.length := (List.getElem?_eq_some_iff.mp hn).1
  refine ⟨by rw [List.length_set]; exact hS.len, hS.nd, fun j o b h1 h2 => ?_, fun j o h1 => ?_⟩
  · by_cases e : n = j
    · subst e
      rw [List.getElem?_set_self hlt] at h1
      cases h1
      rw [hα] at h2
      cases h2
      exact hr
    · rw [List.getElem?_set_ne e] at h1
      (refine RepO.ext (hS.obj j o b h1 h2) X fun _ w hw => ?_); have hb : b ≠ a := fun z => by
        subst z
        exact e ((List.getElem_inj hS.nd).mp ((List.getElem?_eq_some_iff.mp hα).2.trans (List.getElem?_eq_some_iff.mp h2).2.symm))
      rw [upd_ne hb]; exact hw
  · by_cases e : n = j
    · subst e
      rw [List.getElem?_set_self hlt] at h1
      cases h1
      exact m
    · rw [List.getElem?_set_ne e] at h1
      exact hS.mv j o h1
theorem RepP.lookup {vs : List (Str × V)} {ds : List (Str × D)} (h : RepP G H α vs ds) (f : Str) : (∀ d, ds.lookup f = some d → ∃ v, vs.lookup f = some v ∧ Rep G H α v d) ∧ (ds.lookup f = none → vs.lookup f = none) := by
  induction h with
  | nil => exact ⟨fun d e => by simp at e, fun _ => rfl⟩
  | @cons k v vs d ds r s ih =>
    rw [List.lookup_cons, List.lookup_cons]
    cases q : f == k
    · exact ih
    · exact ⟨fun d' e => by cases e; exact ⟨v, rfl, r⟩, fun e => by cases e⟩
end
/-- pairs: in its place, or at the end -/
def putP (f : Str) (d : D) : List (Str × D) → List (Str × D)
  | [] => [(f, d)]
  | (g, x) :: r => if g = f then (g, d) :: r else (g, x) :: putP f d r
theorem RepP.putF {G : Kx} {H : Hp} {α : List Addr} {v : V} {d : D} (r : Rep G H α v d) (f : Str) : ∀ {vs : List (Str × V)} {ds : List (Str × D)}, RepP G H α vs ds → RepP G H α (L2.putF f v vs) (putP f d ds)
  | _, _, .nil => .cons r .nil
  | _, _, .cons (k := g) q s => by
    unfold L2.putF putP
    split
    · exact .cons r s
    · exact .cons q (RepP.putF r f s)
/-! ### what is read -/
def gFld (f : Str) : R → M R
  | .v (.obj n) => fun st => match st[n]? with
    | some (.ins _ fs) => match fs.lookup f with
      | some d => some (.v d, st)
      | none => none
    | _ => none
  | _ => M.fail
/-- an instance of the class c, without an attribute x of its own -/
def insIs (c : Nat) (x : Str) : R → M R
  | .v (.obj n) => fun st => match st[n]? with
    | some (.ins c' fs) => if c' = c ∧ (fs.lookup x).isNone = true then some (.v (.obj n), st) else none
    | _ => none
  | _ => M.fail
section
variable {G : Kx} {H : Hp} {α : List Addr} {fr own : Addr → Prop} {st st' : Sto} {v : V} {r q : R} {f x : Str} {c : Nat}
theorem ins_at {n : Nat} {fs : List (Str × D)} (hS : RepS G H α st) (hr : Rep G H α v (.obj n)) (e : st[n]? = some (.ins c fs)) :
    ∃ a C dx vs, v = .ref a ∧ α[n]? = some a ∧ G.cls[c]? = some C ∧ H a = some (.ins C dx vs) ∧ RepP G H α vs fs := by
  cases hr with
  | @obj a _ ha =>
    obtain ⟨C, dx, vs, h1, h2, h3⟩ := hS.obj n _ _ e ha
    exact ⟨a, C, dx, vs, rfl, ha, h1, h2, h3⟩
theorem gFld_ok (hr : RepR G H α fr own v r) (hS : RepS G H α st) (h : gFld f r st = some (q, st')) : st' = st ∧ ∃ (a : Addr) (c : Nat) (C dx : Addr) (vs : List (Str × V)) (w : V) (d : D), v = .ref a ∧ G.cls[c]? = some C ∧ H a = some (.ins C dx vs) ∧ vs.lookup f = some w ∧ q = .v d ∧ Rep G H α w d := by
  unfold gFld at h
  split at h
  · rename_i n
    replace h := h
    split at h
    · rename_i c fs e
      split at h
      · rename_i d e2
        injection h with h
        injection h with h1 h2
        obtain ⟨a, C, dx, vs, g1, _, g2, g3, g4⟩ := ins_at hS hr e
        obtain ⟨w, g5, g6⟩ := (g4.lookup f).1 d e2
        exact ⟨h2.symm, a, c, C, dx, vs, w, d, g1, g2, g3, g5, h1.symm, g6⟩
      · cases h
    · cases h
  · exact nomatch (show (none : Option (R × Sto)) = some (q, st') from h)
theorem insIs_ok (hr : RepR G H α fr own v r) (hS : RepS G H α st) (h : insIs c x r st = some (q, st')) : st' = st ∧ ∃ n a C dx vs, q = .v (.obj n) ∧ v = .ref a ∧ α[n]? = some a ∧ G.cls[c]? = some C ∧ H a = some (.ins C dx vs) ∧ vs.lookup x = none := by
  unfold insIs at h
  split at h
  · rename_i n
    replace h := h
    split at h
    · rename_i c' fs e
      split at h
      · rename_i hc
        obtain ⟨rfl, hc⟩ := hc
        injection h with h
        injection h with h1 h2
        obtain ⟨a, C, dx, vs, g1, g0, g2, g3, g4⟩ := ins_at hS hr e
        exact ⟨h2.symm, n, a, C, dx, vs, h1.symm, g1, g0, g2, g3, (g4.lookup x).2 (Option.isNone_iff_eq_none.mp hc)⟩
      · cases h
    · cases h
  · exact nomatch (show (none : Option (R × Sto)) = some (q, st') from h)
end
/-- the classes' facts that a field asks -/
def FldOk (K : PySem.W.Frag) (C : List Addr) (f : Str) : Prop := ∀ c, c ∈ C → Cls K c ∧ NoAttr K c f
section
variable {X : Cx} {C : List Addr} {e o : Expr} {es : List Expr} {m mo : Env → M R} {f x : Str} {pos p apos : Pos} {c : Nat} {ms : Env → M (List R)}
theorem fld (hf : FldOk X.K C f) (he : SimE X C e m) (hb : attributeBase e f X.env (eval e X.env) = eval e X.env := by rfl) : SimE X C (.Attribute e f pos) (eU (gFld f) m) :=
  (pe_fld he hb).wk fun σ H Q h => by
    obtain ⟨α, env, st, r, st', hE, hS, hm, k⟩ := to1 h
    refine ⟨α, env, st, r, st', hE, hS, hm, fun v α1 H1 X1 S1 R1 => ?_⟩
    obtain ⟨α2, own, s2, rx, r2, s3, hx, hS2, hm2, k2⟩ := k v α1 H1 X1 S1 R1
    obtain ⟨rfl, a, c, C', dx, vs, w, d, g1, g2, g3, g4, rfl, g5⟩ := gFld_ok hx hS2 hm2
    obtain ⟨h1, h2⟩ := hf C' (List.mem_of_getElem? g2)
    exact ⟨a, C', dx, vs, w, g1, g3, h1, h2, g4, k2 w α2 _ Ext.rfl' hS2 g5⟩
/-! ### a call of a method -/
/-- a def that stands at f -/
def OkA (P : Program) (w : World) (K : PySem.W.Frag) (mg : Str → Option Value) (base : Heap) (C : List Addr) (f : Addr) (k : Nat) (ps : List Str) (m : List R → M R) : Prop :=
  ∃ fd, FnOk P w K mg base L2.CX0 k f fd ps (spF ⟨K, C⟩ ps.length m) ∧ L2.Binds K fd ps []
def eMeth (c : Nat) (x : Str) (np : Nat) (m : List R → M R) (mo : Env → M R) (ms : Env → M (List R)) : Env → M R := fun env => mo env >>= fun o => insIs c x o >>= fun o => ms env >>= fun rs =>
  if rs.length + 1 = np then m (o :: rs.map lend) >>= fun r => pure (toO r) else M.fail
theorem back_toO {G : Kx} {H H' : Hp} {α : List Addr} {own : Addr → Prop} {v : V} {r : R} (R2 : RepR G H' α (Fresh H) Non v r) : RepR G H' α (Fresh H) own v (toO r) := by
  have R3 := toO_ok R2
  revert R3
  cases r <;> exact fun z => z
theorem to_meth {G : Kx} {Cc : Addr} {σ : St} {H : Hp} {Q : VK} {E : XK} {np : Nat} {m : List R → M R} (hC : G.cls[c]? = some Cc) (h : tE G (eMeth c x np m mo ms) σ H Q) : tMeth Cc x (spF G np m) [] E (tE G mo) (tA G ms) σ H Q := by
  obtain ⟨α, env, st, r, st', hE, hS, hm, k⟩ := h
  obtain ⟨ro, s1, e1, hm1⟩ := bind_run hm
  obtain ⟨ro2, s2, e2, hm2⟩ := bind_run hm1
  obtain ⟨rs, s3, e3, hm3⟩ := bind_run hm2
  refine ⟨α, env, st, ro, s1, hE, hS, e1, fun v α1 H1 X1 S1 R1 => ?_⟩
  obtain ⟨rfl, n, a, C', dx, vs, rfl, rfl, g0, g2, g3, g4⟩ := insIs_ok R1 S1 e2
  rw [hC] at g2
  cases g2
  refine ⟨a, dx, vs, rfl, g3, g4, α1, env, _, rs, s3, hE.ext X1, S1, e3, fun ws α2 H2 X2 S2 R2 => ?_⟩
  split at hm3
  · rename_i hl
    obtain ⟨r1, s4, e4, e5⟩ := bind_run hm3
    obtain ⟨rfl, rfl⟩ := pure_inv e5
    rw [List.append_nil]
    have hA := lend_ok R2
    refine ⟨by rw [List.length_cons, argRs_len hA, List.length_map]; exact hl, α2, _, s3, r1, _, .v (.obj (X2.pre0 g0)) hA, S2, e4, fun w α3 H3 X3 S3 R3 => k _ α3 H3 ((X1.trans0 X2).trans0 X3) S3 ?_⟩
    exact (back_toO R3).mono fun a h => X1.dom _ (X2.dom _ h)
  · cases hm3
theorem meth {Cc g : Addr} {k j : Nat} {ps : List Str} {m : List R → M R} {pl : Sem Bool} (F : OkA X.prog X.w X.K X.mg X.base C g j ps m) (hr : Room k X.A) (hC : C[c]? = some Cc) (hc : Cls X.K Cc) (hM : Meth X.K Cc x g) (ho : SimE X C o mo) (ha : SimA X C (e :: es) ms) (hj : j ≤ k := by decide)
    (hst : starEach (e :: es) X.env = (false, eval e X.env) :: starEach es X.env := by rfl) (hpl : (backTo pos (starEach es X.env)).any (·.1) = false := by rfl)
    (ht : eval (.Call (.Attribute o x apos) (e :: es) [] pos) X.env = (do
      let ov ← eval o X.env; standAt apos.atName; let (f, first) ← holding [ov] (getMethod ov x pl)
      callWith pos f first (backTo pos (starEach (e :: es) X.env)) (backToKw pos (keywordEach [] X.env))) := by rfl) :
    SimE X C (.Call (.Attribute o x apos) (e :: es) [] pos) (eMeth c x ps.length m mo ms) := by
  obtain ⟨fd, F, hb⟩ := F
  exact (pe_meth ho hc hM F (hr.mono hj) hb .nil pass0 ha hst hpl ht).wk fun _ _ _ h => to_meth hC h
theorem meth0 {Cc g : Addr} {k j : Nat} {ps : List Str} {m : List R → M R} {pl : Sem Bool} (F : OkA X.prog X.w X.K X.mg X.base C g j ps m) (hr : Room k X.A) (hC : C[c]? = some Cc) (hc : Cls X.K Cc) (hM : Meth X.K Cc x g) (ho : SimE X C o mo) (hj : j ≤ k := by decide)
    (ht : eval (.Call (.Attribute o x apos) [] [] pos) X.env = (do
      let ov ← eval o X.env; standAt apos.atName; let (f, first) ← holding [ov] (getMethod ov x pl)
      callWith pos f first (backTo pos (starEach [] X.env)) (backToKw pos (keywordEach [] X.env))) := by rfl) :
    SimE X C (.Call (.Attribute o x apos) [] [] pos) (eMeth c x ps.length m mo aNil) := by
  obtain ⟨fd, F, hb⟩ := F
  refine (pe_meth0 ho hc hM F (hr.mono hj) hb .nil pass0 ht).wk fun σ H Q h => ?_
  obtain ⟨α, env, s0, ro, s1, hE, hS, e1, k⟩ := to_meth (E := fun _ _ _ => False) hC h
  refine ⟨α, env, s0, ro, s1, hE, hS, e1, fun v α1 H1 X1 S1 R1 => ?_⟩
  obtain ⟨a, dx, fs, h1, h2, h3, α2, env2, s2, rs, s3, _, hS2, e2, k2⟩ := k v α1 H1 X1 S1 R1
  obtain ⟨rfl, rfl⟩ := pure_inv e2
  exact ⟨a, dx, fs, h1, h2, h3, k2 [] α2 H1 Ext.rfl' hS2 .nil⟩
/-! ### a property -/
def eProp (c : Nat) (m : List R → M R) (mo : Env → M R) : Env → M R := fun env => mo env >>= fun o => insIs c "" o >>= fun o => m [o] >>= fun r => pure (toO r)
theorem prop_ {Cc g pp : Addr} {k j : Nat} {ps : List Str} {m : List R → M R} (F : OkA X.prog X.w X.K X.mg X.base C g j ps m) (hr : Room k X.A) (hps : ps.length = 1) (hC : C[c]? = some Cc) (hc : Cls X.K Cc) (hP : PropOf X.K Cc x pp g) (ho : SimE X C o mo) (hj : j + 1 ≤ k := by decide)
    (hab : attributeBase o x X.env (eval o X.env) = eval o X.env := by rfl) : SimE X C (.Attribute o x pos) (eProp c m mo) := by
  obtain ⟨fd, F, hb⟩ := F
  refine (pe_prop ho hc hP F (hr.mono hj) hb .nil pass0 hab).wk fun σ H Q h => ?_
  obtain ⟨α, env, st, r, st', hE, hS, hm, k⟩ := h
  obtain ⟨ro, s1, e1, hm1⟩ := bind_run hm
  obtain ⟨ro2, s2, e2, hm2⟩ := bind_run hm1
  obtain ⟨r1, s3, e3, e4⟩ := bind_run hm2
  obtain ⟨rfl, rfl⟩ := pure_inv e4
  refine ⟨α, env, st, ro, s1, hE, hS, e1, fun v α1 H1 X1 S1 R1 => ?_⟩
  obtain ⟨rfl, n, a, C', dx, vs, rfl, rfl, g0, g2, g3, g4⟩ := insIs_ok R1 S1 e2
  rw [show (gx X C).cls[c]? = C[c]? from rfl, hC] at g2
  cases g2
  refine ⟨a, dx, vs, rfl, g3, by rw [hps]; rfl, α1, [.v (.obj n)], _, r1, _, .v (.obj g0) .nil, S1, e3, fun w α3 H3 X3 S3 R3 => k _ α3 H3 (X1.trans0 X3) S3 ?_⟩
  exact (back_toO R3).mono fun a h => X1.dom _ h
/-! ### a new instance -/
def eMake (c : Nat) (np : Nat) (m : List R → M R) (ms : Env → M (List R)) : Env → M R := fun env => ms env >>= fun rs => fun st =>
  if rs.length + 1 = np then (match m (.v (.obj st.length) :: rs.map lend) (st ++ [.ins c []]) with
    | some (.v .non, st') => some (.v (.obj st.length), st')
    | _ => none) else none
theorem ArgRs.ext {G : Kx} {H H' : Hp} {α α' : List Addr} (e : Ext Non α H α' H') : ∀ {vs : List V} {rs : List R}, ArgRs G H α vs rs → ArgRs G H' α' vs rs
  | _, _, .nil => .nil
  | _, _, .v h s => .v (Rep.ext e h) (s.ext e)
  | _, _, .b h s => .b (RepB.ext h e fun _ z => z.elim) (s.ext e)
theorem to_make {G : Kx} {Cc : Addr} {σ : St} {H : Hp} {Q : VK} {E : XK} {np : Nat} {m : List R → M R} (hC : G.cls[c]? = some Cc) (h : tE G (eMake c np m ms) σ H Q) : tMake Cc (spF G np m) [] E (tA G ms) σ H Q := by
  obtain ⟨α, env, st, r, st', hE, hS, hm, k⟩ := h
  obtain ⟨rs, s1, e1, hm1⟩ := bind_run hm
  refine ⟨α, env, st, rs, s1, hE, hS, e1, fun ws α1 H1 X1 S1 R1 => fun x dx hx hdx hne => ?_⟩
  split at hm1
  · rename_i hl
    split at hm1
    · rename_i s2 e2
      injection hm1 with hm1
      injection hm1 with z1 z2
      subst z1 z2
      have hx1 : upd H1 dx (.own x) x = none := by rw [upd_ne (Ne.symm hne)]; exact hx
      have XA : Ext Non α1 H1 α1 (upd H1 dx (.own x)) := Ext.new hdx
      have XB : Ext Non α1 (upd H1 dx (.own x)) α1 (upd (upd H1 dx (.own x)) x (.ins Cc dx [])) := Ext.new hx1
      have S2 := (S1.new (u := .own x) hdx).new (u := .ins Cc dx []) hx1
      have hn : x ∉ α1 := S1.fresh hx
      have S3 := S2.push (o := .ins c []) hn ⟨Cc, dx, [], hC, upd_same, .nil⟩ trivial
      have XC : Ext Non α1 H1 (α1 ++ [x]) (upd (upd H1 dx (.own x)) x (.ins Cc dx [])) := by
        obtain ⟨_, p2, p3, p4, p5⟩ := XA.trans0 XB
        exact ⟨⟨[x], rfl, fun b hb => .inl (by simp at hb; subst hb; exact hx)⟩, p2, p3, p4, p5⟩
      have hA := (lend_ok R1).ext XC
      rw [List.append_nil]
      have hα : (α1 ++ [x])[s1.length]? = some x := by rw [← S1.len]; simp
      refine ⟨by rw [List.length_cons, argRs_len hA, List.length_map]; exact hl, α1 ++ [x], _, s1 ++ [.ins c []], .v .non, _, .v (.obj hα) hA, S3, e2, fun w α3 H3 X3 S4 R3 => ?_⟩
      cases R3
      exact ⟨rfl, k _ α3 H3 ((X1.trans0 XC).trans0 X3) S4 (.obj (X3.pre0 hα))⟩
    · cases hm1
  · cases hm1
theorem make {Cc g : Addr} {k j : Nat} {ps : List Str} {m : List R → M R} (F : OkA X.prog X.w X.K X.mg X.base C g j ps m) (hr : Room k X.A) (hC : C[c]? = some Cc) (hM : Mk X.K Cc g) (hm : X.mg x = some (.ref Cc)) (ha : SimA X C (e :: es) ms) (hj : j + 1 ≤ k := by decide) (hg : Gl X x := by rfl) (hdb : (x == ("__debug__" : Str)) = false := by decide) (he : starEach (e :: es) X.env = (false, eval e X.env) :: starEach es X.env := by rfl) (hpl : (backTo pos (starEach es X.env)).any (·.1) = false := by rfl) :
    SimE X C (.Call (.Name x p) (e :: es) [] pos) (eMake c ps.length m ms) := by
  obtain ⟨fd, F, hb⟩ := F
  exact (pe_make hM F (hr.mono hj) hg hm hb .nil pass0 ha hdb he hpl).wk fun _ _ _ h => to_make hC h
theorem make0 {Cc g : Addr} {k j : Nat} {ps : List Str} {m : List R → M R} (F : OkA X.prog X.w X.K X.mg X.base C g j ps m) (hr : Room k X.A) (hC : C[c]? = some Cc) (hM : Mk X.K Cc g) (hm : X.mg x = some (.ref Cc)) (hj : j + 1 ≤ k := by decide) (hg : Gl X x := by rfl) (hdb : (x == ("__debug__" : Str)) = false := by decide) :
    SimE X C (.Call (.Name x p) [] [] pos) (eMake c ps.length m aNil) := by
  obtain ⟨fd, F, hb⟩ := F
  refine (pe_make0 hM F (hr.mono hj) hg hm hb .nil pass0 hdb).wk fun σ H Q h => ?_
  obtain ⟨α, env, s0, rs, s1, hE, hS, e1, k⟩ := to_make (E := fun _ _ _ => False) hC h
  obtain ⟨rfl, rfl⟩ := pure_inv e1
  exact k [] α H Ext.rfl' hS .nil
/-! ### o.f = value -/
def setFld (f : Str) (d : D) : R → M Unit
  | .v (.obj n) => fun st => match st[n]? with
    | some (.ins c fs) => if fs.length < 900 then some ((), st.set n (.ins c (putP f d fs))) else none
    | _ => none
  | _ => M.fail
def gFldT (f : Str) (mo : Env → M R) : Tg := fun d env => mo env >>= fun o => setFld f d o >>= fun _ => pure env
/-- e.f as a target -/
def tgFld (K : PySem.W.Frag) (ta : TE) (f : Str) : TG := fun y σ H Q => ta σ H fun x H2 => ∃ a C dx fs, x = .ref a ∧ H2 a = some (.ins C dx fs) ∧ Cls K C ∧ NoAttr K C f ∧ fs.length < 1000 ∧ Q σ (upd H2 a (.ins C dx (putF f y fs)))
theorem pg_fld {ta : TE} (ho : PE X o ta) : PG X (.Attribute o f pos) (tgFld X.K ta f) := by
  (refine ⟨fun pins s σ H v u Q I r h => ?_⟩); rw [assign_Attribute]
  refine wpAny_bind (wpAny_holding (thn (ho.run pins s σ H _ I h) fun ov s1 ⟨x, H1, I1, r1, a, C, dx, fs, ex, ea, c, n, l, q⟩ => ?_))
  subst ex
  obtain rfl : ov = Value.ref a := r1
  refine wpAny_bind (wpAny_standAt (wpAny_bind (wpAny_holding (setattr_ok I1 ea c n l r fun s3 I3 => ?_))))
  exact wpAny_release ⟨σ, _, I3, q⟩
theorem g_fld (hf : FldOk X.K C f) (ho : SimE X C o mo) : SimG X C (.Attribute o f pos) [] (gFldT f mo) :=
  PG.wk (pg_fld ho) fun v σ H Q h => by
    obtain ⟨α, env, d, st, env', st', hE, hS, hd, hm, k⟩ := h
    obtain ⟨ro, s1, e1, hm1⟩ := bind_run hm
    obtain ⟨_, s2, e2, hm2⟩ := bind_run hm1
    obtain ⟨rfl, rfl⟩ := pure_inv hm2
    refine ⟨α, env', st, ro, s1, hE, hS, e1, fun vo α1 H1 X1 S1 R1 => ?_⟩
    unfold setFld at e2
    split at e2
    · rename_i n
      replace e2 := e2
      split at e2
      · rename_i c fs e
        split at e2
        · rename_i hl
          injection e2 with e2
          injection e2 with _ z2
          subst z2
          obtain ⟨a, C', dx, vs, g1, g0, g2, g3, g4⟩ := ins_at S1 R1 e
          obtain ⟨h1, h2⟩ := hf C' (List.mem_of_getElem? g2)
          have hin : a ∈ α1 := List.mem_of_getElem? g0
          have X3 : Ext Non α1 H1 α1 (upd H1 a (.ins C' dx (putF f v vs))) := Ext.upd1 g3 (fun _ e => nomatch e) (fun _ _ e => nomatch e) (.inl hin)
          refine ⟨a, C', dx, vs, g1, g3, h1, h2, by rw [g4.length]; omega, ?_⟩
          have S3 := S1.updO (old := .ins C' dx vs) (o' := .ins c (putP f d fs)) (u := .ins C' dx (putF f v vs)) (fun _ e => nomatch e) (fun _ _ e => nomatch e) e g0 g3 ⟨C', dx, _, g2, upd_same, RepP.putF (Rep.ext (X1.trans0 X3) hd) f (g4.ext X3)⟩ trivial
          exact k σ α1 _ (X1.trans0 X3) S3 (hE.ext (X1.trans0 X3)) (fun a h => .inl h) Alike.refl
        · cases e2
      · cases e2
    · cases (show (none : Option (Unit × Sto)) = some _ from e2)
/-! ### target = a value that may be a new list, a new dict -/
def sAsgI (g : Tg) (m : Env → M R) : Env → M Fl := fun env => m env >>= fun r => alloc r >>= fun q => toD q >>= fun d => g d env >>= fun e => pure (.nx e)
theorem s_asgI {tg : Expr} {is : List Nat} {g : Tg} (he : SimE X C e m) (hg : SimG X C tg is g) (hs : swapsWithSole [tg] e pos.line X.env = pure false := by rfl) (hw : swappedStores [tg] e X.env = pure none := by rfl)
    (h1 : (assignEach [tg] X.env).map (·.2) = [assign tg X.env] := by rfl) : SimS X C (.Assign [tg] e pos) (sAsgI g m) :=
  (ps_asg he hg hs hw h1).wk fun D σ H h => by
    obtain ⟨α, env, st, fl, st', hE, hS, hm, k⟩ := h
    obtain ⟨r, s1, e1, hm1⟩ := bind_run hm
    obtain ⟨q, s2, e2, hm2⟩ := bind_run hm1
    obtain ⟨d, s3, e3, hm3⟩ := bind_run hm2
    obtain ⟨e', s4, e4, hm4⟩ := bind_run hm3
    obtain ⟨rfl, rfl⟩ := pure_inv hm4
    refine ⟨α, env, st, r, s1, hE, hS, e1, fun v α1 H1 X1 S1 R1 => ?_⟩
    obtain ⟨α2, X2, S2, d', rfl, hd⟩ := alloc_ok X1 S1 R1 e2
    obtain ⟨rfl, rfl⟩ := pure_inv e3
    refine ⟨α2, env, _, _, e', _, hE.ext X2, S2, hd, e4, fun σ' α3 H3 X3 S3 E3 w _ => ?_⟩
    exact k α3 H3 ((X2.trans0 X3).mono fun _ z => z.elim) S3 σ' E3 fun a ha => (w a ha).imp id (X2.dom a)
end
end Mi
/-! Mj: dicts (keys: ints and texts): made, read, stored, asked, their keys; in. -/
namespace Mi
open PySem PySem.Spec PyProof.Rows L2

def toKey : D → Option Key
  | .int i => some (.inl i)
  | .str x => some (.inr x)
  | _ => none
def keyD : Key → D
  | .inl i => .int i
  | .inr x => .str x
section
variable {κ : Type} [DecidableEq κ]
def dVal (kvs : List (κ × D)) (k : κ) : Option D := (kvs.find? fun kv => decide (kv.1 = k)).map (·.2)
def dPut (kvs : List (κ × D)) (k : κ) (d : D) : List (κ × D) :=
  if (kvs.any fun kv => decide (kv.1 = k)) = true then kvs.map (fun kv => if kv.1 = k then (kv.1, d) else kv) else kvs ++ [(k, d)]
variable {G : Kx} {H : Hp} {α : List Addr}
theorem RepP.val {vs : List (κ × V)} {ds : List (κ × D)} (h : RepP G H α vs ds) (k : κ) : (dVal ds k = none → valV vs k = none) ∧ ∀ d, dVal ds k = some d → ∃ v, valV vs k = some v ∧ Rep G H α v d := by
  induction h with
  | nil => exact ⟨fun _ => rfl, fun d e => by cases e⟩
  | @cons j v vs d ds r s ih =>
    unfold dVal valV at *
    rw [List.find?_cons, List.find?_cons]
    dsimp only
    cases q : decide (j = k)
    · exact ih
    · exact ⟨fun e => (nomatch e), fun d' e => by cases e; exact ⟨v, rfl, r⟩⟩
theorem RepP.any {vs : List (κ × V)} {ds : List (κ × D)} (h : RepP G H α vs ds) (k : κ) : (vs.any fun kv => decide (kv.1 = k)) = ds.any fun kv => decide (kv.1 = k) := by
  induction h with
  | nil => rfl
  | cons r s ih => rw [List.any_cons, List.any_cons, ih]
theorem RepP.mapAt (k : κ) {v : V} {d : D} (r : Rep G H α v d) : ∀ {vs : List (κ × V)} {ds : List (κ × D)}, RepP G H α vs ds → RepP G H α (vs.map fun kv => if kv.1 = k then (kv.1, v) else kv) (ds.map fun kv => if kv.1 = k then (kv.1, d) else kv)
  | _, _, .nil => .nil
  | _, _, .cons (k := j) q s => by
    (rw [List.map_cons, List.map_cons]); dsimp only
    split
    · exact .cons r (s.mapAt k r)
    · exact .cons q (s.mapAt k r)
theorem RepP.snoc (k : κ) {v : V} {d : D} (r : Rep G H α v d) : ∀ {vs : List (κ × V)} {ds : List (κ × D)}, RepP G H α vs ds → RepP G H α (vs ++ [(k, v)]) (ds ++ [(k, d)])
  | _, _, .nil => .cons r .nil
  | _, _, .cons q s => .cons q (s.snoc k r)
theorem RepP.put {vs : List (κ × V)} {ds : List (κ × D)} (h : RepP G H α vs ds) (k : κ) {v : V} {d : D} (r : Rep G H α v d) : RepP G H α (putK vs k v) (dPut ds k d) := by
  unfold putK dPut
  rw [h.any k]
  split
  · exact h.mapAt k r
  · exact h.snoc k r
theorem RepP.keys {vs : List (Key × V)} {ds : List (Key × D)} (h : RepP G H α vs ds) : RepL G H α (vs.map fun kv => kV kv.1) (ds.map fun kv => keyD kv.1) := by
  induction h with
  | nil => exact .nil
  | @cons k v vs d ds r s ih =>
    refine .cons ?_ ih
    cases k with
    | inl i => exact .int i
    | inr x => exact .str x
end
theorem toKey_ok {G : Kx} {H : Hp} {α : List Addr} {v : V} {d : D} {k : Key} (r : Rep G H α v d) (e : toKey d = some k) : v = kV k := by
  unfold toKey at e
  split at e
  · cases e; cases r; rfl
  · cases e; cases r; rfl
  · cases e
/-- a dict of the store -/
def dicAt : R → Sto → Option (Nat × List (Key × D))
  | .v (.obj n), st => match st[n]? with
    | some (.dic kvs) => some (n, kvs)
    | _ => none
  | _, _ => none
section
variable {G : Kx} {H : Hp} {α : List Addr} {fr own : Addr → Prop} {st st' : Sto} {v : V} {r q : R} {n : Nat} {kvs : List (Key × D)}
theorem dicAt_ok (hr : RepR G H α fr own v r) (hS : RepS G H α st) (h : dicAt r st = some (n, kvs)) : r = .v (.obj n) ∧ st[n]? = some (.dic kvs) ∧ ∃ a ks, v = .ref a ∧ α[n]? = some a ∧ H a = some (.dK ks) ∧ RepP G H α ks kvs := by
  unfold dicAt at h
  split at h
  · rename_i m
    split at h
    · rename_i kvs' e
      cases h
      cases hr with
      | @obj a _ ha =>
        obtain ⟨ks, h1, h2⟩ := hS.obj _ _ _ e ha
        exact ⟨rfl, e, a, ks, rfl, ha, h1, h2⟩
    · cases h
  · cases h
end
/-! ### {}, d[k] -/
def eDic : Env → M R := fun _ st => some (.v (.obj st.length), st ++ [.dic []])
section
variable {X : Cx} {C : List Addr} {e o i a b : Expr} {es : List Expr} {m mo mi mv : Env → M R} {f x : Str} {pos pos' p apos cpos : Pos}
theorem dnew : SimE X C (.Dict [] [] pos) eDic := pe_dnewK.wk fun σ H Q h => by
  obtain ⟨α, env, st, r, st', hE, hS, hm, k⟩ := h
  injection hm with hm
  injection hm with h1 h2
  subst h1 h2
  intro q hq
  have X1 : Ext Non α H α (upd H q (.dK [])) := Ext.new hq
  have S2 := (hS.new (u := .dK []) hq).push (o := .dic []) (hS.fresh hq) ⟨[], upd_same, .nil⟩ trivial
  have X2 : Ext Non α H (α ++ [q]) (upd H q (.dK [])) := by
    obtain ⟨_, p2, p3, p4, p5⟩ := X1
    exact ⟨⟨[q], rfl, fun b hb => .inl (by simp at hb; subst hb; exact hq)⟩, p2, p3, p4, p5⟩
  exact k _ _ _ X2 S2 (.obj (by rw [← hS.len]; simp))
/-- d[k] of a dict -/
def gDGet : R → R → M R := fun o y => match y with
  | .v d => fun st => match dicAt o st, toKey d with
    | some (_, kvs), some k => match dVal kvs k with
      | some w => some (.v w, st)
      | none => none
    | _, _ => none
  | _ => M.fail
theorem ix_dict (hu : X.A.units + 1 < cLine) : IxR X (fun x y H Q => ∃ a v, x = .ref a ∧ DGet H a y (some v) ∧ Q v H) := by
  (intro value slice pins s σ H x y v u Q I rx ry h hs); obtain ⟨a, w, rfl, g, q⟩ := h
  (obtain rfl : v = Value.ref a := rx); have hT := dict_typeIs I g
  unfold subscriptTail
  refine wpAny_bind ?_
  (rw [getitemInPython_of_ne hT.not_modules]); refine wpAny_bind (wpAny_specialOf hT PySem.F.slot_dict_getitem.lookup ?_)
  have fin : wpAny (model X.prog X.w) X.A (subscripted slice false (Value.ref a) u) (fun r s₃ => wpAny (model X.prog X.w) X.A (letTemporaryGo value (Value.ref a) r >>= fun _ => pure r) (EP X pins σ Q) X.xe s₃) X.xe s := by
    rw [hs]
    exact wpAny_operating (d_getItem hu I g ry fun w' s3 I3 rw' => wpAny_bind (wpAny_letTemporaryGo (wpAny_pure ⟨w, H, I3, rw', q⟩)))
  first
    | exact wpAny_pure (wpAny_bind fin)
    | exact wpAny_bind (wpAny_pure (wpAny_bind fin))
    | exact wpAny_bind fin
theorem dgt_of {G : Kx} {H : Hp} {α : List Addr} {own : Addr → Prop} {st st' : Sto} {v y : V} {r rk q : R} (hr : RepR G H α All own v r) (hk : RepR G H α All own y rk) (hS : RepS G H α st) (h : gDGet r rk st = some (q, st')) :
    st' = st ∧ ∃ a w d, v = .ref a ∧ DGet H a y (some w) ∧ q = .v d ∧ Rep G H α w d := by
  unfold gDGet at h
  split at h
  · rename_i d
    replace h := h
    split at h
    · rename_i n kvs k e1 e2
      split at h
      · rename_i w e3
        injection h with h
        injection h with h1 h2
        obtain ⟨rfl, e4, a, ks, rfl, g1, g2, g3⟩ := dicAt_ok hr hS e1
        obtain ⟨w', g4, g5⟩ := (g3.val k).2 w e3
        have ey := toKey_ok (G := G) (H := H) (α := α) hk e2
        subst ey
        refine ⟨h2.symm, a, w', w, rfl, ?_, h1.symm, g5⟩
        rw [← g4]
        exact DGet.k g2
      · cases h
    · cases h
  · exact nomatch (show (none : Option (R × Sto)) = some (q, st') from h)
/-- x[y]: a list, a tuple, a text, a dict -/
def gIxD : R → R → M R := fun a b st => match dicAt a st with
  | some _ => gDGet a b st
  | none => gIx a b st
theorem ixd {n : Nat} (hr : Room n X.A) (ha : SimE X C a m) (hb : SimE X C b mi) (hs : PlainIx b) : SimE X C (.Subscript a b pos) (eOp gIxD m mi) := by
  have hu : X.A.units + 1 < cLine := by have := hr.units; omega
  have rule : IxR X (rU2 (gx X C) gIxD) := by
    intro value slice pins s σ H x y v u Q I rx ry h hsl
    obtain ⟨α, own, st, r1, r2, r, st', hx, hy, hS, hm, k⟩ := h
    unfold gIxD at hm
    split at hm
    · obtain ⟨rfl, a, w, d, rfl, g1, rfl, g2⟩ := dgt_of hx hy hS hm
      exact ix_dict hu value slice pins s σ H _ y v u Q I rx ry ⟨a, w, rfl, g1, k w α H Ext.rfl' hS g2⟩ hsl
    · exact ix_D (C := C) value slice pins s σ H x y v u Q I rx ry ⟨α, own, st, r1, r2, r, st', hx, hy, hS, hm, k⟩ hsl
  exact (pe_ix rule ha hb hs).wk fun _ _ _ h => to2 h
/-! ### in, not in -/
def eqFlat : D → D → Bool
  | .non, .non => true
  | .bl a, .bl b => a == b
  | .bl a, .int b => (if a then 1 else 0) == b
  | .int a, .bl b => a == (if b then 1 else 0)
  | .int a, .int b => a == b
  | .str a, .str b => a == b
  | _, _ => false
def flatD : D → Bool
  | .non => true
  | .bl _ => true
  | .int _ => true
  | .str _ => true
  | _ => false
def oneSign (x : Str) : Option Nat := match x.cps.toList with
  | [c] => some c
  | _ => none
theorem oneSign_eq {x : Str} {c : Nat} (h : oneSign x = some c) : x = ⟨#[c]⟩ := by
  unfold oneSign at h
  split at h
  · rename_i d e
    cases h
    have e2 : x.cps = #[c] := by rw [← Array.toArray_toList (xs := x.cps), e]
    rw [← e2]
  · cases h
def gInB : R → R → Sto → Option Bool
  | .v (.str x), .v (.str z), _ => (oneSign x).map fun c => decide (c ∈ z.cps.toList)
  | .v d, o, st => match dicAt o st, toKey d with
    | some (_, kvs), some k => some (dVal kvs k).isSome
    | some _, none => none
    | none, _ => match asSeq o st with
      | some (ds, _) => if (flatD d && ds.all flatD) = true then some (ds.any fun y => eqFlat y d) else none
      | none => none
  | _, _, _ => none
def gIn : R → R → M R := fun a b st => (gInB a b st).map fun k => (.v (.bl k), st)
def gNotIn : R → R → M R := fun a b st => (gInB a b st).map fun k => (.v (.bl (!k)), st)
theorem flat_rep {G : Kx} {H : Hp} {α : List Addr} {v : V} {d : D} (r : Rep G H α v d) (e : flatD d = true) : flatV v = true := by
  cases r <;> first | rfl | cases e
theorem eqf_rep {G : Kx} {H : Hp} {α : List Addr} {v w : V} {d e : D} (r : Rep G H α v d) (q : Rep G H α w e) (h1 : flatD d = true) (h2 : flatD e = true) : eqV v w = eqFlat d e := by
  cases r <;> first | (cases q <;> first | rfl | cases h2) | cases h1
theorem any_rep {G : Kx} {H : Hp} {α : List Addr} {v : V} {d : D} (r : Rep G H α v d) (h1 : flatD d = true) : ∀ {vs : List V} {ds : List D}, RepL G H α vs ds → ds.all flatD = true → vs.all flatV = true ∧ inV v vs = ds.any fun y => eqFlat y d
  | _, _, .nil, _ => ⟨rfl, rfl⟩
  | _, _, .cons q s, h => by
    (rw [List.all_cons, Bool.and_eq_true] at h); obtain ⟨h2, h3⟩ := any_rep r h1 s h.2
    refine ⟨by rw [List.all_cons, flat_rep q h.1, h2]; rfl, ?_⟩
    unfold inV at h3 ⊢
    rw [List.any_cons, List.any_cons, h3, eqf_rep q r h.1 h1]
/-- what in asks of two values -/
def InVal (K : PySem.W.Frag) (x y : V) (H : Hp) (k : Bool) : Prop :=
  (∃ (c : Nat) (z : Str), x = .str ⟨#[c]⟩ ∧ y = .str z ∧ k = decide (c ∈ z.cps.toList)) ∨ (∃ a o, y = .ref a ∧ DGet H a x o ∧ k = o.isSome) ∨
  ∃ p xs, y = .ref p ∧ (SqL K H p xs ∨ SqT K H p xs) ∧ flatV x = true ∧ xs.all flatV = true ∧ k = inV x xs
theorem inB_ok {G : Kx} {H : Hp} {α : List Addr} {own : Addr → Prop} {st : Sto} {x y : V} {rx ry : R} {k : Bool} (hx : RepR G H α All own x rx) (hy : RepR G H α All own y ry) (hS : RepS G H α st) (h : gInB rx ry st = some k) : InVal G.K x y H k := by
  unfold gInB at h
  split at h
  · rename_i x z
    cases hx; cases hy
    cases q : oneSign x with
    | none => rw [q] at h; cases h
    | some c =>
      rw [q] at h
      cases h
      exact .inl ⟨c, z, by rw [oneSign_eq q], rfl, rfl⟩
  · rename_i d _
    split at h
    · rename_i n kvs k' e1 e2
      cases h
      obtain ⟨rfl, e4, a, ks, rfl, g1, g2, g3⟩ := dicAt_ok hy hS e1
      obtain rfl := toKey_ok (G := G) (H := H) (α := α) hx e2
      refine .inr (.inl ⟨a, _, rfl, DGet.k g2, ?_⟩)
      cases q : dVal kvs k' with
      | none => rw [(g3.val k').1 q]; rfl
      | some w =>
        obtain ⟨w', g4, _⟩ := (g3.val k').2 w q
        rw [g4]; rfl
    · cases h
    · split at h
      · rename_i ds _ e2
        split at h
        · rename_i hc
          cases h
          rw [Bool.and_eq_true] at hc
          obtain ⟨_, a, xs, rfl, h1, h2⟩ := asSeq_ok hy hS e2
          obtain ⟨h3, h4⟩ := any_rep (G := G) (H := H) (α := α) hx hc.1 h2 hc.2
          exact .inr (.inr ⟨a, xs, rfl, h1, flat_rep (G := G) (H := H) (α := α) hx hc.1, h3, h4.symm⟩)
        · cases h
      · cases h
  · cases h
theorem op_inD {n : Nat} (hr : Room n X.A) : OpS X C (compareOp .In) gIn := by
  have hu : X.A.units + 1 < cLine := by have := hr.units; omega
  (intro pins s σ H x y v u Q I rx ry h); obtain ⟨α, own, st, r1, r2, r, st', hx, hy, hS, hm, k⟩ := h
  unfold gIn at hm
  cases q : gInB r1 r2 st with
  | none => rw [q] at hm; cases hm
  | some b =>
    rw [q] at hm
    cases hm
    have hQ : Q (.bl b) H := endV k hS (.bl b)
    rcases inB_ok hx hy hS q with ⟨c, z, rfl, rfl, rfl⟩ | ⟨a, o, rfl, g, rfl⟩ | ⟨p, xs, rfl, g1, g2, g3, rfl⟩
    · exact op_in_sign pins s σ H _ _ v u Q I rx ry ⟨c, z, rfl, rfl, hQ⟩
    · obtain rfl : u = Value.ref a := ry
      exact d_in hu I g rx fun s3 I3 => ⟨.bl o.isSome, H, I3, rfl, hQ⟩
    · exact op_in_seq pins s σ H _ _ v u Q I rx ry ⟨p, xs, rfl, g1, g2, g3, hQ⟩
theorem op_ninD {n : Nat} (hr : Room n X.A) : OpS X C (compareOp .NotIn) gNotIn := by
  have hu : X.A.units + 1 < cLine := by have := hr.units; omega
  (intro pins s σ H x y v u Q I rx ry h); obtain ⟨α, own, st, r1, r2, r, st', hx, hy, hS, hm, k⟩ := h
  unfold gNotIn at hm
  cases q : gInB r1 r2 st with
  | none => rw [q] at hm; cases hm
  | some b =>
    rw [q] at hm
    cases hm
    have hQ : Q (.bl (!b)) H := endV k hS (.bl (!b))
    rcases inB_ok hx hy hS q with ⟨c, z, rfl, rfl, rfl⟩ | ⟨a, o, rfl, g, rfl⟩ | ⟨p, xs, rfl, g1, g2, g3, rfl⟩
    · exact op_notIn_sign pins s σ H _ _ v u Q I rx ry ⟨c, z, rfl, rfl, hQ⟩
    · obtain rfl : u = Value.ref a := ry
      exact d_notIn hu I g rx fun s3 I3 => ⟨.bl (!o.isSome), H, I3, rfl, hQ⟩
    · exact op_notIn_seq pins s σ H _ _ v u Q I rx ry ⟨p, xs, rfl, g1, g2, g3, hQ⟩
end
end Mi
/-! Mj: texts: str, int, join, split; d.get, d[k] = v, len, tuple, list of a dict; own classes asked; new lists and dicts as items. -/
namespace Mi
open PySem PySem.Spec PyProof.Rows L2
section
variable {X : Cx} {C : List Addr} {e o i a b : Expr} {es : List Expr} {m mo mi mv : Env → M R} {ms : Env → M (List R)} {f x : Str} {pos pos' p apos cpos : Pos}
/-! ### items that may be new lists -/
def aConsI (m : Env → M R) (r : Env → M (List R)) : Env → M (List R) := fun env => m env >>= fun x => alloc x >>= fun x => r env >>= fun xs => pure (x :: xs)
theorem a_consI (ha : SimE X C e m) (hr : SimA X C es ms) (hs : starEach (e :: es) X.env = (false, eval e X.env) :: starEach es X.env := by rfl) : SimA X C (e :: es) (aConsI m ms) :=
  (pa_cons ha hr hs).wk fun σ H Q h => by
    obtain ⟨α, env, st, r, st', hE, hS, hm, k⟩ := h
    obtain ⟨x, s1, e1, hm1⟩ := bind_run hm
    obtain ⟨y, s2, e2, hm2⟩ := bind_run hm1
    obtain ⟨xs, s3, e3, hm3⟩ := bind_run hm2
    obtain ⟨rfl, rfl⟩ := pure_inv hm3
    refine ⟨α, env, st, x, s1, hE, hS, e1, fun v α1 H1 X1 S1 R1 => ?_⟩
    obtain ⟨α2, X2, S2, d, rfl, hd⟩ := alloc_ok X1 S1 R1 e2
    refine ⟨α2, env, _, xs, _, hE.ext X2, S2, e3, fun vs α3 H3 X3 S3 R3 => ?_⟩
    refine k _ α3 H3 (X2.trans0 X3) S3 (.cons (Rep.ext X3 hd) (R3.mono fun a h => X2.dom _ h) fun o a e => nomatch e)
/-! ### str(n), int(text) -/
def bStr : List R → M R
  | [.v (.int i)] => if i.natAbs.log2 < 1920 then pure (.v (.str (toString i))) else M.fail
  | _ => M.fail
theorem c_str : CallS X C (.type "str") bStr := by
  refine call_str_int.wk fun xs H Q q => ?_
  obtain ⟨α, own, st, rs, r, st', hx, hS, hm, k⟩ := q
  unfold bStr at hm
  split at hm
  · obtain ⟨v, rfl, hv⟩ := reps1 hx
    cases hv
    split at hm
    · rename_i hl
      obtain ⟨rfl, rfl⟩ := pure_inv hm
      exact ⟨_, rfl, hl, endV k hS (.str _)⟩
    · cases hm
  · cases hm
/-- int(x): a text, too -/
def bIntS : List R → M R
  | [.v (.str a)] => if a.length ≤ 640 then (M.ofO (PySem.intText? a) >>= fun n => pure (.v (.int n))) else M.fail
  | rs => bInt rs
theorem c_intS : CallS X C (.type "int") bIntS := by
  (intro pins s σ H xs us Q I r h); obtain ⟨α, own, st, rs, q, st', hx, hS, hm, k⟩ := h
  unfold bIntS at hm
  split at hm
  · rename_i z
    obtain ⟨v, rfl, hv⟩ := reps1 hx
    cases hv
    split at hm
    · rename_i hl
      obtain ⟨n, s2, e2, hm2⟩ := bind_run hm
      obtain ⟨hn, rfl⟩ := ofO_inv e2
      obtain ⟨rfl, rfl⟩ := pure_inv hm2
      exact call_int_str pins s σ H _ us Q I r ⟨z, n, rfl, hn, hl, endV k hS (.int _)⟩
    · cases hm
  · exact c_int (C := C) pins s σ H xs us Q I r ⟨α, own, st, rs, q, st', hx, hS, hm, k⟩
/-! ### methods of texts -/
def allStrs : List D → Option (List Str)
  | [] => some []
  | .str i :: r => (allStrs r).map (i :: ·)
  | _ => none
theorem allStrs_eq : ∀ {ds : List D} {ns : List Str}, allStrs ds = some ns → ds = ns.map .str
  | [], ns, h => by cases h; rfl
  | .str i :: r, ns, h => by
    cases q : allStrs r with
    | none => rw [allStrs, q] at h; cases h
    | some ms =>
      rw [allStrs, q] at h
      cases h
      rw [allStrs_eq q]
      rfl
  | .non :: _, _, h => nomatch h
  | .bl _ :: _, _, h => nomatch h
  | .int _ :: _, _, h => nomatch h
  | .tup _ :: _, _, h => nomatch h
  | .obj _ :: _, _, h => nomatch h
@[simp] theorem allStrs_map : ∀ (ns : List Str), allStrs (ns.map .str) = some ns
  | [] => rfl
  | n :: ns => by rw [List.map_cons, allStrs, allStrs_map ns]; rfl
theorem RepL.strs {G : Kx} {H : Hp} {α : List Addr} : ∀ {vs : List V} {ns : List Str}, RepL G H α vs (ns.map .str) → vs = ns.map .str
  | _, [], .nil => rfl
  | _, n :: ns, .cons r s => by
    cases r
    rw [RepL.strs s]
    rfl
theorem RepL.ofStrs {G : Kx} {H : Hp} {α : List Addr} : ∀ (ns : List Str), RepL G H α (ns.map .str) (ns.map .str)
  | [] => .nil
  | n :: ns => .cons (.str n) (RepL.ofStrs ns)
/-- a method of a text by its values -/
def eStrM (g : Str → List R → M R) (mo : Env → M R) (ms : Env → M (List R)) : Env → M R := fun env => mo env >>= fun o => ms env >>= fun rs => match o with
  | .v (.str z) => g z rs
  | _ => M.fail
def MtS (X : Cx) (C : List Addr) (id : String) (g : Str → List R → M R) : Prop := ∃ r : V → List V → Hp → VK → Prop, MtR X id r ∧
  ∀ {H : Hp} {α : List Addr} {own : Addr → Prop} {z : Str} {vs : List V} {rs : List R} {st st' : Sto} {q : R} {Q : VK}, RepRs (gx X C) H α All own vs rs → RepS (gx X C) H α st → g z rs st = some (q, st') →
    (∀ v α' H', Ext Non α H α' H' → RepS (gx X C) H' α' st' → RepR (gx X C) H' α' (Fresh H) own v q → Q v H') → r (.str z) vs H Q
def fJoin (z : Str) : List R → M R
  | [r] => asSeq r >>= fun ds => M.ofO (allStrs ds) >>= fun ys => if (ys.map (·.length)).sum + ys.length * z.length ≤ 16777216 then pure (.v (.str (Txt.join z ys))) else M.fail
  | _ => M.fail
def fSplit (z : Str) : List R → M R
  | [.v (.str b)] => if (b.length == 0) = false ∧ z.length + 2 ≤ 16777216 then pure (.l (.lst ((Txt.split z b).map .str))) else M.fail
  | _ => M.fail
theorem mt_joinS : MtS X C "str.join" fJoin := ⟨_, mt_join, fun {H α own z vs rs st st' q Q} hx hS hm k => by
  unfold fJoin at hm
  split at hm
  · obtain ⟨v, rfl, hv⟩ := reps1 hx
    obtain ⟨ds, s1, e1, hm1⟩ := bind_run hm
    obtain ⟨ys, s2, e2, hm2⟩ := bind_run hm1
    clear hm hm1
    obtain ⟨rfl, a, xs, rfl, h1, h2⟩ := asSeq_ok hv hS e1
    obtain ⟨e3, rfl⟩ := ofO_inv e2
    rw [allStrs_eq e3] at h2
    split at hm2
    · rename_i hl
      obtain ⟨rfl, rfl⟩ := pure_inv hm2
      rw [h2.strs] at h1
      exact ⟨z, a, ys, rfl, rfl, h1, hl, endV k hS (.str _)⟩
    · cases hm2
  · exact nomatch (show (none : Option (R × Sto)) = some (q, st') from hm)⟩
theorem mt_splitS : MtS X C "str.split" fSplit := ⟨_, mt_split, fun {H α own z vs rs st st' q Q} hx hS hm k => by
  unfold fSplit at hm
  split at hm
  · rename_i b
    obtain ⟨v, rfl, hv⟩ := reps1 hx
    cases hv
    split at hm
    · rename_i hl
      obtain ⟨rfl, rfl⟩ := pure_inv hm
      refine ⟨z, b, rfl, rfl, hl.1, by rw [sizeLine_eq]; exact hl.2, fun p hp => endL k hS hp (RepL.ofStrs _)⟩
    · cases hm
  · exact nomatch (show (none : Option (R × Sto)) = some (q, st') from hm)⟩
theorem strm {id : String} {name : Str} {g : Str → List R → M R} (hm : MtS X C id g) (slot : Slot "str" name id) (hty : typeOf (.builtin id) = pure (.type "method_descriptor")) (ho : SimE X C o mo) (ha : SimA X C (e :: es) ms) (hbase : attributeBase o name X.env (eval o X.env) = eval o X.env := by rfl)
    (hfew : ((backTo cpos (starEach (e :: es) X.env)).all (fun x => !x.1) && (backToKw cpos (keywordEach [] X.env)).all (fun x => x.1.isSome) && decide ((e :: es).length + ([] : List Keyword).length + (if ([] : List Keyword).isEmpty then 0 else 1) < 30)) = true := by rfl) (hline : (apos.endLine == cpos.line) = true := by rfl) (hs : starEach (e :: es) X.env = (false, eval e X.env) :: starEach es X.env := by rfl) (hplain : (backTo cpos (starEach es X.env)).any (·.1) = false := by rfl) :
    SimE X C (.Call (.Attribute o name apos) (e :: es) [] cpos) (eStrM g mo ms) := by
  obtain ⟨r, h1, h2⟩ := hm
  refine (pe_bm PySem.F.plainAttrs_str slot hty h1 ho ha hbase hfew hline hs hplain).wk fun σ H Q h => ?_
  obtain ⟨α, env, s0, rr, st', hE, hS, hm, k⟩ := h
  obtain ⟨ro, s1, e1, hm1⟩ := bind_run hm
  obtain ⟨rs, s2, e2, hm2⟩ := bind_run hm1
  refine ⟨α, env, s0, ro, s1, hE, hS, e1, fun v α1 H1 X1 S1 R1 => ?_⟩
  split at hm2
  · rename_i z
    cases R1
    exact ⟨rfl, α1, env, _, rs, s2, hE.ext X1, S1, e2, fun vs α2 H2 X2 S2 R2 => h2 (R2.mono fun _ _ => trivial) S2 hm2 fun w α3 H3 X3 S3 R3 => k w α3 H3 ((X1.trans0 X2).trans0 X3) S3 (R3.mono fun a h => X1.dom _ (X2.dom _ h))⟩
  · cases hm2
/-! ### d.get -/
def eGet1 (mo mk : Env → M R) : Env → M R := fun env => mo env >>= fun o => mk env >>= fun y => match y with
  | .v d => fun st => match dicAt o st, toKey d with
    | some (_, kvs), some k => some (.v ((dVal kvs k).getD .non), st)
    | _, _ => none
  | _ => M.fail
def isDic : R → M R
  | r => fun st => match dicAt r st with
    | some _ => some (r, st)
    | none => none
def getOr (o y z : R) : M R := match y with
  | .v d => fun st => match dicAt o st, toKey d with
    | some (_, kvs), some k => match dVal kvs k with
      | some w => some (.v w, st)
      | none => some (z, st)
    | _, _ => none
  | _ => M.fail
def eGet2 (mo mk mz : Env → M R) : Env → M R := fun env => mo env >>= fun o => isDic o >>= fun o => mk env >>= fun y => mz env >>= fun z => getOr o y z
theorem isDic_ok {G : Kx} {H : Hp} {α : List Addr} {fr own : Addr → Prop} {st st' : Sto} {v : V} {r q : R} (hr : RepR G H α fr own v r) (hS : RepS G H α st) (h : isDic r st = some (q, st')) : st' = st ∧ q = r ∧ ∃ n a, r = .v (.obj n) ∧ v = .ref a ∧ α[n]? = some a ∧ IsD H a := by
  unfold isDic at h
  replace h := h
  split at h
  · rename_i z e
    obtain ⟨n, kvs⟩ := z
    cases h
    obtain ⟨rfl, e2, a, ks, rfl, g1, g2, g3⟩ := dicAt_ok hr hS e
    exact ⟨rfl, rfl, n, a, rfl, rfl, g1, .inl ⟨ks, .inl g2⟩⟩
  · cases h
theorem dget2 {n : Nat} (hr : Room n X.A) (ho : SimE X C o mo) (hk : SimE X C e mi) (hz : SimE X C a mv)
    (hbase : attributeBase o "get" X.env (eval o X.env) = eval o X.env := by rfl)
    (hfew : ((backTo cpos (starEach [e, a] X.env)).all (fun x => !x.1) && (backToKw cpos (keywordEach [] X.env)).all (fun x => x.1.isSome) && decide (([e, a] : List Expr).length + ([] : List Keyword).length + (if ([] : List Keyword).isEmpty then 0 else 1) < 30)) = true := by rfl)
    (hline : (apos.endLine == cpos.line) = true := by rfl) (htr : backTo cpos (starEach [e, a] X.env) = [(false, eval e X.env), (false, eval a X.env)] := by rfl) :
    SimE X C (.Call (.Attribute o "get" apos) [e, a] [] cpos) (eGet2 mo mi mv) := by
  have hu : X.A.units + 1 < cLine := by have := hr.units; omega
  refine (pe_dget2 hu ho hk hz ⟨hbase, hfew, hline, htr⟩).wk fun σ H Q h => ?_
  obtain ⟨α, env, s0, rr, st', hE, hS, hm, k⟩ := h
  obtain ⟨ro, s1, e1, hm1⟩ := bind_run hm
  obtain ⟨ro2, s2, e2, hm2⟩ := bind_run hm1
  obtain ⟨rk, s3, e3, hm3⟩ := bind_run hm2
  obtain ⟨rz, s4, e4, hm4⟩ := bind_run hm3
  refine ⟨α, env, s0, ro, s1, hE, hS, e1, fun v α1 H1 X1 S1 R1 => ?_⟩
  obtain ⟨rfl, rfl, n, d, rfl, rfl, hα, hD⟩ := isDic_ok R1 S1 e2
  refine ⟨d, rfl, hD, α1, env, _, rk, s3, hE.ext X1, S1, e3, fun y α2 H2 X2 S2 R2 => ⟨α2, env, _, rz, s4, (hE.ext X1).ext X2, S2, e4, fun z α3 H3 X3 S3 R3 => ?_⟩⟩
  unfold getOr at hm4
  split at hm4
  · rename_i dk
    replace hm4 := hm4
    split at hm4
    · rename_i n2 kvs k' q1 q2
      have R1' : RepR (gx X C) H3 α3 All Non (.ref d) (.v (.obj n)) := Rep.obj ((X2.trans0 X3).pre0 hα)
      obtain ⟨_, e5, d2, ks, g0, g1, g2, g3⟩ := dicAt_ok R1' S3 q1
      cases g0
      have R2' : Rep (gx X C) H3 α3 y dk := Rep.ext X3 R2
      obtain rfl := toKey_ok R2' q2
      refine ⟨_, DGet.k g2, ?_⟩
      split at hm4
      · rename_i w q3
        injection hm4 with hm4
        injection hm4 with z1 z2
        subst z1 z2
        obtain ⟨w', g4, g5⟩ := (g3.val k').2 w q3
        rw [g4]
        exact k _ α3 H3 ((X1.trans0 X2).trans0 X3) S3 g5
      · rename_i q3
        injection hm4 with hm4
        injection hm4 with z1 z2
        subst z1 z2
        rw [(g3.val k').1 q3]
        exact k _ α3 H3 ((X1.trans0 X2).trans0 X3) S3 (R3.mono fun a h => X1.dom _ (X2.dom _ h))
    · cases hm4
  · exact nomatch (show (none : Option (R × Sto)) = some (rr, st') from hm4)
def eGet1' (mo mk : Env → M R) : Env → M R := fun env => mo env >>= fun o => isDic o >>= fun o => mk env >>= fun y => getOr o y (.v .non)
theorem dget1 {n : Nat} (hr : Room n X.A) (ho : SimE X C o mo) (hk : SimE X C e mi)
    (hbase : attributeBase o "get" X.env (eval o X.env) = eval o X.env := by rfl)
    (hfew : ((backTo cpos (starEach [e] X.env)).all (fun x => !x.1) && (backToKw cpos (keywordEach [] X.env)).all (fun x => x.1.isSome) && decide (([e] : List Expr).length + ([] : List Keyword).length + (if ([] : List Keyword).isEmpty then 0 else 1) < 30)) = true := by rfl)
    (hline : (apos.endLine == cpos.line) = true := by rfl) (htr : backTo cpos (starEach [e] X.env) = [(false, eval e X.env)] := by rfl) :
    SimE X C (.Call (.Attribute o "get" apos) [e] [] cpos) (eGet1' mo mi) := by
  have hu : X.A.units + 1 < cLine := by have := hr.units; omega
  refine (pe_dget1 hu ho hk ⟨hbase, hfew, hline, htr⟩).wk fun σ H Q h => ?_
  obtain ⟨α, env, s0, rr, st', hE, hS, hm, k⟩ := h
  obtain ⟨ro, s1, e1, hm1⟩ := bind_run hm
  obtain ⟨ro2, s2, e2, hm2⟩ := bind_run hm1
  obtain ⟨rk, s3, e3, hm4⟩ := bind_run hm2
  refine ⟨α, env, s0, ro, s1, hE, hS, e1, fun v α1 H1 X1 S1 R1 => ?_⟩
  obtain ⟨rfl, rfl, n, d, rfl, rfl, hα, hD⟩ := isDic_ok R1 S1 e2
  refine ⟨d, rfl, hD, α1, env, _, rk, s3, hE.ext X1, S1, e3, fun y α2 H2 X2 S2 R2 => ?_⟩
  unfold getOr at hm4
  split at hm4
  · rename_i dk
    replace hm4 := hm4
    split at hm4
    · rename_i n2 kvs k' q1 q2
      have R1' : RepR (gx X C) H2 α2 All Non (.ref d) (.v (.obj n)) := Rep.obj (X2.pre0 hα)
      obtain ⟨_, e5, d2, ks, g0, g1, g2, g3⟩ := dicAt_ok R1' S2 q1
      cases g0
      obtain rfl := toKey_ok (G := gx X C) (H := H2) (α := α2) R2 q2
      refine ⟨_, DGet.k g2, ?_⟩
      split at hm4
      · rename_i w q3
        injection hm4 with hm4
        injection hm4 with z1 z2
        subst z1 z2
        obtain ⟨w', g4, g5⟩ := (g3.val k').2 w q3
        rw [g4]
        exact k _ α2 H2 (X1.trans0 X2) S2 g5
      · rename_i q3
        injection hm4 with hm4
        injection hm4 with z1 z2
        subst z1 z2
        rw [(g3.val k').1 q3]
        exact k _ α2 H2 (X1.trans0 X2) S2 .non
    · cases hm4
  · exact nomatch (show (none : Option (R × Sto)) = some (rr, st') from hm4)
/-! ### d[k] = v -/
def setDic (o y : R) (d : D) : M Unit := match y with
  | .v dk => fun st => match dicAt o st, toKey dk with
    | some (n, kvs), some k => if kvs.length < 1000000 then some ((), st.set n (.dic (dPut kvs k d))) else none
    | _, _ => none
  | _ => M.fail
def sDPut (mo mk mv : Env → M R) : Env → M Fl := fun env => mv env >>= fun r => alloc r >>= fun q => toD q >>= fun d => mo env >>= fun o => mk env >>= fun y => setDic o y d >>= fun _ => pure (.nx env)
theorem s_dput {value : Expr} {n : Nat} (hr : Room n X.A) (hv : SimE X C value mv) (ho : SimE X C o mo) (hk : SimE X C i mi) (hs : swapsWith value (some (.Subscript o i pos')) pos.line X.env = pure false := by rfl) :
    SimS X C (.Assign [.Subscript o i pos'] value pos) (sDPut mo mi mv) := by
  have hu : X.A.units + 1 < cLine := by have := hr.units; omega
  refine (ps_dput hu ho hk hv hs).wk fun D σ H h => ?_
  obtain ⟨α, env, st, fl, st', hE, hS, hm, k⟩ := h
  obtain ⟨r, s1, e1, hm1⟩ := bind_run hm
  obtain ⟨q, s2, e2, hm2⟩ := bind_run hm1
  obtain ⟨d, s3, e3, hm3⟩ := bind_run hm2
  obtain ⟨ro, s4, e4, hm4⟩ := bind_run hm3
  obtain ⟨rk, s5, e5, hm5⟩ := bind_run hm4
  obtain ⟨_, s6, e6, hm6⟩ := bind_run hm5
  obtain ⟨rfl, rfl⟩ := pure_inv hm6
  refine ⟨α, env, st, r, s1, hE, hS, e1, fun v α1 H1 X1 S1 R1 => ?_⟩
  obtain ⟨α2, X2, S2, d', rfl, hd⟩ := alloc_ok X1 S1 R1 e2
  obtain ⟨rfl, rfl⟩ := pure_inv e3
  refine ⟨α2, env, _, ro, s4, hE.ext X2, S2, e4, fun vo α3 H3 X3 S3 R3 => ⟨α3, env, _, rk, s5, (hE.ext X2).ext X3, S3, e5, fun vk α4 H4 X4 S4 R4 => ?_⟩⟩
  unfold setDic at e6
  split at e6
  · rename_i dk
    replace e6 := e6
    split at e6
    · rename_i n kvs k' q1 q2
      split at e6
      · rename_i hl
        injection e6 with e6
        injection e6 with _ z2
        subst z2
        obtain ⟨rfl, q3, a, ks, rfl, g1, g2, g3⟩ := dicAt_ok (R3.ext X4) S4 q1
        obtain rfl := toKey_ok (G := gx X C) (H := H4) (α := α4) R4 q2
        have hin : a ∈ α4 := List.mem_of_getElem? g1
        have X5 : Ext Non α4 H4 α4 (upd H4 a (.dK (putK ks k' v))) := Ext.upd1 g2 (fun _ e => nomatch e) (fun _ _ e => nomatch e) (.inl hin)
        refine ⟨a, _, rfl, DPut.k g2 (by rw [g3.length, sizeLine_eq]; omega), ?_⟩
        have X34 := X3.trans0 X4
        have S5 := S4.updO (old := .dK ks) (o' := .dic (dPut kvs k' d)) (u := .dK (putK ks k' v)) (fun _ e => nomatch e) (fun _ _ e => nomatch e) q3 g1 g2 ⟨_, upd_same, (g3.ext X5).put k' (Rep.ext (X34.trans0 X5) hd)⟩ trivial
        have X25 := (X2.trans0 X34).trans0 X5
        exact k α4 _ (X25.mono fun _ z => z.elim) S5 σ (hE.ext X25) fun a ha => .inl ha
      · cases e6
    · cases e6
  · cases (show (none : Option (Unit × Sto)) = some _ from e6)
/-! ### len(d), tuple(d), list(d) -/
def bLenD : List R → M R
  | [r] => fun st => match dicAt r st with
    | some (_, kvs) => some (.v (.int kvs.length), st)
    | none => bLen [r] st
  | rs => bLen rs
theorem c_lenD : CallS X C (.builtin "len") bLenD := by
  (intro pins s σ H xs us Q I r h); obtain ⟨α, own, st, rs, q, st', hx, hS, hm, k⟩ := h
  unfold bLenD at hm
  split at hm
  · obtain ⟨v, rfl, hv⟩ := reps1 hx
    replace hm := hm
    split at hm
    · rename_i z e
      injection hm with hm
      injection hm with z1 z2
      subst z1 z2
      obtain ⟨rfl, q3, a, ks, rfl, g1, g2, g3⟩ := dicAt_ok hv hS e
      refine call_lenD pins s σ H _ us Q I r ⟨a, ks, rfl, g2, ?_⟩
      rw [g3.length]
      exact endV k hS (.int _)
    · exact c_len (C := C) pins s σ H _ us Q I r ⟨α, own, st, _, q, st', hx, hS, hm, k⟩
  · exact c_len (C := C) pins s σ H _ us Q I r ⟨α, own, st, _, q, st', hx, hS, hm, k⟩
def bLstD : List R → M R
  | [r] => fun st => match dicAt r st with
    | some (_, kvs) => some (.l (.lst (kvs.map fun kv => keyD kv.1)), st)
    | none => bLst [r] st
  | rs => bLst rs
theorem c_listD (hc : X.calm = true) : CallS X C (.type "list") bLstD := by
  (intro pins s σ H xs us Q I r h); obtain ⟨α, own, st, rs, q, st', hx, hS, hm, k⟩ := h
  unfold bLstD at hm
  split at hm
  · obtain ⟨v, rfl, hv⟩ := reps1 hx
    replace hm := hm
    split at hm
    · rename_i z e
      injection hm with hm
      injection hm with z1 z2
      subst z1 z2
      obtain ⟨rfl, q3, a, ks, rfl, g1, g2, g3⟩ := dicAt_ok hv hS e
      exact call_list_dK hc pins s σ H _ us Q I r ⟨a, ks, rfl, g2, fun p hp => endL k hS hp g3.keys⟩
    · exact c_list (C := C) pins s σ H _ us Q I r ⟨α, own, st, _, q, st', hx, hS, hm, k⟩
  · exact c_list (C := C) pins s σ H _ us Q I r ⟨α, own, st, _, q, st', hx, hS, hm, k⟩
end
section
variable {prog : Program} {w : World} {A : Around} {E : Value → Shared → Prop} {s : Shared} {T : String} {r d : Addr} {n : Nat} {P : Nat → Value → Prop} {OK : Heap → Prop}
theorem new_tuple {Q₁ : Value → Shared → Prop} (K : PySem.W.KdlSrc prog w T r d n P OK) (hh : A.handled = none) (hok : OK s.heap) (hn : n ≤ sizeLine)
    (h : ∀ (h' : Heap) (tk : Nat) (acc : Array Value), (∀ b o, s.heap.get? b = some o → h'.get? b = some o) → ItemsOf P acc n → Q₁ (.ref h'.objs.size) { s with heap := h'.push { cls := .type "tuple", data := .seq acc }, toks := tk }) :
    codeAny (model prog w) A (.call (.builtin "tuple.__new__") ⟨[.type "tuple", .ref r], []⟩) (wants Q₁ E) s := by
  refine codeAny_of_tree ?_
  (show wpAny _ A.in1 (do checkBuiltinCall "tuple.__new__" ⟨[.type "tuple", .ref r], []⟩; again (.builtin "tuple.__new__" ⟨[.type "tuple", .ref r], []⟩)) _ _ s); refine wpAny_bind (wpAny_of_eq (PySem.F.newCall_tuple_1 _) (wpAny_pure ⟨plainId_quiet PySem.F.plain_tuple_new _, codeAny_builtin PySem.F.entry_tuple_new ?_⟩))
  rw [Around.under_plainId PySem.F.plain_tuple_new _]
  have hsub := sub_tuple_self
  (have hinit := init_tuple_lookup); have hmh := madeHere_tuple
  have hTI := K.type s hok
  (have hh1 : A.in1.handled = none := hh); have hnl := K.notTuple
  wp_walk using wpAny_typeOf hTI, PySem.W.kdu_collect (A := A.in1) K hh1 hok hn
  intro h' tk acc hk hacc
  (show wpAny _ _ (Builtin.Tuple.tupleExact acc.toList.toArray >>= fun v => ret v) _ _ _); unfold Builtin.Tuple.tupleExact
  (have e : acc.toList.toArray = acc := by simp); rw [e]
  exact wpAny_bind (wpAny_newObj_type (wpAny_pure (h h' tk acc hk hacc)) (show acc.size ≤ sizeLine by rw [hacc.1]; exact hn))
theorem call_tup {Q : Value → Shared → Prop} (K : PySem.W.KdlSrc prog w T r d n P OK) (hh : A.handled = none) (hok : OK s.heap) (hn : n ≤ sizeLine)
    (hQ : ∀ (h' : Heap) (tk : Nat) (acc : Array Value), (∀ b o, s.heap.get? b = some o → h'.get? b = some o) → ItemsOf P acc n → Q (.ref h'.objs.size) { s with heap := h'.push { cls := .type "tuple", data := .seq acc }, toks := tk }) :
    wpAny (model prog w) A (PySem.call (.type "tuple") [.ref r]) Q E s := by
  refine callType_codes (Q₁ := fun obj s₁ => s₁.TypeIs obj "tuple" ∧ Q obj s₁) PySem.F.called_tuple (PySem.F.typeCall_tuple_1 _) PySem.F.entry_object_init
    (new_tuple (A := A.in1) K hh hok hn fun h' tk acc hk hacc => ⟨⟨_, Heap.get?_push_size _ rfl, rfl⟩, hQ h' tk acc hk hacc⟩) fun obj s₁ h₁ => ?_
  exact ⟨h₁.1, PySem.F.args_object_init_2 obj _, object_init_meets PySem.F.called_tuple.init.lookup PySem.F.called_tuple.made (by decide) prog w A.in1 _ s₁ ⟨h₁.1, rfl, h₁.2⟩⟩
end
section
variable {X : Cx} {C : List Addr}
def bTupD : List R → M R
  | [r] => fun st => match dicAt r st with
    | some (_, kvs) => some (.v (.tup (kvs.map fun kv => keyD kv.1)), st)
    | none => bTup [r] st
  | rs => bTup rs
theorem c_tupleD (hc : X.calm = true) : CallS X C (.type "tuple") bTupD := by
  (intro pins s σ H xs us Q I r h); obtain ⟨α, own, st, rs, q, st', hx, hS, hm, k⟩ := h
  unfold bTupD at hm
  split at hm
  · obtain ⟨v, rfl, hv⟩ := reps1 hx
    replace hm := hm
    split at hm
    · rename_i y e
      injection hm with hm
      injection hm with z1 z2
      subst z1 z2
      obtain ⟨rfl, q3, a, ks, rfl, g1, g2, g3⟩ := dicAt_ok hv hS e
      obtain ⟨u, eu, rx⟩ := vals1 r
      subst eu
      obtain rfl : u = Value.ref a := rx
      obtain ⟨z, lo, vs, rk, hd⟩ := (show ObjOk X.prog X.w H s.heap a (.dK ks) from I.hok a _ g2)
      obtain ⟨ep, hat⟩ := hd.dictAt
      have hl : ks.length = vs.length := Paired.length rk
      refine call_tup (PySem.W.kdl_dict (knd := mixKind X.prog X.w) (kvs := vs) (ep := ep) lo) (I.ok.hd hc) hat (by rw [← hl]; exact z) fun h' tk acc hk hacc => ?_
      (have I1 : Inv X pins σ H { s with heap := h', toks := tk } := I.kept hk); have hv : Vals (ks.map fun kv => kV kv.1) acc.toList := by
        have el : acc.toList.length = acc.size := by simp
        (refine vals_of_at (by rw [List.length_map, el, hacc.1, hl]) fun j x w h1 h2 => ?_); obtain ⟨kk, y, hky, hi⟩ := hacc.2 j w (by rw [← Array.getElem?_toList]; exact h2)
        have e1 : (ks.map (·.1))[j]? = some kk := by
          rw [KV.keys rk, List.getElem?_map, hky] <;> rfl
        rw [List.getElem?_map] at h1 e1
        cases q : ks[j]? with
        | none => rw [q] at h1; cases h1
        | some kv =>
          rw [q] at h1 e1
          cases h1
          cases e1
          exact keyIs_rel hi
      have e2 : acc.toList.toArray = acc := by simp
      have I2 : Inv X pins σ (upd H h'.objs.size (.tup (ks.map fun kv => kV kv.1))) { s with heap := h'.push { cls := .type "tuple", data := .seq acc }, toks := tk } :=
        I1.laid (t' := tk) (fun b o e => Heap.get?_push_of_some _ e) (Nat.le_refl _) (show ObjOk X.prog X.w _ _ _ (.tup (ks.map fun kv => kV kv.1)) from ⟨by rw [List.length_map]; exact z, acc.toList, hv, by rw [e2]; exact IsTup.new _ _⟩)
      exact ⟨.ref h'.objs.size, _, I2, rfl, endT k hS (I1.hok.fresh (Nat.le_refl _)) g3.keys⟩
    · exact c_tuple (C := C) pins s σ H _ us Q I r ⟨α, own, st, _, q, st', hx, hS, hm, k⟩
  · exact c_tuple (C := C) pins s σ H _ us Q I r ⟨α, own, st, _, q, st', hx, hS, hm, k⟩
end
end Mi
/-! Mj: len(set(texts)), a dict against {}, the signs of a text, own classes asked. -/
namespace Mi
open PySem PySem.Spec PyProof.Rows L2
section
variable {P : Program} {w : World} {A : Around} {R : Result → Shared → Prop} {I : Addr} {fp wr : List Addr} {Gn : Array GenState → Array GenState → Prop} {n : Nat} {Pv : Nat → Value → Prop} {St : Nat → Shared → Prop}
theorem setOf_kept {h h' : Heap} {S : Addr} {p : Str → Bool} {c : Nat} (hS : h.SetOf (PySem.strKind P w) S p c) (k : ∀ o, h.get? S = some o → h'.get? S = some o) : h'.SetOf (PySem.strKind P w) S p c :=
  let ⟨o, es, ep, t, ho, rest⟩ := hS; ⟨o, es, ep, t, k o ho, rest⟩
/-- unlike texts are put in, one by one -/
theorem loop_strs (W : WalksS P w A.in1 I fp wr Gn n Pv St) (S : Addr) (hSf : S ∉ fp) (xs : List Str) (hn : n = xs.length) (nd : xs.Nodup) (hb : xs.length + 1 < scanBound) (hval : ∀ i v, Pv i v → ∃ k t, xs[i]? = some k ∧ v = .str k t) :
    ∀ (k i : Nat) (s : Shared), n - i = k → i ≤ n → St i s → s.heap.SetOf (PySem.strKind P w) S (fun j => decide (j ∈ xs.take i)) i →
      (∀ s', Moved (S :: wr) Gn s s' → s'.heap.SetOf (PySem.strKind P w) S (fun j => decide (j ∈ xs)) xs.length → R (.ok (.ret .none)) s') → codeAny (model P w) A (.builtin "set.update.loop" ⟨[.ref S, .ref I], []⟩) R s := by
  have sub : ∀ b ∈ wr, b ∈ S :: wr := fun b hb => List.mem_cons_of_mem _ hb
  intro k; induction k with
  | zero =>
    intro i s hk hi hst hS hR
    obtain rfl : i = n := by omega
    refine codeAny_builtin PyProof.Rows.F.entry_set_update_loop ?_; rw [Around.under_plainId PyProof.Rows.F.plain_set_update_loop _]
    show wpAny _ A.in1 (pyNext (.ref I) >>= _) _ _ s; refine wpAny_bind (W.done s _ _ hst fun s' hm => ?_)
    rw [List.take_of_length_le (by omega)] at hS
    show wpAny _ A.in1 (ret Value.none) _ _ s'; exact wpAny_pure (hR s' (hm.mono sub) (hn ▸ setOf_kept hS fun o e => hm.heap S o (fun h => hSf (W.sub _ h)) e))
  | succ k ih =>
    intro i s hk hi hst hS hR
    have hlt : i < n := by omega
    refine codeAny_builtin PyProof.Rows.F.entry_set_update_loop ?_; rw [Around.under_plainId PyProof.Rows.F.plain_set_update_loop _]
    show wpAny _ A.in1 (pyNext (.ref I) >>= _) _ _ s; refine wpAny_bind (W.item i s _ _ hlt hst fun v s' hP hst' hm => ?_)
    (obtain ⟨z, t, hz, rfl⟩ := hval i v hP); have hS' := setOf_kept hS fun o e => hm.heap S o (fun h => hSf (W.sub _ h)) e
    show wpAny _ A.in1 (holding [Value.str z t] (setAdd S (.str z t)) >>= _) _ _ s'; refine wpAny_bind (wpAny_holding ?_)
    unfold setAdd; refine wpAny_holding (wpAny_bind ((PySem.strKind P w).pyHash (k := z) (strKind_is _ _ _ _) ?_))
    refine wpAny_setAddHashed_of (knd := PySem.strKind P w) (s := { s' with toks := s'.toks + 1 }) (strKind_is _ _ _ _) rfl hS' (by omega) fun h' hsb hS2 => ?_
    have hzn : z ∉ xs.take i := fun hm2 => by
      obtain ⟨j, hj⟩ := List.mem_iff_getElem?.mp hm2
      rw [List.getElem?_take] at hj
      split at hj
      · rename_i hji
        obtain ⟨l1, e1⟩ := List.getElem?_eq_some_iff.mp hj
        obtain ⟨l2, e2⟩ := List.getElem?_eq_some_iff.mp hz
        exact List.pairwise_iff_getElem.mp nd j i l1 l2 hji (e1.trans e2.symm)
      · cases hj
    have hS3 : h'.SetOf (PySem.strKind P w) S (fun j => decide (j ∈ xs.take (i + 1))) (i + 1) := SetOf_congr hS2 (fun j => by rw [List.take_add_one, hz]; simp [List.mem_append]) (by simp [hzn])
    refine wpAny_pure ⟨plainId_quiet PyProof.Rows.F.plain_set_update_loop _, ih (i + 1) _ (by omega) hlt (W.frame _ s' _ _ hst' (Nat.le_succ _) fun b hb o e => ?_) hS3 fun s'' hm'' hS'' => ?_⟩
    · rw [hsb.2 b (fun h : b = S => hSf (h ▸ hb))]; exact e
    · exact hR s'' (Moved.trans W.gtrans ((hm.mono sub).then_heap (Nat.le_succ _) fun b o hb e => by rw [hsb.2 b (fun h : b = S => hb (by rw [h]; exact List.mem_cons_self))]; exact e) hm'') hS''
end
section
variable {P : Program} {w : World} {A : Around} {s : Shared} {E : Value → Shared → Prop}
theorem str_items {items : Array Value} {xs : List Str} (hi : StrsAre items.toList xs) (i : Nat) (v : Value) (hv : items[i]? = some v) : ∃ k t, xs[i]? = some k ∧ v = .str k t := by
  have key : ∀ {vs : List Value} {ys : List Str}, StrsAre vs ys → ∀ (j : Nat) (u : Value), vs[j]? = some u → ∃ k t, ys[j]? = some k ∧ u = .str k t := by
    intro vs ys h; induction h with
    | nil => intro j u e; simp at e
    | cons z t _ ih => intro j u e; cases j with
      | zero => simp at e; exact ⟨z, t, rfl, e.symm⟩
      | succ j => exact ih j u (by simpa using e)
  exact key hi i v (by rw [Array.getElem?_toList]; exact hv)
set_option maxHeartbeats 3200000 in
theorem set_strs {b : Bool} {l : Addr} {items : Array Value} (xs : List Str) {Q : Value → Shared → Prop} (hh : A.handled = none) (hl : IsK b s.heap l items) (hi : StrsAre items.toList xs) (nd : xs.Nodup) (hb : xs.length + 1 < scanBound)
    (h : ∀ (h' : Heap) (tk : Nat), h'.SetOf (PySem.strKind P w) s.heap.objs.size (fun j => decide (j ∈ xs)) xs.length → (∀ b o, s.heap.get? b = some o → h'.get? b = some o) → Q (.ref s.heap.objs.size) { s with heap := h', toks := tk }) :
    wpAny (model P w) A (PySem.call (.type "set") [.ref l]) Q E s := by
  have size : items.size = xs.length := (Array.length_toList).symm.trans (StrsAre.len_eq hi)
  obtain ⟨mc, mt, hmro⟩ := PySem.F.called_set.mro; have hmade := PySem.F.called_set.made; have hsub := PySem.F.called_set.sub
  refine wpAny_call (codeAny_of_tree ?_); show wpAny _ _ (callAny (.type "set") _) _ _ _
  refine wpAny_pure ⟨Code.quiet_builtin _ (by decide +kernel), codeAny_builtin PySem.F.entry_type_call ?_⟩; rw [Around.under_plain (weight_type_call_type "set" [.ref l] []) rfl]
  have h1 := PySem.F.called_set.notType; have h2 := PySem.F.called_set.canCreate; have hct := PySem.F.typeCall_set_1 (.ref l)
  (repeat (any_goals (first | assumption | wp_step)))
  (refine codeAny_mono (code_set_new_1 (.ref l) (E := E) (Q₁ := fun obj s₁ => ∃ led : Bool, obj = .ref s.heap.objs.size ∧ s₁ = { s with heap := s.heap.push { cls := .type "set", dict := none, data := .set #[] 0 (.fresh 0 0 led) } }) fun led => ⟨led, rfl, rfl⟩) fun r s₁ hr => ?_); rcases r with e | fl
  · exact hr
  cases fl with
  | ret obj =>
    obtain ⟨led, rfl, rfl⟩ := hr
    generalize hbare : ({ cls := .type "set", dict := none, data := .set #[] 0 (.fresh 0 0 led) } : Obj) = bare
    have atS : (s.heap.push bare).get? s.heap.objs.size = some bare := by rw [← hbare]; exact Heap.get?_push_size _ rfl
    have hT : Shared.TypeIs { s with heap := s.heap.push bare } (.ref s.heap.objs.size) "set" := ⟨_, atS, by rw [← hbare]⟩
    have hli := PySem.F.called_set.init.lookup; have hbi := PySem.F.called_set.init.bind (.ref s.heap.objs.size)
    (repeat (any_goals (first | assumption | wp_step)))
    refine codeAny_mono (codeAny_call_builtin (R := wants (fun r s₂ => r = .none ∧ ∃ h' tk, s₂ = { s with heap := h', toks := tk } ∧ h'.SetOf (PySem.strKind P w) s.heap.objs.size (fun j => decide (j ∈ xs)) xs.length ∧ ∀ b o, s.heap.get? b = some o → h'.get? b = some o) E)
      PySem.F.called_set.init.plain PySem.F.entry_set_init (check_set_init_1 hT ?_)) fun r₂ s₂ hr₂ => ?_
    · have hlS : l < s.heap.objs.size := by cases b <;> exact let ⟨_, q, _⟩ := hl; Heap.lt_size q
      have hl1 : IsK b (s.heap.push bare) l items := by cases b <;> exact let ⟨o, q, r⟩ := hl; ⟨o, Heap.get?_push_of_some _ q, r⟩
      have hneI : l ≠ (s.heap.push bare).objs.size := by rw [Heap.size_push]; exact Nat.ne_of_lt (Nat.lt_succ_of_lt hlS)
      have hSf : s.heap.objs.size ∉ [(s.heap.push bare).objs.size, l] := by rw [Heap.size_push]; simp only [List.mem_cons, List.not_mem_nil, or_false, not_or]; exact ⟨Nat.ne_of_lt (Nat.lt_succ_self _), Nat.ne_of_gt hlS⟩
      (have hh3 : A.in1.in1.in1.handled = none := by simp [hh]); have hS0 : ∀ ob, ((s.heap.push bare).push ob).SetOf (PySem.strKind P w) s.heap.objs.size (fun j => decide (j ∈ xs.take 0)) 0 := fun ob =>
        SetOf_congr ((setObjOf_fresh (knd := PySem.strKind P w) led).setOf (by rw [← hbare]; exact Heap.get?_push_of_some _ (by rw [hbare]; exact atS)) (by unfold scanBound; omega)) (fun _ => by simp) rfl
      (unfold Builtin.«set.__init__» noKeywords Builtin.Frozenset.updateFrom); have a1 := PySem.F.sub_list_set; have a2 := PySem.F.sub_list_frozenset; have a3 : (Value.type "list" == Value.type "dict") = false := by decide
      have a4 := PySem.F.sub_tuple_set; have a5 := PySem.F.sub_tuple_frozenset; have a6 : (Value.type "tuple" == Value.type "dict") = false := by decide
      have fin : ∀ (s' : Shared) (ob : Obj), Moved (s.heap.objs.size :: [(s.heap.push bare).objs.size]) (fun a b => b = a) { s with heap := (s.heap.push bare).push ob } s' → s'.heap.SetOf (PySem.strKind P w) s.heap.objs.size (fun j => decide (j ∈ xs)) xs.length →
          ∃ h' tk, s' = { s with heap := h', toks := tk } ∧ h'.SetOf (PySem.strKind P w) s.heap.objs.size (fun j => decide (j ∈ xs)) xs.length ∧ ∀ b o, s.heap.get? b = some o → h'.get? b = some o := fun s' ob hm hS' => by
        (obtain ⟨h', g2, d', tk', os'⟩ := s'); obtain ⟨rfl, rfl, rfl⟩ : g2 = s.gens ∧ d' = s.drawn ∧ os' = s.os := ⟨hm.gens, hm.drawn, hm.os⟩
        refine ⟨h', tk', rfl, hS', fun b o e => hm.heap b o ?_ (Heap.get?_push_of_some _ (Heap.get?_push_of_some _ e))⟩
        have hb0 := Heap.lt_size e
        rw [Heap.size_push]
        simp only [List.mem_cons, List.not_mem_nil, or_false, not_or]
        exact ⟨Nat.ne_of_lt hb0, Nat.ne_of_lt (Nat.lt_succ_of_lt hb0)⟩
      subst hbare
      generalize hPI : pyIter = PI
      cases b with
      | true =>
        have hl2 : Heap.IsList _ l items := hl1
        obtain ⟨ol, hol, hcl, nl, hdl⟩ := id hl2; obtain ⟨ocls, odict, odata, oslots⟩ := ol; simp only at hcl hdl; subst hcl hdl
        wp_walk
        subst hPI; refine wpAny_pyIter_list hl2 ?_
        (refine wpAny_bind (wpAny_runValue ?_)); refine loop_strs ((Walks.list hh3 _ l hneI items).toS) s.heap.objs.size hSf xs size nd hb (fun i v hv => str_items hi i v hv) (items.size - 0) 0 _ (Nat.sub_zero _) (Nat.zero_le _) ⟨⟨_, Heap.get?_push_size _ rfl, rfl, rfl⟩, (hl2.push _)⟩ (hS0 _) fun s' hm hS' => ?_
        obtain ⟨h', tk, rfl, g1, g2⟩ := fin s' _ (by exact hm) hS'
        show wpAny _ _ (pure _ >>= _) _ _ _
        refine wpAny_pure ?_
        (show wpAny _ _ (ret Value.none) _ _ _); exact wpAny_pure ⟨rfl, h', tk, rfl, g1, g2⟩
      | false =>
        have hl2 : Heap.IsTuple _ l items := hl1
        obtain ⟨ol, hol, hcl, nl, hdl⟩ := id hl2; obtain ⟨ocls, odict, odata, oslots⟩ := ol; simp only at hcl hdl; subst hcl hdl
        wp_walk
        subst hPI; refine wpAny_pyIter_tuple hl2 ?_
        (refine wpAny_bind (wpAny_runValue ?_)); refine loop_strs ((Walks.tuple hh3 _ l hneI items).toS) s.heap.objs.size hSf xs size nd hb (fun i v hv => str_items hi i v hv) (items.size - 0) 0 _ (Nat.sub_zero _) (Nat.zero_le _) ⟨⟨_, Heap.get?_push_size _ rfl, rfl, rfl⟩, (hl2.push _)⟩ (hS0 _) fun s' hm hS' => ?_
        obtain ⟨h', tk, rfl, g1, g2⟩ := fin s' _ (by exact hm) hS'
        show wpAny _ _ (pure _ >>= _) _ _ _
        refine wpAny_pure ?_
        (show wpAny _ _ (ret Value.none) _ _ _); exact wpAny_pure ⟨rfl, h', tk, rfl, g1, g2⟩
    · rcases r₂ with e | fl₂
      · exact hr₂
      cases fl₂ with
      | ret r =>
        obtain ⟨rfl, h', tk, rfl, hS', hk'⟩ := hr₂
        (repeat (any_goals (first | assumption | wp_step)))
        exact h _ _ hS' hk'
      | _ => exact hr₂.elim
  | _ => exact hr.elim
end
end Mi
/-! Mj: .. as rules: len(set(texts)), a dict against {}, the signs of a text, own classes asked. -/
namespace Mi
open PySem PySem.Spec PyProof.Rows L2
section
variable {X : Cx} {C : List Addr} {e o i a b tg : Expr} {es : List Expr} {m mo mi mv : Env → M R} {ms : Env → M (List R)} {f x : Str} {pos pos' p p2 q apos cpos : Pos}
/-! ### len(set(xs)), xs unlike texts -/
def gLenSet (r : R) : M R := asSeq r >>= fun ds => M.ofO (allStrs ds) >>= fun ys => if ys.Nodup ∧ ys.length ≤ 1000 then pure (.v (.int ys.length)) else M.fail
def tLenSetS (K : PySem.W.Frag) (ta : TE) : TE := fun σ H Q => ta σ H fun x H1 => ∃ (l : Addr) (ys : List Str), x = .ref l ∧ (SqL K H1 l (ys.map V.str) ∨ SqT K H1 l (ys.map V.str)) ∧ ys.Nodup ∧ ys.length ≤ 1000 ∧ Q (.int ys.length) H1
theorem pe_lenSetS {ta : TE} (hc : X.calm = true) (hg : Gl X "len") (hm : X.mg "len" = none) (hg2 : Gl X "set") (hm2 : X.mg "set" = none) (ha : PE X a ta) (na : starEach [a] X.env = (false, eval a X.env) :: starEach [] X.env := by rfl) :
    PE X (.Call (.Name "len" p) [.Call (.Name "set" p2) [a] [] q] [] pos) (tLenSetS X.K ta) := by
  refine ⟨fun pins s σ H Q I h => ?_⟩
  refine Call_ (ld_blt I hg hm boot_len (PyProof.Rows.callWith_builtin1 (PyProof.Rows.args_cons ?_ rfl) rfl rfl))
  refine Call_ (ld_blt I hg2 hm2 boot_set (PyProof.Rows.callWith_type1 (PyProof.Rows.args_cons (thn (ha.run pins s σ H _ I h) fun v s1 ⟨x, H1, I1, r1, q1⟩ => PyProof.Rows.args_nil ?_) na) na rfl))
  obtain ⟨l, ys, rfl, hq, nd, hl, q1⟩ := q1
  obtain rfl : v = Value.ref l := r1
  have hsr : ∀ {ys : List Str} {us : List Value}, Vals (ys.map V.str) us → StrsAre us ys := fun {ys us} => strsAre_of
  have fin : ∀ (h' : Heap) (tk : Nat), h'.SetOf (PySem.strKind X.prog X.w) s1.heap.objs.size (fun j => decide (j ∈ ys)) ys.length → (∀ b o, s1.heap.get? b = some o → h'.get? b = some o) →
      wpAny (model X.prog X.w) X.A (spliced (backTo pos (starEach [] X.env))) (fun vs s₂ => wpAny (model X.prog X.w) X.A (PySem.call (.builtin "len") (Value.ref s1.heap.objs.size :: vs)) (EP X pins σ Q) X.xe s₂) X.xe { s1 with heap := h', toks := tk } := fun h' tk hS hk => by
    (refine PyProof.Rows.args_nil ?_); obtain ⟨o, es, ep, t, ho, hex, hd, _, _, _, hf, hn⟩ := hS
    (have I2 : Inv X pins σ H1 { s1 with heap := h', toks := tk } := I1.kept hk); refine call_len_set ho hex hd hf (by rw [hn] <;> omega) ⟨.int ys.length, H1, I2.tok _, ⟨_, by rw [hn]⟩, q1⟩
  have hb : ys.length + 1 < scanBound := by unfold scanBound; omega
  rcases hq with hq | hq
  · obtain ⟨its, r, pl, hz⟩ := I1.list hq
    exact set_strs (b := true) ys (I1.ok.hd hc) pl.isList (by simpa using hsr r) nd hb fin
  · obtain ⟨its, r, pl, hz⟩ := I1.tuple hq
    exact set_strs (b := false) ys (I1.ok.hd hc) (show s1.heap.IsTuple l its.toArray from pl) (by simpa using hsr r) nd hb fin
theorem lenSet (hg : Gl X "len") (hm : X.mg "len" = none) (hg2 : Gl X "set") (hm2 : X.mg "set" = none) (ha : SimE X C a m) (hc : X.calm = true := by rfl) (na : starEach [a] X.env = (false, eval a X.env) :: starEach [] X.env := by rfl) :
    SimE X C (.Call (.Name "len" p) [.Call (.Name "set" p2) [a] [] q] [] pos) (eU gLenSet m) :=
  (pe_lenSetS hc hg hm hg2 hm2 ha na).wk fun σ H Q h => by
    obtain ⟨α, env, st, r, st', hE, hS, hm, k⟩ := to1 h
    refine ⟨α, env, st, r, st', hE, hS, hm, fun v α1 H1 X1 S1 R1 => ?_⟩
    obtain ⟨α2, own, s2, rx, r2, s3, hx, hS2, hm2, k2⟩ := k v α1 H1 X1 S1 R1
    obtain ⟨ds, s4, e4, hm3⟩ := bind_run hm2
    obtain ⟨ys, s5, e5, hm4⟩ := bind_run hm3
    obtain ⟨rfl, l, xs, rfl, h1, h2⟩ := asSeq_ok hx hS2 e4
    obtain ⟨e6, rfl⟩ := ofO_inv e5
    rw [allStrs_eq e6] at h2
    rw [h2.strs] at h1
    split at hm4
    · rename_i hc
      obtain ⟨rfl, rfl⟩ := pure_inv hm4
      exact ⟨l, ys, rfl, h1, hc.1, hc.2, endV k2 hS2 (.int _)⟩
    · cases hm4
/-! ### d != {}, d == {} -/
def gNeEmp : R → M R := fun r st => match dicAt r st with
  | some (_, kvs) => some (.v (.bl (!kvs.isEmpty)), st)
  | none => none
def gEqEmp : R → M R := fun r st => match dicAt r st with
  | some (_, kvs) => some (.v (.bl kvs.isEmpty), st)
  | none => none
theorem rel_emp {kvs : List (Key × V)} {vs : List (Key × Value)} (r : KV kvs vs) : (vs.length == 0) = kvs.isEmpty := by
  have := r.length
  cases kvs with
  | nil => cases vs with
    | nil => rfl
    | cons _ _ => cases this
  | cons _ _ => cases vs with
    | nil => cases this
    | cons _ _ => rfl
def rEmp (neg : Bool) : R2 := fun x y H Q => ∃ a b ks, x = .ref a ∧ y = .ref b ∧ H a = some (.dK ks) ∧ H b = some (.dK []) ∧ Q (.bl (if neg = true then !ks.isEmpty else ks.isEmpty)) H
theorem op_emp {n : Nat} (hr : Room n X.A) (neg : Bool) : OpR X (compareOp (if neg = true then .NotEq else .Eq)) (rEmp neg) := by
  have hu : X.A.units < cLine := by have := hr.units; omega
  (intro pins s σ H x y v u Q I rx ry h); obtain ⟨a, b, ks, rfl, rfl, ea, eb, q⟩ := h
  (obtain rfl : v = Value.ref a := rx); obtain rfl : u = Value.ref b := ry
  (obtain ⟨_, ya, va, ra, da⟩ := (show ObjOk X.prog X.w H s.heap a (.dK ks) from I.hok a _ ea)); obtain ⟨_, yb, vb, rb, db⟩ := (show ObjOk X.prog X.w H s.heap b (.dK []) from I.hok b _ eb)
  have hl : vb = [] := List.eq_nil_of_length_eq_zero rb.length.symm
  subst hl
  have e := rel_emp ra
  have hits : va.length = ([] : List (Key × Value)).length → PySem.W.KeqHits X.A.in1 s [] va true := fun hz => by
    obtain rfl := List.eq_nil_of_length_eq_zero hz
    exact .nil
  cases neg with
  | true => exact PySem.W.keq_ne (knd := mixKind X.prog X.w) (r := true) ya yb da db hu hits (fin_bl I q (by rw [← e]; simp))
  | false => exact PySem.W.keq_eq (knd := mixKind X.prog X.w) (r := true) ya yb da db hu hits (fin_bl I q (by rw [← e]; simp))
theorem to_emp {G : Kx} {neg : Bool} {σ : St} {H : Hp} {Q : VK} (h : tE G (eU (if neg = true then gNeEmp else gEqEmp) m) σ H Q) : tOp (rEmp neg) (tE G m) tDNewK σ H Q := by
    obtain ⟨α, env, st, r, st', hE, hS, hm, k⟩ := to1 h
    refine ⟨α, env, st, r, st', hE, hS, hm, fun v α1 H1 X1 S1 R1 => ?_⟩
    obtain ⟨α2, own, s2, rx, r2, s3, hx, hS2, hm2, k2⟩ := k v α1 H1 X1 S1 R1
    intro q hq
    have XN : Ext Non α2 H1 α2 (upd H1 q (.dK [])) := Ext.new hq
    have SN := hS2.new (u := .dK []) hq
    cases neg with
    | true =>
      have hm2 : gNeEmp rx s2 = some (r2, s3) := hm2
      unfold gNeEmp at hm2
      replace hm2 := hm2
      split at hm2
      · rename_i z e1
        cases hm2
        obtain ⟨rfl, q3, c, ks, rfl, g1, g2, g3⟩ := dicAt_ok hx hS2 e1
        refine ⟨c, q, ks, rfl, rfl, by rw [upd_ne (ne_of_none g2 hq)]; exact g2, upd_same, ?_⟩
        have e2 : ks.isEmpty = z.isEmpty := by
          have := g3.length
          cases ks <;> cases hz : z <;> first | rfl | (rw [hz] at this; cases this)
        rw [if_pos rfl, e2]
        exact k2 _ α2 _ XN SN (.bl _)
      · cases hm2
    | false =>
      have hm2 : gEqEmp rx s2 = some (r2, s3) := hm2
      unfold gEqEmp at hm2
      replace hm2 := hm2
      split at hm2
      · rename_i z e1
        cases hm2
        obtain ⟨rfl, q3, c, ks, rfl, g1, g2, g3⟩ := dicAt_ok hx hS2 e1
        refine ⟨c, q, ks, rfl, rfl, by rw [upd_ne (ne_of_none g2 hq)]; exact g2, upd_same, ?_⟩
        have e2 : ks.isEmpty = z.isEmpty := by
          have := g3.length
          cases ks <;> cases hz : z <;> first | rfl | (rw [hz] at this; cases this)
        rw [if_neg (by decide), e2]
        exact k2 _ α2 _ XN SN (.bl _)
      · cases hm2
theorem cmp_emp {n : Nat} {neg : Bool} {dp : Pos} (hr : Room n X.A) (ha : SimE X C a m) (hm : behindInMarks (if neg = true then .NotEq else .Eq) (.Dict [] [] dp) = false) :
    SimE X C (.Compare a [if neg = true then .NotEq else .Eq] [.Dict [] [] dp] pos) (eU (if neg = true then gNeEmp else gEqEmp) m) :=
  (pe_cmpR (op_emp hr neg) ha pe_dnewK hm).wk fun _ _ _ h => to_emp h
theorem t_emp {n : Nat} {neg : Bool} {dp : Pos} (hr : Room n X.A) (ha : SimE X C a m) (hm : behindInMarks (if neg = true then .NotEq else .Eq) (.Dict [] [] dp) = false) :
    SimT X C (.Compare a [if neg = true then .NotEq else .Eq] [.Dict [] [] dp] pos) (tBl (eU (if neg = true then gNeEmp else gEqEmp) m)) :=
  (pt_cmpR (op_emp hr neg) ha pe_dnewK hm).wk fun σ H Q h => by
    obtain ⟨α, env, st, r, st', hE, hS, hm, k⟩ := h
    obtain ⟨ra, s1, e1, e2⟩ := bind_run hm
    refine to_emp ⟨α, env, st, ra, s1, hE, hS, e1, fun v α1 H1 X1 S1 R1 => ?_⟩
    unfold isBl at e2
    split at e2
    · cases R1
      obtain ⟨rfl, rfl⟩ := pure_inv e2
      exact ⟨_, rfl, k α1 H1 X1 S1⟩
    · cases e2
/-! ### the signs of a text -/
def asSig : R → M Itm
  | .v (.str z) => pure ⟨z.cps.toList.map fun c => .str ⟨#[c]⟩, fun _ => True⟩
  | _ => M.fail
def mSig (m : Env → M R) : Env → M Itm := fun env => m env >>= asSig
theorem itOk_str {G : Kx} (z : Str) : ItOk G (Its z) ⟨z.cps.toList.map fun c => .str ⟨#[c]⟩, fun _ => True⟩ (fun _ _ => True) (fun _ => False) where
  go := fun α i H _ hi => by
    show i < z.cps.size
    simpa using hi
  stop := fun α i H _ hi => by
    show z.cps.size ≤ i
    simpa using hi
  yld := fun α i H x H' _ hi ⟨e, c, hc, ex⟩ => by
    subst e ex
    refine ⟨.inl rfl, .str ⟨#[c]⟩, ?_, .str _⟩
    rw [List.getElem?_map, Array.getElem?_toList, hc]
    rfl
  keep := fun _ _ _ _ _ _ _ _ _ _ _ => trivial
theorem i_sig (he : SimE X C e m) : SimI X C tg e (mSig m) := PI.wk (pi_str he) fun σ H R h => by
  obtain ⟨α, env, st, it, st', hE, hS, hm, k⟩ := h
  obtain ⟨r, s1, e1, hm1⟩ := bind_run hm
  refine ⟨α, env, st, r, s1, hE, hS, e1, fun v α1 H1 X1 S1 R1 => ?_⟩
  unfold asSig at hm1
  split at hm1
  · rename_i z
    obtain ⟨rfl, rfl⟩ := pure_inv hm1
    cases R1
    exact ⟨z, rfl, k α1 H1 _ _ _ X1 S1 (itOk_str z) trivial fun _ w => w.elim⟩
  · exact nomatch (show (none : Option (Itm × Sto)) = some (it, st') from hm1)
/-! ### isinstance of an own class -/
def gIsC (c : Nat) : R → M R
  | .v (.obj n) => fun st => match st[n]? with
    | some (.ins c' _) => if c' = c then some (.v (.bl true), st) else none
    | _ => none
  | _ => M.fail
/-- what isinstance asks of an own class -/
structure IsiOk (K : PySem.W.Frag) (C : Addr) : Prop where
  cl : Cls K C
  (ha : PySem.W.findIn K (.ref C) "__class__" = some (some (.builtin "object.__class__"))) (hn : PySem.W.specialIn K (.builtin "object.__class__") "__get__" = some (some (.builtin "getset_descriptor.__get__")))
  tk : PySem.W.takesIn K (.builtin "object.__class__") = some true
  mr : PySem.W.mroIn K C (.type "object") = some true
theorem isC {Cc : Addr} {c : Nat} (hg : Gl X "isinstance") (hm : X.mg "isinstance" = none) (hg2 : Gl X x) (hm2 : X.mg x = some (.ref Cc)) (hI : IsiOk X.K Cc) (hC : C[c]? = some Cc) (he : SimE X C e m) (hdb : (x == ("__debug__" : Str)) = false := by decide)
    (h1 : starEach [e, .Name x p2] X.env = (false, eval e X.env) :: starEach [.Name x p2] X.env := by rfl) (h2 : starEach [.Name x p2] X.env = (false, eval (.Name x p2) X.env) :: starEach [] X.env := by rfl)
    (hpl : (backTo pos (starEach [.Name x p2] X.env)).any (·.1) = false := by rfl) : SimE X C (.Call (.Name "isinstance" p) [e, .Name x p2] [] pos) (eU (gIsC c) m) := by
  refine (pe_callB call_isi hg hm PyProof.Rows.boot_isinstance (pa_cons he (pa_cons (pe_glob (v := .ref Cc) hg2 hm2 rfl hdb) pa_nil h2) h1) (by decide) (by decide) h1 hpl).wk fun σ H Q h => ?_
  obtain ⟨α, env, st, r, st', hE, hS, hm, k⟩ := to1 h
  refine ⟨α, env, st, r, st', hE, hS, hm, fun v α1 H1 X1 S1 R1 => ?_⟩
  obtain ⟨α2, own, s2, rx, r2, s3, hx, hS2, hm2, k2⟩ := k v α1 H1 X1 S1 R1
  unfold gIsC at hm2
  split at hm2
  · rename_i n
    replace hm2 := hm2
    split at hm2
    · rename_i c' fs e
      split at hm2
      · rename_i hc
        subst hc
        cases hm2
        obtain ⟨a, C', dx, vs, rfl, g1, g2, g3, g4⟩ := ins_at hS2 hx e
        rw [show (gx X C).cls[c']? = C[c']? from rfl, hC] at g2
        cases g2
        exact ⟨.ref a, .ref Cc, .ref Cc, .ref Cc, true, rfl, .own Cc, .base (.ins g3 hI.cl hI.ha hI.hn hI.tk hI.mr), if_pos (beq_self_eq_true _), k2 _ α2 H1 Ext.rfl' hS2 (.bl true)⟩
      · cases hm2
    · cases hm2
  · cases (show (none : Option (R × Sto)) = some _ from hm2)
end
end Mi
set_option maxHeartbeats 2000000
/-! Mj: what the head tells: defs, methods, properties' getters, classes, names; by one Hook. -/
namespace Mi
open PySem PySem.Spec PyProof.Rows L2
theorem prop_of {C f : Str} {K : PySem.W.Frag} (h : propB C f K = true) : PropOf K (He.ga K C) f (ppA K C f) (pgA K C f) := by
  unfold propB at h
  rw [Bool.and_eq_true, Bool.and_eq_true, Bool.and_eq_true] at h
  obtain ⟨h1, h2, h3, h4⟩ := h
  refine ⟨of_decide_eq_true h1, of_decide_eq_true h2, of_decide_eq_true h3, ?_⟩
  unfold pgA
  split at h4
  · rename_i g rest e
    rw [e]
    exact ⟨rest, rfl⟩
  · cases h4
theorem isi_of {C : Str} {K : PySem.W.Frag} (h : isiB C K = true) : IsiOk K (He.ga K C) := by
  unfold isiB at h
  rw [Bool.and_eq_true, Bool.and_eq_true, Bool.and_eq_true, Bool.and_eq_true] at h
  obtain ⟨h0, h1, h2, h3, h4⟩ := h
  exact ⟨He.cls_ok h0, of_decide_eq_true h1, of_decide_eq_true h2, of_decide_eq_true h3, of_decide_eq_true h4⟩
theorem DefM.funD {K : PySem.W.Frag} {d : DefM} (e : fnA K (d.at_ K) = d.val) (c : d.ok K = true) : ∃ fd, FunD K d.name d.qual d.params d.body d.scope [] [] (d.at_ K) fd := by
  obtain ⟨kp, c2⟩ := He.ba c
  (unfold fnA at e); cases q : K.lookup (d.at_ K) with
  | none => rw [q] at c2; cases c2
  | some o =>
    obtain ⟨oc, od, dt, osl⟩ := o
    rw [q] at c2 e
    cases dt with
    | func fd =>
      (obtain ⟨n1, n2, n3, n4, n5, n6, n7, n8, n9, n10, n11, n12, n13, n14, n15⟩ := fd); have e2 : (some (n1, n2, n3, n4, n5, n6, n7, n15) : He.FnW) = some (d.name, d.qual, d.params, .stmts d.body, d.scope, mainGlobals, [], builtinsNs) := e
      (simp only [Option.some.injEq, Prod.mk.injEq] at e2); obtain ⟨h1, h2, h3, h4, h5, h6, h7, h8⟩ := e2
      subst h1 h2 h3 h4 h5 h6 h7 h8
      have c3 : (PySem.W.codeIn K n13 d.qual && (He.dflB K n8 [] && He.kwdB K n9 [])) = true := c2
      obtain ⟨k1, k2⟩ := He.ba c3
      (obtain ⟨k3, k4⟩ := He.ba k2); exact ⟨_, ⟨oc, od, n8, n9, n10, n11, n12, n13, n14, osl, rfl, q, k1, He.dflB_ok k3, He.kwdB_ok k4⟩, kp⟩
    | _ => cases c2
section
variable {ex : List Ex} {fn : List DefM} {K : PySem.W.Frag}
theorem SaysM.fact (c : SaysM ex fn K) (i : Nat) {f : Ex} (h : ex[i]? = some f := by rfl) : f K = true :=
  List.all_eq_true.mp (He.ba (show ((ex.all fun f => f K) && fn.all fun d => d.ok K) = true from congrArg (fun z : He.AlD => z.1) c)).1 f (List.mem_of_getElem? h)
theorem SaysM.def_ (c : SaysM ex fn K) (i : Nat) {d : DefM} (h : fn[i]? = some d := by rfl) : ∃ fd, FunD K d.name d.qual d.params d.body d.scope [] [] (d.at_ K) fd := by
  have c2 := (He.ba (show ((ex.all fun f => f K) && fn.all fun d => d.ok K) = true from congrArg (fun z : He.AlD => z.1) c)).2
  have e2 : (fn.map fun d => fnA K (d.at_ K))[i]? = (fn.map DefM.val)[i]? := by rw [show fn.map (fun d => fnA K (d.at_ K)) = fn.map DefM.val from congrArg (fun z : He.AlD => z.2) c]
  (rw [List.getElem?_map, List.getElem?_map, h] at e2); exact DefM.funD (Option.some.inj e2) (List.all_eq_true.mp c2 d (List.mem_of_getElem? h))
end
/-! ### a method's def -/
theorem okA {P : Program} {w : World} {K : PySem.W.Frag} {mg : Str → Option Value} {base : Heap} {C : List Addr} {f : Addr} {x q : Str} {st : Stmt} {N ps : List Str} {k n : Nat} {mb : Env → M Fl}
    (D : ∃ fd, FunD K x q (defArgs st) (defBody st) (defScope st) [] [] f fd) (S : FnScope N ps (defScope st)) (hn : N.length = ps.length + n)
    (hb : ∀ (kV doc pm : Value) (an : Option Addr) (cdv ct : Value) (us : List Value), us.length = ps.length → bindArgs (PySem.W.fnOf x q (defArgs st) (defBody st) (defScope st) .none kV doc pm an cdv ct) ⟨us, []⟩ = pure (ps.zip us))
    (h : ∀ (cdv : Value) (A : Around) (outer : List PySem.Env) (s : Shared) (H : Hp) (E : XK), Room k (A.deeper (envOfC q (defScope st) s.heap.objs.size f cdv)) → SimSs (cxOf L2.CX0 P w K mg base N q (defScope st) f cdv A outer s H E).nox C (defBody st) mb) :
    OkA P w K mg base C f (k + 1) ps (runFn n mb) := by
  obtain ⟨fd, F⟩ := D
  refine ⟨fd, F.ok S (fun vs H Q E h => h.1) fun cdv A outer s H vs Q E hr hs => ?_, F.bindsN hb⟩
  obtain ⟨t, h1, h2⟩ := body_of (X := (cxOf L2.CX0 P w K mg base N q (defScope st) f cdv A outer s H E).nox) hn (h cdv A outer s H E hr) hs
  exact ⟨t, h1.nox, h2⟩
/-! ### tuples of the module -/
theorem globT {X : Cx} {C : List Addr} {x : Str} {ds : List D} {pos : Pos} {vs : List V} {a : Addr} (h : X.mg x = some (.ref a)) (ht : ∀ H, SqT X.K H a vs) (hr : ∀ H α, RepL (gx X C) H α vs ds) (hg : Gl X x := by rfl) (hd : (x == ("__debug__" : Str)) = false := by decide) :
    SimE X C (.Name x pos) (eC (.tup ds)) := glob (v := .ref a) hg h rfl (fun H α => .tup (ht H) (hr H α)) hd
end Mi
/-! Mi: x[i] = v, list(range(..)), sorted(set(..)). -/
namespace Mi
open PySem PySem.Spec PyProof.Rows L2

/-! ### x[i] = v, x a list with a number -/
def gItem (mo mi : Env → M R) : Tg := fun d env => mo env >>= fun o => lstNo o >>= fun n => mi env >>= fun i => match i with
  | .v (.int k) => fun st => match stAt n st with
    | some ds => match ixN ds.length k with
      | some j => some (env, st.set n (.lst (ds.set j d)))
      | none => none
    | none => none
  | _ => M.fail
section
variable {X : Cx} {C : List Addr} {o i : Expr} {mo mi : Env → M R} {pos : Pos}
theorem g_item (ho : SimE X C o mo) (hi : SimE X C i mi) (ha : ∀ v, assign (.Subscript o i pos) X.env v = (do
      let ov ← holding [v] (eval o X.env); let iv ← holding [v, ov] (eval i X.env)
      standAt pos
      (holding [v, ov, iv] (setItem ov iv v)); release [v, ov, iv] []) := by intro _; rfl) : SimG X C (.Subscript o i pos) [] (gItem mo mi) :=
  PG.wk (pg_sub ho hi set_list ha) fun v σ H Q h => by
    obtain ⟨α, env, d, st, env', st', hE, hS, hd, hm, k⟩ := h
    obtain ⟨ro, s1, e1, hm1⟩ := bind_run hm
    obtain ⟨n, s2, e2, hm2⟩ := bind_run hm1
    obtain ⟨ri, s3, e3, hm3⟩ := bind_run hm2
    refine ⟨α, env, st, ro, s1, hE, hS, e1, fun vo α1 H1 X1 S1 R1 => ?_⟩
    obtain ⟨rfl, a, xs1, rfl, hα, ha1⟩ := lstNo_ok R1 S1 e2
    refine ⟨α1, env, _, ri, s3, hE.ext X1, S1, e3, fun vi α2 H2 X2 S2 R2 => ?_⟩
    cases ri with
    | v dk =>
      cases dk with
      | int ki =>
        cases R2
        have hm4 : (match stAt n s3 with
          | some ds => match ixN ds.length ki with
            | some j => some (env, s3.set n (.lst (ds.set j d)))
            | none => none
          | none => none) = some (env', st') := hm3
        split at hm4
        · rename_i ds q1
          have q2 := stAt_ok q1
          split at hm4
          · rename_i j q3
            injection hm4 with hm4
            injection hm4 with z1 z2
            subst z1 z2
            obtain ⟨xs, h1, h2⟩ := S2.obj n _ _ q2 (X2.pre0 hα)
            have hin : a ∈ α2 := List.mem_of_getElem? (X2.pre0 hα)
            refine ⟨a, xs, ki, j, rfl, rfl, h1, by rw [h2.length]; exact q3, ?_⟩
            have X3 : Ext Non α2 H2 α2 (upd H2 a (.lst (xs.set j v))) := Ext.upd1 h1 (fun _ e => nomatch e) (fun _ _ e => nomatch e) (.inl hin)
            have X12 := (X1.trans0 X2)
            exact k σ α2 _ (X12.trans0 X3) (S2.updObj q2 (X2.pre0 hα) h1 (RepL.set (Rep.ext X12 hd) j h2)) (hE.ext (X12.trans0 X3)) (fun a h => .inl h) Alike.refl
          · cases hm4
        · cases hm4
      | _ => exact nomatch (show (none : Option (Env × Sto)) = some (env', st') from hm3)
    | _ => exact nomatch (show (none : Option (Env × Sto)) = some (env', st') from hm3)
end

/-! ### list(range(..)) -/
def rgD (i j : Int) : List D := (List.range (j - i).toNat).map fun k => .int (i + (k : Nat))
def rgIn (i j : Int) : Bool := decide (-4611686018427387904 ≤ i) && decide (i < 4611686018427387904) && decide (-4611686018427387904 ≤ j) && decide (j < 4611686018427387904) && decide ((j - i).toNat ≤ 16777216)
def eLR (i j : Int) : M R := if rgIn i j = true then pure (.l (.lst (rgD i j))) else M.fail
def eLR1 (ma : Env → M R) : Env → M R := fun env => ma env >>= fun a => match a with
  | .v (.int n) => eLR 0 n
  | _ => M.fail
def eLR2 (ma mb : Env → M R) : Env → M R := fun env => ma env >>= fun a => mb env >>= fun b => match a, b with
  | .v (.int i), .v (.int j) => eLR i j
  | _, _ => M.fail
section
variable {X : Cx} {C : List Addr} {a b : Expr} {ma mb : Env → M R} {p p2 q pos : Pos}
theorem rgIn_ok {i j : Int} (h : rgIn i j = true) : RgOk i j := by
  unfold rgIn at h
  (simp only [Bool.and_eq_true, decide_eq_true_eq] at h); exact ⟨h.1.1.1.1, h.1.1.1.2, h.1.1.2, h.1.2, h.2⟩
theorem rgV_rep {G : Kx} {H : Hp} {α : List Addr} {i j : Int} : RepL G H α (rgV i j) (rgD i j) := by
  unfold rgV rgD
  generalize List.range (j - i).toNat = l
  induction l with
  | nil => exact .nil
  | cons x l ih => exact .cons (.int _) ih
theorem listR1 (hg : Gl X "list") (hm : X.mg "list" = none) (hg2 : Gl X "range") (hm2 : X.mg "range" = none) (ha : SimE X C a ma) (hc : X.calm = true := by rfl)
    (na : starEach [a] X.env = (false, eval a X.env) :: starEach [] X.env := by rfl) (nb : starEach [.Call (.Name "range" p2) [a] [] q] X.env = (false, eval (.Call (.Name "range" p2) [a] [] q) X.env) :: starEach [] X.env := by rfl) :
    SimE X C (.Call (.Name "list" p) [.Call (.Name "range" p2) [a] [] q] [] pos) (eLR1 ma) :=
  (pe_listRg hc hg hm (prg_1 hg2 hm2 ha na) nb).wk fun σ H Q h => by
    obtain ⟨α, env, st, r, st', hE, hS, hm, k⟩ := h
    obtain ⟨ra, s1, e1, hm1⟩ := bind_run hm
    refine ⟨α, env, st, ra, s1, hE, hS, e1, fun v α1 H1 X1 S1 R1 => ?_⟩
    split at hm1
    · rename_i n
      cases R1
      unfold eLR at hm1
      split at hm1
      · rename_i hc
        obtain ⟨rfl, rfl⟩ := pure_inv hm1
        refine ⟨n, rfl, rgIn_ok hc, fun p hp => endL (fun v α2 H2 X2 S2 R2 => k v α2 H2 (X1.trans0 X2) S2 (R2.mono fun a h => X1.dom _ h)) S1 hp rgV_rep⟩
      · cases hm1
    · cases hm1
theorem listR2 (hg : Gl X "list") (hm : X.mg "list" = none) (hg2 : Gl X "range") (hm2 : X.mg "range" = none) (ha : SimE X C a ma) (hb : SimE X C b mb) (hc : X.calm = true := by rfl)
    (na : starEach [a, b] X.env = (false, eval a X.env) :: starEach [b] X.env := by rfl) (nb : starEach [b] X.env = (false, eval b X.env) :: starEach [] X.env := by rfl) (hp : (backTo q (starEach [b] X.env)).any (·.1) = false := by rfl)
    (nc : starEach [.Call (.Name "range" p2) [a, b] [] q] X.env = (false, eval (.Call (.Name "range" p2) [a, b] [] q) X.env) :: starEach [] X.env := by rfl) :
    SimE X C (.Call (.Name "list" p) [.Call (.Name "range" p2) [a, b] [] q] [] pos) (eLR2 ma mb) :=
  (pe_listRg hc hg hm (prg_2 hg2 hm2 ha hb na nb hp) nc).wk fun σ H Q h => by
    obtain ⟨α, env, st, r, st', hE, hS, hm, k⟩ := h
    obtain ⟨ra, s1, e1, hm1⟩ := bind_run hm
    obtain ⟨rb, s2, e2, hm2⟩ := bind_run hm1
    refine ⟨α, env, st, ra, s1, hE, hS, e1, fun v α1 H1 X1 S1 R1 => ⟨α1, env, _, rb, s2, hE.ext X1, S1, e2, fun w α2 H2 X2 S2 R2 => ?_⟩⟩
    split at hm2
    · rename_i i j
      cases R1
      cases R2
      unfold eLR at hm2
      split at hm2
      · rename_i hc
        obtain ⟨rfl, rfl⟩ := pure_inv hm2
        refine ⟨i, j, rfl, rfl, rgIn_ok hc, fun p hp => endL (fun v α3 H3 X3 S3 R3 => k v α3 H3 ((X1.trans0 X2).trans0 X3) S3 (R3.mono fun a h => (X1.trans0 X2).dom _ h)) S2 hp rgV_rep⟩
      · cases hm2
    · cases hm2
end

/-! ### sorted(set(xs)), xs a list of ints -/
section
variable {P : Program} {w : World} {A : Around} {E : Value → Shared → Prop} {s : Shared}
/-- the bare set that set(..) makes first -/
abbrev bareSet (w : World) : Obj := { cls := .type "set", dict := none, data := .set #[] 0 (.fresh 0 0 (!w.params.followText "set-order")) }
set_option maxHeartbeats 3200000 in
theorem set_of_list {l : Addr} {items : Array Value} (ns : List Int) {Q : Value → Shared → Prop} (hh : A.handled = none) (hl : s.heap.IsList l items) (hit : IntsAre items.toList ns) (hb : ns.length + 1 < scanBound) (h : ∀ (h' : Heap) (tk c : Nat), SetR w h' s.heap.objs.size (fun j => decide (j ∈ ns)) c → c ≤ ns.length → (∀ b o, s.heap.get? b = some o → h'.get? b = some o) → Q (.ref s.heap.objs.size) { s with heap := h', toks := tk }) :
    wpAny (model P w) A (PySem.call (.type "set") [.ref l]) Q E s := by
  have size : items.size = ns.length := (Array.length_toList).symm.trans (IntsAre.length hit)
  obtain ⟨mc, mt, hmro⟩ := F.called_set.mro
  (have hmade := F.called_set.made); have hsub := F.called_set.sub
  (refine wpAny_call (codeAny_of_tree ?_)); show wpAny _ _ (callAny (.type "set") _) _ _ _
  (refine wpAny_pure ⟨Code.quiet_builtin _ (by decide +kernel), codeAny_builtin F.entry_type_call ?_⟩); rw [Around.under_plain (weight_type_call_type "set" [.ref l] []) rfl]
  (have h1 := F.called_set.notType); have h2 := F.called_set.canCreate
  (have hct := F.typeCall_set_1 (.ref l)); repeat (any_goals (first | assumption | wp_step))
  refine codeAny_mono (code_set_led1 (.ref l) (E := E) (Q₁ := fun obj s₁ => obj = .ref s.heap.objs.size ∧ s₁ = { s with heap := s.heap.push (bareSet w) }) ⟨rfl, rfl⟩) fun r s₁ hr => ?_
  rcases r with e | fl
  · exact hr
  cases fl with
  | ret obj =>
    obtain ⟨rfl, rfl⟩ := hr
    have atS : (s.heap.push (bareSet w)).get? s.heap.objs.size = some (bareSet w) := Heap.get?_push_size _ rfl
    have hT : Shared.TypeIs { s with heap := s.heap.push (bareSet w) } (.ref s.heap.objs.size) "set" := ⟨_, atS, rfl⟩
    (have hli := F.called_set.init.lookup); have hbi := F.called_set.init.bind (.ref s.heap.objs.size)
    (repeat (any_goals (first | assumption | wp_step))); refine codeAny_mono (codeAny_call_builtin (R := wants (fun r s₂ => r = .none ∧ ∃ h' tk c, s₂ = { s with heap := h', toks := tk } ∧ SetR w h' s.heap.objs.size (fun j => decide (j ∈ ns)) c ∧ c ≤ ns.length ∧
        (∀ b o, s.heap.get? b = some o → h'.get? b = some o)) E) F.called_set.init.plain F.entry_set_init (check_set_init_1 hT ?_)) fun r₂ s₂ hr₂ => ?_
    · obtain ⟨ol, hol, hcl, nl, hdl⟩ := hl
      (obtain ⟨ocls, odict, odata, oslots⟩ := ol); simp only at hcl hdl
      subst hcl hdl
      have hol' : (s.heap.push (bareSet w)).get? l = some { cls := .type "list", dict := odict, data := .seq items nl, slots := oslots } := Heap.get?_push_of_some _ hol
      have hsls := F.sub_list_set
      (have hslf := F.sub_list_frozenset); have hne : (Value.type "list" == Value.type "dict") = false := by decide
      have hl1 : (s.heap.push (bareSet w)).IsList l items := ⟨_, hol', rfl, nl, rfl⟩
      (unfold Builtin.«set.__init__» noKeywords Builtin.Frozenset.updateFrom); generalize hPI : pyIter = PI
      wp_walk
      subst hPI
      (refine wpAny_pyIter_list hl1 ?_); refine wpAny_bind (wpAny_runValue ?_)
      (have hlS : l < s.heap.objs.size := Heap.lt_size hol); have hh3 : A.in1.in1.in1.handled = none := by simp [hh]
      have hneI : l ≠ (s.heap.push (bareSet w)).objs.size := by
        rw [Heap.size_push]; exact Nat.ne_of_lt (Nat.lt_succ_of_lt hlS)
      have hSf : s.heap.objs.size ∉ [(s.heap.push (bareSet w)).objs.size, l] := by
        (rw [Heap.size_push]; simp only [List.mem_cons, List.not_mem_nil, or_false, not_or]); exact ⟨Nat.ne_of_lt (Nat.lt_succ_self _), Nat.ne_of_gt hlS⟩
      have hval : ∀ (i : Nat) (v : Value), items[i]? = some v → ∃ k t, ns[i]? = some k ∧ v = .int k t := fun i v hv => by
        have hi : i < ns.length := by rw [← size]; exact (Array.getElem?_eq_some_iff.mp hv).1
        obtain ⟨t, e⟩ := IntsAre.int_at hit i v (by rw [Array.getElem?_toList]; exact hv)
        (refine ⟨ns[i], t, List.getElem?_eq_getElem hi, ?_⟩); rw [e, List.getD_eq_getElem?_getD, List.getElem?_eq_getElem hi] <;> rfl
      refine set_update_ints ((Walks.list hh3 _ l hneI items).toS) s.heap.objs.size hSf ns size hb hval (items.size - 0) 0 _ (by omega) (Nat.zero_le _)
        ⟨⟨_, Heap.get?_push_size _ rfl, rfl, rfl⟩, (hl1.push _)⟩ ?start ?stop
      case start => exact ⟨0, Nat.le_refl 0, setR_new_at (Heap.get?_push_of_some _ atS)⟩
      case stop =>
        intro s' c' hm hc' hS'
        (obtain ⟨h', g2, d', tk', os'⟩ := s'); obtain rfl : g2 = s.gens := hm.gens
        obtain rfl : d' = s.drawn := hm.drawn
        obtain rfl : os' = s.os := hm.os
        show wpAny _ _ _ _ _ _
        refine wpAny_pure ?_
        (show wpAny _ _ (ret Value.none) _ _ _); rw [size] at hc'
        (refine wpAny_pure ⟨rfl, h', tk', c', rfl, hS', hc', fun b o e => ?_⟩); have hb0 : b < s.heap.objs.size := Heap.lt_size e
        refine hm.heap b o ?_ (Heap.get?_push_of_some _ (Heap.get?_push_of_some _ e))
        rw [Heap.size_push]
        simp only [List.mem_cons, List.not_mem_nil, or_false, not_or]
        exact ⟨Nat.ne_of_lt hb0, Nat.ne_of_lt (Nat.lt_succ_of_lt hb0)⟩
    · rcases r₂ with e | fl₂
      · exact hr₂
      cases fl₂ with
      | ret r =>
        (obtain ⟨rfl, h', tk, c', rfl, hS', hc', hk'⟩ := hr₂); repeat (any_goals (first | assumption | wp_step))
        exact h _ _ _ hS' hc' hk'
      | _ => exact hr₂.elim
  | _ => exact hr.elim
end
/-- the numbers of a list, each once, ascending -/
def sortU (ns : List Int) : List Int := sortI ns.eraseDups
theorem sortI_perm (ns : List Int) : (sortI ns).Perm ns := List.mergeSort_perm _ _
theorem sortI_le (ns : List Int) : (sortI ns).Pairwise (· ≤ ·) := by
  have := List.pairwise_mergeSort (le := fun a b : Int => decide (a ≤ b)) (fun a b c h1 h2 => by simp at *; omega) (fun a b => by simp; omega) ns
  exact this.imp fun h => by simpa using h
theorem mem_sortU {ns : List Int} {k : Int} : k ∈ sortU ns ↔ k ∈ ns := by
  unfold sortU
  rw [(sortI_perm _).mem_iff, List.mem_eraseDups]
theorem nodup_eraseDups : ∀ (n : Nat) (ns : List Int), ns.length ≤ n → ns.eraseDups.Nodup
  | 0, [], _ => by simp
  | _ + 1, [], _ => by simp
  | n + 1, x :: ns, h => by
    rw [List.eraseDups_cons, List.nodup_cons]
    refine ⟨fun z => ?_, nodup_eraseDups n _ (by have := List.length_filter_le (fun b => !b == x) ns; simp at h; omega)⟩
    rw [List.mem_eraseDups] at z
    simp at z
theorem sortU_lt (ns : List Int) : (sortU ns).Pairwise (· < ·) := by
  have h1 := sortI_le ns.eraseDups
  have h2 : (sortI ns.eraseDups).Nodup := (sortI_perm _).nodup_iff.mpr (nodup_eraseDups _ ns (Nat.le_refl _))
  unfold sortU
  exact (h1.and h2).imp fun ⟨a, b⟩ => by omega
theorem up_unique : ∀ {as bs : List Int}, as.Pairwise (· < ·) → bs.Pairwise (· < ·) → (∀ k, k ∈ as ↔ k ∈ bs) → as = bs
  | [], [], _, _, _ => rfl
  | [], b :: bs, _, _, h => absurd ((h b).mpr (by simp)) (by simp)
  | a :: as, [], _, _, h => absurd ((h a).mp (by simp)) (by simp)
  | a :: as, b :: bs, ha, hb, h => by
    have h1 := List.pairwise_cons.mp ha
    have h2 := List.pairwise_cons.mp hb
    have e : a = b := by
      have x1 := (h a).mp (by simp)
      have x2 := (h b).mpr (by simp)
      rcases List.mem_cons.mp x1 with x1 | x1
      · exact x1
      rcases List.mem_cons.mp x2 with x2 | x2
      · exact x2.symm
      have := h1.1 _ x2
      have := h2.1 _ x1
      omega
    subst e
    refine congrArg _ (up_unique h1.2 h2.2 fun k => ?_)
    have hk := h k
    simp only [List.mem_cons] at hk
    constructor
    · intro x
      rcases hk.mp (.inr x) with y | y
      · subst y
        have := h1.1 _ x
        omega
      · exact y
    · intro x
      rcases hk.mpr (.inr x) with y | y
      · subst y
        have := h2.1 _ x
        omega
      · exact y
def gSortSet (r : R) : M R := asLs r >>= fun ds => match allInts ds with
  | some ns => if ns.length < 64 then pure (.l (.lst ((sortU ns).map .int))) else M.fail
  | none => M.fail
section
variable {X : Cx} {C : List Addr} {e : Expr} {m : Env → M R} {p p2 q pos : Pos}
def tSrtSet (w : World) (K : PySem.W.Frag) (tl : TE) : TE := fun σ H Q => tl σ H fun x H1 => ∃ (a : Addr) (ns : List Int), x = .ref a ∧ SqL K H1 a (ns.map L2.V.int) ∧ ns.length < 64 ∧
  ∀ (z r : Addr) (o : HO), H1 z = none → (upd H1 z o) r = none → Q (.ref r) (upd (upd H1 z o) r (.lst ((sortU ns).map L2.V.int)))
theorem ints_are : ∀ {ns : List Int} {us : List Value}, Vals (ns.map L2.V.int) us → IntsAre us ns
  | [], _, .nil => .nil
  | n :: ns, _, .cons r t => by
    obtain ⟨k, rfl⟩ := r
    exact .cons n k (ints_are t)
theorem pe_srtSet {tl : TE} (hg : Gl X "sorted") (hm : X.mg "sorted" = none) (hg2 : Gl X "set") (hm2 : X.mg "set" = none) (he : PE X e tl) (hc : X.calm = true := by rfl)
    (na : starEach [e] X.env = (false, eval e X.env) :: starEach [] X.env := by rfl) : PE X (.Call (.Name "sorted" p) [.Call (.Name "set" p2) [e] [] q] [] pos) (tSrtSet X.w X.K tl) := by
  refine ⟨fun pins s σ H Q I h => ?_⟩
  refine Call_ (ld_blt I hg hm boot_sorted ?_)
  refine callWith_builtin1 (args_cons ?_ rfl) rfl rfl
  (refine Call_ (ld_blt I hg2 hm2 boot_set ?_)); refine callWith_type1 (args_cons (thn (he.run pins s σ H _ I h) fun v s1 ⟨x, H1, I1, r1, q1⟩ => args_nil ?_) na) na rfl
  obtain ⟨l, ns, rfl, hq, h64, q1⟩ := q1
  cases r1
  (obtain ⟨its, r, pl, hz⟩ := I1.list hq); refine set_of_list ns (I1.ok.hd hc) pl.isList (by simpa using ints_are r) (by unfold scanBound; omega) fun h' tk c hS hcn hk => ?_
  refine args_nil ?_
  have hfr : H1 s1.heap.objs.size = none := I1.hok.fresh (Nat.le_refl _)
  have I2 : Inv X pins σ (upd H1 s1.heap.objs.size (SetO X.w s1.heap.objs.size (fun j => decide (j ∈ ns)) c)) { s1 with heap := h', toks := tk } := I1.laid hk (Nat.le_refl _) (setO_new hS)
  refine cr_sortedSet hc pins _ σ _ [.ref s1.heap.objs.size] _ Q I2 (.cons rfl .nil) ⟨_, _, c, rfl, upd_same, by omega, fun ms p h1 h2 h3 hp => ?_⟩
  have e : ms = sortU ns := up_unique h1 (sortU_lt ns) fun k => by rw [h2, mem_sortU]; simp
  subst e
  exact q1 _ _ _ hfr hp
theorem sortSet (hg : Gl X "sorted") (hm : X.mg "sorted" = none) (hg2 : Gl X "set") (hm2 : X.mg "set" = none) (he : SimE X C e m) (hc : X.calm = true := by rfl)
    (na : starEach [e] X.env = (false, eval e X.env) :: starEach [] X.env := by rfl) : SimE X C (.Call (.Name "sorted" p) [.Call (.Name "set" p2) [e] [] q] [] pos) (eU gSortSet m) :=
  (pe_srtSet hg hm hg2 hm2 he hc na).wk fun σ H Q h => by
    obtain ⟨α, env, st, r, st', hE, hS, hm, k⟩ := h
    obtain ⟨rr, s1, e1, hm1⟩ := bind_run hm
    refine ⟨α, env, st, rr, s1, hE, hS, e1, fun v α1 H1 X1 S1 R1 => ?_⟩
    unfold gSortSet at hm1
    obtain ⟨ds, s2, e2, hm2⟩ := bind_run hm1
    obtain ⟨rfl, a, xs, rfl, hq, hl⟩ := asLs_ok R1 S1 e2
    cases e3 : allInts ds with
    | some ns =>
      rw [e3] at hm2
      by_cases hlt : ns.length < 64
      · obtain ⟨rfl, rfl⟩ := pure_inv (show (Pure.pure (R.l (.lst ((sortU ns).map .int))) : M R) _ = _ by
          have hm3 : (if ns.length < 64 then (Pure.pure (R.l (.lst ((sortU ns).map .int))) : M R) else M.fail) _ = some (r, st') := hm2
          rwa [if_pos hlt] at hm3)
        have e4 := allInts_eq e3
        subst e4
        have e5 : xs = ns.map L2.V.int := RepL.ints hl
        subst e5
        refine ⟨a, ns, rfl, hq, hlt, fun z r o hz hr => ?_⟩
        have X2 : Ext Non α1 H1 α1 (upd H1 z o) := Ext.new hz
        exact endL (fun v α3 H3 X3 S3 R3 => k v α3 H3 ((X1.trans0 X2).trans0 X3) S3 (R3.mono fun a h => (X1.trans0 X2).dom _ h)) (S1.new hz) hr (RepL.ofInts _)
      · have hm3 : (if ns.length < 64 then (Pure.pure (R.l (.lst ((sortU ns).map .int))) : M R) else M.fail) _ = some (r, st') := hm2
        rw [if_neg hlt] at hm3
        cases hm3
    | none => rw [e3] at hm2; cases hm2
end
end Mi
/-! Mi: the built-ins' names. -/
namespace Mi
open PySem
theorem bt_len : bootBuiltins "len" = some (.builtin "len") := by decide +kernel
theorem bt_abs : bootBuiltins "abs" = some (.builtin "abs") := by decide +kernel
theorem bt_max : bootBuiltins "max" = some (.builtin "max") := by decide +kernel
theorem bt_min : bootBuiltins "min" = some (.builtin "min") := by decide +kernel
theorem bt_sum : bootBuiltins "sum" = some (.builtin "sum") := by decide +kernel
theorem bt_all : bootBuiltins "all" = some (.builtin "all") := by decide +kernel
theorem bt_any : bootBuiltins "any" = some (.builtin "any") := by decide +kernel
theorem bt_sorted : bootBuiltins "sorted" = some (.builtin "sorted") := by decide +kernel
theorem bt_int : bootBuiltins "int" = some (.type "int") := by decide +kernel
theorem bt_tuple : bootBuiltins "tuple" = some (.type "tuple") := by decide +kernel
theorem bt_list : bootBuiltins "list" = some (.type "list") := by decide +kernel
theorem bt_str : bootBuiltins "str" = some (.type "str") := by decide +kernel
theorem bt_bool : bootBuiltins "bool" = some (.type "bool") := by decide +kernel
theorem bt_dict : bootBuiltins "dict" = some (.type "dict") := by decide +kernel
theorem bt_set : bootBuiltins "set" = some (.type "set") := by decide +kernel
end Mi
/-! Mi: how computations run: rules for simp, no lambda in any right side. -/
namespace Mi
open PySem hiding Env
open PySem.Spec PyProof.Rows
abbrev Rs (α : Type) := Option (α × Sto)
def bo {α β : Type} (o : Rs α) (f : α → Sto → Rs β) : Rs β := match o with
  | some (a, s) => f a s
  | none => none
section
variable {α β : Type} {a : α} {s st : Sto} {f : α → Sto → Rs β}
@[simp] theorem bo_some : bo (some (a, s)) f = f a s := Eq.trans (b := f a s) rfl rfl
@[simp] theorem bo_none : bo (none : Rs α) f = none := Eq.trans rfl rfl
theorem bind_bo (m : M α) (f : α → M β) (s : Sto) : (m >>= f) s = bo (m s) f := by
  show (match m s with | some (a, s') => f a s' | none => none) = _
  cases m s <;> rfl
@[simp] theorem pure_ap : (Pure.pure a : M α) s = some (a, s) := Eq.trans rfl rfl
@[simp] theorem fail_ap : (M.fail : M α) s = none := Eq.trans rfl rfl
@[simp] theorem ofO_some : M.ofO (some a) s = some (a, s) := Eq.trans rfl rfl
@[simp] theorem ofO_none : (M.ofO none : M α) s = none := Eq.trans rfl rfl
@[simp] theorem ite_ap {c : Bool} : M.ite c a s = if c = true then some (a, s) else none := by unfold M.ite; split <;> rfl
end
/-- a plain value is handed on -/
def kD (f : D → Sto → Rs R) : R → Sto → Rs R
  | .v d, s => f d s
  | _, _ => none
section
variable {env e : Env} {st s : Sto} {i n : Nat} {r x y : R} {d : D} {g : R → M R} {g2 g3 : R → R → M R} {ma mb mc : Env → M R} {ms : Env → M (List R)} {t u : Env → M Bool}
@[simp] theorem rdSlot_v : rdSlot (.v d) = .v d := Eq.trans rfl rfl
@[simp] theorem rdSlot_l {o : O} : rdSlot (.l o) = .o o := Eq.trans rfl rfl
@[simp] theorem rdSlot_b {o : O} : rdSlot (.b o) = .b o := Eq.trans rfl rfl
@[simp] theorem toO_v : toO (.v d) = .v d := Eq.trans rfl rfl
@[simp] theorem toO_l {o : O} : toO (.l o) = .l o := Eq.trans rfl rfl
@[simp] theorem toO_o {o : O} : toO (.o o) = .o o := Eq.trans rfl rfl
@[simp] theorem toO_b {o : O} : toO (.b o) = .o o := Eq.trans rfl rfl
@[simp] theorem lend_v : lend (.v d) = .v d := Eq.trans rfl rfl
@[simp] theorem lend_l {o : O} : lend (.l o) = .b o := Eq.trans rfl rfl
@[simp] theorem lend_o {o : O} : lend (.o o) = .b o := Eq.trans rfl rfl
@[simp] theorem lend_b {o : O} : lend (.b o) = .b o := Eq.trans rfl rfl
def vSl : Option (Option R) → Sto → Rs R
  | some (some r), s => some (rdSlot r, s)
  | _, _ => none
@[simp] theorem vSl_s : vSl (some (some r)) s = some (rdSlot r, s) := Eq.trans rfl rfl
@[simp] theorem eVar_ap : eVar i env st = vSl env[i]? st := by
  unfold eVar vSl
  cases env[i]? with
  | none => rfl
  | some o => cases o <;> rfl
@[simp] theorem eC_ap : eC d env st = some (.v d, st) := Eq.trans rfl rfl
@[simp] theorem eU_ap : eU g ma env st = bo (ma env st) g := bind_bo _ _ _
def eOp1 (g : R → R → M R) (mb : Env → M R) (env : Env) (a : R) (s : Sto) : Rs R := bo (mb env s) (g a)
@[simp] theorem eOp_ap : eOp g2 ma mb env st = bo (ma env st) (eOp1 g2 mb env) := bind_bo _ _ _
@[simp] theorem eOp1_ap : eOp1 g2 mb env x s = bo (mb env s) (g2 x) := Eq.trans rfl rfl
/-- two ways by a truth value -/
def two {α : Type} (a b : Env → M α) (env : Env) : Bool → Sto → Rs α
  | true, s => a env s
  | false, s => b env s
@[simp] theorem two_t {α : Type} {a b : Env → M α} : two a b env true s = a env s := Eq.trans rfl rfl
@[simp] theorem two_f {α : Type} {a b : Env → M α} : two a b env false s = b env s := Eq.trans rfl rfl
theorem two_eq {α : Type} (a b : Env → M α) (env : Env) : (fun c => if c = true then a env else b env) = two a b env := by
  funext c s
  cases c <;> rfl
@[simp] theorem eIf_ap : eIf t ma mb env st = bo (t env st) (two ma mb env) := by
  rw [← two_eq]
  exact bind_bo _ _ _
@[simp] theorem isBl_ap {b : Bool} : isBl (.v (.bl b)) s = some (b, s) := Eq.trans rfl rfl
@[simp] theorem tBl_ap : tBl ma env st = bo (ma env st) isBl := bind_bo _ _ _
@[simp] theorem tTr_ap : tTr ma env st = bo (ma env st) truR := bind_bo _ _ _
@[simp] theorem truR_non : truR (.v .non) s = some (false, s) := Eq.trans rfl rfl
@[simp] theorem truR_bl {b : Bool} : truR (.v (.bl b)) s = some (b, s) := Eq.trans rfl rfl
@[simp] theorem truR_int {k : Int} : truR (.v (.int k)) s = some (k != 0, s) := Eq.trans rfl rfl
@[simp] theorem truR_tup {ds : List D} : truR (.v (.tup ds)) s = some (!ds.isEmpty, s) := Eq.trans rfl rfl
@[simp] theorem truR_l {ds : List D} : truR (.l (.lst ds)) s = some (!ds.isEmpty, s) := Eq.trans rfl rfl
@[simp] theorem truR_o {ds : List D} : truR (.o (.lst ds)) s = some (!ds.isEmpty, s) := Eq.trans rfl rfl
@[simp] theorem truR_b {ds : List D} : truR (.b (.lst ds)) s = some (!ds.isEmpty, s) := Eq.trans rfl rfl
@[simp] theorem tAnd2_ap : tAnd2 t u env st = bo (t env st) (two u (fun _ => pure false) env) := by
  rw [← two_eq]
  exact bind_bo _ _ _
@[simp] theorem tOr2_ap : tOr2 t u env st = bo (t env st) (two (fun _ => pure true) u env) := by
  rw [← two_eq]
  exact bind_bo _ _ _
def neg1 (c : Bool) (s : Sto) : Rs Bool := some (!c, s)
@[simp] theorem neg1_ap {c : Bool} : neg1 c s = some (!c, s) := Eq.trans rfl rfl
@[simp] theorem tNot1_ap : tNot1 t env st = bo (t env st) neg1 := bind_bo _ _ _
@[simp] theorem tTrue_ap : tTrue env st = some (true, st) := Eq.trans rfl rfl
def eChain3 (g' : R → R → M R) (mc : Env → M R) (env : Env) (y : R) : Bool → Sto → Rs R
  | true, s => bo (mc env s) (g' y)
  | false, s => some (.v (.bl false), s)
@[simp] theorem eChain3_t : eChain3 g3 mc env y true s = bo (mc env s) (g3 y) := Eq.trans rfl rfl
@[simp] theorem eChain3_f : eChain3 g3 mc env y false s = some (.v (.bl false), s) := Eq.trans rfl rfl
def eChain2 (g g' : R → R → M R) (mc : Env → M R) (env : Env) (x y : R) (s : Sto) : Rs R := bo (bo (g x y s) isBl) (eChain3 g' mc env y)
@[simp] theorem eChain2_ap : eChain2 g2 g3 mc env x y s = bo (bo (g2 x y s) isBl) (eChain3 g3 mc env y) := Eq.trans rfl rfl
def eChain1 (g g' : R → R → M R) (mb mc : Env → M R) (env : Env) (x : R) (s : Sto) : Rs R := bo (mb env s) (eChain2 g g' mc env x)
@[simp] theorem eChain1_ap : eChain1 g2 g3 mb mc env x s = bo (mb env s) (eChain2 g2 g3 mc env x) := Eq.trans rfl rfl
theorem bo_as {α β γ : Type} (o : Rs α) (f : α → Sto → Rs β) (h : β → Sto → Rs γ) : bo o (fun a s => bo (f a s) h) = bo (bo o f) h := by
  cases o <;> rfl
@[simp] theorem eChain_ap : eChain g2 g3 ma mb mc env st = bo (ma env st) (eChain1 g2 g3 mb mc env) := by
  unfold eChain
  rw [bind_bo]
  congr 1
  funext x s1
  rw [bind_bo]
  unfold eChain1
  congr 1
  funext y s2
  rw [bind_bo]
  unfold eChain2
  rw [← bo_as]
  congr 1
  funext z s3
  rw [bind_bo]
  congr 1
  funext c s4
  cases c
  · rfl
  · exact bind_bo _ _ _
@[simp] theorem eAnd_ap : eAnd ma mb env st = bo (bo (ma env st) isBl) (two mb (fun _ => pure (.v (.bl false))) env) := by
  unfold eAnd
  rw [bind_bo, ← bo_as]
  congr 1
  funext z s3
  rw [bind_bo, ← two_eq]
@[simp] theorem eOr_ap : eOr ma mb env st = bo (bo (ma env st) isBl) (two (fun _ => pure (.v (.bl true))) mb env) := by
  unfold eOr
  rw [bind_bo, ← bo_as]
  congr 1
  funext z s3
  rw [bind_bo, ← two_eq]
def not1 (c : Bool) (s : Sto) : Rs R := some (.v (.bl (!c)), s)
@[simp] theorem not1_ap {c : Bool} : not1 c s = some (.v (.bl (!c)), s) := Eq.trans rfl rfl
@[simp] theorem eNot_ap : eNot ma env st = bo (bo (ma env st) isBl) not1 := by
  unfold eNot
  rw [bind_bo, ← bo_as]
  congr 1
/-! arguments -/
@[simp] theorem aNil_ap : aNil env st = some ([], st) := Eq.trans rfl rfl
def aCons2 (x : R) (xs : List R) (s : Sto) : Rs (List R) := some (x :: xs, s)
@[simp] theorem aCons2_ap {xs : List R} : aCons2 x xs s = some (x :: xs, s) := Eq.trans rfl rfl
def aCons1 (r : Env → M (List R)) (env : Env) (x : R) (s : Sto) : Rs (List R) := bo (r env s) (aCons2 x)
@[simp] theorem aCons1_ap : aCons1 ms env x s = bo (ms env s) (aCons2 x) := Eq.trans rfl rfl
@[simp] theorem aCons_ap : aCons ma ms env st = bo (ma env st) (aCons1 ms env) := by
  unfold aCons
  rw [bind_bo]
  congr 1
def aStar2 (ds : List D) (xs : List R) (s : Sto) : Rs (List R) := some (ds.map .v ++ xs, s)
@[simp] theorem aStar2_ap {xs : List R} {ds : List D} : aStar2 ds xs s = some (ds.map .v ++ xs, s) := Eq.trans rfl rfl
def aStar1 (r : Env → M (List R)) (env : Env) (ds : List D) (s : Sto) : Rs (List R) := bo (r env s) (aStar2 ds)
@[simp] theorem aStar1_ap {ds : List D} : aStar1 ms env ds s = bo (ms env s) (aStar2 ds) := Eq.trans rfl rfl
@[simp] theorem aStar_ap : aStar ma ms env st = bo (bo (ma env st) asSeq) (aStar1 ms env) := by
  unfold aStar
  rw [bind_bo, ← bo_as]
  congr 1
@[simp] theorem toD_v : toD (.v d) s = some (d, s) := Eq.trans rfl rfl
@[simp] theorem toDs_nil : toDs [] s = some ([], s) := Eq.trans rfl rfl
@[simp] theorem toDs_cons {rs : List R} : toDs (.v d :: rs) s = bo (toDs rs s) fun ds s => some (d :: ds, s) := by
  show (toD (.v d) >>= fun d => toDs rs >>= fun ds => pure (d :: ds)) s = _
  rw [bind_bo, toD_v, bo_some, bind_bo]
  rfl
@[simp] theorem toDs_map : ∀ {ds : List D} {s : Sto}, toDs (ds.map .v) s = some (ds, s)
  | [], _ => rfl
  | d :: ds, s => by rw [List.map_cons, toDs_cons, toDs_map]; rfl
@[simp] theorem toDs_app : ∀ {ds : List D} {rs : List R} {s : Sto}, toDs (ds.map .v ++ rs) s = bo (toDs rs s) fun es s => some (ds ++ es, s)
  | [], rs, s => by
    show toDs rs s = _
    cases toDs rs s <;> rfl
  | d :: ds, rs, s => by
    rw [List.map_cons, List.cons_append, toDs_cons, toDs_app]
    cases toDs rs s <;> rfl
def mkTup (ds : List D) (s : Sto) : Rs R := if lenOk ds.length = true then some (.v (.tup ds), s) else none
def mkLst (ds : List D) (s : Sto) : Rs R := if lenOk ds.length = true then some (.l (.lst ds), s) else none
@[simp] theorem mkTup_ap {ds : List D} (h : ds.length ≤ 16777216) : mkTup ds s = some (.v (.tup ds), s) := if_pos (decide_eq_true h)
@[simp] theorem mkLst_ap {ds : List D} (h : ds.length ≤ 16777216) : mkLst ds s = some (.l (.lst ds), s) := if_pos (decide_eq_true h)
@[simp] theorem eTup_ap : eTup ms env st = bo (bo (ms env st) toDs) mkTup := by
  unfold eTup
  rw [bind_bo, ← bo_as]
  congr 1
  funext x s1
  rw [bind_bo]
  congr 1
  funext ds s2
  unfold mkTup
  split <;> rfl
@[simp] theorem eLst_ap : eLst ms env st = bo (bo (ms env st) toDs) mkLst := by
  unfold eLst
  rw [bind_bo, ← bo_as]
  congr 1
  funext x s1
  rw [bind_bo]
  congr 1
  funext ds s2
  unfold mkLst
  split <;> rfl
@[simp] theorem eB_ap {g : List R → M R} : eB g ms env st = bo (ms env st) g := bind_bo _ _ _
def lastO (r : R) (s : Sto) : Rs R := some (toO r, s)
@[simp] theorem lastO_ap : lastO r s = some (toO r, s) := Eq.trans rfl rfl
def callK (np : Nat) (m : List R → M R) (rs : List R) (s : Sto) : Rs R := if rs.length = np then bo (m (rs.map lend) s) lastO else none
@[simp] theorem callK_ap {m : List R → M R} {rs : List R} (h : rs.length = n) : callK n m rs s = bo (m (rs.map lend) s) lastO := if_pos h
@[simp] theorem eCall_ap {m : List R → M R} : eCall n m ms env st = bo (ms env st) (callK n m) := by
  unfold eCall
  rw [bind_bo]
  congr 1
  funext rs s1
  unfold callK
  split
  · rw [bind_bo]
    rfl
  · rfl
/-! slices -/
@[simp] theorem ePart_n : ePart none env st = some (none, st) := Eq.trans rfl rfl
def parK : R → Sto → Rs (Option Int)
  | .v (.int i), s => some (some i, s)
  | _, _ => none
@[simp] theorem parK_ap {i : Int} : parK (.v (.int i)) s = some (some i, s) := Eq.trans rfl rfl
@[simp] theorem ePart_s : ePart (some ma) env st = bo (ma env st) parK := by
  show (ma env >>= fun r => match r with | .v (.int i) => pure (some i) | _ => M.fail) st = _
  rw [bind_bo]
  congr 1
  funext r s1
  cases r with
  | v d => cases d <;> rfl
  | _ => rfl
def eSl2 (a : R) (l : Option Int) (h : Option Int) (s : Sto) : Rs R := gSl a l h s
@[simp] theorem eSl2_ap {l h : Option Int} : eSl2 x l h s = gSl x l h s := Eq.trans rfl rfl
def eSl1 (mh : Env → M (Option Int)) (env : Env) (a : R) (l : Option Int) (s : Sto) : Rs R := bo (mh env s) (eSl2 a l)
@[simp] theorem eSl1_ap {mh : Env → M (Option Int)} {l : Option Int} : eSl1 mh env x l s = bo (mh env s) (eSl2 x l) := Eq.trans rfl rfl
def eSl0 (ml mh : Env → M (Option Int)) (env : Env) (a : R) (s : Sto) : Rs R := bo (ml env s) (eSl1 mh env a)
@[simp] theorem eSl0_ap {ml mh : Env → M (Option Int)} : eSl0 ml mh env x s = bo (ml env s) (eSl1 mh env x) := Eq.trans rfl rfl
@[simp] theorem eSl_ap {ml mh : Env → M (Option Int)} : eSl ma ml mh env st = bo (ma env st) (eSl0 ml mh env) := by
  unfold eSl
  rw [bind_bo]
  congr 1
/-! list(range(..)) -/
def lrK : R → Sto → Rs R
  | .v (.int n), s => eLR 0 n s
  | _, _ => none
@[simp] theorem lrK_ap {k : Int} : lrK (.v (.int k)) s = eLR 0 k s := Eq.trans rfl rfl
@[simp] theorem eLR1_ap : eLR1 ma env st = bo (ma env st) lrK := by
  unfold eLR1
  rw [bind_bo]
  congr 1
  funext r s1
  cases r with
  | v d => cases d <;> rfl
  | _ => rfl
@[simp] theorem eLR_ap {i j : Int} (h : rgIn i j = true) : eLR i j s = some (.l (.lst (rgD i j)), s) := by
  unfold eLR
  rw [if_pos h]
  rfl
end

/-! ### operators -/
section
variable {i j : Int} {s : Sto} {a b r : R} {d : D}
@[simp] theorem gAdd_ap : gAdd (.v (.int i)) (.v (.int j)) s = some (.v (.int (i + j)), s) := Eq.trans rfl rfl
@[simp] theorem gAdd_ll {xs ys : List D} (h : xs.length + ys.length ≤ 16777216) : gAdd (.l (.lst xs)) (.l (.lst ys)) s = some (.l (.lst (xs ++ ys)), s) := by
  simp [gAdd, asLst, bind_bo, lenOk, h]
@[simp] theorem gSub_ap : gSub (.v (.int i)) (.v (.int j)) s = some (.v (.int (i - j)), s) := Eq.trans rfl rfl
theorem gMul_ap (h : cMul i j = true) : gMul (.v (.int i)) (.v (.int j)) s = some (.v (.int (i * j)), s) := by
  simp [gMul, h, iv]
@[simp] theorem gMul_r (h1 : -18446744073709551616 < j) (h2 : j < 18446744073709551616) : gMul (.v (.int i)) (.v (.int j)) s = some (.v (.int (i * j)), s) := gMul_ap (by simp [cMul]; omega)
@[simp] theorem gMul_l (h1 : -18446744073709551616 < i) (h2 : i < 18446744073709551616) : gMul (.v (.int i)) (.v (.int j)) s = some (.v (.int (i * j)), s) := gMul_ap (by simp [cMul]; omega)
@[simp] theorem gMod_ap (h : j ≠ 0) : gMod (.v (.int i)) (.v (.int j)) s = some (.v (.int (i.fmod j)), s) := by
  simp [gMod, gI, h]
@[simp] theorem gFdiv_ap (h : j ≠ 0) (h1 : -1073741824 < j) (h2 : j < 1073741824) : gFdiv (.v (.int i)) (.v (.int j)) s = some (.v (.int (i.fdiv j)), s) := by
  have h3 : j.natAbs < 1073741824 := by omega
  simp [gFdiv, gI, h, h3]
@[simp] theorem gLt_ap : gLt (.v (.int i)) (.v (.int j)) s = some (.v (.bl (decide (i < j))), s) := Eq.trans rfl rfl
@[simp] theorem gLe_ap : gLe (.v (.int i)) (.v (.int j)) s = some (.v (.bl (decide (i ≤ j))), s) := Eq.trans rfl rfl
@[simp] theorem gGt_ap : gGt (.v (.int i)) (.v (.int j)) s = some (.v (.bl (decide (j < i))), s) := Eq.trans rfl rfl
@[simp] theorem gGe_ap : gGe (.v (.int i)) (.v (.int j)) s = some (.v (.bl (decide (j ≤ i))), s) := Eq.trans rfl rfl
@[simp] theorem gNeg_ap : gNeg (.v (.int i)) s = some (.v (.int (-i)), s) := Eq.trans rfl rfl
@[simp] theorem gIsN_non : gIsN (.v .non) (.v .non) s = some (.v (.bl true), s) := Eq.trans rfl rfl
@[simp] theorem gIsN_int : gIsN (.v (.int i)) (.v .non) s = some (.v (.bl false), s) := Eq.trans rfl rfl
@[simp] theorem gIsN_tup {ds : List D} : gIsN (.v (.tup ds)) (.v .non) s = some (.v (.bl false), s) := Eq.trans rfl rfl
@[simp] theorem gIsN_str {z : Str} : gIsN (.v (.str z)) (.v .non) s = some (.v (.bl false), s) := Eq.trans rfl rfl
@[simp] theorem gNotN_non : gNotN (.v .non) (.v .non) s = some (.v (.bl false), s) := Eq.trans rfl rfl
@[simp] theorem gNotN_int : gNotN (.v (.int i)) (.v .non) s = some (.v (.bl true), s) := Eq.trans rfl rfl
@[simp] theorem gNotN_tup {ds : List D} : gNotN (.v (.tup ds)) (.v .non) s = some (.v (.bl true), s) := Eq.trans rfl rfl
@[simp] theorem gNotN_str {z : Str} : gNotN (.v (.str z)) (.v .non) s = some (.v (.bl true), s) := Eq.trans rfl rfl
theorem eqv_int : PyData.eqv (.int i) (.int j) = decide (i = j) := by
  rw [PyData.eqv]
  rfl
theorem shaped_int : SeqAt.shaped (.int i) = true := by
  unfold SeqAt.shaped
  rw [PyData.canLay0, PyData.depth]
  rfl
@[simp] theorem gEq_ii : gEq (.v (.int i)) (.v (.int j)) s = some (.v (.bl (decide (i = j))), s) := by
  simp [gEq, gCmp, pdR, pdD, shaped_int, eqv_int, bv]
@[simp] theorem gNe_ii : gNe (.v (.int i)) (.v (.int j)) s = some (.v (.bl (!decide (i = j))), s) := by
  simp [gNe, gCmp, pdR, pdD, shaped_int, eqv_int, bv]
@[simp] theorem gIx_tup {ds : List D} : gIx (.v (.tup ds)) (.v (.int i)) s = M.ofO ((L2.atI ds i).map .v) s := Eq.trans rfl rfl
@[simp] theorem gIx_l {ds : List D} : gIx (.l (.lst ds)) (.v (.int i)) s = M.ofO ((L2.atI ds i).map .v) s := Eq.trans rfl rfl
@[simp] theorem gIx_o {ds : List D} : gIx (.o (.lst ds)) (.v (.int i)) s = M.ofO ((L2.atI ds i).map .v) s := Eq.trans rfl rfl
@[simp] theorem gIx_b {ds : List D} : gIx (.b (.lst ds)) (.v (.int i)) s = M.ofO ((L2.atI ds i).map .v) s := Eq.trans rfl rfl
@[simp] theorem gIx_bc {ds : List D} : gIx (.b (.cst ds)) (.v (.int i)) s = M.ofO ((L2.atI ds i).map .v) s := Eq.trans rfl rfl
theorem gIx_st {ds : List D} {n : Nat} (h : s[n]? = some (.lst ds)) : gIx (.v (.obj n)) (.v (.int i)) s = M.ofO ((L2.atI ds i).map .v) s := by
  simp [gIx, asSeq, asLst, h, bind_bo]
end
end Mi
/-! Mi: loops and comprehensions by invariants. -/
namespace Mi
open PySem hiding Env
section
variable {ck : Sto → Prop} {g : Tg} {b : Env → M Fl} {t : Env → M Bool} {m : Env → M R} {env e : Env} {st : Sto}
theorem for_nil (hc : ck st) : forL ck g b [] env st = some (.nx env, st) := by
  unfold forL
  exact if_pos hc
noncomputable def fk (ck : Sto → Prop) (g : Tg) (b : Env → M Fl) (ds : List D) : Fl → Sto → Rs Fl
  | .nx e, s => forL ck g b ds e s
  | .ct e, s => forL ck g b ds e s
  | .bk e, s => some (.nx e, s)
  | .rt r, s => some (.rt r, s)
theorem for_cons {d : D} {ds : List D} {s1 : Sto} (hc : ck st) (hg : g d env st = some (e, s1)) : forL ck g b (d :: ds) env st = bo (b e s1) (fk ck g b ds) := by
  unfold forL
  rw [if_pos hc, bind_bo, hg, bo_some, bind_bo]
  congr 1
  funext fl s
  cases fl <;> rfl
theorem for_nx {d : D} {ds : List D} {e2 : Env} {s1 s2 : Sto} (hc : ck st) (hg : g d env st = some (e, s1)) (hb : b e s1 = some (.nx e2, s2)) : forL ck g b (d :: ds) env st = forL ck g b ds e2 s2 := by
  rw [for_cons hc hg, hb]
  rfl
theorem for_rt {d : D} {ds : List D} {r : R} {s1 s2 : Sto} (hc : ck st) (hg : g d env st = some (e, s1)) (hb : b e s1 = some (.rt r, s2)) : forL ck g b (d :: ds) env st = some (.rt r, s2) := by
  rw [for_cons hc hg, hb]
  rfl
/-- a loop's end: all items walked, or a return -/
def Ends (Inv : Env → Sto → Prop) (Rt : R → Sto → Prop) (o : Rs Fl) : Prop := (∃ e s, o = some (.nx e, s) ∧ Inv e s) ∨ ∃ r s, o = some (.rt r, s) ∧ Rt r s
theorem for_post {ds : List D} (Inv : Nat → Env → Sto → Prop) (Rt : R → Sto → Prop)
    (h : ∀ i d env st, ds[i]? = some d → Inv i env st → ck st ∧ ∃ e st1, g d env st = some (e, st1) ∧ Ends (Inv (i + 1)) Rt (b e st1))
    (hc : ∀ env st, Inv ds.length env st → ck st) (h0 : Inv 0 env st) : Ends (Inv ds.length) Rt (forL ck g b ds env st) := by
  have key : ∀ (k i : Nat) (env : Env) (st : Sto), i + k = ds.length → Inv i env st → Ends (Inv ds.length) Rt (forL ck g b (ds.drop i) env st) := by
    intro k
    induction k with
    | zero =>
      intro i env st e hI
      have e2 : i = ds.length := e
      rw [e2] at hI
      rw [List.drop_eq_nil_of_le (by omega), for_nil (hc _ _ hI)]
      exact .inl ⟨_, _, rfl, hI⟩
    | succ k ih =>
      intro i env st e hI
      have hlt : i < ds.length := by omega
      (rw [List.drop_eq_getElem_cons hlt]); obtain ⟨c, e1, s1, hg, hb⟩ := h i _ env st (List.getElem?_eq_getElem hlt) hI
      rcases hb with ⟨e2, s2, hb, hI2⟩ | ⟨r, s2, hb, hr⟩
      · rw [for_nx c hg hb]
        exact ih (i + 1) e2 s2 (by omega) hI2
      · rw [for_rt c hg hb]
        exact .inr ⟨r, s2, rfl, hr⟩
  have := key ds.length 0 env st (by omega) h0
  rwa [List.drop_zero] at this
theorem for_inv {ds : List D} (Inv : Nat → Env → Sto → Prop)
    (h : ∀ i d env st, ds[i]? = some d → Inv i env st → ck st ∧ ∃ e st1 e2 st2, g d env st = some (e, st1) ∧ b e st1 = some (.nx e2, st2) ∧ Inv (i + 1) e2 st2)
    (hc : ∀ env st, Inv ds.length env st → ck st) (h0 : Inv 0 env st) : ∃ e s, forL ck g b ds env st = some (.nx e, s) ∧ Inv ds.length e s := by
  rcases for_post (ds := ds) (ck := ck) (g := g) (b := b) (env := env) (st := st) Inv (fun _ _ => False) (fun i d env st hd hI => by
    obtain ⟨c, e1, s1, e2, s2, hg, hb, hI2⟩ := h i d env st hd hI
    exact ⟨c, e1, s1, hg, .inl ⟨e2, s2, hb, hI2⟩⟩) hc h0 with h | ⟨_, _, _, z⟩
  · exact h
  · exact z.elim
/-! comprehensions -/
theorem comp_nil {acc : List D} (hc : ck st) : compL ck g t m env [] acc st = some (acc, st) := by
  unfold compL
  exact if_pos hc
open Classical in
theorem comp_yes {d y : D} {ds acc : List D} {s1 s2 s3 : Sto} (hc : ck st) (hg : g d env st = some (e, s1)) (ht : t e s1 = some (true, s2)) (hm : m e s2 = some (.v y, s3)) (hl : acc.length + 1 ≤ 16777216) :
    compL ck g t m env (d :: ds) acc st = compL ck g t m env ds (acc ++ [y]) s3 := by
  have hl2 : lenOk (acc.length + 1) = true := decide_eq_true hl
  rw [compL]
  show (if ck st then _ else none) = _
  rw [if_pos hc, bind_bo, hg, bo_some, bind_bo, ht, bo_some, if_pos rfl, bind_bo, hm, bo_some, bind_bo, toD_v, bo_some, if_pos hl2]
open Classical in
theorem comp_no {d : D} {ds acc : List D} {s1 s2 : Sto} (hc : ck st) (hg : g d env st = some (e, s1)) (ht : t e s1 = some (false, s2)) :
    compL ck g t m env (d :: ds) acc st = compL ck g t m env ds acc s2 := by
  rw [compL]
  show (if ck st then _ else none) = _
  rw [if_pos hc, bind_bo, hg, bo_some, bind_bo, ht, bo_some, if_neg (by simp)]
theorem comp_pure (F : D → Option D) : ∀ {ds acc : List D} (hc : ck st) (hl : acc.length + ds.length ≤ 16777216)
    (h : ∀ d ∈ ds, ∃ e, g d env st = some (e, st) ∧ ((t e st = some (false, st) ∧ F d = none) ∨ (t e st = some (true, st) ∧ ∃ y, m e st = some (.v y, st) ∧ F d = some y))),
    compL ck g t m env ds acc st = some (acc ++ ds.filterMap F, st)
  | [], acc, hc, _, _ => by rw [comp_nil hc, List.filterMap_nil, List.append_nil]
  | d :: ds, acc, hc, hl, h => by
    rw [List.length_cons] at hl
    obtain ⟨e, hg, ⟨ht, hF⟩ | ⟨ht, y, hm, hF⟩⟩ := h d (by simp)
    · rw [comp_no hc hg ht, comp_pure F hc (by omega) (fun d hd => h d (by simp [hd])), List.filterMap_cons_none hF]
    · rw [comp_yes hc hg ht hm (by omega), comp_pure F hc (by rw [List.length_append, List.length_singleton]; omega) (fun d hd => h d (by simp [hd])), List.filterMap_cons_some hF, List.append_assoc]
      rfl
/-- every item gives one: the state may change -/
theorem comp_inv {ds : List D} (Inv : Nat → List D → Sto → Prop)
    (h : ∀ i d acc st, ds[i]? = some d → Inv i acc st → ck st ∧ acc.length + 1 ≤ 16777216 ∧ ∃ e s1 s2, g d env st = some (e, s1) ∧ ((t e s1 = some (false, s2) ∧ Inv (i + 1) acc s2) ∨ (t e s1 = some (true, s2) ∧ ∃ y s3, m e s2 = some (.v y, s3) ∧ Inv (i + 1) (acc ++ [y]) s3)))
    (hc : ∀ acc st, Inv ds.length acc st → ck st) (h0 : Inv 0 [] st) : ∃ acc s, compL ck g t m env ds [] st = some (acc, s) ∧ Inv ds.length acc s := by
  have key : ∀ (k i : Nat) (acc : List D) (st : Sto), i + k = ds.length → Inv i acc st → ∃ acc' s, compL ck g t m env (ds.drop i) acc st = some (acc', s) ∧ Inv ds.length acc' s := by
    intro k
    induction k with
    | zero =>
      intro i acc st e hI
      have e2 : i = ds.length := e
      rw [e2] at hI
      rw [List.drop_eq_nil_of_le (by omega), comp_nil (hc _ _ hI)]
      exact ⟨_, _, rfl, hI⟩
    | succ k ih =>
      intro i acc st e hI
      have hlt : i < ds.length := by omega
      (rw [List.drop_eq_getElem_cons hlt]); obtain ⟨c, hl, e1, s1, s2, hg, ⟨ht, hI2⟩ | ⟨ht, y, s3, hm, hI2⟩⟩ := h i _ acc st (List.getElem?_eq_getElem hlt) hI
      · rw [comp_no c hg ht]
        exact ih (i + 1) acc s2 (by omega) hI2
      · rw [comp_yes c hg ht hm hl]
        exact ih (i + 1) _ s3 (by omega) hI2
  have := key ds.length 0 [] st (by omega) h0
  rwa [List.drop_zero] at this
end
/-! ### statements -/
section
variable {env e : Env} {st s : Sto} {i j n : Nat} {r x y : R} {d : D} {ma mb mc : Env → M R} {ms : Env → M (List R)} {t u : Env → M Bool} {sa sb : Env → M Fl}
@[simp] theorem sNil_ap : sNil env st = some (.nx env, st) := Eq.trans rfl rfl
def sq1 (b : Env → M Fl) : Fl → Sto → Rs Fl
  | .nx e, s => b e s
  | f, s => some (f, s)
@[simp] theorem sq1_nx : sq1 sb (.nx e) s = sb e s := Eq.trans rfl rfl
@[simp] theorem sq1_rt : sq1 sb (.rt r) s = some (.rt r, s) := Eq.trans rfl rfl
@[simp] theorem sSeq_ap : sSeq sa sb env st = bo (sa env st) (sq1 sb) := by
  unfold sSeq
  rw [bind_bo]
  congr 1
  funext fl s1
  cases fl <;> rfl
def rt1 (r : R) (s : Sto) : Rs Fl := some (.rt (toO r), s)
@[simp] theorem rt1_ap : rt1 r s = some (.rt (toO r), s) := Eq.trans rfl rfl
@[simp] theorem sRet_ap : sRet ma env st = bo (ma env st) rt1 := by
  unfold sRet
  rw [bind_bo]
  rfl
def rv1 : Option (Option R) → Sto → Rs Fl
  | some (some r), s => some (.rt (toO r), s)
  | _, _ => none
@[simp] theorem rv1_ap : rv1 (some (some r)) s = some (.rt (toO r), s) := Eq.trans rfl rfl
@[simp] theorem sRetV_ap : sRetV i env st = rv1 env[i]? st := by
  unfold sRetV rv1
  cases env[i]? with
  | none => rfl
  | some o => cases o <;> rfl
@[simp] theorem sRetN_ap : sRetN env st = some (.rt (.v .non), st) := Eq.trans rfl rfl
def ex1 (env : Env) (_ : R) (s : Sto) : Rs Fl := some (.nx env, s)
@[simp] theorem ex1_ap : ex1 env r s = some (.nx env, s) := Eq.trans rfl rfl
@[simp] theorem sExpr_ap : sExpr ma env st = bo (ma env st) (ex1 env) := by
  unfold sExpr
  rw [bind_bo]
  rfl
@[simp] theorem sIf_ap : sIf t sa sb env st = bo (t env st) (two sa sb env) := by
  rw [← two_eq]
  exact bind_bo _ _ _
@[simp] theorem sNever_ap : sNever env st = none := Eq.trans rfl rfl
@[simp] theorem keepR_v : keepR (.v d) = some (.v d) := Eq.trans rfl rfl
@[simp] theorem keepR_l {o : O} : keepR (.l o) = some (.b o) := Eq.trans rfl rfl
@[simp] theorem keepR_b {o : O} : keepR (.b o) = some (.b o) := Eq.trans rfl rfl
@[simp] theorem keepL_v : keepL (.v d) = some (.v d) := Eq.trans rfl rfl
@[simp] theorem keepL_l {o : O} : keepL (.l o) = some (.l o) := Eq.trans rfl rfl
/-- a value is laid -/
def put (i : Nat) (env : Env) : Option R → Sto → Rs Fl
  | some q, s => if i < env.length then some (.nx (env.set i (some q)), s) else none
  | none, _ => none
@[simp] theorem put_ap (h : i < env.length) : put i env (some r) s = some (.nx (env.set i (some r)), s) := if_pos h
def set1 (i : Nat) (env : Env) (r : R) (s : Sto) : Rs Fl := put i env (keepR r) s
@[simp] theorem set1_ap : set1 i env r s = put i env (keepR r) s := Eq.trans rfl rfl
def setL1 (i : Nat) (env : Env) (r : R) (s : Sto) : Rs Fl := put i env (keepL r) s
@[simp] theorem setL1_ap : setL1 i env r s = put i env (keepL r) s := Eq.trans rfl rfl
@[simp] theorem sSet_ap : sSet i ma env st = bo (ma env st) (set1 i env) := by
  unfold sSet
  rw [bind_bo]
  congr 1
  funext r s1
  rw [bind_bo]
  unfold set1 put
  cases keepR r with
  | none => rfl
  | some q =>
    show (ite (i < env.length) (pure _ : M Fl) M.fail) s1 = _
    by_cases h : i < env.length
    · rw [if_pos h]
      exact (if_pos h).symm
    · rw [if_neg h]
      exact (if_neg h).symm
@[simp] theorem sSetL_ap : sSetL i ma env st = bo (ma env st) (setL1 i env) := by
  unfold sSetL
  rw [bind_bo]
  congr 1
  funext r s1
  rw [bind_bo]
  unfold setL1 put
  cases keepL r with
  | none => rfl
  | some q =>
    show (ite (i < env.length) (pure _ : M Fl) M.fail) s1 = _
    by_cases h : i < env.length
    · rw [if_pos h]
      exact (if_pos h).symm
    · rw [if_neg h]
      exact (if_neg h).symm
@[simp] theorem alloc_v : alloc (.v d) s = some (.v d, s) := Eq.trans rfl rfl
@[simp] theorem alloc_l {o : O} : alloc (.l o) s = some (.v (.obj s.length), s ++ [o]) := Eq.trans rfl rfl
def putR (i : Nat) (env : Env) (r : R) (s : Sto) : Rs Fl := put i env (some r) s
@[simp] theorem putR_ap : putR i env r s = put i env (some r) s := Eq.trans rfl rfl
@[simp] theorem sSetI_ap : sSetI i ma env st = bo (bo (ma env st) alloc) (putR i env) := by
  unfold sSetI
  rw [bind_bo, ← bo_as]
  congr 1
  funext r s1
  rw [bind_bo]
  congr 1
  funext q s2
  unfold putR put
  show (ite (i < env.length) (pure _ : M Fl) M.fail) s2 = _
  by_cases h : i < env.length
  · rw [if_pos h]
    exact (if_pos h).symm
  · rw [if_neg h]
    exact (if_neg h).symm
/-! targets -/
@[simp] theorem gN_ap (h : i < env.length) : gN i d env st = some (env.set i (some (.v d)), st) := by
  unfold gN
  rw [if_pos h]
  rfl
@[simp] theorem gNl_ap : gNl [] env st = some (env, st) := Eq.trans rfl rfl
def gc1 (r : List D → Env → M Env) (ds : List D) (e : Env) (s : Sto) : Rs Env := r ds e s
@[simp] theorem gc1_ap {g : List D → Env → M Env} {ds : List D} : gc1 g ds e s = g ds e s := Eq.trans rfl rfl
@[simp] theorem gCs_ap {g : Tg} {g' : List D → Env → M Env} {ds : List D} : gCs g g' (d :: ds) env st = bo (g d env st) (gc1 g' ds) := by
  show (g d env >>= fun e => g' ds e) st = _
  rw [bind_bo]
  rfl
@[simp] theorem gTp_ap {g : List D → Env → M Env} {ds : List D} (h : ds.length = n) : gTp n g (.tup ds) env st = g ds env st := by
  unfold gTp
  dsimp only
  rw [if_pos h]
def as1 (e : Env) (s : Sto) : Rs Fl := some (.nx e, s)
@[simp] theorem as1_ap : as1 e s = some (.nx e, s) := Eq.trans rfl rfl
def as0 (g : Tg) (env : Env) (d : D) (s : Sto) : Rs Fl := bo (g d env s) as1
@[simp] theorem as0_ap {g : Tg} : as0 g env d s = bo (g d env s) as1 := Eq.trans rfl rfl
@[simp] theorem sAsg_ap {g : Tg} : sAsg g ma env st = bo (bo (ma env st) toD) (as0 g env) := by
  unfold sAsg
  rw [bind_bo, ← bo_as]
  congr 1
@[simp] theorem laid_v {k : Md} : laid k (.v d) s = some (.v d, s) := by cases k <;> rfl
@[simp] theorem laid_f {o : O} : laid .f (.l o) s = some (.b o, s) := Eq.trans rfl rfl
@[simp] theorem laid_l {o : O} : laid .l (.l o) s = some (.l o, s) := Eq.trans rfl rfl
def lay1 (i : Nat) (ks : List (Nat × Md)) (rs : List R) (env : Env) (q : R) (s : Sto) : Rs Env := if i < env.length then layAll ks rs (env.set i (some q)) s else none
@[simp] theorem lay1_ap {ks : List (Nat × Md)} {rs : List R} (h : i < env.length) : lay1 i ks rs env r s = layAll ks rs (env.set i (some r)) s := if_pos h
@[simp] theorem layAll_nil : layAll [] [] env s = some (env, s) := Eq.trans rfl rfl
@[simp] theorem layAll_cons {k : Md} {ks : List (Nat × Md)} {rs : List R} : layAll ((i, k) :: ks) (r :: rs) env s = bo (laid k r s) (lay1 i ks rs env) := by
  show (laid k r >>= fun q => if i < env.length then layAll ks rs (env.set i (some q)) else M.fail) s = _
  rw [bind_bo]
  congr 1
  funext q s1
  unfold lay1
  by_cases h : i < env.length
  · rw [if_pos h, if_pos h]
  · rw [if_neg h, if_neg h]
    rfl
def par1 (ks : List (Nat × Md)) (env : Env) (rs : List R) (s : Sto) : Rs Fl := bo (layAll ks rs env s) as1
@[simp] theorem par1_ap {ks : List (Nat × Md)} {rs : List R} : par1 ks env rs s = bo (layAll ks rs env s) as1 := Eq.trans rfl rfl
@[simp] theorem sPar_ap {ks : List (Nat × Md)} : sPar ks ms env st = bo (ms env st) (par1 ks env) := by
  unfold sPar
  rw [bind_bo]
  congr 1
/-! walks -/
@[simp] theorem mSeq_ap : mSeq ma env st = bo (ma env st) asIt := bind_bo _ _ _
abbrev tr1 : Sto → Prop := fun _ => True
@[simp] theorem asIt_tup {ds : List D} : asIt (.v (.tup ds)) s = some (⟨ds, tr1⟩, s) := Eq.trans rfl rfl
@[simp] theorem asIt_l {ds : List D} : asIt (.l (.lst ds)) s = some (⟨ds, tr1⟩, s) := Eq.trans rfl rfl
@[simp] theorem asIt_b {ds : List D} : asIt (.b (.lst ds)) s = some (⟨ds, tr1⟩, s) := Eq.trans rfl rfl
@[simp] theorem asIt_c {ds : List D} : asIt (.b (.cst ds)) s = some (⟨ds, tr1⟩, s) := Eq.trans rfl rfl
def en1 (it : Itm) (s : Sto) : Rs Itm := some (⟨enumD 0 it.ds, it.ck⟩, s)
@[simp] theorem en1_ap {it : Itm} : en1 it s = some (⟨enumD 0 it.ds, it.ck⟩, s) := Eq.trans rfl rfl
@[simp] theorem mEnum_ap : mEnum ma env st = bo (bo (ma env st) asIt) en1 := by
  unfold mEnum
  rw [bind_bo, ← bo_as]
  congr 1
def both (a b : Sto → Prop) : Sto → Prop := fun s => a s ∧ b s
@[simp] theorem both_tr : both tr1 tr1 = tr1 := by
  funext s
  exact propext ⟨fun _ => trivial, fun _ => ⟨trivial, trivial⟩⟩
def zi3 (i1 i2 : Itm) (s : Sto) : Rs Itm := some (⟨zipD i1.ds i2.ds, both i1.ck i2.ck⟩, s)
@[simp] theorem zi3_ap {i1 i2 : Itm} : zi3 i1 i2 s = some (⟨zipD i1.ds i2.ds, both i1.ck i2.ck⟩, s) := Eq.trans rfl rfl
def zi2 (r2 : R) (i1 : Itm) (s : Sto) : Rs Itm := bo (asIt r2 s) (zi3 i1)
@[simp] theorem zi2_ap {i1 : Itm} : zi2 r i1 s = bo (asIt r s) (zi3 i1) := Eq.trans rfl rfl
def zi1 (r1 r2 : R) (s : Sto) : Rs Itm := bo (asIt r1 s) (zi2 r2)
@[simp] theorem zi1_ap : zi1 x y s = bo (asIt x s) (zi2 y) := Eq.trans rfl rfl
def zi0 (mb : Env → M R) (env : Env) (r1 : R) (s : Sto) : Rs Itm := bo (mb env s) (zi1 r1)
@[simp] theorem zi0_ap : zi0 mb env x s = bo (mb env s) (zi1 x) := Eq.trans rfl rfl
@[simp] theorem mZip_ap : mZip ma mb env st = bo (ma env st) (zi0 mb env) := by
  unfold mZip
  rw [bind_bo]
  congr 1
def ra1 : List R → M Itm := fun rs => match rs with
  | [.v (.int j)] => M.ite (smallI j) ⟨rangeD 0 j.toNat, fun _ => True⟩
  | _ => M.fail
@[simp] theorem ra1_ap {k : Int} (h1 : -4611686018427387904 ≤ k) (h2 : k < 4611686018427387904) : ra1 [.v (.int k)] s = some (⟨rangeD 0 k.toNat, tr1⟩, s) := by
  show M.ite _ _ _ = _
  rw [ite_ap, if_pos (by simp [smallI]; omega)]
@[simp] theorem mR1_ap : mR1 ms env st = bo (ms env st) ra1 := bind_bo _ _ _
def ra2 : List R → M Itm := fun rs => match rs with
  | [.v (.int i), .v (.int j)] => M.ite (smallI i && smallI j) ⟨rangeD i (j - i).toNat, fun _ => True⟩
  | _ => M.fail
@[simp] theorem ra2_ap {i k : Int} (h1 : -4611686018427387904 ≤ k) (h2 : k < 4611686018427387904) (h3 : -4611686018427387904 ≤ i) (h4 : i < 4611686018427387904) : ra2 [.v (.int i), .v (.int k)] s = some (⟨rangeD i (k - i).toNat, tr1⟩, s) := by
  show M.ite _ _ _ = _
  rw [ite_ap, if_pos (by simp [smallI]; omega)]
@[simp] theorem mR2_ap : mR2 ms env st = bo (ms env st) ra2 := bind_bo _ _ _
noncomputable def fo1 (g : Tg) (b : Env → M Fl) (env : Env) (it : Itm) (s : Sto) : Rs Fl := forL it.ck g b it.ds env s
theorem sFor_ap {fz : List Nat} {mi : Env → M Itm} {g : Tg} : sFor fz mi g sa env st = bo (mi (freeze fz env) st) (fo1 g sa (freeze fz env)) := by
  unfold sFor
  rw [bind_bo]
  rfl
@[simp] theorem sFor_ap0 {mi : Env → M Itm} {g : Tg} : sFor [] mi g sa env st = bo (mi env st) (fo1 g sa env) := sFor_ap
@[simp] theorem fo1_ap {g : Tg} {it : Itm} : fo1 g sa env it s = forL it.ck g sa it.ds env s := Eq.trans rfl rfl
def co2 (ds : List D) (s : Sto) : Rs R := some (.l (.lst ds), s)
@[simp] theorem co2_ap {ds : List D} : co2 ds s = some (.l (.lst ds), s) := Eq.trans rfl rfl
noncomputable def co1 (vs : List Nat) (g : Tg) (t : Env → M Bool) (m : Env → M R) (env : Env) (it : Itm) (s : Sto) : Rs R := bo (compL it.ck g t m (wipeE env vs) it.ds [] s) co2
@[simp] theorem co1_ap {vs : List Nat} {g : Tg} {it : Itm} : co1 vs g t ma env it s = bo (compL it.ck g t ma (wipeE env vs) it.ds [] s) co2 := Eq.trans rfl rfl
@[simp] theorem eComp_ap {vs : List Nat} {mi : Env → M Itm} {g : Tg} : eComp vs mi g t ma env st = bo (mi env st) (co1 vs g t ma env) := by
  unfold eComp
  rw [bind_bo]
  congr 1
/-! own lists -/
@[simp] theorem ownAt_ap {ds : List D} (h : env[i]? = some (some (.l (.lst ds)))) : ownAt i env = some ds := by
  unfold ownAt
  rw [h]
def ow3 (i : Nat) (env : Env) (p : R × List D) (s : Sto) : Rs Fl := some (.nx (env.set i (some (.l (.lst p.2)))), s)
@[simp] theorem ow3_ap {ds : List D} : ow3 i env (r, ds) s = some (.nx (env.set i (some (.l (.lst ds)))), s) := Eq.trans rfl rfl
def ow1 (i : Nat) (f : List D → List R → M (R × List D)) (env : Env) (rs : List R) (s : Sto) : Rs Fl := match ownAt i env with
  | some ds => bo (f ds rs s) (ow3 i env)
  | none => none
@[simp] theorem ow1_ap {f : List D → List R → M (R × List D)} {rs : List R} {ds : List D} (h : env[i]? = some (some (.l (.lst ds)))) : ow1 i f env rs s = bo (f ds rs s) (ow3 i env) := by
  unfold ow1
  rw [ownAt_ap h]
@[simp] theorem sOwn_ap {f : List D → List R → M (R × List D)} : sOwn i (fun ds rs => f ds rs >>= fun p => pure p.2) ms env st = bo (ms env st) (ow1 i f env) := by
  unfold sOwn
  rw [bind_bo]
  congr 1
  funext rs s1
  rw [bind_bo]
  unfold ow1
  cases ownAt i env with
  | none => rfl
  | some ds =>
    rw [ofO_some, bo_some, bind_bo]
    show bo ((f ds rs >>= fun p => pure p.2) s1) _ = _
    rw [bind_bo]
    show _ = bo (f ds rs s1) (ow3 i env)
    cases f ds rs s1 <;> rfl
@[simp] theorem fAppend_ap {ds : List D} (h : ds.length + 1 ≤ 16777216) : fAppend ds [.v d] s = some ((.v .non, ds ++ [d]), s) := by
  have h2 : lenOk (ds.length + 1) = true := decide_eq_true h
  unfold fAppend
  dsimp only
  rw [if_pos h2]
  rfl
@[simp] theorem fExtend_l {ds es : List D} (h : ds.length + es.length ≤ 16777216) : fExtend ds [.l (.lst es)] s = some ((.v .non, ds ++ es), s) := by
  have h2 : lenOk (ds.length + es.length) = true := decide_eq_true h
  show (asLst (.l (.lst es)) >>= fun es => if lenOk (ds.length + es.length) = true then pure (R.v .non, ds ++ es) else M.fail) s = _
  rw [bind_bo]
  show (if lenOk (ds.length + es.length) = true then pure (R.v .non, ds ++ es) else M.fail : M (R × List D)) s = _
  rw [if_pos h2]
  rfl
def po3 (j i : Nat) (env : Env) (p : R × List D) (s : Sto) : Rs Fl := match p.1 with
  | .v d => if j < env.length then some (.nx ((env.set i (some (.l (.lst p.2)))).set j (some (.v d))), s) else none
  | _ => none
@[simp] theorem po3_ap {ds : List D} (h : j < env.length) : po3 j i env (.v d, ds) s = some (.nx ((env.set i (some (.l (.lst ds)))).set j (some (.v d))), s) := if_pos h
def po1 (j i : Nat) (env : Env) (rs : List R) (s : Sto) : Rs Fl := match ownAt i env with
  | some ds => bo (fPop ds rs s) (po3 j i env)
  | none => none
@[simp] theorem po1_ap {rs : List R} {ds : List D} (h : env[i]? = some (some (.l (.lst ds)))) : po1 j i env rs s = bo (fPop ds rs s) (po3 j i env) := by
  unfold po1
  rw [ownAt_ap h]
@[simp] theorem sPop_ap : sPop j i ms env st = bo (ms env st) (po1 j i env) := by
  unfold sPop
  rw [bind_bo]
  congr 1
  funext rs s1
  rw [bind_bo]
  unfold po1
  cases ownAt i env with
  | none => rfl
  | some ds =>
    rw [ofO_some, bo_some, bind_bo]
    congr 1
    funext p s2
    rw [bind_bo]
    unfold po3
    cases p.1 with
    | v d =>
      rw [toD_v, bo_some]
      dsimp only
      split <;> rfl
    | _ => rfl
@[simp] theorem fPop_ap {ds : List D} : fPop (ds ++ [d]) [] s = some ((.v d, ds), s) := by
  unfold fPop
  simp [bind_bo]
/-! built-ins -/
@[simp] theorem bLen_t {ds : List D} : bLen [.v (.tup ds)] s = some (.v (.int ds.length), s) := Eq.trans rfl rfl
@[simp] theorem bLen_l {ds : List D} : bLen [.l (.lst ds)] s = some (.v (.int ds.length), s) := Eq.trans rfl rfl
@[simp] theorem bLen_o {ds : List D} : bLen [.o (.lst ds)] s = some (.v (.int ds.length), s) := Eq.trans rfl rfl
@[simp] theorem bLen_b {ds : List D} : bLen [.b (.lst ds)] s = some (.v (.int ds.length), s) := Eq.trans rfl rfl
@[simp] theorem bLen_c {ds : List D} : bLen [.b (.cst ds)] s = some (.v (.int ds.length), s) := Eq.trans rfl rfl
@[simp] theorem bAbs_ap {k : Int} : bAbs [.v (.int k)] s = some (.v (.int k.natAbs), s) := by
  show some (R.v (.int (if k < 0 then -k else k)), s) = _
  split <;> (congr 4; omega)
@[simp] theorem bInt_i {k : Int} : bInt [.v (.int k)] s = some (.v (.int k), s) := Eq.trans rfl rfl
@[simp] theorem bInt_b {b : Bool} : bInt [.v (.bl b)] s = some (.v (.int (if b = true then 1 else 0)), s) := Eq.trans rfl rfl
@[simp] theorem bMax_2 {a b : Int} : bMax [.v (.int a), .v (.int b)] s = some (.v (.int (max a b)), s) := by
  show some (R.v (.int (if b > a then b else a)), s) = _
  congr 4
  split <;> omega
@[simp] theorem bMin_2 {a b : Int} : bMin [.v (.int a), .v (.int b)] s = some (.v (.int (min a b)), s) := by
  show some (R.v (.int (if b < a then b else a)), s) = _
  congr 4
  split <;> omega
@[simp] theorem bTup_l {ds : List D} : bTup [.l (.lst ds)] s = some (.v (.tup ds), s) := Eq.trans rfl rfl
@[simp] theorem bTup_o {ds : List D} : bTup [.o (.lst ds)] s = some (.v (.tup ds), s) := Eq.trans rfl rfl
@[simp] theorem bTup_b {ds : List D} : bTup [.b (.lst ds)] s = some (.v (.tup ds), s) := Eq.trans rfl rfl
@[simp] theorem bTup_t {ds : List D} : bTup [.v (.tup ds)] s = some (.v (.tup ds), s) := Eq.trans rfl rfl
theorem bAll_l {bs : List Bool} : bAll [.l (.lst (bs.map .bl))] s = some (.v (.bl (bs.all id)), s) := by
  show bo (M.ofO (allBls (bs.map D.bl)) s) _ = _
  rw [allBls_map]
  rfl
theorem bMax_l {ns : List Int} (h : ns ≠ []) : bMax [.v (.tup (ns.map .int))] s = some (.v (.int (maxL ns)), s) := by
  show bo (M.ofO (allInts (ns.map D.int)) s) _ = _
  rw [allInts_map, ofO_some, bo_some, if_neg h]
  rfl
theorem bMin_o {ns : List Int} (h : ns ≠ []) : bMin [.o (.lst (ns.map .int))] s = some (.v (.int (minL ns)), s) := by
  show bo (M.ofO (allInts (ns.map D.int)) s) _ = _
  rw [allInts_map, ofO_some, bo_some, if_neg h]
  rfl
@[simp] theorem asSeq_t {ds : List D} : asSeq (.v (.tup ds)) s = some (ds, s) := Eq.trans rfl rfl
@[simp] theorem gRevL_l {ds : List D} : gRevL (.l (.lst ds)) s = some (.l (.lst ds.reverse), s) := Eq.trans rfl rfl
@[simp] theorem gSl_t {ds : List D} {l h : Option Int} : gSl (.v (.tup ds)) l h s = some (.v (.tup (cutD ds l h)), s) := Eq.trans rfl rfl
@[simp] theorem gSl_l {ds : List D} {l h : Option Int} : gSl (.l (.lst ds)) l h s = some (.l (.lst (cutD ds l h)), s) := Eq.trans rfl rfl
@[simp] theorem isTt_t {ds : List D} : gIsT "tuple" (.v (.tup ds)) s = some (.v (.bl true), s) := Eq.trans rfl rfl
@[simp] theorem isTi_i {k : Int} : gIsT "int" (.v (.int k)) s = some (.v (.bl true), s) := Eq.trans rfl rfl
@[simp] theorem isTb_i {k : Int} : gIsT "bool" (.v (.int k)) s = some (.v (.bl false), s) := Eq.trans rfl rfl
def fn1 : Fl → Sto → Rs R
  | .rt r, s => some (toO r, s)
  | .nx _, s => some (.v .non, s)
  | _, _ => none
@[simp] theorem fn1_rt : fn1 (.rt r) s = some (toO r, s) := Eq.trans rfl rfl
@[simp] theorem fn1_nx : fn1 (.nx e) s = some (.v .non, s) := Eq.trans rfl rfl
theorem runFn_ap {b : Env → M Fl} {rs : List R} : runFn n b rs st = bo (b (rs.map some ++ List.replicate n none) st) fn1 := by
  unfold runFn
  rw [bind_bo]
  congr 1
  funext fl s1
  cases fl <;> rfl
/-! while -/
def wh1 (n : Nat) (t : Env → M Bool) (b : Env → M Fl) : Fl → Sto → Rs Fl
  | .nx e, s => whileN n t b e s
  | .ct e, s => whileN n t b e s
  | .bk e, s => some (.nx e, s)
  | .rt r, s => some (.rt r, s)
theorem while_yes {e2 : Env} {s2 : Sto} {fl : Fl × Sto} (ht : t env st = some (true, s)) (hb : sa env s = some (.nx e2, s2)) (hw : sWhile t sa e2 s2 = some fl) : sWhile t sa env st = some fl := by
  obtain ⟨k, hk⟩ := while_inv hw
  refine while_some (n := k + 1) ?_
  show (t env >>= _) st = _
  rw [bind_bo, ht, bo_some, if_pos rfl, bind_bo, hb]
  exact hk
theorem while_no (ht : t env st = some (false, s)) : sWhile t sa env st = some (.nx env, s) := by
  refine while_some (n := 1) ?_
  show (t env >>= _) st = _
  rw [bind_bo, ht, bo_some, if_neg (by simp)]
  rfl
theorem while_rt {s2 : Sto} (ht : t env st = some (true, s)) (hb : sa env s = some (.rt r, s2)) : sWhile t sa env st = some (.rt r, s2) := by
  refine while_some (n := 1) ?_
  show (t env >>= _) st = _
  rw [bind_bo, ht, bo_some, if_pos rfl, bind_bo, hb]
  rfl
end
/-! ** of small ints; signs of // and % -/
@[simp] theorem gPow_ap {i j : Int} {s : Sto} (h1 : -18446744073709551616 < i) (h2 : i < 18446744073709551616) (h3 : 0 ≤ j) (h4 : j ≤ 1000000) : gPow (.v (.int i)) (.v (.int j)) s = some (.v (.int (i ^ j.toNat)), s) := by
  have hb : Builtin.Int.intBits i ≤ 64 := PyProof.Rows.intBits_le (by omega)
  have hb2 : (Builtin.Int.intBits i : Int) * j ≤ 2 ^ 27 := by
    have e1 : (Builtin.Int.intBits i : Int) ≤ 64 := by exact_mod_cast hb
    have e2 := Int.mul_le_mul e1 h4 h3 (by omega)
    omega
  rw [show (2 : Int) ^ 27 = 134217728 by decide] at hb2
  simp [gPow, gI, h3, hb2]
theorem fmod_nn (i : Int) {j : Int} (h : 0 < j) : 0 ≤ i.fmod j ∧ i.fmod j < j := by
  (rw [Int.fmod_eq_emod_of_nonneg _ (by omega)]); exact ⟨Int.emod_nonneg _ (by omega), Int.emod_lt_of_pos _ h⟩
theorem fdiv_nn {i j : Int} (h : 0 ≤ i) (hj : 0 < j) : 0 ≤ i.fdiv j ∧ i.fdiv j ≤ i := by
  rw [Int.fdiv_eq_ediv_of_nonneg _ (by omega)]
  exact ⟨Int.ediv_nonneg h (by omega), Int.ediv_le_self _ h⟩
theorem atI_nat {α : Type} {xs : List α} {i : Nat} : L2.atI xs (i : Int) = xs[i]? := by
  unfold L2.atI L2.ixN
  rw [if_pos (by omega)]
  by_cases h : i < xs.length
  · rw [if_pos (by omega)]
    simp
  · rw [if_neg (by omega), List.getElem?_eq_none (by omega)]
    rfl
section
variable {α : Type} {a b c d e : α} {xs : List α}
@[simp] theorem atI_0 : L2.atI (a :: xs) 0 = some a := atI_nat (i := 0)
@[simp] theorem atI_1 : L2.atI (a :: b :: xs) 1 = some b := atI_nat (i := 1)
@[simp] theorem atI_2 : L2.atI (a :: b :: c :: xs) 2 = some c := atI_nat (i := 2)
@[simp] theorem atI_3 : L2.atI (a :: b :: c :: d :: xs) 3 = some d := atI_nat (i := 3)
@[simp] theorem atI_4 : L2.atI (a :: b :: c :: d :: e :: xs) 4 = some e := atI_nat (i := 4)
end
@[simp] theorem ixN_30 : L2.ixN 3 0 = some 0 := Eq.trans rfl rfl
@[simp] theorem ixN_31 : L2.ixN 3 1 = some 1 := Eq.trans rfl rfl
@[simp] theorem ixN_32 : L2.ixN 3 2 = some 2 := Eq.trans rfl rfl
/-! factors that are natural numbers -/
theorem nat_lt {n : Nat} (h : n ≤ 1000000) : (n : Int) < 18446744073709551616 := Int.lt_of_le_of_lt (Int.ofNat_le.mpr h) (by decide)
theorem nat_gt (n : Nat) : (-18446744073709551616 : Int) < (n : Int) := Int.lt_of_lt_of_le (by decide) (Int.natCast_nonneg n)
@[simp] theorem gMul_nr {i : Int} {n : Nat} {s : Sto} (h : n ≤ 1000000) : gMul (.v (.int i)) (.v (.int (n : Int))) s = some (.v (.int (i * n)), s) := gMul_r (nat_gt n) (nat_lt h)
@[simp] theorem gMul_nl {i : Int} {n : Nat} {s : Sto} (h : n ≤ 1000000) : gMul (.v (.int (n : Int))) (.v (.int i)) s = some (.v (.int (n * i)), s) := gMul_l (nat_gt n) (nat_lt h)
/-! one turn -/
theorem turn_nx {g : Tg} {b : Env → M Fl} {d : D} {env e e2 : Env} {st s1 s2 : Sto} {ck : Sto → Prop} {I : Env → Sto → Prop} (hc : ck st) (hg : g d env st = some (e, s1)) (hb : b e s1 = some (.nx e2, s2)) (hI : I e2 s2) :
    ck st ∧ ∃ e st1 e2 st2, g d env st = some (e, st1) ∧ b e st1 = some (.nx e2, st2) ∧ I e2 st2 := ⟨hc, _, _, _, _, hg, hb, hI⟩
theorem turn_n {g : Tg} {b : Env → M Fl} {d : D} {env e e2 : Env} {st s1 s2 : Sto} {ck : Sto → Prop} {I : Env → Sto → Prop} {Rt : R → Sto → Prop} (hc : ck st) (hg : g d env st = some (e, s1)) (hb : b e s1 = some (.nx e2, s2)) (hI : I e2 s2) :
    ck st ∧ ∃ e st1, g d env st = some (e, st1) ∧ Ends I Rt (b e st1) := ⟨hc, _, _, hg, .inl ⟨_, _, hb, hI⟩⟩
theorem turn_r {g : Tg} {b : Env → M Fl} {d : D} {env e : Env} {r : R} {st s1 s2 : Sto} {ck : Sto → Prop} {I : Env → Sto → Prop} {Rt : R → Sto → Prop} (hc : ck st) (hg : g d env st = some (e, s1)) (hb : b e s1 = some (.rt r, s2)) (hI : Rt r s2) :
    ck st ∧ ∃ e st1, g d env st = some (e, st1) ∧ Ends I Rt (b e st1) := ⟨hc, _, _, hg, .inr ⟨_, _, hb, hI⟩⟩
end Mi
/-! Mi: equality of data. -/
namespace Mi
open PySem hiding Env
/-- data that may be compared: at most n deep -/
def Pd (n : Nat) (st : Sto) (d : D) (p : PyData) : Prop := (∀ k, n ≤ k → pdD k st d = some p) ∧ p.canLay0 = true ∧ p.depth ≤ n
def Pds (n : Nat) (st : Sto) (ds : List D) (ps : List PyData) : Prop := (∀ k, n ≤ k → pdL k st ds = some ps) ∧ PyData.canLayAll0 ps = true ∧ PyData.depthAll ps ≤ n
section
variable {n m : Nat} {st : Sto} {d e : D} {p q : PyData} {ds es : List D} {ps qs : List PyData}
theorem Pd.int (i : Int) : Pd 0 st (.int i) (.int i) := ⟨fun k _ => by rw [pdD], by rw [PyData.canLay0], by rw [PyData.depth]; exact Nat.le_refl _⟩
theorem Pd.bl (b : Bool) : Pd 0 st (.bl b) (.bool b) := ⟨fun k _ => by rw [pdD], by rw [PyData.canLay0], by rw [PyData.depth]; exact Nat.le_refl _⟩
theorem Pd.non : Pd 0 st .non .none := ⟨fun k _ => by rw [pdD], by rw [PyData.canLay0], by rw [PyData.depth]; exact Nat.le_refl _⟩
theorem Pd.str {x : Str} (h : PyData.strOk x = true) : Pd 0 st (.str x) (.str x) := ⟨fun k _ => by rw [pdD], by rw [PyData.canLay0]; exact h, by rw [PyData.depth]; exact Nat.le_refl _⟩
theorem Pd.up (h : Pd n st d p) (hn : n ≤ m) : Pd m st d p := ⟨fun k hk => h.1 k (Nat.le_trans hn hk), h.2.1, Nat.le_trans h.2.2 hn⟩
theorem Pds.nil : Pds n st [] [] := ⟨fun k _ => by rw [pdL], by rw [PyData.canLayAll0], by rw [PyData.depthAll]; exact Nat.zero_le _⟩
theorem Pds.cons (h : Pd n st d p) (t : Pds n st ds ps) : Pds n st (d :: ds) (p :: ps) := by
  refine ⟨fun k hk => ?_, ?_, ?_⟩
  · rw [pdL, h.1 k hk, t.1 k hk]
  · rw [PyData.canLayAll0, h.2.1, t.2.1]
    rfl
  · rw [PyData.depthAll]
    exact Nat.max_le.mpr ⟨h.2.2, t.2.2⟩
theorem Pds.map {α : Type} {f : α → D} {g : α → PyData} (h : ∀ x, Pd n st (f x) (g x)) : ∀ xs : List α, Pds n st (xs.map f) (xs.map g)
  | [] => .nil
  | x :: xs => .cons (h x) (Pds.map h xs)
theorem Pds.tup (h : Pds n st ds ps) : Pd (n + 1) st (.tup ds) (.tuple ps) := by
  refine ⟨fun k hk => ?_, ?_, ?_⟩
  · cases k with
    | zero => omega
    | succ k =>
      rw [pdD, h.1 k (by omega)]
      rfl
  · rw [PyData.canLay0]
    exact h.2.1
  · rw [PyData.depth]
    exact Nat.succ_le_succ h.2.2
theorem shaped_of {p : PyData} (h1 : p.canLay0 = true) (h2 : p.depth ≤ 64) : SeqAt.shaped p = true := by
  unfold SeqAt.shaped
  rw [h1, decide_eq_true h2]
  rfl
theorem cmpP {f : PyData → PyData → Bool} {a b : R} (ha : pdR st a = some p) (hb : pdR st b = some q) (h1 : SeqAt.shaped p = true) (h2 : SeqAt.shaped q = true) : gCmp f a b st = some (.v (.bl (f p q)), st) := by
  unfold gCmp
  rw [ha, hb]
  dsimp only
  rw [if_pos (by rw [h1, h2]; rfl)]
  rfl
theorem pdR_v (h : Pd n st d p) (hn : n ≤ 8) : pdR st (.v d) = some p := h.1 8 hn
theorem pdR_l (h : Pds n st ds ps) (hn : n ≤ 8) : pdR st (.l (.lst ds)) = some (.list ps) := by
  show (pdL 8 st ds).map PyData.list = _
  rw [h.1 8 hn]
  rfl
theorem pdR_o (h : Pds n st ds ps) (hn : n ≤ 8) : pdR st (.o (.lst ds)) = some (.list ps) := by
  show (pdL 8 st ds).map PyData.list = _
  rw [h.1 8 hn]
  rfl
theorem Pds.shaped (h : Pds n st ds ps) (hn : n ≤ 8) : SeqAt.shaped (.list ps) = true := shaped_of (by rw [PyData.canLay0]; exact h.2.1) (by rw [PyData.depth]; have := h.2.2; omega)
theorem Pd.shaped (h : Pd n st d p) (hn : n ≤ 8) : SeqAt.shaped p = true := shaped_of h.2.1 (by have := h.2.2; omega)
/-- values are compared -/
theorem gEq_vv (h : Pd n st d p) (h' : Pd m st e q) (hn : n ≤ 8) (hm : m ≤ 8) : gEq (.v d) (.v e) st = some (.v (.bl (PyData.eqv p q)), st) := cmpP (pdR_v h hn) (pdR_v h' hm) (h.shaped hn) (h'.shaped hm)
theorem gNe_vv (h : Pd n st d p) (h' : Pd m st e q) (hn : n ≤ 8) (hm : m ≤ 8) : gNe (.v d) (.v e) st = some (.v (.bl (!PyData.eqv p q)), st) := cmpP (pdR_v h hn) (pdR_v h' hm) (h.shaped hn) (h'.shaped hm)
@[simp] theorem gNe_bb (a b : Bool) (st : Sto) : gNe (.v (.bl a)) (.v (.bl b)) st = some (.v (.bl (a != b)), st) := by
  rw [gNe_vv (Pd.bl a) (Pd.bl b) (by omega) (by omega), PyData.eqv]
  rfl
/-- a list of its own and an empty one -/
theorem gEq_on (h : Pds n st ds ps) (hn : n ≤ 8) : gEq (.o (.lst ds)) (.l (.lst [])) st = some (.v (.bl ds.isEmpty), st) := by
  have e : PyData.eqv (.list ps) (.list []) = ds.isEmpty := by
    have hl := h.1 8 hn
    rw [PyData.eqv]
    cases ds with
    | nil =>
      rw [pdL] at hl
      cases hl
      rw [PyData.eqvAll]
      rfl
    | cons d ds =>
      cases ps with
      | nil =>
        rw [pdL] at hl
        split at hl <;> cases hl
      | cons p ps =>
        rw [PyData.eqvAll]
        rfl
  unfold gEq
  rw [cmpP (pdR_o h hn) (pdR_l (n := 0) .nil (by omega)) (h.shaped hn) (Pds.shaped (n := 0) (st := st) .nil (by omega)), e]
theorem gNe_on (h : Pds n st ds ps) (hn : n ≤ 8) : gNe (.o (.lst ds)) (.l (.lst [])) st = some (.v (.bl (!ds.isEmpty)), st) := by
  have h1 := gEq_on h hn
  unfold gEq at h1
  rw [cmpP (pdR_o h hn) (pdR_l (n := 0) .nil (by omega)) (h.shaped hn) (Pds.shaped (n := 0) (st := st) .nil (by omega))] at h1
  unfold gNe
  rw [cmpP (pdR_o h hn) (pdR_l (n := 0) .nil (by omega)) (h.shaped hn) (Pds.shaped (n := 0) (st := st) .nil (by omega))]
  simp at h1
  rw [h1]
theorem eqv_ints : ∀ (xs ys : List Int), PyData.eqvAll (xs.map .int) (ys.map .int) = decide (xs = ys)
  | [], [] => by rw [List.map_nil, PyData.eqvAll]; rfl
  | [], y :: ys => by rw [List.map_nil, List.map_cons, PyData.eqvAll]; simp
  | x :: xs, [] => by rw [List.map_nil, List.map_cons, PyData.eqvAll]; simp
  | x :: xs, y :: ys => by
    rw [List.map_cons, List.map_cons, PyData.eqvAll, PyData.eqv, eqv_ints xs ys]
    rw [Bool.eq_iff_iff]
    simp
theorem gNe_its (xs ys : List Int) (st : Sto) : gNe (.v (.tup (xs.map .int))) (.v (.tup (ys.map .int))) st = some (.v (.bl (!decide (xs = ys))), st) := by
  rw [gNe_vv (Pds.tup (Pds.map (fun i => Pd.int i) xs)) (Pds.tup (Pds.map (fun i => Pd.int i) ys)) (by omega) (by omega), PyData.eqv, eqv_ints]
end
end Mi
/-! Mj: how computations run, further: texts, dicts, instances. -/
namespace Mi
open PySem hiding Env
open PySem.Spec PyProof.Rows
section
variable {env e : Env} {st s : Sto} {i n np c : Nat} {r x y z : R} {d w : D} {g : R → M R} {ma mb mc mo mk mv : Env → M R} {ms : Env → M (List R)} {f q : Str} {m : List R → M R} {rs : List R} {ds : List D} {fs : List (Str × D)} {kvs : List (L2.Key × D)} {k : L2.Key}
/-! instances -/
theorem gFld_ap (h : s[n]? = some (.ins c fs)) (hf : fs.lookup f = some d) : gFld f (.v (.obj n)) s = some (.v d, s) := by
  show (match s[n]? with
    | some (.ins _ fs) => match fs.lookup f with
      | some d => some (R.v d, s)
      | none => none
    | _ => none) = _
  rw [h]
  dsimp only
  rw [hf]
theorem insIs_ap (h : s[n]? = some (.ins c fs)) (hf : fs.lookup f = none) : insIs c f (.v (.obj n)) s = some (.v (.obj n), s) := by
  show (match s[n]? with
    | some (.ins c' fs) => if c' = c ∧ (fs.lookup f).isNone = true then some (R.v (.obj n), s) else none
    | _ => none) = _
  rw [h]
  dsimp only
  rw [if_pos ⟨rfl, by rw [hf]; rfl⟩]
def me3 (np : Nat) (m : List R → M R) (o : R) (rs : List R) (s : Sto) : Rs R := if rs.length + 1 = np then bo (m (o :: rs.map lend) s) lastO else none
@[simp] theorem me3_ap (h : rs.length + 1 = np) : me3 np m x rs s = bo (m (x :: rs.map lend) s) lastO := if_pos h
def me2 (np : Nat) (m : List R → M R) (ms : Env → M (List R)) (env : Env) (o : R) (s : Sto) : Rs R := bo (ms env s) (me3 np m o)
@[simp] theorem me2_ap : me2 np m ms env x s = bo (ms env s) (me3 np m x) := Eq.trans rfl rfl
@[simp] theorem eMeth_ap : eMeth c f np m mo ms env st = bo (bo (mo env st) (insIs c f)) (me2 np m ms env) := by
  unfold eMeth
  rw [bind_bo, ← bo_as]
  congr 1
  funext o s1
  rw [bind_bo]
  congr 1
  funext o s2
  rw [bind_bo]
  unfold me2
  congr 1
  funext rs s3
  unfold me3
  split
  · rw [bind_bo]
    rfl
  · rfl
def pr1 (m : List R → M R) (o : R) (s : Sto) : Rs R := bo (m [o] s) lastO
@[simp] theorem pr1_ap : pr1 m x s = bo (m [x] s) lastO := Eq.trans rfl rfl
@[simp] theorem eProp_ap : eProp c m mo env st = bo (bo (mo env st) (insIs c "")) (pr1 m) := by
  unfold eProp
  rw [bind_bo, ← bo_as]
  congr 1
/-- a new instance, its __init__ run -/
def mk1 (n : Nat) : R → Sto → Rs R
  | .v .non, s => some (.v (.obj n), s)
  | _, _ => none
@[simp] theorem mk1_ap : mk1 n (.v .non) s = some (.v (.obj n), s) := Eq.trans rfl rfl
def mk0 (c np : Nat) (m : List R → M R) (rs : List R) (s : Sto) : Rs R := if rs.length + 1 = np then bo (m (.v (.obj s.length) :: rs.map lend) (s ++ [.ins c []])) (mk1 s.length) else none
@[simp] theorem mk0_ap (h : rs.length + 1 = np) : mk0 c np m rs s = bo (m (.v (.obj s.length) :: rs.map lend) (s ++ [.ins c []])) (mk1 s.length) := if_pos h
@[simp] theorem eMake_ap : eMake c np m ms env st = bo (ms env st) (mk0 c np m) := by
  unfold eMake
  rw [bind_bo]
  congr 1
  funext rs s1
  unfold mk0
  split
  · cases m (.v (.obj s1.length) :: rs.map lend) (s1 ++ [.ins c []]) with
    | none => rfl
    | some p =>
      obtain ⟨r, s2⟩ := p
      cases r with
      | v d => cases d <;> rfl
      | _ => rfl
  · rfl
theorem setFld_ap (h : s[n]? = some (.ins c fs)) (hl : fs.length < 900) : setFld f d (.v (.obj n)) s = some ((), s.set n (.ins c (putP f d fs))) := by
  show (match s[n]? with
    | some (.ins c fs) => if fs.length < 900 then some ((), s.set n (.ins c (putP f d fs))) else none
    | _ => none) = _
  rw [h]
  exact if_pos hl
def tf1 (env : Env) (_ : Unit) (s : Sto) : Rs Env := some (env, s)
@[simp] theorem tf1_ap {u : Unit} : tf1 env u s = some (env, s) := Eq.trans rfl rfl
@[simp] theorem gFldT_ap : gFldT f mo d env st = bo (bo (mo env st) (setFld f d)) (tf1 env) := by
  unfold gFldT
  rw [bind_bo, ← bo_as]
  congr 1
@[simp] theorem sAsgI_ap {g : Tg} : sAsgI g ma env st = bo (bo (bo (ma env st) alloc) toD) (as0 g env) := by
  unfold sAsgI
  rw [bind_bo, ← bo_as, ← bo_as]
  congr 1
theorem gIsC_ap (h : s[n]? = some (.ins c fs)) : gIsC c (.v (.obj n)) s = some (.v (.bl true), s) := by
  show (match s[n]? with
    | some (.ins c' _) => if c' = c then some (R.v (.bl true), s) else none
    | _ => none) = _
  rw [h]
  exact if_pos rfl
@[simp] theorem aConsI_ap : aConsI ma ms env st = bo (bo (ma env st) alloc) (aCons1 ms env) := by
  unfold aConsI
  rw [bind_bo, ← bo_as]
  congr 1
/-! texts -/
theorem bStr_ap {k : Int} (h : k.natAbs.log2 < 1920) : bStr [.v (.int k)] s = some (.v (.str (toString k)), s) := by
  show (if k.natAbs.log2 < 1920 then pure (R.v (.str (toString k))) else M.fail : M R) s = _
  rw [if_pos h]
  rfl
@[simp] theorem bIntS_i {k : Int} : bIntS [.v (.int k)] s = some (.v (.int k), s) := Eq.trans rfl rfl
@[simp] theorem bIntS_b {b : Bool} : bIntS [.v (.bl b)] s = some (.v (.int (if b = true then 1 else 0)), s) := Eq.trans rfl rfl
theorem bIntS_s {k : Int} (h : PySem.intText? q = some k) (hl : q.length ≤ 640) : bIntS [.v (.str q)] s = some (.v (.int k), s) := by
  show (if q.length ≤ 640 then (M.ofO (PySem.intText? q) >>= fun n => pure (R.v (.int n))) else M.fail : M R) s = _
  rw [if_pos hl, h]
  rfl
@[simp] theorem bLen_s (h : q.length ≤ 16777216) : bLen [.v (.str q)] s = some (.v (.int q.length), s) := by
  show (if lenOk q.length = true then pure (R.v (.int q.length)) else M.fail : M R) s = _
  rw [if_pos (show lenOk _ = true from decide_eq_true h)]
  rfl
@[simp] theorem gAdd_ss {p : Str} (h : p.length + q.length ≤ 16777216) : gAdd (.v (.str p)) (.v (.str q)) s = some (.v (.str (p ++ q)), s) := by
  show (if lenOk (p.length + q.length) = true then pure (R.v (.str (p ++ q))) else M.fail : M R) s = _
  rw [if_pos (show lenOk _ = true from decide_eq_true h)]
  rfl
@[simp] theorem gAdd_tt {es : List D} (h : ds.length + es.length ≤ 16777216) : gAdd (.v (.tup ds)) (.v (.tup es)) s = some (.v (.tup (ds ++ es)), s) := by
  show (if lenOk (ds.length + es.length) = true then pure (R.v (.tup (ds ++ es))) else M.fail : M R) s = _
  rw [if_pos (show lenOk _ = true from decide_eq_true h)]
  rfl
def sm2 (g : Str → List R → M R) (o : R) (rs : List R) (s : Sto) : Rs R := match o with
  | .v (.str z) => g z rs s
  | _ => none
@[simp] theorem sm2_ap {g : Str → List R → M R} : sm2 g (.v (.str q)) rs s = g q rs s := Eq.trans rfl rfl
def sm1 (g : Str → List R → M R) (ms : Env → M (List R)) (env : Env) (o : R) (s : Sto) : Rs R := bo (ms env s) (sm2 g o)
@[simp] theorem sm1_ap {g : Str → List R → M R} : sm1 g ms env x s = bo (ms env s) (sm2 g x) := Eq.trans rfl rfl
@[simp] theorem eStrM_ap {g : Str → List R → M R} : eStrM g mo ms env st = bo (mo env st) (sm1 g ms env) := by
  unfold eStrM
  rw [bind_bo]
  congr 1
  funext o s1
  rw [bind_bo]
  unfold sm1
  congr 1
  funext rs s2
  unfold sm2
  cases o with
  | v d => cases d <;> rfl
  | _ => rfl
theorem fJoin_ap {ys : List Str} (hx : asSeq x s = some (ys.map .str, s)) (h : (ys.map (·.length)).sum + ys.length * q.length ≤ 16777216) : fJoin q [x] s = some (.v (.str (Txt.join q ys)), s) := by
  show (asSeq x >>= fun ds => M.ofO (allStrs ds) >>= fun ys => if (ys.map (·.length)).sum + ys.length * q.length ≤ 16777216 then pure (R.v (.str (Txt.join q ys))) else M.fail) s = _
  rw [bind_bo, hx, bo_some, allStrs_map, bind_bo, ofO_some, bo_some, if_pos h]
  rfl
theorem fSplit_ap {p : Str} (h1 : (p.length == 0) = false) (h2 : q.length + 2 ≤ 16777216) : fSplit q [.v (.str p)] s = some (.l (.lst ((Txt.split q p).map .str)), s) := by
  show (if (p.length == 0) = false ∧ q.length + 2 ≤ 16777216 then pure (R.l (.lst ((Txt.split q p).map .str))) else M.fail : M R) s = _
  rw [if_pos ⟨h1, h2⟩]
  rfl
@[simp] theorem asSig_ap : asSig (.v (.str q)) s = some (⟨q.cps.toList.map fun c => .str ⟨#[c]⟩, tr1⟩, s) := Eq.trans rfl rfl
@[simp] theorem mSig_ap : mSig ma env st = bo (ma env st) asSig := bind_bo _ _ _
theorem gLenSet_ap {ys : List Str} (hx : asSeq x s = some (ys.map .str, s)) (h1 : ys.Nodup) (h2 : ys.length ≤ 1000) : gLenSet x s = some (.v (.int ys.length), s) := by
  show (asSeq x >>= fun ds => M.ofO (allStrs ds) >>= fun ys => if ys.Nodup ∧ ys.length ≤ 1000 then pure (R.v (.int ys.length)) else M.fail) s = _
  rw [bind_bo, hx, bo_some, allStrs_map, bind_bo, ofO_some, bo_some, if_pos ⟨h1, h2⟩]
  rfl
/-! dicts -/
@[simp] theorem eDic_ap : eDic env st = some (.v (.obj st.length), st ++ [.dic []]) := Eq.trans rfl rfl
theorem dicAt_ap (h : s[n]? = some (.dic kvs)) : dicAt (.v (.obj n)) s = some (n, kvs) := by
  show (match s[n]? with
    | some (.dic kvs) => some (n, kvs)
    | _ => none) = _
  rw [h]
@[simp] theorem toKey_i {k : Int} : toKey (.int k) = some (.inl k) := Eq.trans rfl rfl
@[simp] theorem toKey_s : toKey (.str q) = some (.inr q) := Eq.trans rfl rfl
theorem gDGet_ap (h : s[n]? = some (.dic kvs)) (hk : toKey d = some k) (hv : dVal kvs k = some w) : gDGet (.v (.obj n)) (.v d) s = some (.v w, s) := by
  show (match dicAt (.v (.obj n)) s, toKey d with
    | some (_, kvs), some k => match dVal kvs k with
      | some w => some (R.v w, s)
      | none => none
    | _, _ => none) = _
  rw [dicAt_ap h, hk]
  dsimp only
  rw [hv]
theorem gIxD_dic (h : s[n]? = some (.dic kvs)) (hk : toKey d = some k) (hv : dVal kvs k = some w) : gIxD (.v (.obj n)) (.v d) s = some (.v w, s) := by
  show (match dicAt (.v (.obj n)) s with
    | some _ => gDGet (.v (.obj n)) (.v d) s
    | none => gIx (.v (.obj n)) (.v d) s) = _
  rw [dicAt_ap h]
  exact gDGet_ap h hk hv
theorem gIxD_no (h : dicAt x s = none) : gIxD x y s = gIx x y s := by
  show (match dicAt x s with
    | some _ => gDGet x y s
    | none => gIx x y s) = _
  rw [h]
theorem setDic_ap (h : s[n]? = some (.dic kvs)) (hk : toKey d = some k) (hl : kvs.length < 1000000) : setDic (.v (.obj n)) (.v d) w s = some ((), s.set n (.dic (dPut kvs k w))) := by
  show (match dicAt (.v (.obj n)) s, toKey d with
    | some (n, kvs), some k => if kvs.length < 1000000 then some ((), s.set n (.dic (dPut kvs k w))) else none
    | _, _ => none) = _
  rw [dicAt_ap h, hk]
  exact if_pos hl
def dp4 (env : Env) (_ : Unit) (s : Sto) : Rs Fl := some (.nx env, s)
@[simp] theorem dp4_ap {u : Unit} : dp4 env u s = some (.nx env, s) := Eq.trans rfl rfl
def dp3 (env : Env) (d : D) (o y : R) (s : Sto) : Rs Fl := bo (setDic o y d s) (dp4 env)
@[simp] theorem dp3_ap : dp3 env d x y s = bo (setDic x y d s) (dp4 env) := Eq.trans rfl rfl
def dp2 (mk : Env → M R) (env : Env) (d : D) (o : R) (s : Sto) : Rs Fl := bo (mk env s) (dp3 env d o)
@[simp] theorem dp2_ap : dp2 mk env d x s = bo (mk env s) (dp3 env d x) := Eq.trans rfl rfl
def dp1 (mo mk : Env → M R) (env : Env) (d : D) (s : Sto) : Rs Fl := bo (mo env s) (dp2 mk env d)
@[simp] theorem dp1_ap : dp1 mo mk env d s = bo (mo env s) (dp2 mk env d) := Eq.trans rfl rfl
@[simp] theorem sDPut_ap : sDPut mo mk mv env st = bo (bo (bo (mv env st) alloc) toD) (dp1 mo mk env) := by
  unfold sDPut
  rw [bind_bo, ← bo_as, ← bo_as]
  congr 1
theorem isDic_ap (h : s[n]? = some (.dic kvs)) : isDic (.v (.obj n)) s = some (.v (.obj n), s) := by
  show (match dicAt (.v (.obj n)) s with
    | some _ => some (R.v (.obj n), s)
    | none => none) = _
  rw [dicAt_ap h]
theorem getOr_ap (h : s[n]? = some (.dic kvs)) (hk : toKey d = some k) : getOr (.v (.obj n)) (.v d) z s = match dVal kvs k with
    | some w => some (.v w, s)
    | none => some (z, s) := by
  show (match dicAt (.v (.obj n)) s, toKey d with
    | some (_, kvs), some k => match dVal kvs k with
      | some w => some (R.v w, s)
      | none => some (z, s)
    | _, _ => none) = _
  rw [dicAt_ap h, hk]
def ge3 (o y z : R) (s : Sto) : Rs R := getOr o y z s
@[simp] theorem ge3_ap : ge3 x y z s = getOr x y z s := Eq.trans rfl rfl
def ge2 (mz : Env → M R) (env : Env) (o y : R) (s : Sto) : Rs R := bo (mz env s) (ge3 o y)
@[simp] theorem ge2_ap : ge2 mc env x y s = bo (mc env s) (ge3 x y) := Eq.trans rfl rfl
def ge1 (mk mz : Env → M R) (env : Env) (o : R) (s : Sto) : Rs R := bo (mk env s) (ge2 mz env o)
@[simp] theorem ge1_ap : ge1 mk mc env x s = bo (mk env s) (ge2 mc env x) := Eq.trans rfl rfl
@[simp] theorem eGet2_ap : eGet2 mo mk mc env st = bo (bo (mo env st) isDic) (ge1 mk mc env) := by
  unfold eGet2
  rw [bind_bo, ← bo_as]
  congr 1
theorem gNeEmp_ap (h : s[n]? = some (.dic kvs)) : gNeEmp (.v (.obj n)) s = some (.v (.bl (!kvs.isEmpty)), s) := by
  show (match dicAt (.v (.obj n)) s with
    | some (_, kvs) => some (R.v (.bl (!kvs.isEmpty)), s)
    | none => none) = _
  rw [dicAt_ap h]
theorem bLenD_dic (h : s[n]? = some (.dic kvs)) : bLenD [.v (.obj n)] s = some (.v (.int kvs.length), s) := by
  show (match dicAt (.v (.obj n)) s with
    | some (_, kvs) => some (R.v (.int kvs.length), s)
    | none => bLen [.v (.obj n)] s) = _
  rw [dicAt_ap h]
theorem bTupD_dic (h : s[n]? = some (.dic kvs)) : bTupD [.v (.obj n)] s = some (.v (.tup (kvs.map fun kv : L2.Key × D => keyD kv.1)), s) := by
  show (match dicAt (.v (.obj n)) s with
    | some (_, kvs) => some (R.v (.tup (kvs.map fun kv : L2.Key × D => keyD kv.1)), s)
    | none => bTup [.v (.obj n)] s) = _
  rw [dicAt_ap h]
@[simp] theorem dicAt_t : dicAt (.v (.tup ds)) s = none := Eq.trans rfl rfl
@[simp] theorem dicAt_s : dicAt (.v (.str q)) s = none := Eq.trans rfl rfl
@[simp] theorem dicAt_l {o : O} : dicAt (.l o) s = none := Eq.trans rfl rfl
@[simp] theorem dicAt_o {o : O} : dicAt (.o o) s = none := Eq.trans rfl rfl
@[simp] theorem dicAt_b {o : O} : dicAt (.b o) s = none := Eq.trans rfl rfl
theorem dicAt_lst (h : s[n]? = some (.lst ds)) : dicAt (.v (.obj n)) s = none := by
  show (match s[n]? with
    | some (.dic kvs) => some (n, kvs)
    | _ => none) = _
  rw [h]
theorem bLenD_no (h : dicAt x s = none) : bLenD [x] s = bLen [x] s := by
  show (match dicAt x s with
    | some (_, kvs) => some (R.v (.int kvs.length), s)
    | none => bLen [x] s) = _
  rw [h]
@[simp] theorem bLenD_t : bLenD [.v (.tup ds)] s = some (.v (.int ds.length), s) := Eq.trans (bLenD_no dicAt_t) bLen_t
@[simp] theorem bLenD_l : bLenD [.l (.lst ds)] s = some (.v (.int ds.length), s) := Eq.trans (bLenD_no dicAt_l) bLen_l
@[simp] theorem bLenD_o : bLenD [.o (.lst ds)] s = some (.v (.int ds.length), s) := Eq.trans (bLenD_no dicAt_o) bLen_o
@[simp] theorem bLenD_b : bLenD [.b (.lst ds)] s = some (.v (.int ds.length), s) := Eq.trans (bLenD_no dicAt_b) bLen_b
@[simp] theorem bLenD_c : bLenD [.b (.cst ds)] s = some (.v (.int ds.length), s) := Eq.trans (bLenD_no dicAt_b) bLen_c
@[simp] theorem bLenD_s (h : q.length ≤ 16777216) : bLenD [.v (.str q)] s = some (.v (.int q.length), s) := Eq.trans (bLenD_no dicAt_s) (bLen_s h)
theorem bLenD_st (h : s[n]? = some (.lst ds)) : bLenD [.v (.obj n)] s = some (.v (.int ds.length), s) := by
  rw [bLenD_no (dicAt_lst h)]
  show (asSeq (.v (.obj n)) >>= fun ds => pure (R.v (.int ds.length))) s = _
  rw [bind_bo]
  have e : asSeq (.v (.obj n)) s = some (ds, s) := by
    show (match s[n]? with
      | some (.lst ds) => some (ds, s)
      | _ => none) = _
    rw [h]
  rw [e]
  rfl
theorem bTupD_no (h : dicAt x s = none) : bTupD [x] s = bTup [x] s := by
  show (match dicAt x s with
    | some (_, kvs) => some (R.v (.tup (kvs.map fun kv : L2.Key × D => keyD kv.1)), s)
    | none => bTup [x] s) = _
  rw [h]
@[simp] theorem bTupD_l : bTupD [.l (.lst ds)] s = some (.v (.tup ds), s) := Eq.trans (bTupD_no dicAt_l) bTup_l
@[simp] theorem bTupD_o : bTupD [.o (.lst ds)] s = some (.v (.tup ds), s) := Eq.trans (bTupD_no dicAt_o) bTup_o
@[simp] theorem bTupD_b : bTupD [.b (.lst ds)] s = some (.v (.tup ds), s) := Eq.trans (bTupD_no dicAt_b) bTup_b
@[simp] theorem bTupD_t : bTupD [.v (.tup ds)] s = some (.v (.tup ds), s) := Eq.trans (bTupD_no dicAt_t) bTup_t
theorem bLstD_no (h : dicAt x s = none) : bLstD [x] s = bLst [x] s := by
  show (match dicAt x s with
    | some (_, kvs) => some (R.l (.lst (kvs.map fun kv : L2.Key × D => keyD kv.1)), s)
    | none => bLst [x] s) = _
  rw [h]
@[simp] theorem bLstD_t : bLstD [.v (.tup ds)] s = some (.l (.lst ds), s) := Eq.trans (bLstD_no dicAt_t) rfl
@[simp] theorem bLstD_l : bLstD [.l (.lst ds)] s = some (.l (.lst ds), s) := Eq.trans (bLstD_no dicAt_l) rfl
@[simp] theorem bLstD_o : bLstD [.o (.lst ds)] s = some (.l (.lst ds), s) := Eq.trans (bLstD_no dicAt_o) rfl
@[simp] theorem bLstD_b : bLstD [.b (.lst ds)] s = some (.l (.lst ds), s) := Eq.trans (bLstD_no dicAt_b) rfl
@[simp] theorem gIxD_t {j : R} : gIxD (.v (.tup ds)) j s = gIx (.v (.tup ds)) j s := gIxD_no dicAt_t
@[simp] theorem gIxD_l {o : O} {j : R} : gIxD (.l o) j s = gIx (.l o) j s := gIxD_no dicAt_l
@[simp] theorem gIxD_o {o : O} {j : R} : gIxD (.o o) j s = gIx (.o o) j s := gIxD_no dicAt_o
@[simp] theorem gIxD_b {o : O} {j : R} : gIxD (.b o) j s = gIx (.b o) j s := gIxD_no dicAt_b
@[simp] theorem gIxD_s {j : R} : gIxD (.v (.str q)) j s = gIx (.v (.str q)) j s := gIxD_no dicAt_s
/-! in -/
theorem gIn_ap {b : Bool} (h : gInB x y s = some b) : gIn x y s = some (.v (.bl b), s) := by
  show (gInB x y s).map (fun k => (R.v (.bl k), s)) = _
  rw [h]
  rfl
theorem gNotIn_ap {b : Bool} (h : gInB x y s = some b) : gNotIn x y s = some (.v (.bl (!b)), s) := by
  show (gInB x y s).map (fun k => (R.v (.bl (!k)), s)) = _
  rw [h]
  rfl
theorem inB_sign {a : Nat} {p : Str} : gInB (.v (.str ⟨#[a]⟩)) (.v (.str p)) s = some (decide (a ∈ p.cps.toList)) := Eq.trans rfl rfl
theorem inB_dic (h : s[n]? = some (.dic kvs)) (hk : toKey d = some k) : gInB (.v d) (.v (.obj n)) s = some (dVal kvs k).isSome := by
  have e : gInB (.v d) (.v (.obj n)) s = (match dicAt (.v (.obj n)) s, toKey d with
    | some (_, kvs), some k => some (dVal kvs k).isSome
    | some _, none => none
    | none, _ => match asSeq (.v (.obj n)) s with
      | some (ds, _) => if (flatD d && ds.all flatD) = true then some (ds.any fun y => eqFlat y d) else none
      | none => none) := by cases d <;> rfl
  rw [e, dicAt_ap h, hk]
theorem inB_seq (hn : dicAt y s = none) (hy : asSeq y s = some (ds, s)) (h1 : flatD d = true) (h2 : ds.all flatD = true) : gInB (.v d) y s = some (ds.any fun y => eqFlat y d) := by
  have e : gInB (.v d) y s = (match dicAt y s, toKey d with
    | some (_, kvs), some k => some (dVal kvs k).isSome
    | some _, none => none
    | none, _ => match asSeq y s with
      | some (ds, _) => if (flatD d && ds.all flatD) = true then some (ds.any fun y => eqFlat y d) else none
      | none => none) := by
    cases d with
    | str z => cases y with
      | v d2 => cases d2 <;> first | rfl | cases hy
      | _ => rfl
    | _ => rfl
  rw [e, hn]
  dsimp only
  rw [hy]
  exact if_pos (by rw [h1, h2]; rfl)
end
end Mi
/-! againandagain_k91_whole_rests_and_pieces: what the defs compute; printed. -/
namespace K91
open PySem hiding Env
open Mi
/-- _law_cells: 0 script, 1 limit -/
noncomputable def m__law_cells : Mi.Env → M Fl :=
 (sRet (eLR1 (eB bMax (aCons (eC (.int 1)) (aCons (eB bMin (aCons (eVar 1) (aCons (eB bLenD (aCons (eVar 0) aNil)) aNil))) aNil)))))
noncomputable def f__law_cells : List R → M R := runFn 0 m__law_cells
/-- _law_pot: 0 script, 1 place, 2 cell, 3 own, 4 small -/
noncomputable def m__law_pot : Mi.Env → M Fl :=
 (sSeq (sSet 2 (eIf (tBl (eOp gLt (eVar 1) (eB bLenD (aCons (eVar 0) aNil)))) (eOp gIx (eVar 0) (eVar 1)) (eOp gAdd (eOp gAdd (eOp gMod (eB bSum (aCons (eSl (eVar 0) (ePart none) (ePart (some (eC (.int 1))))) aNil)) (eC (.int 1000003))) (eOp gMul (eC (.int 10539)) (eVar 1))) (eC (.int 7891)))))
 (sSeq (sSet 3 (eOp gMul (eOp gMod (eB bIntS (aCons (eB bAbs (aCons (eVar 2) aNil)) aNil)) (eOp gPow (eOp gPow (eC (.int 10)) (eC (.int 60))) (eC (.int 5)))) (eB bIntS (aCons (eOp gGe (eB bAbs (aCons (eVar 2) aNil)) (eOp gPow (eC (.int 10)) (eC (.int 18)))) aNil))))
 (sSeq (sSet 4 (eOp gMod (eB bIntS (aCons (eVar 2) aNil)) (eC (.int 2305843009213693951))))
 (sRet (eLst (aCons (eVar 3) (aCons (eOp gMod (eB bIntS (aCons (eOp gAdd (eOp gAdd (eOp gMul (eVar 4) (eC (.int 80937))) (eOp gMul (eOp gMul (eC (.int 7909)) (eVar 1)) (eVar 1))) (eC (.int 2871))) aNil)) (eC (.int 2305843009213693921))) (aCons (eC (.int 0)) aNil))))))))
noncomputable def f__law_pot : List R → M R := runFn 3 m__law_pot
/-- RuleReader____init__: 0 self -/
noncomputable def m_RuleReader____init__ : Mi.Env → M Fl :=
 (sSeq (sAsgI (gFldT "own_rules" (eVar 0)) eDic)
 (sSeq (sAsgI (gFldT "own_stars" (eVar 0)) eDic)
 (sAsgI (gFldT "own_takes" (eVar 0)) eDic)))
noncomputable def f_RuleReader____init__ : List R → M R := runFn 0 m_RuleReader____init__
/-- RuleReader__found: 0 self -/
noncomputable def m_RuleReader__found : Mi.Env → M Fl :=
 (sRet (eTup (aCons (eU (gFld "own_rules") (eVar 0)) (aCons (eU (gFld "own_stars") (eVar 0)) (aCons (eU (gFld "own_takes") (eVar 0)) aNil)))))
noncomputable def f_RuleReader__found : List R → M R := runFn 0 m_RuleReader__found
/-- read_integer: 0 word, 1 figures, 2 number, 3 sign -/
noncomputable def g1_read_integer : Tg :=
 (gN 3)
noncomputable def e1_read_integer : Mi.Env → M R :=
 (eOp gIn (eVar 3) (eC (.str "0123456789")))
noncomputable def m_read_integer : Mi.Env → M Fl :=
 (sSeq (sSet 1 (eIf (tBl (eOp gEq (eSl (eVar 0) (ePart none) (ePart (some (eC (.int 1))))) (eC (.str "-")))) (eSl (eVar 0) (ePart (some (eC (.int 1)))) (ePart none)) (eVar 0)))
 (sSeq (sIf (tOr2 (tBl (eOp gEq (eVar 1) (eC (.str "")))) (tOr2 (tBl (eOp gGt (eB bLenD (aCons (eVar 1) aNil)) (eC (.int 9)))) (tNot1 (tTr (eB bAll (aCons (eComp [3] (mSig (eVar 1)) g1_read_integer tTrue e1_read_integer) aNil))))))
 (sRet (eC .non))
 sNil)
 (sSeq (sSet 2 (eB bIntS (aCons (eVar 0) aNil)))
 (sRet (eIf (tBl (eOp gEq (eB bStr (aCons (eVar 2) aNil)) (eVar 0))) (eVar 2) (eC .non))))))
noncomputable def f_read_integer : List R → M R := runFn 3 m_read_integer
/-- read_number: 0 word, 1 least, 2 most, 3 number -/
noncomputable def m_read_number : Mi.Env → M Fl :=
 (sSeq (sSet 3 (eCall 1 f_read_integer (aCons (eVar 0) aNil)))
 (sRet (eIf (tAnd2 (tBl (eOp gNotN (eVar 3) (eC .non))) (tBl (eChain gLe gLe (eVar 1) (eVar 3) (eVar 2)))) (eVar 3) (eC .non))))
noncomputable def f_read_number : List R → M R := runFn 1 m_read_number
/-- RuleReader__takes_each: 0 self, 1 name, 2 words, 3 number, 4 begin -/
noncomputable def m_RuleReader__takes_each : Mi.Env → M Fl :=
 (sSeq (sIf (tOr2 (tBl (eOp gNe (eB bLenD (aCons (eVar 2) aNil)) (eC (.int 3)))) (tBl (eOp gNe (eOp gIx (eVar 2) (eC (.int 1))) (eC (.str "from")))))
 (sRet (eC (.bl false)))
 sNil)
 (sSeq (sPar [(3, .f), (4, .f)] (aCons (eCall 3 f_read_number (aCons (eOp gIx (eVar 2) (eC (.int 0))) (aCons (eC (.int 1)) (aCons (eC (.int 999999)) aNil)))) (aCons (eCall 3 f_read_number (aCons (eOp gIx (eVar 2) (eC (.int 2))) (aCons (eC (.int 0)) (aCons (eC (.int 210379679)) aNil)))) aNil)))
 (sSeq (sIf (tOr2 (tBl (eOp gIsN (eVar 3) (eC .non))) (tBl (eOp gIsN (eVar 4) (eC .non))))
 (sRet (eC (.bl false)))
 sNil)
 (sSeq (sDPut (eU (gFld "own_rules") (eVar 0)) (eVar 1) (eTup (aCons (eC (.str "each")) (aCons (eVar 3) (aCons (eVar 4) aNil)))))
 (sRet (eC (.bl true)))))))
noncomputable def f_RuleReader__takes_each : List R → M R := runFn 2 m_RuleReader__takes_each
/-- RuleReader__takes_fields: 0 self, 1 name, 2 word, 3 words, 4 some, 5 own, 6 least, 7 most -/
noncomputable def m_RuleReader__takes_fields : Mi.Env → M Fl :=
 (sSeq sNever
 (sSeq sNever
 (sSeq (sIf (tBl (eOp gIn (eC .non) (eVar 4)))
 (sRet (eC (.bl false)))
 sNil)
 (sSeq (sDPut (eU (gFld "own_rules") (eVar 0)) (eVar 1) (eTup (aCons (eVar 2) (aStar (eVar 4) aNil))))
 (sSeq (sDPut (eU (gFld "own_stars") (eVar 0)) (eVar 1) (eTup (aCons (eOp gEq (eOp gIx (eVar 3) (eC (.int 2))) (eC (.str "*"))) (aCons (eOp gEq (eOp gIx (eVar 3) (eC (.int 4))) (eC (.str "*"))) aNil))))
 (sRet (eC (.bl true))))))))
noncomputable def f_RuleReader__takes_fields : List R → M R := runFn 4 m_RuleReader__takes_fields
/-- RuleReader__takes_long: 0 self, 1 words, 2 some, 3 word -/
noncomputable def g1_RuleReader__takes_long : Tg :=
 (gN 3)
noncomputable def e1_RuleReader__takes_long : Mi.Env → M R :=
 (eCall 3 f_read_number (aCons (eVar 3) (aCons (eC (.int 1)) (aCons (eC (.int 999999)) aNil))))
noncomputable def m_RuleReader__takes_long : Mi.Env → M Fl :=
 (sSeq (sIf (tOr2 (tBl (eOp gNe (eB bLenD (aCons (eVar 1) aNil)) (eC (.int 3)))) (tOr2 (tBl (eOp gNotIn (eOp gIx (eVar 1) (eC (.int 0))) (eU (gFld "own_rules") (eVar 0)))) (tBl (eOp gIn (eOp gIx (eVar 1) (eC (.int 0))) (eU (gFld "own_takes") (eVar 0))))))
 (sRet (eC (.bl false)))
 sNil)
 (sSeq (sSet 2 (eComp [3] (mSeq (eSl (eVar 1) (ePart (some (eC (.int 1)))) (ePart none))) g1_RuleReader__takes_long tTrue e1_RuleReader__takes_long))
 (sSeq (sIf (tBl (eOp gIn (eC .non) (eVar 2)))
 (sRet (eC (.bl false)))
 sNil)
 (sSeq (sDPut (eU (gFld "own_takes") (eVar 0)) (eOp gIx (eVar 1) (eC (.int 0))) (eB bTupD (aCons (eVar 2) aNil)))
 (sRet (eC (.bl true)))))))
noncomputable def f_RuleReader__takes_long : List R → M R := runFn 2 m_RuleReader__takes_long
/-- is_name: 0 value, 1 sign -/
noncomputable def g1_is_name : Tg :=
 (gN 1)
noncomputable def e1_is_name : Mi.Env → M R :=
 (eOr (eOp gIn (eVar 1) (eC (.str "abcdefghijklmnopqrstuvwxyz"))) (eOp gIn (eVar 1) (eC (.str "0123456789"))))
noncomputable def m_is_name : Mi.Env → M Fl :=
 (sSeq (sIf (tOr2 (tNot1 (tTr (eU (gIsT "str") (eVar 0)))) (tOr2 (tNot1 (tBl (eChain gLt gLe (eC (.int 0)) (eB bLenD (aCons (eVar 0) aNil)) (eC (.int 8))))) (tBl (eOp gNotIn (eOp gIx (eVar 0) (eC (.int 0))) (eC (.str "abcdefghijklmnopqrstuvwxyz"))))))
 (sRet (eC (.bl false)))
 sNil)
 (sRet (eB bAll (aCons (eComp [1] (mSig (eVar 0)) g1_is_name tTrue e1_is_name) aNil))))
noncomputable def f_is_name : List R → M R := runFn 1 m_is_name
/-- RuleReader__takes: 0 self, 1 line, 2 words -/
noncomputable def m_RuleReader__takes : Mi.Env → M Fl :=
 (sSeq (sSet 2 (eStrM fSplit (eVar 1) (aCons (eC (.str " ")) aNil)))
 (sSeq (sIf (tBl (eOp gEq (eOp gIx (eVar 2) (eC (.int 0))) (eC (.str "takes"))))
 (sRet (eMeth 0 "takes_long" 2 f_RuleReader__takes_long (eVar 0) (aCons (eSl (eVar 2) (ePart (some (eC (.int 1)))) (ePart none)) aNil)))
 sNil)
 (sSeq (sIf (tOr2 (tBl (eOp gNe (eOp gIx (eVar 2) (eC (.int 0))) (eC (.str "job")))) (tOr2 (tBl (eOp gLt (eB bLenD (aCons (eVar 2) aNil)) (eC (.int 3)))) (tOr2 (tBl (eU gNeEmp (eU (gFld "own_takes") (eVar 0)))) (tBl (eOp gEq (eB bLenD (aCons (eU (gFld "own_rules") (eVar 0)) aNil)) (eC (.int 12)))))))
 (sRet (eC (.bl false)))
 sNil)
 (sSeq (sIf (tOr2 (tNot1 (tTr (eCall 1 f_is_name (aCons (eOp gIx (eVar 2) (eC (.int 1))) aNil)))) (tBl (eOp gIn (eOp gIx (eVar 2) (eC (.int 1))) (eU (gFld "own_rules") (eVar 0)))))
 (sRet (eC (.bl false)))
 sNil)
 (sSeq (sIf (tBl (eOp gEq (eOp gIx (eVar 2) (eC (.int 2))) (eC (.str "each"))))
 (sRet (eMeth 0 "takes_each" 3 f_RuleReader__takes_each (eVar 0) (aCons (eOp gIx (eVar 2) (eC (.int 1))) (aCons (eSl (eVar 2) (ePart (some (eC (.int 3)))) (ePart none)) aNil))))
 sNil)
 (sRet (eAnd (eOp gIn (eOp gIx (eVar 2) (eC (.int 2))) (eTup (aCons (eC (.str "at")) (aCons (eC (.str "or")) aNil)))) (eMeth 0 "takes_fields" 4 f_RuleReader__takes_fields (eVar 0) (aCons (eOp gIx (eVar 2) (eC (.int 1))) (aCons (eOp gIx (eVar 2) (eC (.int 2))) (aCons (eSl (eVar 2) (ePart (some (eC (.int 3)))) (ePart none)) aNil)))))))))))
noncomputable def f_RuleReader__takes : List R → M R := runFn 1 m_RuleReader__takes
/-- Rules____init__: 0 self, 1 text, 2 reader, 3 number, 4 line -/
noncomputable def g1_Rules____init__ : Tg :=
 (gTp 2 (gCs (gN 3) (gCs (gN 4) gNl)))
noncomputable def b1_Rules____init__ : Mi.Env → M Fl :=
 (sIf (tNot1 (tTr (eMeth 0 "takes" 2 f_RuleReader__takes (eVar 2) (aCons (eVar 4) aNil))))
 sNever
 sNil)
noncomputable def m_Rules____init__ : Mi.Env → M Fl :=
 (sSeq (sIf (tNot1 (tTr (eU (gIsT "str") (eVar 1))))
 sNever
 sNil)
 (sSeq (sSet 2 (eMake 0 1 f_RuleReader____init__ aNil))
 (sSeq (sFor [] (mEnum (eStrM fSplit (eVar 1) (aCons (eC (.str "\n")) aNil))) g1_Rules____init__ b1_Rules____init__)
 (sSeq (sAsgI (gFldT "own_text" (eVar 0)) (eVar 1))
 (sSeq (sAsg (gTp 3 (gCs (gFldT "own_rules" (eVar 0)) (gCs (gFldT "own_stars" (eVar 0)) (gCs (gFldT "own_takes" (eVar 0)) gNl)))) (eMeth 0 "found" 1 f_RuleReader__found (eVar 2) aNil))
 (sAsgI (gFldT "own_jobs" (eVar 0)) (eB bTupD (aCons (eU (gFld "own_rules") (eVar 0)) aNil))))))))
noncomputable def f_Rules____init__ : List R → M R := runFn 3 m_Rules____init__
/-- _law_first: 0 jobs, 1 far, 2 begin, 3 time, 4 number, 5 first -/
noncomputable def g1__law_first : Tg :=
 (gTp 2 (gCs (gN 4) (gCs (gN 3) gNl)))
noncomputable def e1__law_first : Mi.Env → M R :=
 (eVar 3)
noncomputable def g2__law_first : Tg :=
 (gTp 2 (gCs (gN 4) (gCs (gN 5) gNl)))
noncomputable def e2__law_first : Mi.Env → M R :=
 (eOp gEq (eOp gMod (eOp gSub (eVar 3) (eVar 5)) (eVar 4)) (eC (.int 0)))
noncomputable def g3__law_first : Tg :=
 (gN 3)
noncomputable def b1__law_first : Mi.Env → M Fl :=
 (sIf (tTr (eB bAll (aCons (eComp [4, 5] (mSeq (eVar 0)) g2__law_first tTrue e2__law_first) aNil)))
 (sRet (eVar 3))
 sNil)
noncomputable def m__law_first : Mi.Env → M Fl :=
 (sSeq (sSet 2 (eB bMax (aCons (eComp [4, 3] (mSeq (eVar 0)) g1__law_first tTrue e1__law_first) aNil)))
 (sSeq (sFor [] (mR2 (aCons (eVar 2) (aCons (eOp gAdd (eVar 2) (eVar 1)) aNil))) g3__law_first b1__law_first)
 (sRet (eC .non))))
noncomputable def f__law_first : List R → M R := runFn 4 m__law_first
/-- _law_field: 0 some, 1 number -/
noncomputable def g1__law_field : Tg :=
 (gN 1)
noncomputable def e1__law_field : Mi.Env → M R :=
 (eB bStr (aCons (eVar 1) aNil))
noncomputable def m__law_field : Mi.Env → M Fl :=
 (sRet (eIf (tBl (eOp gIsN (eVar 0) (eC .non))) (eC (.str "*")) (eStrM fJoin (eC (.str ",")) (aCons (eComp [1] (mSeq (eVar 0)) g1__law_field tTrue e1__law_field) aNil))))
noncomputable def f__law_field : List R → M R := runFn 1 m__law_field
/-- _law_line: 0 name, 1 job, 2 hours, 3 weekdays -/
noncomputable def m__law_line : Mi.Env → M Fl :=
 (sSeq (sIf (tBl (eOp gEq (eOp gIx (eVar 1) (eC (.int 0))) (eC (.str "each"))))
 (sRet (eOp gAdd (eOp gAdd (eOp gAdd (eOp gAdd (eOp gAdd (eC (.str "job ")) (eVar 0)) (eC (.str " each "))) (eB bStr (aCons (eOp gIx (eVar 1) (eC (.int 1))) aNil))) (eC (.str " from "))) (eB bStr (aCons (eOp gIx (eVar 1) (eC (.int 2))) aNil))))
 sNil)
 (sSeq (sPar [(2, .f), (3, .f)] (aCons (eCall 1 f__law_field (aCons (eOp gIx (eVar 1) (eC (.int 2))) aNil)) (aCons (eCall 1 f__law_field (aCons (eOp gIx (eVar 1) (eC (.int 3))) aNil)) aNil)))
 (sRet (eStrM fJoin (eC (.str " ")) (aCons (eLst (aCons (eC (.str "job")) (aCons (eVar 0) (aCons (eC (.str "at")) (aCons (eCall 1 f__law_field (aCons (eOp gIx (eVar 1) (eC (.int 1))) aNil)) (aCons (eVar 2) (aCons (eC (.str "*")) (aCons (eC (.str "*")) (aCons (eVar 3) aNil))))))))) aNil)))))
noncomputable def f__law_line : List R → M R := runFn 2 m__law_line
/-- _law_take: 0 pot, 1 upto, 2 prime, 3 blend, 4 digit -/
noncomputable def m__law_take : Mi.Env → M Fl :=
 (sSeq (sIf (tBl (eOp gGt (eOp gIx (eVar 0) (eC (.int 0))) (eC (.int 0))))
 (sSeq (sSet 4 (eOp gMod (eB bIntS (aCons (eOp gIx (eVar 0) (eC (.int 0))) aNil)) (eVar 1)))
 (sSeq (sAsg (gItem (eVar 0) (eC (.int 0))) (eOp gFdiv (eOp gIx (eVar 0) (eC (.int 0))) (eVar 1)))
 (sRet (eVar 4))))
 sNil)
 (sSeq (sAsg (gItem (eVar 0) (eC (.int 2))) (eOp gAdd (eOp gIx (eVar 0) (eC (.int 2))) (eC (.int 1))))
 (sSeq (sSet 2 (eOp gIx (eLst (aCons (eC (.int 2147483647)) (aCons (eC (.int 2147483629)) (aCons (eC (.int 2147483587)) (aCons (eC (.int 2147483579)) (aCons (eC (.int 2147483563)) aNil)))))) (eOp gMod (eB bIntS (aCons (eOp gIx (eVar 0) (eC (.int 2))) aNil)) (eC (.int 5)))))
 (sSeq (sSet 3 (eOp gMod (eB bIntS (aCons (eOp gPow (eB bIntS (aCons (eOp gAdd (eOp gAdd (eOp gIx (eVar 0) (eC (.int 1))) (eOp gMul (eOp gMul (eC (.int 100550)) (eOp gIx (eVar 0) (eC (.int 2)))) (eOp gIx (eVar 0) (eC (.int 2))))) (eC (.int 2871))) aNil)) (eC (.int 3))) aNil)) (eVar 2)))
 (sSeq (sSet 3 (eOp gMod (eB bIntS (aCons (eOp gMul (eVar 3) (eOp gAdd (eOp gMod (eB bIntS (aCons (eVar 3) aNil)) (eC (.int 16892))) (eOp gMul (eC (.int 63)) (eOp gIx (eVar 0) (eC (.int 2)))))) aNil)) (eC (.int 2305843009213693907))))
 (sRet (eOp gMod (eB bIntS (aCons (eOp gFdiv (eVar 3) (eC (.int 128))) aNil)) (eVar 1))))))))
noncomputable def f__law_take : List R → M R := runFn 3 m__law_take
/-- _law_some: 0 pot, 1 some, 2 amount, 3 lap, 4 left, 5 found -/
noncomputable def g1__law_some : Tg :=
 (gN 3)
noncomputable def b1__law_some : Mi.Env → M Fl :=
 (sOwn 5 (fun ds rs => fAppend ds rs >>= fun p => pure p.2) (aCons (eMut fPop (eVar 4) (aCons (eCall 2 f__law_take (aCons (eVar 0) (aCons (eB bLenD (aCons (eVar 4) aNil)) aNil))) aNil)) aNil))
noncomputable def m__law_some : Mi.Env → M Fl :=
 (sSeq (sPar [(4, .i), (5, .l)] (aCons (eB bLstD (aCons (eVar 1) aNil)) (aCons (eLst aNil) aNil)))
 (sSeq (sFor [] (mR1 (aCons (eVar 2) aNil)) g1__law_some b1__law_some)
 (sRetV 5)))
noncomputable def f__law_some : List R → M R := runFn 3 m__law_some
/-- _law_names: 0 pot, 1 many, 2 pool, 3 found, 4 word, 5 lap, 6 at -/
noncomputable def g1__law_names : Tg :=
 (gN 6)
noncomputable def e1__law_names : Mi.Env → M R :=
 (eOp gAdd (eC (.str "h")) (eB bStr (aCons (eVar 6) aNil)))
noncomputable def g2__law_names : Tg :=
 (gN 5)
noncomputable def b1__law_names : Mi.Env → M Fl :=
 (sSet 4 (eOp gAdd (eVar 4) (eOp gIx (eC (.str "abcdefghijklmnopqrstuvwxyz0123456789")) (eCall 2 f__law_take (aCons (eVar 0) (aCons (eC (.int 36)) aNil))))))
noncomputable def m__law_names : Mi.Env → M Fl :=
 (sSeq (sSet 2 (eLst (aCons (eC (.str "a")) (aCons (eC (.str "b")) (aCons (eC (.str "c")) (aCons (eC (.str "job")) (aCons (eC (.str "takes")) (aCons (eC (.str "each")) (aCons (eC (.str "x9")) (aCons (eC (.str "zzzzzzzz")) aNil))))))))))
 (sSeq (sSetI 3 (eCall 3 f__law_some (aCons (eVar 0) (aCons (eOp gAdd (eVar 2) (eComp [6] (mR1 (aCons (eC (.int 12)) aNil)) g1__law_names tTrue e1__law_names)) (aCons (eVar 1) aNil)))))
 (sSeq (sIf (tBl (eOp gEq (eCall 2 f__law_take (aCons (eVar 0) (aCons (eC (.int 5)) aNil))) (eC (.int 0))))
 (sSeq (sSet 4 (eOp gIx (eC (.str "abcdefghijklmnopqrstuvwxyz")) (eCall 2 f__law_take (aCons (eVar 0) (aCons (eC (.int 26)) aNil)))))
 (sSeq (sFor [] (mR1 (aCons (eCall 2 f__law_take (aCons (eVar 0) (aCons (eC (.int 8)) aNil))) aNil)) g2__law_names b1__law_names)
 (sSetI 3 (eIf (tBl (eOp gNotIn (eVar 4) (eVar 3))) (eOp gAdd (eSl (eVar 3) (ePart none) (ePart (some (eU gNeg (eC (.int 1)))))) (eLst (aCons (eVar 4) aNil))) (eVar 3)))))
 sNil)
 (sRet (eVar 3)))))
noncomputable def f__law_names : List R → M R := runFn 5 m__law_names
/-- _law_of: 0 pot, 1 some -/
noncomputable def m__law_of : Mi.Env → M Fl :=
 (sRet (eOp gIx (eVar 1) (eCall 2 f__law_take (aCons (eVar 0) (aCons (eB bLenD (aCons (eVar 1) aNil)) aNil)))))
noncomputable def f__law_of : List R → M R := runFn 0 m__law_of
/-- Meeting__by_rest: 0 self, 1 found, 2 minute, 3 rest -/
noncomputable def g1_Meeting__by_rest : Tg :=
 (gN 2)
noncomputable def b1_Meeting__by_rest : Mi.Env → M Fl :=
 (sSeq (sSet 3 (eOp gMod (eVar 2) (eOp gIxD (eU (gFld "own_rest") (eVar 0)) (eC (.int 0)))))
 (sDPut (eVar 1) (eVar 3) (eOp gAdd (eGet2 (eVar 1) (eVar 3) (eLst aNil)) (eLst (aCons (eVar 2) aNil)))))
noncomputable def m_Meeting__by_rest : Mi.Env → M Fl :=
 (sSeq (sSet 1 eDic)
 (sSeq (sIf (tTr (eU (gFld "own_is_ever") (eVar 0)))
 (sFor [] (mSeq (eU (gFld "own_minutes") (eVar 0))) g1_Meeting__by_rest b1_Meeting__by_rest)
 sNil)
 (sRet (eVar 1))))
noncomputable def f_Meeting__by_rest : List R → M R := runFn 3 m_Meeting__by_rest
/-- Rules__rule_of: 0 self, 1 job -/
noncomputable def m_Rules__rule_of : Mi.Env → M Fl :=
 (sRet (eOp gIxD (eU (gFld "own_rules") (eVar 0)) (eVar 1)))
noncomputable def f_Rules__rule_of : List R → M R := runFn 0 m_Rules__rule_of
/-- common: 0 one, 1 other -/
noncomputable def t1_common : Mi.Env → M Bool :=
 (tBl (eOp gNe (eVar 1) (eC (.int 0))))
noncomputable def b1_common : Mi.Env → M Fl :=
 (sPar [(0, .f), (1, .f)] (aCons (eVar 1) (aCons (eOp gMod (eVar 0) (eVar 1)) aNil)))
noncomputable def m_common : Mi.Env → M Fl :=
 (sSeq (sWhile t1_common b1_common)
 (sRet (eB bAbs (aCons (eVar 0) aNil))))
noncomputable def f_common : List R → M R := runFn 0 m_common
/-- inverse: 0 number, 1 round_of, 2 one, 3 other, 4 here, 5 there, 6 times -/
noncomputable def t1_inverse : Mi.Env → M Bool :=
 (tBl (eOp gGt (eVar 2) (eC (.int 1))))
noncomputable def b1_inverse : Mi.Env → M Fl :=
 (sSeq (sSet 6 (eOp gFdiv (eVar 3) (eVar 2)))
 (sAsg (gTp 4 (gCs (gN 2) (gCs (gN 3) (gCs (gN 4) (gCs (gN 5) gNl))))) (eTup (aCons (eOp gSub (eVar 3) (eOp gMul (eVar 6) (eVar 2))) (aCons (eVar 2) (aCons (eOp gSub (eVar 5) (eOp gMul (eVar 6) (eVar 4))) (aCons (eVar 4) aNil)))))))
noncomputable def m_inverse : Mi.Env → M Fl :=
 (sSeq (sAsg (gTp 4 (gCs (gN 2) (gCs (gN 3) (gCs (gN 4) (gCs (gN 5) gNl))))) (eTup (aCons (eOp gMod (eVar 0) (eVar 1)) (aCons (eVar 1) (aCons (eC (.int 1)) (aCons (eC (.int 0)) aNil))))))
 (sSeq (sWhile t1_inverse b1_inverse)
 (sRet (eOp gMod (eVar 4) (eVar 1)))))
noncomputable def f_inverse : List R → M R := runFn 5 m_inverse
/-- put_together: 0 one, 1 other, 2 factor, 3 many, 4 whole, 5 steps, 6 wide -/
noncomputable def m_put_together : Mi.Env → M Fl :=
 (sSeq (sSet 2 (eCall 2 f_common (aCons (eOp gIx (eVar 0) (eC (.int 0))) (aCons (eOp gIx (eVar 1) (eC (.int 0))) aNil))))
 (sSeq (sIf (tBl (eOp gNe (eOp gMod (eOp gSub (eOp gIx (eVar 1) (eC (.int 1))) (eOp gIx (eVar 0) (eC (.int 1)))) (eVar 2)) (eC (.int 0))))
 (sRet (eC .non))
 sNil)
 (sSeq (sPar [(5, .f), (6, .f)] (aCons (eOp gFdiv (eOp gSub (eOp gIx (eVar 1) (eC (.int 1))) (eOp gIx (eVar 0) (eC (.int 1)))) (eVar 2)) (aCons (eOp gFdiv (eOp gIx (eVar 1) (eC (.int 0))) (eVar 2)) aNil)))
 (sSeq (sSet 3 (eOp gMod (eOp gMul (eVar 5) (eCall 2 f_inverse (aCons (eOp gFdiv (eOp gIx (eVar 0) (eC (.int 0))) (eVar 2)) (aCons (eVar 6) aNil)))) (eVar 6)))
 (sSeq (sSet 4 (eOp gMul (eOp gIx (eVar 0) (eC (.int 0))) (eVar 6)))
 (sRet (eTup (aCons (eVar 4) (aCons (eOp gMod (eOp gAdd (eOp gIx (eVar 0) (eC (.int 1))) (eOp gMul (eOp gIx (eVar 0) (eC (.int 0))) (eVar 3))) (eVar 4)) aNil)))))))))
noncomputable def f_put_together : List R → M R := runFn 5 m_put_together
/-- all_together: 0 rests, 1 found, 2 pair -/
noncomputable def g1_all_together : Tg :=
 (gN 2)
noncomputable def b1_all_together : Mi.Env → M Fl :=
 (sSet 1 (eIf (tBl (eOp gIsN (eVar 1) (eC .non))) (eC .non) (eCall 2 f_put_together (aCons (eVar 1) (aCons (eVar 2) aNil)))))
noncomputable def m_all_together : Mi.Env → M Fl :=
 (sSeq (sSet 1 (eTup (aCons (eC (.int 1)) (aCons (eC (.int 0)) aNil))))
 (sSeq (sFor [] (mSeq (eVar 0)) g1_all_together b1_all_together)
 (sRet (eVar 1))))
noncomputable def f_all_together : List R → M R := runFn 2 m_all_together
/-- is_each: 0 rules, 1 job -/
noncomputable def m_is_each : Mi.Env → M Fl :=
 (sRet (eOp gEq (eOp gIx (eMeth 1 "rule_of" 2 f_Rules__rule_of (eVar 0) (aCons (eVar 1) aNil)) (eC (.int 0))) (eC (.str "each"))))
noncomputable def f_is_each : List R → M R := runFn 0 m_is_each
/-- Rules__stars_of: 0 self, 1 job -/
noncomputable def m_Rules__stars_of : Mi.Env → M Fl :=
 (sRet (eOp gIxD (eU (gFld "own_stars") (eVar 0)) (eVar 1)))
noncomputable def f_Rules__stars_of : List R → M R := runFn 0 m_Rules__stars_of
/-- lengths_of: 0 month -/
noncomputable def m_lengths_of : Mi.Env → M Fl :=
 (sRet (eIf (tBl (eOp gEq (eVar 0) (eC (.int 2)))) (eLst (aCons (eOp gIx (eC (.tup (c_LENGTHS.map .int))) (eOp gSub (eVar 0) (eC (.int 1)))) (aCons (eOp gAdd (eOp gIx (eC (.tup (c_LENGTHS.map .int))) (eOp gSub (eVar 0) (eC (.int 1)))) (eC (.int 1))) aNil))) (eLst (aCons (eOp gIx (eC (.tup (c_LENGTHS.map .int))) (eOp gSub (eVar 0) (eC (.int 1)))) aNil))))
noncomputable def f_lengths_of : List R → M R := runFn 0 m_lengths_of
/-- told_never: 0 rules, 1 job, 2 rows, 3 is_by_days, 4 word, 5 minutes, 6 hours, 7 days, 8 months, 9 weekdays, 10 month, 11 long -/
noncomputable def g1_told_never : Tg :=
 (gN 10)
noncomputable def e1_told_never : Mi.Env → M R :=
 (eTup (aCons (eVar 10) (aCons (eOp gIx (eCall 1 f_lengths_of (aCons (eVar 10) aNil)) (eU gNeg (eC (.int 1)))) aNil)))
noncomputable def g2_told_never : Tg :=
 (gTp 2 (gCs (gN 10) (gCs (gN 11) gNl)))
noncomputable def e2_told_never : Mi.Env → M R :=
 (eOp gLt (eVar 11) (eOp gIx (eVar 7) (eC (.int 0))))
noncomputable def m_told_never : Mi.Env → M Fl :=
 (sSeq (sIf (tTr (eCall 2 f_is_each (aCons (eVar 0) (aCons (eVar 1) aNil))))
 (sRet (eC .non))
 sNil)
 (sSeq (sAsg (gTp 6 (gCs (gN 4) (gCs (gN 5) (gCs (gN 6) (gCs (gN 7) (gCs (gN 8) (gCs (gN 9) gNl))))))) (eMeth 1 "rule_of" 2 f_Rules__rule_of (eVar 0) (aCons (eVar 1) aNil)))
 (sSeq (sSet 2 (eComp [10] (mSeq (eVar 8)) g1_told_never tTrue e1_told_never))
 (sSeq (sSet 3 (eOr (eOp gEq (eVar 4) (eC (.str "at"))) (eOp gIx (eMeth 1 "stars_of" 2 f_Rules__stars_of (eVar 0) (aCons (eVar 1) aNil)) (eC (.int 1)))))
 (sSeq (sIf (tAnd2 (tTr (eVar 3)) (tTr (eB bAll (aCons (eComp [10, 11] (mSeq (eVar 2)) g2_told_never tTrue e2_told_never) aNil))))
 (sRet (eB bTupD (aCons (eVar 2) aNil)))
 sNil)
 (sRet (eC .non)))))))
noncomputable def f_told_never : List R → M R := runFn 10 m_told_never
/-- Meeting____init__: 0 self, 1 rules, 2 jobs, 3 each, 4 job, 5 never, 6 own, 7 row, 8 minute -/
noncomputable def g1_Meeting____init__ : Tg :=
 (gN 4)
noncomputable def c1_Meeting____init__ : Mi.Env → M Bool :=
 (tTr (eCall 2 f_is_each (aCons (eVar 1) (aCons (eVar 4) aNil))))
noncomputable def e1_Meeting____init__ : Mi.Env → M R :=
 (eMeth 1 "rule_of" 2 f_Rules__rule_of (eVar 1) (aCons (eVar 4) aNil))
noncomputable def g2_Meeting____init__ : Tg :=
 (gN 4)
noncomputable def c2_Meeting____init__ : Mi.Env → M Bool :=
 (tNot1 (tTr (eCall 2 f_is_each (aCons (eVar 1) (aCons (eVar 4) aNil)))))
noncomputable def e2_Meeting____init__ : Mi.Env → M R :=
 (eVar 4)
noncomputable def g3_Meeting____init__ : Tg :=
 (gN 7)
noncomputable def e3_Meeting____init__ : Mi.Env → M R :=
 (eTup (aCons (eOp gIx (eVar 7) (eC (.int 1))) (aCons (eOp gIx (eVar 7) (eC (.int 2))) aNil)))
noncomputable def g4_Meeting____init__ : Tg :=
 (gN 7)
noncomputable def e4_Meeting____init__ : Mi.Env → M R :=
 (eOp gIx (eVar 7) (eC (.int 2)))
noncomputable def g5_Meeting____init__ : Tg :=
 (gN 8)
noncomputable def c3_Meeting____init__ : Mi.Env → M Bool :=
 (tBl (eOp gIn (eVar 8) (eVar 6)))
noncomputable def e5_Meeting____init__ : Mi.Env → M R :=
 (eVar 8)
noncomputable def g6_Meeting____init__ : Tg :=
 (gN 4)
noncomputable def b1_Meeting____init__ : Mi.Env → M Fl :=
 (sSeq sNever
 (sAsgI (gFldT "own_minutes" (eVar 0)) (eComp [8] (mSeq (eU (gFld "own_minutes") (eVar 0))) g5_Meeting____init__ c3_Meeting____init__ e5_Meeting____init__)))
noncomputable def g7_Meeting____init__ : Tg :=
 (gN 4)
noncomputable def c4_Meeting____init__ : Mi.Env → M Bool :=
 (tBl (eOp gNotN (eCall 2 f_told_never (aCons (eVar 1) (aCons (eVar 4) aNil))) (eC .non)))
noncomputable def e6_Meeting____init__ : Mi.Env → M R :=
 (eVar 4)
noncomputable def m_Meeting____init__ : Mi.Env → M Fl :=
 (sSeq (sSet 3 (eComp [4] (mSeq (eVar 2)) g1_Meeting____init__ c1_Meeting____init__ e1_Meeting____init__))
 (sSeq (sAsgI (gFldT "own_rules" (eVar 0)) (eVar 1))
 (sSeq (sAsgI (gFldT "own_fields" (eVar 0)) (eComp [4] (mSeq (eVar 2)) g2_Meeting____init__ c2_Meeting____init__ e2_Meeting____init__))
 (sSeq (sAsgI (gFldT "own_rest" (eVar 0)) (eCall 1 f_all_together (aCons (eComp [7] (mSeq (eVar 3)) g3_Meeting____init__ tTrue e3_Meeting____init__) aNil)))
 (sSeq (sAsgI (gFldT "own_begin" (eVar 0)) (eB bMax (aCons (eOp gAdd (eLst (aCons (eC (.int 0)) aNil)) (eComp [7] (mSeq (eVar 3)) g4_Meeting____init__ tTrue e4_Meeting____init__)) aNil)))
 (sSeq (sAsgI (gFldT "own_minutes" (eVar 0)) (eLR1 (eC (.int 1440))))
 (sSeq (sFor [] (mSeq (eU (gFld "own_fields") (eVar 0))) g6_Meeting____init__ b1_Meeting____init__)
 (sSeq (sSet 5 (eComp [4] (mSeq (eU (gFld "own_fields") (eVar 0))) g7_Meeting____init__ c4_Meeting____init__ e6_Meeting____init__))
 (sSeq (sAsgI (gFldT "own_is_ever" (eVar 0)) (eAnd (eOp gNotN (eU (gFld "own_rest") (eVar 0)) (eC .non)) (eAnd (eOp gNe (eU (gFld "own_minutes") (eVar 0)) (eLst aNil)) (eOp gEq (eVar 5) (eLst aNil)))))
 (sAsgI (gFldT "own_by_rest" (eVar 0)) (eMeth 2 "by_rest" 1 f_Meeting__by_rest (eVar 0) aNil)))))))))))
noncomputable def f_Meeting____init__ : List R → M R := runFn 6 m_Meeting____init__
/-- is_long_year: 0 year -/
noncomputable def m_is_long_year : Mi.Env → M Fl :=
 (sRet (eOr (eAnd (eOp gEq (eOp gMod (eVar 0) (eC (.int 4))) (eC (.int 0))) (eOp gNe (eOp gMod (eVar 0) (eC (.int 100))) (eC (.int 0)))) (eOp gEq (eOp gMod (eVar 0) (eC (.int 400))) (eC (.int 0)))))
noncomputable def f_is_long_year : List R → M R := runFn 0 m_is_long_year
/-- days_in: 0 year, 1 month -/
noncomputable def m_days_in : Mi.Env → M Fl :=
 (sRet (eOp gAdd (eOp gIx (eC (.tup (c_LENGTHS.map .int))) (eOp gSub (eVar 1) (eC (.int 1)))) (eB bIntS (aCons (eAnd (eOp gEq (eVar 1) (eC (.int 2))) (eCall 1 f_is_long_year (aCons (eVar 0) aNil))) aNil))))
noncomputable def f_days_in : List R → M R := runFn 0 m_days_in
/-- fits_in: 0 rules, 1 job, 2 month, 3 number, 4 weekday, 5 word, 6 minutes, 7 hours, 8 days, 9 months, 10 weekdays, 11 one, 12 other, 13 starred, 14 also -/
noncomputable def m_fits_in : Mi.Env → M Fl :=
 (sSeq (sAsg (gTp 6 (gCs (gN 5) (gCs (gN 6) (gCs (gN 7) (gCs (gN 8) (gCs (gN 9) (gCs (gN 10) gNl))))))) (eMeth 1 "rule_of" 2 f_Rules__rule_of (eVar 0) (aCons (eVar 1) aNil)))
 (sSeq (sIf (tBl (eOp gNotIn (eVar 2) (eVar 9)))
 (sRet (eC (.bl false)))
 sNil)
 (sSeq (sPar [(11, .f), (12, .f)] (aCons (eOp gIn (eVar 3) (eVar 8)) (aCons (eOp gIn (eVar 4) (eVar 10)) aNil)))
 (sSeq (sAsg (gTp 2 (gCs (gN 13) (gCs (gN 14) gNl))) (eMeth 1 "stars_of" 2 f_Rules__stars_of (eVar 0) (aCons (eVar 1) aNil)))
 (sSeq (sIf (tOr2 (tBl (eOp gEq (eVar 5) (eC (.str "at")))) (tOr2 (tTr (eVar 13)) (tTr (eVar 14))))
 (sRet (eAnd (eVar 11) (eVar 12)))
 sNil)
 (sRet (eOr (eVar 11) (eVar 12))))))))
noncomputable def f_fits_in : List R → M R := runFn 10 m_fits_in
/-- weekday_by: 0 day -/
noncomputable def m_weekday_by : Mi.Env → M Fl :=
 (sRet (eOp gMod (eOp gAdd (eVar 0) (eC (.int 6))) (eC (.int 7))))
noncomputable def f_weekday_by : List R → M R := runFn 0 m_weekday_by
/-- Meeting__days_from: 0 self, 1 year, 2 month, 3 begin, 4 found, 5 at, 6 weekday, 7 job -/
noncomputable def g1_Meeting__days_from : Tg :=
 (gN 7)
noncomputable def e1_Meeting__days_from : Mi.Env → M R :=
 (eCall 5 f_fits_in (aCons (eU (gFld "own_rules") (eVar 0)) (aCons (eVar 7) (aCons (eVar 2) (aCons (eOp gAdd (eVar 5) (eC (.int 1))) (aCons (eVar 6) aNil))))))
noncomputable def g2_Meeting__days_from : Tg :=
 (gN 5)
noncomputable def b1_Meeting__days_from : Mi.Env → M Fl :=
 (sSeq (sSet 6 (eCall 1 f_weekday_by (aCons (eOp gAdd (eVar 3) (eVar 5)) aNil)))
 (sIf (tTr (eB bAll (aCons (eComp [7] (mSeq (eU (gFld "own_fields") (eVar 0))) g1_Meeting__days_from tTrue e1_Meeting__days_from) aNil)))
 (sOwn 4 (fun ds rs => fAppend ds rs >>= fun p => pure p.2) (aCons (eOp gAdd (eVar 3) (eVar 5)) aNil))
 sNil))
noncomputable def m_Meeting__days_from : Mi.Env → M Fl :=
 (sSeq (sSetL 4 (eLst aNil))
 (sSeq (sFor [] (mR1 (aCons (eCall 2 f_days_in (aCons (eVar 1) (aCons (eVar 2) aNil))) aNil)) g2_Meeting__days_from b1_Meeting__days_from)
 (sRetV 4)))
noncomputable def f_Meeting__days_from : List R → M R := runFn 4 m_Meeting__days_from
/-- Meeting__minutes_on: 0 self, 1 day, 2 round_of, 3 rest -/
noncomputable def m_Meeting__minutes_on : Mi.Env → M Fl :=
 (sSeq (sAsg (gTp 2 (gCs (gN 2) (gCs (gN 3) gNl))) (eU (gFld "own_rest") (eVar 0)))
 (sRet (eGet2 (eU (gFld "own_by_rest") (eVar 0)) (eOp gMod (eOp gSub (eVar 3) (eOp gMul (eVar 1) (eC (.int 1440)))) (eVar 2)) (eLst aNil))))
noncomputable def f_Meeting__minutes_on : List R → M R := runFn 2 m_Meeting__minutes_on
/-- days_ahead: 0 year, 1 past, 2 since, 3 gained, 4 by -/
noncomputable def g1_days_ahead : Tg :=
 (gN 4)
noncomputable def e1_days_ahead : Mi.Env → M R :=
 (eOp gSub (eOp gFdiv (eVar 1) (eVar 4)) (eOp gFdiv (eVar 2) (eVar 4)))
noncomputable def m_days_ahead : Mi.Env → M Fl :=
 (sSeq (sSet 1 (eOp gSub (eVar 0) (eC (.int 1))))
 (sSeq (sSet 2 (eOp gSub (eC (.int 2000)) (eC (.int 1))))
 (sSeq (sSet 3 (eComp [4] (mSeq (eTup (aCons (eC (.int 4)) (aCons (eC (.int 100)) (aCons (eC (.int 400)) aNil))))) g1_days_ahead tTrue e1_days_ahead))
 (sRet (eOp gAdd (eOp gSub (eOp gAdd (eOp gMul (eC (.int 365)) (eOp gSub (eVar 0) (eC (.int 2000)))) (eOp gIx (eVar 3) (eC (.int 0)))) (eOp gIx (eVar 3) (eC (.int 1)))) (eOp gIx (eVar 3) (eC (.int 2))))))))
noncomputable def f_days_ahead : List R → M R := runFn 4 m_days_ahead
/-- date_by: 0 day, 1 year, 2 rest, 3 month -/
noncomputable def t1_date_by : Mi.Env → M Bool :=
 (tAnd2 (tBl (eOp gLt (eVar 1) (eC (.int 2399)))) (tBl (eOp gLe (eCall 1 f_days_ahead (aCons (eOp gAdd (eVar 1) (eC (.int 1))) aNil)) (eVar 0))))
noncomputable def b1_date_by : Mi.Env → M Fl :=
 (sSet 1 (eOp gAdd (eVar 1) (eC (.int 1))))
noncomputable def t2_date_by : Mi.Env → M Bool :=
 (tBl (eOp gGe (eVar 2) (eCall 2 f_days_in (aCons (eVar 1) (aCons (eVar 3) aNil)))))
noncomputable def b2_date_by : Mi.Env → M Fl :=
 (sPar [(2, .f), (3, .f)] (aCons (eOp gSub (eVar 2) (eCall 2 f_days_in (aCons (eVar 1) (aCons (eVar 3) aNil)))) (aCons (eOp gAdd (eVar 3) (eC (.int 1))) aNil)))
noncomputable def m_date_by : Mi.Env → M Fl :=
 (sSeq (sSet 1 (eOp gAdd (eC (.int 2000)) (eOp gFdiv (eVar 0) (eC (.int 366)))))
 (sSeq (sWhile t1_date_by b1_date_by)
 (sSeq (sPar [(2, .f), (3, .f)] (aCons (eOp gSub (eVar 0) (eCall 1 f_days_ahead (aCons (eVar 1) aNil))) (aCons (eC (.int 1)) aNil)))
 (sSeq (sWhile t2_date_by b2_date_by)
 (sRet (eTup (aCons (eVar 1) (aCons (eVar 3) (aCons (eOp gAdd (eVar 2) (eC (.int 1))) aNil)))))))))
noncomputable def f_date_by : List R → M R := runFn 3 m_date_by
/-- Meeting__first: 0 self, 1 time, 2 begin, 3 found, 4 year, 5 month, 6 number, 7 day, 8 round_of, 9 rest, 10 some, 11 minute -/
noncomputable def g1_Meeting__first : Tg :=
 (gN 11)
noncomputable def c1_Meeting__first : Mi.Env → M Bool :=
 (tBl (eOp gGe (eOp gAdd (eOp gMul (eVar 7) (eC (.int 1440))) (eVar 11)) (eVar 1)))
noncomputable def e1_Meeting__first : Mi.Env → M R :=
 (eVar 11)
noncomputable def g2_Meeting__first : Tg :=
 (gN 7)
noncomputable def b1_Meeting__first : Mi.Env → M Fl :=
 (sSeq (sSet 10 (eComp [11] (mSeq (eMeth 2 "minutes_on" 2 f_Meeting__minutes_on (eVar 0) (aCons (eVar 7) aNil))) g1_Meeting__first c1_Meeting__first e1_Meeting__first))
 (sIf (tBl (eOp gNe (eVar 10) (eLst aNil)))
 (sRet (eOp gAdd (eOp gMul (eVar 7) (eC (.int 1440))) (eOp gIx (eVar 10) (eC (.int 0)))))
 sNil))
noncomputable def t1_Meeting__first : Mi.Env → M Bool :=
 (tBl (eOp gLe (eVar 4) (eC (.int 2399))))
noncomputable def b2_Meeting__first : Mi.Env → M Fl :=
 (sSeq (sFor [] (mSeq (eMeth 2 "days_from" 4 f_Meeting__days_from (eVar 0) (aCons (eVar 4) (aCons (eVar 5) (aCons (eVar 2) aNil))))) g2_Meeting__first b1_Meeting__first)
 (sSeq (sSet 2 (eOp gAdd (eVar 2) (eCall 2 f_days_in (aCons (eVar 4) (aCons (eVar 5) aNil)))))
 (sPar [(4, .f), (5, .f)] (aCons (eOp gAdd (eVar 4) (eOp gFdiv (eVar 5) (eC (.int 12)))) (aCons (eOp gAdd (eOp gMod (eVar 5) (eC (.int 12))) (eC (.int 1))) aNil)))))
noncomputable def m_Meeting__first : Mi.Env → M Fl :=
 (sSeq (sSet 1 (eB bMax (aCons (eVar 1) (aCons (eU (gFld "own_begin") (eVar 0)) aNil))))
 (sSeq (sIf (tOr2 (tNot1 (tTr (eU (gFld "own_is_ever") (eVar 0)))) (tBl (eOp gGt (eVar 1) (eC (.int 210379679)))))
 (sRet (eC .non))
 sNil)
 (sSeq (sIf (tBl (eOp gEq (eU (gFld "own_fields") (eVar 0)) (eLst aNil)))
 (sSeq (sAsg (gTp 2 (gCs (gN 8) (gCs (gN 9) gNl))) (eU (gFld "own_rest") (eVar 0)))
 (sSeq (sSet 3 (eOp gAdd (eVar 1) (eOp gMod (eOp gSub (eVar 9) (eVar 1)) (eVar 8))))
 (sRet (eIf (tBl (eOp gLe (eVar 3) (eC (.int 210379679)))) (eVar 3) (eC .non)))))
 sNil)
 (sSeq (sAsg (gTp 3 (gCs (gN 4) (gCs (gN 5) (gCs (gN 6) gNl)))) (eCall 1 f_date_by (aCons (eOp gFdiv (eVar 1) (eC (.int 1440))) aNil)))
 (sSeq (sSet 2 (eOp gAdd (eOp gSub (eOp gFdiv (eVar 1) (eC (.int 1440))) (eVar 6)) (eC (.int 1))))
 (sSeq (sWhile t1_Meeting__first b2_Meeting__first)
 (sRet (eC .non))))))))
noncomputable def f_Meeting__first : List R → M R := runFn 10 m_Meeting__first
/-- Rules__jobs: 0 self -/
noncomputable def m_Rules__jobs : Mi.Env → M Fl :=
 (sRet (eU (gFld "own_jobs") (eVar 0)))
noncomputable def f_Rules__jobs : List R → M R := runFn 0 m_Rules__jobs
/-- are_unlike: 0 values -/
noncomputable def m_are_unlike : Mi.Env → M Fl :=
 (sRet (eOp gEq (eU gLenSet (eVar 0)) (eB bLenD (aCons (eVar 0) aNil))))
noncomputable def f_are_unlike : List R → M R := runFn 0 m_are_unlike
/-- check_rules: 0 rules -/
noncomputable def m_check_rules : Mi.Env → M Fl :=
 (sIf (tNot1 (tTr (eU (gIsC 1) (eVar 0))))
 sNever
 sNil)
noncomputable def f_check_rules : List R → M R := runFn 0 m_check_rules
/-- all_meet: 0 rules, 1 jobs, 2 found, 3 at, 4 one, 5 other, 6 job -/
noncomputable def g1_all_meet : Tg :=
 (gN 6)
noncomputable def e1_all_meet : Mi.Env → M R :=
 (eAnd (eU (gIsT "str") (eVar 6)) (eOp gIn (eVar 6) (eProp 1 f_Rules__jobs (eVar 0))))
noncomputable def g2_all_meet : Tg :=
 (gN 5)
noncomputable def b1_all_meet : Mi.Env → M Fl :=
 (sIf (tBl (eOp gIsN (eMeth 2 "first" 2 f_Meeting__first (eMake 2 3 f_Meeting____init__ (aCons (eVar 0) (aCons (eTup (aCons (eVar 4) (aCons (eVar 5) aNil))) aNil))) (aCons (eC (.int 0)) aNil)) (eC .non)))
 (sRet (eTup (aCons (eC (.str "two")) (aCons (eVar 4) (aCons (eVar 5) aNil)))))
 sNil)
noncomputable def g3_all_meet : Tg :=
 (gTp 2 (gCs (gN 3) (gCs (gN 4) gNl)))
noncomputable def b2_all_meet : Mi.Env → M Fl :=
 (sFor [] (mSeq (eSl (eVar 1) (ePart (some (eOp gAdd (eVar 3) (eC (.int 1))))) (ePart none))) g2_all_meet b1_all_meet)
noncomputable def m_all_meet : Mi.Env → M Fl :=
 (sSeq (sExpr (eCall 1 f_check_rules (aCons (eVar 0) aNil)))
 (sSeq (sIf (tOr2 (tNot1 (tTr (eU (gIsT "tuple") (eVar 1)))) (tNot1 (tBl (eChain gLt gLe (eC (.int 1)) (eB bLenD (aCons (eVar 1) aNil)) (eC (.int 6))))))
 sNever
 sNil)
 (sSeq (sIf (tOr2 (tNot1 (tTr (eB bAll (aCons (eComp [6] (mSeq (eVar 1)) g1_all_meet tTrue e1_all_meet) aNil)))) (tNot1 (tTr (eCall 1 f_are_unlike (aCons (eVar 1) aNil)))))
 sNever
 sNil)
 (sSeq (sFor [] (mEnum (eVar 1)) g3_all_meet b2_all_meet)
 (sSeq (sSet 2 (eMeth 2 "first" 2 f_Meeting__first (eMake 2 3 f_Meeting____init__ (aCons (eVar 0) (aCons (eVar 1) aNil))) (aCons (eC (.int 0)) aNil)))
 (sRet (eIf (tBl (eOp gIsN (eVar 2) (eC .non))) (eTup (aCons (eC (.str "late")) aNil)) (eTup (aCons (eC (.str "meet")) (aCons (eVar 2) aNil))))))))))
noncomputable def f_all_meet : List R → M R := runFn 5 m_all_meet
/-- is_integer: 0 value -/
noncomputable def m_is_integer : Mi.Env → M Fl :=
 (sRet (eAnd (eU (gIsT "int") (eVar 0)) (eNot (eU (gIsT "bool") (eVar 0)))))
noncomputable def f_is_integer : List R → M R := runFn 0 m_is_integer
/-- is_between: 0 value, 1 least, 2 most -/
noncomputable def m_is_between : Mi.Env → M Fl :=
 (sRet (eAnd (eCall 1 f_is_integer (aCons (eVar 0) aNil)) (eChain gLe gLe (eVar 1) (eVar 0) (eVar 2))))
noncomputable def f_is_between : List R → M R := runFn 0 m_is_between
/-- are_starts: 0 pieces, 1 value, 2 start, 3 every, 4 long -/
noncomputable def g1_are_starts : Tg :=
 (gTp 2 (gCs (gN 2) (gCs (gTp 2 (gCs (gN 3) (gCs (gN 4) gNl))) gNl)))
noncomputable def e1_are_starts : Mi.Env → M R :=
 (eCall 3 f_is_between (aCons (eVar 2) (aCons (eC (.int 0)) (aCons (eOp gSub (eVar 3) (eC (.int 1))) aNil))))
noncomputable def m_are_starts : Mi.Env → M Fl :=
 (sSeq (sIf (tOr2 (tNot1 (tTr (eU (gIsT "tuple") (eVar 1)))) (tBl (eOp gNe (eB bLenD (aCons (eVar 1) aNil)) (eB bLenD (aCons (eVar 0) aNil)))))
 (sRet (eC (.bl false)))
 sNil)
 (sRet (eB bAll (aCons (eComp [2, 3, 4] (mZip (eVar 1) (eVar 0)) g1_are_starts tTrue e1_are_starts) aNil))))
noncomputable def f_are_starts : List R → M R := runFn 3 m_are_starts
/-- is_piece: 0 value -/
noncomputable def m_is_piece : Mi.Env → M Fl :=
 (sSeq (sIf (tOr2 (tNot1 (tTr (eU (gIsT "tuple") (eVar 0)))) (tOr2 (tBl (eOp gNe (eB bLenD (aCons (eVar 0) aNil)) (eC (.int 2)))) (tNot1 (tTr (eCall 3 f_is_between (aCons (eOp gIx (eVar 0) (eC (.int 0))) (aCons (eC (.int 1)) (aCons (eC (.int 1440)) aNil))))))))
 (sRet (eC (.bl false)))
 sNil)
 (sRet (eCall 3 f_is_between (aCons (eOp gIx (eVar 0) (eC (.int 1))) (aCons (eC (.int 1)) (aCons (eOp gIx (eVar 0) (eC (.int 0))) aNil))))))
noncomputable def f_is_piece : List R → M R := runFn 0 m_is_piece
/-- check_pieces: 0 pieces, 1 one -/
noncomputable def g1_check_pieces : Tg :=
 (gN 1)
noncomputable def e1_check_pieces : Mi.Env → M R :=
 (eCall 1 f_is_piece (aCons (eVar 1) aNil))
noncomputable def m_check_pieces : Mi.Env → M Fl :=
 (sSeq (sIf (tOr2 (tNot1 (tTr (eU (gIsT "tuple") (eVar 0)))) (tNot1 (tBl (eChain gLt gLe (eC (.int 0)) (eB bLenD (aCons (eVar 0) aNil)) (eC (.int 5))))))
 sNever
 sNil)
 (sIf (tNot1 (tTr (eB bAll (aCons (eComp [1] (mSeq (eVar 0)) g1_check_pieces tTrue e1_check_pieces) aNil))))
 sNever
 sNil))
noncomputable def f_check_pieces : List R → M R := runFn 1 m_check_pieces
/-- do_clash: 0 one, 1 start, 2 other, 3 begin, 4 factor -/
noncomputable def m_do_clash : Mi.Env → M Fl :=
 (sSeq (sSet 4 (eCall 2 f_common (aCons (eOp gIx (eVar 0) (eC (.int 0))) (aCons (eOp gIx (eVar 2) (eC (.int 0))) aNil))))
 (sRet (eOr (eOp gLt (eOp gMod (eOp gSub (eVar 3) (eVar 1)) (eVar 4)) (eOp gIx (eVar 0) (eC (.int 1)))) (eOp gLt (eOp gMod (eOp gSub (eVar 1) (eVar 3)) (eVar 4)) (eOp gIx (eVar 2) (eC (.int 1)))))))
noncomputable def f_do_clash : List R → M R := runFn 1 m_do_clash
/-- is_at_work: 0 piece, 1 start, 2 minute -/
noncomputable def m_is_at_work : Mi.Env → M Fl :=
 (sRet (eOp gLt (eOp gMod (eOp gSub (eVar 2) (eVar 1)) (eOp gIx (eVar 0) (eC (.int 0)))) (eOp gIx (eVar 0) (eC (.int 1)))))
noncomputable def f_is_at_work : List R → M R := runFn 0 m_is_at_work
/-- first_minute: 0 one, 1 start, 2 other, 3 begin, 4 found, 5 piece, 6 at, 7 its, 8 to, 9 some, 10 lap, 11 minute -/
noncomputable def g1_first_minute : Tg :=
 (gN 10)
noncomputable def e1_first_minute : Mi.Env → M R :=
 (eOp gAdd (eVar 6) (eOp gMul (eOp gIx (eVar 5) (eC (.int 0))) (eVar 10)))
noncomputable def g2_first_minute : Tg :=
 (gN 11)
noncomputable def c1_first_minute : Mi.Env → M Bool :=
 (tTr (eCall 3 f_is_at_work (aCons (eVar 7) (aCons (eVar 8) (aCons (eVar 11) aNil)))))
noncomputable def e2_first_minute : Mi.Env → M R :=
 (eVar 11)
noncomputable def g3_first_minute : Tg :=
 (gTp 4 (gCs (gN 5) (gCs (gN 6) (gCs (gN 7) (gCs (gN 8) gNl)))))
noncomputable def b1_first_minute : Mi.Env → M Fl :=
 (sSeq (sSet 9 (eComp [10] (mR1 (aCons (eOp gFdiv (eOp gIx (eVar 7) (eC (.int 0))) (eCall 2 f_common (aCons (eOp gIx (eVar 5) (eC (.int 0))) (aCons (eOp gIx (eVar 7) (eC (.int 0))) aNil)))) aNil)) g1_first_minute tTrue e1_first_minute))
 (sOwn 4 (fun ds rs => fExtend ds rs >>= fun p => pure p.2) (aCons (eSl (eComp [11] (mSeq (eVar 9)) g2_first_minute c1_first_minute e2_first_minute) (ePart none) (ePart (some (eC (.int 1))))) aNil)))
noncomputable def m_first_minute : Mi.Env → M Fl :=
 (sSeq (sIf (tAnd2 (tTr (eCall 3 f_is_at_work (aCons (eVar 0) (aCons (eVar 1) (aCons (eC (.int 0)) aNil))))) (tTr (eCall 3 f_is_at_work (aCons (eVar 2) (aCons (eVar 3) (aCons (eC (.int 0)) aNil))))))
 (sRet (eC (.int 0)))
 sNil)
 (sSeq (sSetL 4 (eLst aNil))
 (sSeq (sFor [] (mSeq (eTup (aCons (eTup (aCons (eVar 0) (aCons (eVar 1) (aCons (eVar 2) (aCons (eVar 3) aNil))))) (aCons (eTup (aCons (eVar 2) (aCons (eVar 3) (aCons (eVar 0) (aCons (eVar 1) aNil))))) aNil)))) g3_first_minute b1_first_minute)
 (sRet (eB bMin (aCons (eVar 4) aNil))))))
noncomputable def f_first_minute : List R → M R := runFn 8 m_first_minute
/-- clash: 0 pieces, 1 starts, 2 at, 3 one, 4 to -/
noncomputable def g1_clash : Tg :=
 (gN 4)
noncomputable def b1_clash : Mi.Env → M Fl :=
 (sIf (tTr (eCall 4 f_do_clash (aCons (eVar 3) (aCons (eOp gIx (eVar 1) (eVar 2)) (aCons (eOp gIx (eVar 0) (eVar 4)) (aCons (eOp gIx (eVar 1) (eVar 4)) aNil))))))
 (sRet (eTup (aCons (eVar 2) (aCons (eVar 4) (aCons (eCall 4 f_first_minute (aCons (eVar 3) (aCons (eOp gIx (eVar 1) (eVar 2)) (aCons (eOp gIx (eVar 0) (eVar 4)) (aCons (eOp gIx (eVar 1) (eVar 4)) aNil))))) aNil)))))
 sNil)
noncomputable def g2_clash : Tg :=
 (gTp 2 (gCs (gN 2) (gCs (gN 3) gNl)))
noncomputable def b2_clash : Mi.Env → M Fl :=
 (sFor [] (mR2 (aCons (eOp gAdd (eVar 2) (eC (.int 1))) (aCons (eB bLenD (aCons (eVar 0) aNil)) aNil))) g1_clash b1_clash)
noncomputable def m_clash : Mi.Env → M Fl :=
 (sSeq (sExpr (eCall 1 f_check_pieces (aCons (eVar 0) aNil)))
 (sSeq (sIf (tNot1 (tTr (eCall 2 f_are_starts (aCons (eVar 0) (aCons (eVar 1) aNil)))))
 sNever
 sNil)
 (sSeq (sFor [] (mEnum (eVar 0)) g2_clash b2_clash)
 (sRet (eC .non)))))
noncomputable def f_clash : List R → M R := runFn 3 m_clash
/-- check_job: 0 rules, 1 job -/
noncomputable def m_check_job : Mi.Env → M Fl :=
 (sSeq (sExpr (eCall 1 f_check_rules (aCons (eVar 0) aNil)))
 (sIf (tOr2 (tNot1 (tTr (eU (gIsT "str") (eVar 1)))) (tBl (eOp gNotIn (eVar 1) (eProp 1 f_Rules__jobs (eVar 0)))))
 sNever
 sNil))
noncomputable def f_check_job : List R → M R := runFn 0 m_check_job
/-- is_time: 0 value -/
noncomputable def m_is_time : Mi.Env → M Fl :=
 (sRet (eCall 3 f_is_between (aCons (eVar 0) (aCons (eC (.int 0)) (aCons (eOp gSub (eOp gMul (eC (.int 146097)) (eC (.int 1440))) (eC (.int 1))) aNil)))))
noncomputable def f_is_time : List R → M R := runFn 0 m_is_time
/-- check_time: 0 time -/
noncomputable def m_check_time : Mi.Env → M Fl :=
 (sIf (tNot1 (tTr (eCall 1 f_is_time (aCons (eVar 0) aNil))))
 sNever
 sNil)
noncomputable def f_check_time : List R → M R := runFn 0 m_check_time
/-- first_missed: 0 rule, 1 begin, 2 every, 3 long, 4 lap, 5 number, 6 time -/
noncomputable def g1_first_missed : Tg :=
 (gN 4)
noncomputable def b1_first_missed : Mi.Env → M Fl :=
 (sSeq (sIf (tBl (eOp gLt (eOp gMod (eOp gSub (eVar 6) (eVar 1)) (eVar 2)) (eVar 3)))
 (sRet (eVar 6))
 sNil)
 (sSet 6 (eOp gAdd (eVar 6) (eVar 5))))
noncomputable def m_first_missed : Mi.Env → M Fl :=
 (sSeq (sAsg (gTp 2 (gCs (gN 5) (gCs (gN 6) gNl))) (eVar 0))
 (sSeq (sIf (tBl (eOp gLt (eVar 6) (eVar 1)))
 (sSet 6 (eOp gAdd (eVar 6) (eOp gMul (eVar 5) (eOp gSub (eC (.int 0)) (eOp gFdiv (eOp gSub (eVar 6) (eVar 1)) (eVar 5))))))
 sNil)
 (sSeq (sFor [] (mR1 (aCons (eOp gFdiv (eVar 2) (eCall 2 f_common (aCons (eVar 5) (aCons (eVar 2) aNil)))) aNil)) g1_first_missed b1_first_missed)
 (sRet (eC .non)))))
noncomputable def f_first_missed : List R → M R := runFn 3 m_first_missed
/-- goes_down: 0 rules, 1 job, 2 begin, 3 every, 4 long, 5 factor, 6 found, 7 word, 8 number, 9 first -/
noncomputable def m_goes_down : Mi.Env → M Fl :=
 (sSeq (sExpr (eCall 2 f_check_job (aCons (eVar 0) (aCons (eVar 1) aNil))))
 (sSeq (sIf (tNot1 (tTr (eCall 2 f_is_each (aCons (eVar 0) (aCons (eVar 1) aNil)))))
 sNever
 sNil)
 (sSeq (sExpr (eCall 1 f_check_time (aCons (eVar 2) aNil)))
 (sSeq (sIf (tOr2 (tNot1 (tTr (eCall 3 f_is_between (aCons (eVar 3) (aCons (eC (.int 2)) (aCons (eC (.int 999999)) aNil)))))) (tNot1 (tTr (eCall 3 f_is_between (aCons (eVar 4) (aCons (eC (.int 1)) (aCons (eOp gSub (eVar 3) (eC (.int 1))) aNil)))))))
 sNever
 sNil)
 (sSeq (sAsg (gTp 3 (gCs (gN 7) (gCs (gN 8) (gCs (gN 9) gNl)))) (eMeth 1 "rule_of" 2 f_Rules__rule_of (eVar 0) (aCons (eVar 1) aNil)))
 (sSeq (sSet 5 (eCall 2 f_common (aCons (eVar 8) (aCons (eVar 3) aNil))))
 (sSeq (sIf (tBl (eOp gGe (eOp gMod (eOp gSub (eVar 9) (eVar 2)) (eVar 5)) (eVar 4)))
 (sRet (eTup (aCons (eC (.str "never")) (aCons (eVar 5) (aCons (eOp gMod (eOp gSub (eVar 9) (eVar 2)) (eVar 5)) aNil)))))
 sNil)
 (sSeq (sSet 6 (eCall 4 f_first_missed (aCons (eTup (aCons (eVar 8) (aCons (eVar 9) aNil))) (aCons (eVar 2) (aCons (eVar 3) (aCons (eVar 4) aNil))))))
 (sRet (eIf (tBl (eOp gLe (eVar 6) (eC (.int 210379679)))) (eTup (aCons (eC (.str "missed")) (aCons (eVar 6) aNil))) (eTup (aCons (eC (.str "late")) (aCons (eVar 6) aNil)))))))))))))
noncomputable def f_goes_down : List R → M R := runFn 5 m_goes_down
/-- fits_day: 0 rules, 1 job, 2 day, 3 year, 4 month, 5 number -/
noncomputable def m_fits_day : Mi.Env → M Fl :=
 (sSeq (sAsg (gTp 3 (gCs (gN 3) (gCs (gN 4) (gCs (gN 5) gNl)))) (eCall 1 f_date_by (aCons (eVar 2) aNil)))
 (sRet (eCall 5 f_fits_in (aCons (eVar 0) (aCons (eVar 1) (aCons (eVar 4) (aCons (eVar 5) (aCons (eCall 1 f_weekday_by (aCons (eVar 2) aNil)) aNil))))))))
noncomputable def f_fits_day : List R → M R := runFn 3 m_fits_day
/-- by_hours: 0 hours, 1 minutes, 2 found, 3 hour, 4 minute -/
noncomputable def g1_by_hours : Tg :=
 (gN 4)
noncomputable def e1_by_hours : Mi.Env → M R :=
 (eOp gAdd (eOp gMul (eC (.int 60)) (eVar 3)) (eVar 4))
noncomputable def g2_by_hours : Tg :=
 (gN 3)
noncomputable def b1_by_hours : Mi.Env → M Fl :=
 (sOwn 2 (fun ds rs => fExtend ds rs >>= fun p => pure p.2) (aCons (eComp [4] (mSeq (eVar 1)) g1_by_hours tTrue e1_by_hours) aNil))
noncomputable def m_by_hours : Mi.Env → M Fl :=
 (sSeq (sSetL 2 (eLst aNil))
 (sSeq (sFor [] (mSeq (eVar 0)) g2_by_hours b1_by_hours)
 (sRetV 2)))
noncomputable def f_by_hours : List R → M R := runFn 3 m_by_hours
/-- minutes_of: 0 rules, 1 job, 2 word, 3 minutes, 4 hours, 5 days, 6 months, 7 weekdays -/
noncomputable def m_minutes_of : Mi.Env → M Fl :=
 (sSeq (sAsg (gTp 6 (gCs (gN 2) (gCs (gN 3) (gCs (gN 4) (gCs (gN 5) (gCs (gN 6) (gCs (gN 7) gNl))))))) (eMeth 1 "rule_of" 2 f_Rules__rule_of (eVar 0) (aCons (eVar 1) aNil)))
 (sRet (eCall 2 f_by_hours (aCons (eVar 4) (aCons (eVar 3) aNil)))))
noncomputable def f_minutes_of : List R → M R := runFn 6 m_minutes_of
/-- fits_time: 0 rules, 1 job, 2 time, 3 word, 4 number, 5 begin -/
noncomputable def m_fits_time : Mi.Env → M Fl :=
 (sSeq (sIf (tTr (eCall 2 f_is_each (aCons (eVar 0) (aCons (eVar 1) aNil))))
 (sSeq (sAsg (gTp 3 (gCs (gN 3) (gCs (gN 4) (gCs (gN 5) gNl)))) (eMeth 1 "rule_of" 2 f_Rules__rule_of (eVar 0) (aCons (eVar 1) aNil)))
 (sRet (eAnd (eOp gGe (eVar 2) (eVar 5)) (eOp gEq (eOp gMod (eOp gSub (eVar 2) (eVar 5)) (eVar 4)) (eC (.int 0))))))
 sNil)
 (sRet (eAnd (eOp gIn (eOp gMod (eVar 2) (eC (.int 1440))) (eCall 2 f_minutes_of (aCons (eVar 0) (aCons (eVar 1) aNil)))) (eCall 3 f_fits_day (aCons (eVar 0) (aCons (eVar 1) (aCons (eOp gFdiv (eVar 2) (eC (.int 1440))) aNil)))))))
noncomputable def f_fits_time : List R → M R := runFn 3 m_fits_time
/-- is_run: 0 rules, 1 job, 2 time -/
noncomputable def m_is_run : Mi.Env → M Fl :=
 (sSeq (sExpr (eCall 2 f_check_job (aCons (eVar 0) (aCons (eVar 1) aNil))))
 (sSeq (sExpr (eCall 1 f_check_time (aCons (eVar 2) aNil)))
 (sRet (eCall 3 f_fits_time (aCons (eVar 0) (aCons (eVar 1) (aCons (eVar 2) aNil)))))))
noncomputable def f_is_run : List R → M R := runFn 0 m_is_run
/-- check_two: 0 rules, 1 one, 2 other -/
noncomputable def m_check_two : Mi.Env → M Fl :=
 (sSeq (sExpr (eCall 2 f_check_job (aCons (eVar 0) (aCons (eVar 1) aNil))))
 (sExpr (eCall 2 f_check_job (aCons (eVar 0) (aCons (eVar 2) aNil)))))
noncomputable def f_check_two : List R → M R := runFn 0 m_check_two
/-- why_apart: 0 rules, 1 one, 2 other, 3 each, 4 fields, 5 both, 6 factor, 7 some, 8 job, 9 minute -/
noncomputable def g1_why_apart : Tg :=
 (gN 8)
noncomputable def c1_why_apart : Mi.Env → M Bool :=
 (tTr (eCall 2 f_is_each (aCons (eVar 0) (aCons (eVar 8) aNil))))
noncomputable def e1_why_apart : Mi.Env → M R :=
 (eMeth 1 "rule_of" 2 f_Rules__rule_of (eVar 0) (aCons (eVar 8) aNil))
noncomputable def g2_why_apart : Tg :=
 (gN 8)
noncomputable def c2_why_apart : Mi.Env → M Bool :=
 (tNot1 (tTr (eCall 2 f_is_each (aCons (eVar 0) (aCons (eVar 8) aNil)))))
noncomputable def e2_why_apart : Mi.Env → M R :=
 (eVar 8)
noncomputable def g3_why_apart : Tg :=
 (gN 9)
noncomputable def c3_why_apart : Mi.Env → M Bool :=
 (tBl (eOp gEq (eOp gMod (eOp gSub (eVar 9) (eOp gIx (eOp gIx (eVar 3) (eC (.int 0))) (eC (.int 2)))) (eVar 6)) (eC (.int 0))))
noncomputable def e3_why_apart : Mi.Env → M R :=
 (eVar 9)
noncomputable def g4_why_apart : Tg :=
 (gN 9)
noncomputable def c4_why_apart : Mi.Env → M Bool :=
 (tBl (eOp gIn (eVar 9) (eCall 2 f_minutes_of (aCons (eVar 0) (aCons (eVar 2) aNil)))))
noncomputable def e4_why_apart : Mi.Env → M R :=
 (eVar 9)
noncomputable def m_why_apart : Mi.Env → M Fl :=
 (sSeq (sSet 3 (eComp [8] (mSeq (eTup (aCons (eVar 1) (aCons (eVar 2) aNil)))) g1_why_apart c1_why_apart e1_why_apart))
 (sSeq (sIf (tBl (eOp gEq (eB bLenD (aCons (eVar 3) aNil)) (eC (.int 2))))
 (sSeq (sSet 6 (eCall 2 f_common (aCons (eOp gIx (eOp gIx (eVar 3) (eC (.int 0))) (eC (.int 1))) (aCons (eOp gIx (eOp gIx (eVar 3) (eC (.int 1))) (eC (.int 1))) aNil))))
 (sRet (eIf (tBl (eOp gEq (eOp gMod (eOp gSub (eOp gIx (eOp gIx (eVar 3) (eC (.int 0))) (eC (.int 2))) (eOp gIx (eOp gIx (eVar 3) (eC (.int 1))) (eC (.int 2)))) (eVar 6)) (eC (.int 0)))) (eC (.str "late")) (eC (.str "rests")))))
 sNil)
 (sSeq (sSet 4 (eComp [8] (mSeq (eTup (aCons (eVar 1) (aCons (eVar 2) aNil)))) g2_why_apart c2_why_apart e2_why_apart))
 (sSeq (sIf (tBl (eOp gEq (eB bLenD (aCons (eVar 3) aNil)) (eC (.int 1))))
 (sSeq (sSet 6 (eCall 2 f_common (aCons (eOp gIx (eOp gIx (eVar 3) (eC (.int 0))) (eC (.int 1))) (aCons (eC (.int 1440)) aNil))))
 (sSeq (sSet 7 (eComp [9] (mSeq (eCall 2 f_minutes_of (aCons (eVar 0) (aCons (eOp gIx (eVar 4) (eC (.int 0))) aNil)))) g3_why_apart c3_why_apart e3_why_apart))
 (sRet (eIf (tBl (eOp gEq (eVar 7) (eLst aNil))) (eC (.str "rests")) (eC (.str "late"))))))
 sNil)
 (sSeq (sSet 5 (eComp [9] (mSeq (eCall 2 f_minutes_of (aCons (eVar 0) (aCons (eVar 1) aNil)))) g4_why_apart c4_why_apart e4_why_apart))
 (sRet (eIf (tBl (eOp gEq (eVar 5) (eLst aNil))) (eC (.str "minutes")) (eC (.str "days")))))))))
noncomputable def f_why_apart : List R → M R := runFn 7 m_why_apart
/-- meet: 0 rules, 1 one, 2 other, 3 found -/
noncomputable def m_meet : Mi.Env → M Fl :=
 (sSeq (sExpr (eCall 3 f_check_two (aCons (eVar 0) (aCons (eVar 1) (aCons (eVar 2) aNil)))))
 (sSeq (sSet 3 (eMeth 2 "first" 2 f_Meeting__first (eMake 2 3 f_Meeting____init__ (aCons (eVar 0) (aCons (eTup (aCons (eVar 1) (aCons (eVar 2) aNil))) aNil))) (aCons (eC (.int 0)) aNil)))
 (sRet (eIf (tBl (eOp gIsN (eVar 3) (eC .non))) (eTup (aCons (eC (.str "apart")) (aCons (eCall 3 f_why_apart (aCons (eVar 0) (aCons (eVar 1) (aCons (eVar 2) aNil)))) aNil))) (eTup (aCons (eC (.str "meet")) (aCons (eVar 3) aNil)))))))
noncomputable def f_meet : List R → M R := runFn 1 m_meet
/-- check_each: 0 rules, 1 job -/
noncomputable def m_check_each : Mi.Env → M Fl :=
 (sIf (tNot1 (tTr (eCall 2 f_is_each (aCons (eVar 0) (aCons (eVar 1) aNil)))))
 sNever
 sNil)
noncomputable def f_check_each : List R → M R := runFn 0 m_check_each
/-- check_two_each: 0 rules, 1 one, 2 other -/
noncomputable def m_check_two_each : Mi.Env → M Fl :=
 (sSeq (sExpr (eCall 2 f_check_job (aCons (eVar 0) (aCons (eVar 1) aNil))))
 (sSeq (sExpr (eCall 2 f_check_job (aCons (eVar 0) (aCons (eVar 2) aNil))))
 (sSeq (sExpr (eCall 2 f_check_each (aCons (eVar 0) (aCons (eVar 1) aNil))))
 (sExpr (eCall 2 f_check_each (aCons (eVar 0) (aCons (eVar 2) aNil)))))))
noncomputable def f_check_two_each : List R → M R := runFn 0 m_check_two_each
/-- least_apart: 0 here, 1 there, 2 factor, 3 more -/
noncomputable def m_least_apart : Mi.Env → M Fl :=
 (sSeq (sSet 2 (eCall 2 f_common (aCons (eOp gIx (eVar 0) (eC (.int 1))) (aCons (eOp gIx (eVar 1) (eC (.int 1))) aNil))))
 (sSeq (sSet 3 (eOp gMod (eOp gSub (eOp gIx (eVar 1) (eC (.int 2))) (eOp gIx (eVar 0) (eC (.int 2)))) (eVar 2)))
 (sRet (eIf (tBl (eOp gLe (eOp gMul (eC (.int 2)) (eVar 3)) (eVar 2))) (eTup (aCons (eVar 3) (aCons (eVar 3) aNil))) (eTup (aCons (eOp gSub (eVar 2) (eVar 3)) (aCons (eOp gSub (eVar 3) (eVar 2)) aNil)))))))
noncomputable def f_least_apart : List R → M R := runFn 2 m_least_apart
/-- nearest: 0 rules, 1 one, 2 other, 3 run, 4 here, 5 there, 6 number, 7 more -/
noncomputable def m_nearest : Mi.Env → M Fl :=
 (sSeq (sExpr (eCall 3 f_check_two_each (aCons (eVar 0) (aCons (eVar 1) (aCons (eVar 2) aNil)))))
 (sSeq (sPar [(4, .f), (5, .f)] (aCons (eMeth 1 "rule_of" 2 f_Rules__rule_of (eVar 0) (aCons (eVar 1) aNil)) (aCons (eMeth 1 "rule_of" 2 f_Rules__rule_of (eVar 0) (aCons (eVar 2) aNil)) aNil)))
 (sSeq (sAsg (gTp 2 (gCs (gN 6) (gCs (gN 7) gNl))) (eCall 2 f_least_apart (aCons (eVar 4) (aCons (eVar 5) aNil))))
 (sSeq (sSet 3 (eOp gIx (eCall 2 f_put_together (aCons (eTup (aCons (eOp gIx (eVar 4) (eC (.int 1))) (aCons (eOp gMod (eOp gIx (eVar 4) (eC (.int 2))) (eOp gIx (eVar 4) (eC (.int 1)))) aNil))) (aCons (eTup (aCons (eOp gIx (eVar 5) (eC (.int 1))) (aCons (eOp gMod (eOp gSub (eOp gIx (eVar 5) (eC (.int 2))) (eVar 7)) (eOp gIx (eVar 5) (eC (.int 1)))) aNil))) aNil))) (eC (.int 1))))
 (sRet (eTup (aCons (eVar 6) (aCons (eVar 3) (aCons (eOp gAdd (eVar 3) (eVar 7)) aNil)))))))))
noncomputable def f_nearest : List R → M R := runFn 5 m_nearest
/-- fitting_in: 0 rules, 1 job, 2 year, 3 month, 4 begin, 5 long, 6 at -/
noncomputable def g1_fitting_in : Tg :=
 (gN 6)
noncomputable def c1_fitting_in : Mi.Env → M Bool :=
 (tTr (eCall 5 f_fits_in (aCons (eVar 0) (aCons (eVar 1) (aCons (eVar 3) (aCons (eOp gAdd (eVar 6) (eC (.int 1))) (aCons (eCall 1 f_weekday_by (aCons (eOp gAdd (eVar 4) (eVar 6)) aNil)) aNil)))))))
noncomputable def e1_fitting_in : Mi.Env → M R :=
 (eOp gAdd (eVar 4) (eVar 6))
noncomputable def m_fitting_in : Mi.Env → M Fl :=
 (sSeq (sIf (tBl (eOp gNotIn (eVar 3) (eOp gIx (eMeth 1 "rule_of" 2 f_Rules__rule_of (eVar 0) (aCons (eVar 1) aNil)) (eC (.int 4)))))
 (sRet (eLst aNil))
 sNil)
 (sSeq (sSet 5 (eCall 2 f_days_in (aCons (eVar 2) (aCons (eVar 3) aNil))))
 (sRet (eComp [6] (mR1 (aCons (eVar 5) aNil)) g1_fitting_in c1_fitting_in e1_fitting_in))))
noncomputable def f_fitting_in : List R → M R := runFn 2 m_fitting_in
/-- day_on: 0 rules, 1 job, 2 day, 3 begin, 4 year, 5 month, 6 number, 7 some, 8 own -/
noncomputable def g1_day_on : Tg :=
 (gN 8)
noncomputable def c1_day_on : Mi.Env → M Bool :=
 (tBl (eOp gGe (eVar 8) (eVar 2)))
noncomputable def e1_day_on : Mi.Env → M R :=
 (eVar 8)
noncomputable def t1_day_on : Mi.Env → M Bool :=
 (tBl (eOp gLe (eVar 4) (eC (.int 2399))))
noncomputable def b1_day_on : Mi.Env → M Fl :=
 (sSeq (sSet 7 (eComp [8] (mSeq (eCall 5 f_fitting_in (aCons (eVar 0) (aCons (eVar 1) (aCons (eVar 4) (aCons (eVar 5) (aCons (eVar 3) aNil))))))) g1_day_on c1_day_on e1_day_on))
 (sSeq (sIf (tBl (eOp gNe (eVar 7) (eLst aNil)))
 (sRet (eOp gIx (eVar 7) (eC (.int 0))))
 sNil)
 (sSeq (sSet 3 (eOp gAdd (eVar 3) (eCall 2 f_days_in (aCons (eVar 4) (aCons (eVar 5) aNil)))))
 (sPar [(4, .f), (5, .f)] (aCons (eOp gAdd (eVar 4) (eOp gFdiv (eVar 5) (eC (.int 12)))) (aCons (eOp gAdd (eOp gMod (eVar 5) (eC (.int 12))) (eC (.int 1))) aNil))))))
noncomputable def m_day_on : Mi.Env → M Fl :=
 (sSeq (sIf (tBl (eOp gGe (eVar 2) (eC (.int 146097))))
 (sRet (eC .non))
 sNil)
 (sSeq (sAsg (gTp 3 (gCs (gN 4) (gCs (gN 5) (gCs (gN 6) gNl)))) (eCall 1 f_date_by (aCons (eVar 2) aNil)))
 (sSeq (sSet 3 (eOp gAdd (eOp gSub (eVar 2) (eVar 6)) (eC (.int 1))))
 (sSeq (sWhile t1_day_on b1_day_on)
 (sRet (eC .non))))))
noncomputable def f_day_on : List R → M R := runFn 6 m_day_on
/-- next_run: 0 rules, 1 job, 2 time, 3 some, 4 day, 5 found, 6 word, 7 number, 8 begin, 9 minute -/
noncomputable def g1_next_run : Tg :=
 (gN 9)
noncomputable def c1_next_run : Mi.Env → M Bool :=
 (tBl (eOp gGe (eVar 9) (eOp gMod (eVar 2) (eC (.int 1440)))))
noncomputable def e1_next_run : Mi.Env → M R :=
 (eVar 9)
noncomputable def m_next_run : Mi.Env → M Fl :=
 (sSeq (sExpr (eCall 2 f_check_job (aCons (eVar 0) (aCons (eVar 1) aNil))))
 (sSeq (sExpr (eCall 1 f_check_time (aCons (eVar 2) aNil)))
 (sSeq (sIf (tTr (eCall 2 f_is_each (aCons (eVar 0) (aCons (eVar 1) aNil))))
 (sSeq (sAsg (gTp 3 (gCs (gN 6) (gCs (gN 7) (gCs (gN 8) gNl)))) (eMeth 1 "rule_of" 2 f_Rules__rule_of (eVar 0) (aCons (eVar 1) aNil)))
 (sSeq (sSet 5 (eIf (tBl (eOp gLe (eVar 2) (eVar 8))) (eVar 8) (eOp gAdd (eVar 8) (eOp gMul (eVar 7) (eOp gSub (eC (.int 0)) (eOp gFdiv (eOp gSub (eVar 8) (eVar 2)) (eVar 7)))))))
 (sRet (eIf (tBl (eOp gLe (eVar 5) (eC (.int 210379679)))) (eVar 5) (eC .non)))))
 sNil)
 (sSeq (sIf (tBl (eOp gNotN (eCall 2 f_told_never (aCons (eVar 0) (aCons (eVar 1) aNil))) (eC .non)))
 (sRet (eC .non))
 sNil)
 (sSeq (sSet 3 (eCall 2 f_minutes_of (aCons (eVar 0) (aCons (eVar 1) aNil))))
 (sSeq (sSet 4 (eOp gFdiv (eVar 2) (eC (.int 1440))))
 (sSeq (sIf (tAnd2 (tTr (eCall 3 f_fits_day (aCons (eVar 0) (aCons (eVar 1) (aCons (eVar 4) aNil))))) (tBl (eOp gGe (eOp gIx (eVar 3) (eU gNeg (eC (.int 1)))) (eOp gMod (eVar 2) (eC (.int 1440))))))
 (sRet (eOp gAdd (eOp gMul (eVar 4) (eC (.int 1440))) (eOp gIx (eComp [9] (mSeq (eVar 3)) g1_next_run c1_next_run e1_next_run) (eC (.int 0)))))
 sNil)
 (sSeq (sSet 4 (eCall 3 f_day_on (aCons (eVar 0) (aCons (eVar 1) (aCons (eOp gAdd (eVar 4) (eC (.int 1))) aNil)))))
 (sRet (eIf (tBl (eOp gIsN (eVar 4) (eC .non))) (eC .non) (eOp gAdd (eOp gMul (eVar 4) (eC (.int 1440))) (eOp gIx (eVar 3) (eC (.int 0))))))))))))))
noncomputable def f_next_run : List R → M R := runFn 7 m_next_run
/-- are_rests: 0 value, 1 pair, 2 round_of, 3 rest -/
noncomputable def g1_are_rests : Tg :=
 (gN 1)
noncomputable def e1_are_rests : Mi.Env → M R :=
 (eAnd (eU (gIsT "tuple") (eVar 1)) (eOp gEq (eB bLenD (aCons (eVar 1) aNil)) (eC (.int 2))))
noncomputable def g2_are_rests : Tg :=
 (gTp 2 (gCs (gN 2) (gCs (gN 3) gNl)))
noncomputable def e2_are_rests : Mi.Env → M R :=
 (eAnd (eCall 3 f_is_between (aCons (eVar 2) (aCons (eC (.int 1)) (aCons (eC (.int 999999)) aNil)))) (eCall 3 f_is_between (aCons (eVar 3) (aCons (eC (.int 0)) (aCons (eC (.int 999999999)) aNil)))))
noncomputable def m_are_rests : Mi.Env → M Fl :=
 (sSeq (sIf (tOr2 (tNot1 (tTr (eU (gIsT "tuple") (eVar 0)))) (tNot1 (tBl (eChain gLt gLe (eC (.int 0)) (eB bLenD (aCons (eVar 0) aNil)) (eC (.int 6))))))
 (sRet (eC (.bl false)))
 sNil)
 (sSeq (sIf (tNot1 (tTr (eB bAll (aCons (eComp [1] (mSeq (eVar 0)) g1_are_rests tTrue e1_are_rests) aNil))))
 (sRet (eC (.bl false)))
 sNil)
 (sRet (eB bAll (aCons (eComp [2, 3] (mSeq (eVar 0)) g2_are_rests tTrue e2_are_rests) aNil)))))
noncomputable def f_are_rests : List R → M R := runFn 3 m_are_rests
/-- solve: 0 rests, 1 at, 2 one, 3 to -/
noncomputable def g1_solve : Tg :=
 (gN 3)
noncomputable def b1_solve : Mi.Env → M Fl :=
 (sIf (tBl (eOp gIsN (eCall 2 f_put_together (aCons (eVar 2) (aCons (eOp gIx (eVar 0) (eVar 3)) aNil))) (eC .non)))
 (sRet (eTup (aCons (eC (.str "two")) (aCons (eVar 1) (aCons (eVar 3) aNil)))))
 sNil)
noncomputable def g2_solve : Tg :=
 (gTp 2 (gCs (gN 1) (gCs (gN 2) gNl)))
noncomputable def b2_solve : Mi.Env → M Fl :=
 (sFor [] (mR2 (aCons (eOp gAdd (eVar 1) (eC (.int 1))) (aCons (eB bLenD (aCons (eVar 0) aNil)) aNil))) g1_solve b1_solve)
noncomputable def m_solve : Mi.Env → M Fl :=
 (sSeq (sIf (tNot1 (tTr (eCall 1 f_are_rests (aCons (eVar 0) aNil))))
 sNever
 sNil)
 (sSeq (sFor [] (mEnum (eVar 0)) g2_solve b2_solve)
 (sRet (eTup (aCons (eC (.str "all")) (aStar (eCall 1 f_all_together (aCons (eVar 0) aNil)) aNil))))))
noncomputable def f_solve : List R → M R := runFn 3 m_solve
/-- _law_right: 0 pot, 1 names, 2 jobs, 3 rules, 4 is_clear, 5 least, 6 rests, 7 due, 8 word, 9 told, 10 starts, 11 both, 12 some, 13 name, 14 number, 15 time, 16 its, 17 other, 18 job -/
noncomputable def g1__law_right : Tg :=
 (gN 13)
noncomputable def e1__law_right : Mi.Env → M R :=
 (eTup (aCons (eB bIntS (aCons (eOp gAdd (eC (.int 2)) (eCall 2 f__law_take (aCons (eVar 0) (aCons (eCall 2 f__law_of (aCons (eVar 0) (aCons (eLst (aCons (eC (.int 9)) (aCons (eC (.int 30)) (aCons (eC (.int 38)) aNil)))) aNil))) aNil)))) aNil)) (aCons (eB bIntS (aCons (eCall 2 f__law_take (aCons (eVar 0) (aCons (eC (.int 400)) aNil))) aNil)) aNil)))
noncomputable def g2__law_right : Tg :=
 (gTp 2 (gCs (gN 13) (gCs (gN 18) gNl)))
noncomputable def e2__law_right : Mi.Env → M R :=
 (eCall 2 f__law_line (aCons (eVar 13) (aCons (eOp gAdd (eTup (aCons (eC (.str "each")) aNil)) (eVar 18)) aNil)))
noncomputable def g3__law_right : Tg :=
 (gN 13)
noncomputable def e3__law_right : Mi.Env → M R :=
 (eAnd (eCall 3 f_is_run (aCons (eVar 3) (aCons (eVar 13) (aCons (eVar 7) aNil)))) (eOp gEq (eCall 3 f_next_run (aCons (eVar 3) (aCons (eVar 13) (aCons (eVar 7) aNil)))) (eVar 7)))
noncomputable def m__law_right : Mi.Env → M Fl :=
 (sSeq (sSet 1 (eCall 2 f__law_names (aCons (eVar 0) (aCons (eOp gAdd (eC (.int 2)) (eCall 2 f__law_take (aCons (eVar 0) (aCons (eC (.int 2)) aNil)))) aNil))))
 (sSeq (sSet 2 (eComp [13] (mSeq (eVar 1)) g1__law_right tTrue e1__law_right))
 (sSeq (sSet 3 (eMake 1 2 f_Rules____init__ (aCons (eStrM fJoin (eC (.str "\n")) (aCons (eComp [13, 18] (mZip (eVar 1) (eVar 2)) g2__law_right tTrue e2__law_right) aNil)) aNil)))
 (sSeq (sAsg (gTp 2 (gCs (gTp 2 (gCs (gN 14) (gCs (gN 15) gNl))) (gCs (gTp 2 (gCs (gN 16) (gCs (gN 17) gNl))) gNl))) (eTup (aCons (eOp gIx (eVar 2) (eC (.int 0))) (aCons (eOp gIx (eVar 2) (eC (.int 1))) aNil))))
 (sSeq (sPar [(9, .f), (10, .f)] (aCons (eCall 3 f_meet (aCons (eVar 3) (aCons (eOp gIx (eVar 1) (eC (.int 0))) (aCons (eOp gIx (eVar 1) (eC (.int 1))) aNil)))) (aCons (eTup (aCons (eOp gMod (eVar 15) (eVar 14)) (aCons (eOp gMod (eVar 17) (eVar 16)) aNil))) aNil)))
 (sSeq (sSet 4 (eOp gIsN (eCall 2 f_clash (aCons (eTup (aCons (eTup (aCons (eVar 14) (aCons (eC (.int 1)) aNil))) (aCons (eTup (aCons (eVar 16) (aCons (eC (.int 1)) aNil))) aNil))) (aCons (eVar 10) aNil))) (eC .non)))
 (sSeq (sIf (tOr2 (tBl (eOp gNe (eOp gEq (eVar 9) (eTup (aCons (eC (.str "apart")) (aCons (eC (.str "rests")) aNil)))) (eVar 4))) (tAnd2 (tNot1 (tTr (eVar 4))) (tBl (eOp gNe (eOp gIx (eVar 9) (eC (.int 1))) (eCall 2 f__law_first (aCons (eSl (eVar 2) (ePart none) (ePart (some (eC (.int 2))))) (aCons (eOp gAdd (eOp gMul (eVar 14) (eVar 16)) (eC (.int 1))) aNil)))))))
 (sRet (eC (.bl false)))
 sNil)
 (sSeq (sSet 5 (eOp gIx (eCall 3 f_nearest (aCons (eVar 3) (aCons (eOp gIx (eVar 1) (eC (.int 0))) (aCons (eOp gIx (eVar 1) (eC (.int 1))) aNil)))) (eC (.int 0))))
 (sSeq (sIf (tBl (eOp gEq (eOp gEq (eVar 5) (eC (.int 0))) (eVar 4)))
 (sRet (eC (.bl false)))
 sNil)
 (sSeq (sIf (tAnd2 (tTr (eVar 4)) (tBl (eChain gLt gLe (eC (.int 0)) (eVar 5) (eB bMin (aCons (eVar 14) (aCons (eVar 16) aNil))))))
 (sIf (tBl (eOp gNotN (eCall 2 f_clash (aCons (eTup (aCons (eTup (aCons (eVar 14) (aCons (eVar 5) aNil))) (aCons (eTup (aCons (eVar 16) (aCons (eVar 5) aNil))) aNil))) (aCons (eVar 10) aNil))) (eC .non)))
 (sRet (eC (.bl false)))
 sNil)
 sNil)
 (sSeq (sSet 6 (eCall 1 f_solve (aCons (eB bTupD (aCons (eVar 2) aNil)) aNil)))
 (sSeq (sSet 7 (eCall 2 f__law_first (aCons (eVar 2) (aCons (eOp gAdd (eC (.int 1)) (eOp gMul (eOp gMul (eVar 14) (eVar 16)) (eIf (tBl (eOp gGt (eB bLenD (aCons (eVar 2) aNil)) (eC (.int 2)))) (eOp gIx (eOp gIx (eVar 2) (eC (.int 2))) (eC (.int 0))) (eC (.int 1))))) aNil))))
 (sSeq (sIf (tOr2 (tBl (eOp gNe (eOp gEq (eOp gIx (eVar 6) (eC (.int 0))) (eC (.str "all"))) (eOp gNotN (eVar 7) (eC .non)))) (tAnd2 (tBl (eOp gNotN (eVar 7) (eC .non))) (tBl (eOp gNe (eOp gMod (eOp gSub (eVar 7) (eOp gIx (eVar 6) (eC (.int 2)))) (eOp gIx (eVar 6) (eC (.int 1)))) (eC (.int 0))))))
 (sRet (eC (.bl false)))
 sNil)
 (sSeq (sIf (tAnd2 (tBl (eOp gGt (eB bLenD (aCons (eVar 2) aNil)) (eC (.int 1)))) (tBl (eOp gEq (eU gLenSet (eVar 1)) (eB bLenD (aCons (eVar 1) aNil)))))
 (sSeq (sSet 11 (eCall 2 f_all_meet (aCons (eVar 3) (aCons (eB bTupD (aCons (eVar 1) aNil)) aNil))))
 (sSeq (sIf (tOr2 (tBl (eOp gNe (eOp gEq (eOp gIx (eVar 11) (eC (.int 0))) (eC (.str "meet"))) (eOp gNotN (eVar 7) (eC .non)))) (tAnd2 (tBl (eOp gNotN (eVar 7) (eC .non))) (tBl (eOp gNe (eVar 11) (eTup (aCons (eC (.str "meet")) (aCons (eVar 7) aNil)))))))
 (sRet (eC (.bl false)))
 sNil)
 (sSeq (sSet 12 (eIf (tBl (eOp gNotN (eVar 7) (eC .non))) (eVar 1) (eLst aNil)))
 (sIf (tNot1 (tTr (eB bAll (aCons (eComp [13] (mSeq (eVar 12)) g3__law_right tTrue e3__law_right) aNil))))
 (sRet (eC (.bl false)))
 sNil))))
 sNil)
 (sSeq (sSet 8 (eCall 5 f_goes_down (aCons (eVar 3) (aCons (eOp gIx (eVar 1) (eC (.int 0))) (aCons (eVar 17) (aCons (eVar 16) (aCons (eC (.int 1)) aNil)))))))
 (sSeq (sIf (tBl (eOp gNe (eOp gEq (eOp gIx (eVar 8) (eC (.int 0))) (eC (.str "never"))) (eVar 4)))
 (sRet (eC (.bl false)))
 sNil)
 (sRet (eOr (eOp gEq (eOp gIx (eVar 8) (eC (.int 0))) (eC (.str "never"))) (eOp gEq (eOp gIx (eVar 8) (eC (.int 1))) (eCall 2 f__law_first (aCons (eLst (aCons (eOp gIx (eVar 2) (eC (.int 0))) (aCons (eOp gIx (eVar 2) (eC (.int 1))) aNil))) (aCons (eOp gAdd (eOp gMul (eVar 14) (eVar 16)) (eC (.int 1))) aNil))))))))))))))))))))))
noncomputable def f__law_right : List R → M R := runFn 18 m__law_right
/-- law: 0 script, 1 place, 2 pot, 3 lap -/
noncomputable def g1_law : Tg :=
 (gN 3)
noncomputable def e1_law : Mi.Env → M R :=
 (eCall 1 f__law_right (aCons (eVar 2) aNil))
noncomputable def g2_law : Tg :=
 (gN 1)
noncomputable def b1_law : Mi.Env → M Fl :=
 (sSeq (sSetI 2 (eCall 2 f__law_pot (aCons (eVar 0) (aCons (eVar 1) aNil))))
 (sIf (tNot1 (tTr (eB bAll (aCons (eComp [3] (mR1 (aCons (eC (.int 4)) aNil)) g1_law tTrue e1_law) aNil))))
 (sRet (eC (.bl false)))
 sNil))
noncomputable def m_law : Mi.Env → M Fl :=
 (sSeq (sFor [] (mSeq (eCall 2 f__law_cells (aCons (eVar 0) (aCons (eC (.int 2)) aNil)))) g2_law b1_law)
 (sRet (eC (.bl true))))
noncomputable def f_law : List R → M R := runFn 3 m_law
end K91
/-! againandagain_k91_whole_rests_and_pieces: the walks; printed. -/
namespace K91
open PySem PySem.Spec PyProof.Rows L2 Mi
def cl (K : PySem.W.Frag) : List Addr := [He.ga K "RuleReader", He.ga K "Rules", He.ga K "Meeting"]
theorem sc__law_cells : FnScope ["script", "limit"] ["script", "limit"] (defScope s__law_cells) := ⟨rfl, rfl, rfl, by decide +kernel, rfl, by decide +kernel, by decide +kernel⟩
theorem sc__law_pot : FnScope ["script", "place", "cell", "own", "small"] ["script", "place"] (defScope s__law_pot) := ⟨rfl, rfl, rfl, by decide +kernel, rfl, by decide +kernel, by decide +kernel⟩
theorem sc_RuleReader____init__ : FnScope ["self"] ["self"] (defScope s_RuleReader____init__) := ⟨rfl, rfl, rfl, by decide +kernel, rfl, by decide +kernel, by decide +kernel⟩
theorem sc_RuleReader__found : FnScope ["self"] ["self"] (defScope s_RuleReader__found) := ⟨rfl, rfl, rfl, by decide +kernel, rfl, by decide +kernel, by decide +kernel⟩
theorem sc_read_integer : FnScope ["word", "figures", "number", "sign"] ["word"] (defScope s_read_integer) := ⟨rfl, rfl, rfl, by decide +kernel, rfl, by decide +kernel, by decide +kernel⟩
theorem sc_read_number : FnScope ["word", "least", "most", "number"] ["word", "least", "most"] (defScope s_read_number) := ⟨rfl, rfl, rfl, by decide +kernel, rfl, by decide +kernel, by decide +kernel⟩
theorem sc_RuleReader__takes_each : FnScope ["self", "name", "words", "number", "begin"] ["self", "name", "words"] (defScope s_RuleReader__takes_each) := ⟨rfl, rfl, rfl, by decide +kernel, rfl, by decide +kernel, by decide +kernel⟩
theorem sc_RuleReader__takes_fields : FnScope ["self", "name", "word", "words", "some", "own", "least", "most"] ["self", "name", "word", "words"] (defScope s_RuleReader__takes_fields) := ⟨rfl, rfl, rfl, by decide +kernel, rfl, by decide +kernel, by decide +kernel⟩
theorem sc_RuleReader__takes_long : FnScope ["self", "words", "some", "word"] ["self", "words"] (defScope s_RuleReader__takes_long) := ⟨rfl, rfl, rfl, by decide +kernel, rfl, by decide +kernel, by decide +kernel⟩
theorem sc_is_name : FnScope ["value", "sign"] ["value"] (defScope s_is_name) := ⟨rfl, rfl, rfl, by decide +kernel, rfl, by decide +kernel, by decide +kernel⟩
theorem sc_RuleReader__takes : FnScope ["self", "line", "words"] ["self", "line"] (defScope s_RuleReader__takes) := ⟨rfl, rfl, rfl, by decide +kernel, rfl, by decide +kernel, by decide +kernel⟩
theorem sc_Rules____init__ : FnScope ["self", "text", "reader", "number", "line"] ["self", "text"] (defScope s_Rules____init__) := ⟨rfl, rfl, rfl, by decide +kernel, rfl, by decide +kernel, by decide +kernel⟩
theorem sc__law_first : FnScope ["jobs", "far", "begin", "time", "number", "first"] ["jobs", "far"] (defScope s__law_first) := ⟨rfl, rfl, rfl, by decide +kernel, rfl, by decide +kernel, by decide +kernel⟩
theorem sc__law_field : FnScope ["some", "number"] ["some"] (defScope s__law_field) := ⟨rfl, rfl, rfl, by decide +kernel, rfl, by decide +kernel, by decide +kernel⟩
theorem sc__law_line : FnScope ["name", "job", "hours", "weekdays"] ["name", "job"] (defScope s__law_line) := ⟨rfl, rfl, rfl, by decide +kernel, rfl, by decide +kernel, by decide +kernel⟩
theorem sc__law_take : FnScope ["pot", "upto", "prime", "blend", "digit"] ["pot", "upto"] (defScope s__law_take) := ⟨rfl, rfl, rfl, by decide +kernel, rfl, by decide +kernel, by decide +kernel⟩
theorem sc__law_some : FnScope ["pot", "some", "amount", "lap", "left", "found"] ["pot", "some", "amount"] (defScope s__law_some) := ⟨rfl, rfl, rfl, by decide +kernel, rfl, by decide +kernel, by decide +kernel⟩
theorem sc__law_names : FnScope ["pot", "many", "pool", "found", "word", "lap", "at"] ["pot", "many"] (defScope s__law_names) := ⟨rfl, rfl, rfl, by decide +kernel, rfl, by decide +kernel, by decide +kernel⟩
theorem sc__law_of : FnScope ["pot", "some"] ["pot", "some"] (defScope s__law_of) := ⟨rfl, rfl, rfl, by decide +kernel, rfl, by decide +kernel, by decide +kernel⟩
theorem sc_Meeting__by_rest : FnScope ["self", "found", "minute", "rest"] ["self"] (defScope s_Meeting__by_rest) := ⟨rfl, rfl, rfl, by decide +kernel, rfl, by decide +kernel, by decide +kernel⟩
theorem sc_Rules__rule_of : FnScope ["self", "job"] ["self", "job"] (defScope s_Rules__rule_of) := ⟨rfl, rfl, rfl, by decide +kernel, rfl, by decide +kernel, by decide +kernel⟩
theorem sc_common : FnScope ["one", "other"] ["one", "other"] (defScope s_common) := ⟨rfl, rfl, rfl, by decide +kernel, rfl, by decide +kernel, by decide +kernel⟩
theorem sc_inverse : FnScope ["number", "round_of", "one", "other", "here", "there", "times"] ["number", "round_of"] (defScope s_inverse) := ⟨rfl, rfl, rfl, by decide +kernel, rfl, by decide +kernel, by decide +kernel⟩
theorem sc_put_together : FnScope ["one", "other", "factor", "many", "whole", "steps", "wide"] ["one", "other"] (defScope s_put_together) := ⟨rfl, rfl, rfl, by decide +kernel, rfl, by decide +kernel, by decide +kernel⟩
theorem sc_all_together : FnScope ["rests", "found", "pair"] ["rests"] (defScope s_all_together) := ⟨rfl, rfl, rfl, by decide +kernel, rfl, by decide +kernel, by decide +kernel⟩
theorem sc_is_each : FnScope ["rules", "job"] ["rules", "job"] (defScope s_is_each) := ⟨rfl, rfl, rfl, by decide +kernel, rfl, by decide +kernel, by decide +kernel⟩
theorem sc_Rules__stars_of : FnScope ["self", "job"] ["self", "job"] (defScope s_Rules__stars_of) := ⟨rfl, rfl, rfl, by decide +kernel, rfl, by decide +kernel, by decide +kernel⟩
theorem sc_lengths_of : FnScope ["month"] ["month"] (defScope s_lengths_of) := ⟨rfl, rfl, rfl, by decide +kernel, rfl, by decide +kernel, by decide +kernel⟩
theorem sc_told_never : FnScope ["rules", "job", "rows", "is_by_days", "word", "minutes", "hours", "days", "months", "weekdays", "month", "long"] ["rules", "job"] (defScope s_told_never) := ⟨rfl, rfl, rfl, by decide +kernel, rfl, by decide +kernel, by decide +kernel⟩
theorem sc_Meeting____init__ : FnScope ["self", "rules", "jobs", "each", "job", "never", "own", "row", "minute"] ["self", "rules", "jobs"] (defScope s_Meeting____init__) := ⟨rfl, rfl, rfl, by decide +kernel, rfl, by decide +kernel, by decide +kernel⟩
theorem sc_is_long_year : FnScope ["year"] ["year"] (defScope s_is_long_year) := ⟨rfl, rfl, rfl, by decide +kernel, rfl, by decide +kernel, by decide +kernel⟩
theorem sc_days_in : FnScope ["year", "month"] ["year", "month"] (defScope s_days_in) := ⟨rfl, rfl, rfl, by decide +kernel, rfl, by decide +kernel, by decide +kernel⟩
theorem sc_fits_in : FnScope ["rules", "job", "month", "number", "weekday", "word", "minutes", "hours", "days", "months", "weekdays", "one", "other", "starred", "also"] ["rules", "job", "month", "number", "weekday"] (defScope s_fits_in) := ⟨rfl, rfl, rfl, by decide +kernel, rfl, by decide +kernel, by decide +kernel⟩
theorem sc_weekday_by : FnScope ["day"] ["day"] (defScope s_weekday_by) := ⟨rfl, rfl, rfl, by decide +kernel, rfl, by decide +kernel, by decide +kernel⟩
theorem sc_Meeting__days_from : FnScope ["self", "year", "month", "begin", "found", "at", "weekday", "job"] ["self", "year", "month", "begin"] (defScope s_Meeting__days_from) := ⟨rfl, rfl, rfl, by decide +kernel, rfl, by decide +kernel, by decide +kernel⟩
theorem sc_Meeting__minutes_on : FnScope ["self", "day", "round_of", "rest"] ["self", "day"] (defScope s_Meeting__minutes_on) := ⟨rfl, rfl, rfl, by decide +kernel, rfl, by decide +kernel, by decide +kernel⟩
theorem sc_days_ahead : FnScope ["year", "past", "since", "gained", "by"] ["year"] (defScope s_days_ahead) := ⟨rfl, rfl, rfl, by decide +kernel, rfl, by decide +kernel, by decide +kernel⟩
theorem sc_date_by : FnScope ["day", "year", "rest", "month"] ["day"] (defScope s_date_by) := ⟨rfl, rfl, rfl, by decide +kernel, rfl, by decide +kernel, by decide +kernel⟩
theorem sc_Meeting__first : FnScope ["self", "time", "begin", "found", "year", "month", "number", "day", "round_of", "rest", "some", "minute"] ["self", "time"] (defScope s_Meeting__first) := ⟨rfl, rfl, rfl, by decide +kernel, rfl, by decide +kernel, by decide +kernel⟩
theorem sc_Rules__jobs : FnScope ["self"] ["self"] (defScope s_Rules__jobs) := ⟨rfl, rfl, rfl, by decide +kernel, rfl, by decide +kernel, by decide +kernel⟩
theorem sc_are_unlike : FnScope ["values"] ["values"] (defScope s_are_unlike) := ⟨rfl, rfl, rfl, by decide +kernel, rfl, by decide +kernel, by decide +kernel⟩
theorem sc_check_rules : FnScope ["rules"] ["rules"] (defScope s_check_rules) := ⟨rfl, rfl, rfl, by decide +kernel, rfl, by decide +kernel, by decide +kernel⟩
theorem sc_all_meet : FnScope ["rules", "jobs", "found", "at", "one", "other", "job"] ["rules", "jobs"] (defScope s_all_meet) := ⟨rfl, rfl, rfl, by decide +kernel, rfl, by decide +kernel, by decide +kernel⟩
theorem sc_is_integer : FnScope ["value"] ["value"] (defScope s_is_integer) := ⟨rfl, rfl, rfl, by decide +kernel, rfl, by decide +kernel, by decide +kernel⟩
theorem sc_is_between : FnScope ["value", "least", "most"] ["value", "least", "most"] (defScope s_is_between) := ⟨rfl, rfl, rfl, by decide +kernel, rfl, by decide +kernel, by decide +kernel⟩
theorem sc_are_starts : FnScope ["pieces", "value", "start", "every", "long"] ["pieces", "value"] (defScope s_are_starts) := ⟨rfl, rfl, rfl, by decide +kernel, rfl, by decide +kernel, by decide +kernel⟩
theorem sc_is_piece : FnScope ["value"] ["value"] (defScope s_is_piece) := ⟨rfl, rfl, rfl, by decide +kernel, rfl, by decide +kernel, by decide +kernel⟩
theorem sc_check_pieces : FnScope ["pieces", "one"] ["pieces"] (defScope s_check_pieces) := ⟨rfl, rfl, rfl, by decide +kernel, rfl, by decide +kernel, by decide +kernel⟩
theorem sc_do_clash : FnScope ["one", "start", "other", "begin", "factor"] ["one", "start", "other", "begin"] (defScope s_do_clash) := ⟨rfl, rfl, rfl, by decide +kernel, rfl, by decide +kernel, by decide +kernel⟩
theorem sc_is_at_work : FnScope ["piece", "start", "minute"] ["piece", "start", "minute"] (defScope s_is_at_work) := ⟨rfl, rfl, rfl, by decide +kernel, rfl, by decide +kernel, by decide +kernel⟩
theorem sc_first_minute : FnScope ["one", "start", "other", "begin", "found", "piece", "at", "its", "to", "some", "lap", "minute"] ["one", "start", "other", "begin"] (defScope s_first_minute) := ⟨rfl, rfl, rfl, by decide +kernel, rfl, by decide +kernel, by decide +kernel⟩
theorem sc_clash : FnScope ["pieces", "starts", "at", "one", "to"] ["pieces", "starts"] (defScope s_clash) := ⟨rfl, rfl, rfl, by decide +kernel, rfl, by decide +kernel, by decide +kernel⟩
theorem sc_check_job : FnScope ["rules", "job"] ["rules", "job"] (defScope s_check_job) := ⟨rfl, rfl, rfl, by decide +kernel, rfl, by decide +kernel, by decide +kernel⟩
theorem sc_is_time : FnScope ["value"] ["value"] (defScope s_is_time) := ⟨rfl, rfl, rfl, by decide +kernel, rfl, by decide +kernel, by decide +kernel⟩
theorem sc_check_time : FnScope ["time"] ["time"] (defScope s_check_time) := ⟨rfl, rfl, rfl, by decide +kernel, rfl, by decide +kernel, by decide +kernel⟩
theorem sc_first_missed : FnScope ["rule", "begin", "every", "long", "lap", "number", "time"] ["rule", "begin", "every", "long"] (defScope s_first_missed) := ⟨rfl, rfl, rfl, by decide +kernel, rfl, by decide +kernel, by decide +kernel⟩
theorem sc_goes_down : FnScope ["rules", "job", "begin", "every", "long", "factor", "found", "word", "number", "first"] ["rules", "job", "begin", "every", "long"] (defScope s_goes_down) := ⟨rfl, rfl, rfl, by decide +kernel, rfl, by decide +kernel, by decide +kernel⟩
theorem sc_fits_day : FnScope ["rules", "job", "day", "year", "month", "number"] ["rules", "job", "day"] (defScope s_fits_day) := ⟨rfl, rfl, rfl, by decide +kernel, rfl, by decide +kernel, by decide +kernel⟩
theorem sc_by_hours : FnScope ["hours", "minutes", "found", "hour", "minute"] ["hours", "minutes"] (defScope s_by_hours) := ⟨rfl, rfl, rfl, by decide +kernel, rfl, by decide +kernel, by decide +kernel⟩
theorem sc_minutes_of : FnScope ["rules", "job", "word", "minutes", "hours", "days", "months", "weekdays"] ["rules", "job"] (defScope s_minutes_of) := ⟨rfl, rfl, rfl, by decide +kernel, rfl, by decide +kernel, by decide +kernel⟩
theorem sc_fits_time : FnScope ["rules", "job", "time", "word", "number", "begin"] ["rules", "job", "time"] (defScope s_fits_time) := ⟨rfl, rfl, rfl, by decide +kernel, rfl, by decide +kernel, by decide +kernel⟩
theorem sc_is_run : FnScope ["rules", "job", "time"] ["rules", "job", "time"] (defScope s_is_run) := ⟨rfl, rfl, rfl, by decide +kernel, rfl, by decide +kernel, by decide +kernel⟩
theorem sc_check_two : FnScope ["rules", "one", "other"] ["rules", "one", "other"] (defScope s_check_two) := ⟨rfl, rfl, rfl, by decide +kernel, rfl, by decide +kernel, by decide +kernel⟩
theorem sc_why_apart : FnScope ["rules", "one", "other", "each", "fields", "both", "factor", "some", "job", "minute"] ["rules", "one", "other"] (defScope s_why_apart) := ⟨rfl, rfl, rfl, by decide +kernel, rfl, by decide +kernel, by decide +kernel⟩
theorem sc_meet : FnScope ["rules", "one", "other", "found"] ["rules", "one", "other"] (defScope s_meet) := ⟨rfl, rfl, rfl, by decide +kernel, rfl, by decide +kernel, by decide +kernel⟩
theorem sc_check_each : FnScope ["rules", "job"] ["rules", "job"] (defScope s_check_each) := ⟨rfl, rfl, rfl, by decide +kernel, rfl, by decide +kernel, by decide +kernel⟩
theorem sc_check_two_each : FnScope ["rules", "one", "other"] ["rules", "one", "other"] (defScope s_check_two_each) := ⟨rfl, rfl, rfl, by decide +kernel, rfl, by decide +kernel, by decide +kernel⟩
theorem sc_least_apart : FnScope ["here", "there", "factor", "more"] ["here", "there"] (defScope s_least_apart) := ⟨rfl, rfl, rfl, by decide +kernel, rfl, by decide +kernel, by decide +kernel⟩
theorem sc_nearest : FnScope ["rules", "one", "other", "run", "here", "there", "number", "more"] ["rules", "one", "other"] (defScope s_nearest) := ⟨rfl, rfl, rfl, by decide +kernel, rfl, by decide +kernel, by decide +kernel⟩
theorem sc_fitting_in : FnScope ["rules", "job", "year", "month", "begin", "long", "at"] ["rules", "job", "year", "month", "begin"] (defScope s_fitting_in) := ⟨rfl, rfl, rfl, by decide +kernel, rfl, by decide +kernel, by decide +kernel⟩
theorem sc_day_on : FnScope ["rules", "job", "day", "begin", "year", "month", "number", "some", "own"] ["rules", "job", "day"] (defScope s_day_on) := ⟨rfl, rfl, rfl, by decide +kernel, rfl, by decide +kernel, by decide +kernel⟩
theorem sc_next_run : FnScope ["rules", "job", "time", "some", "day", "found", "word", "number", "begin", "minute"] ["rules", "job", "time"] (defScope s_next_run) := ⟨rfl, rfl, rfl, by decide +kernel, rfl, by decide +kernel, by decide +kernel⟩
theorem sc_are_rests : FnScope ["value", "pair", "round_of", "rest"] ["value"] (defScope s_are_rests) := ⟨rfl, rfl, rfl, by decide +kernel, rfl, by decide +kernel, by decide +kernel⟩
theorem sc_solve : FnScope ["rests", "at", "one", "to"] ["rests"] (defScope s_solve) := ⟨rfl, rfl, rfl, by decide +kernel, rfl, by decide +kernel, by decide +kernel⟩
theorem sc__law_right : FnScope ["pot", "names", "jobs", "rules", "is_clear", "least", "rests", "due", "word", "told", "starts", "both", "some", "name", "number", "time", "its", "other", "job"] ["pot"] (defScope s__law_right) := ⟨rfl, rfl, rfl, by decide +kernel, rfl, by decide +kernel, by decide +kernel⟩
theorem sc_law : FnScope ["script", "place", "pot", "lap"] ["script"] (defScope s_law) := ⟨rfl, rfl, rfl, by decide +kernel, rfl, by decide +kernel, by decide +kernel⟩
structure Txt (K : PySem.W.Frag) (mg : Str → Option Value) : Prop where
  d__law_cells : DefOk K mg "_law_cells" s__law_cells
  d__law_pot : DefOk K mg "_law_pot" s__law_pot
  m_RuleReader____init__ : ∃ fd, FunD K "__init__" "RuleReader.__init__" (defArgs s_RuleReader____init__) (defBody s_RuleReader____init__) (defScope s_RuleReader____init__) [] [] (He.ma K (He.ga K "RuleReader") "__init__") fd
  m_RuleReader__found : ∃ fd, FunD K "found" "RuleReader.found" (defArgs s_RuleReader__found) (defBody s_RuleReader__found) (defScope s_RuleReader__found) [] [] (He.ma K (He.ga K "RuleReader") "found") fd
  d_read_integer : DefOk K mg "read_integer" s_read_integer
  d_read_number : DefOk K mg "read_number" s_read_number
  m_RuleReader__takes_each : ∃ fd, FunD K "takes_each" "RuleReader.takes_each" (defArgs s_RuleReader__takes_each) (defBody s_RuleReader__takes_each) (defScope s_RuleReader__takes_each) [] [] (He.ma K (He.ga K "RuleReader") "takes_each") fd
  m_RuleReader__takes_fields : ∃ fd, FunD K "takes_fields" "RuleReader.takes_fields" (defArgs s_RuleReader__takes_fields) (defBody s_RuleReader__takes_fields) (defScope s_RuleReader__takes_fields) [] [] (He.ma K (He.ga K "RuleReader") "takes_fields") fd
  m_RuleReader__takes_long : ∃ fd, FunD K "takes_long" "RuleReader.takes_long" (defArgs s_RuleReader__takes_long) (defBody s_RuleReader__takes_long) (defScope s_RuleReader__takes_long) [] [] (He.ma K (He.ga K "RuleReader") "takes_long") fd
  d_is_name : DefOk K mg "is_name" s_is_name
  m_RuleReader__takes : ∃ fd, FunD K "takes" "RuleReader.takes" (defArgs s_RuleReader__takes) (defBody s_RuleReader__takes) (defScope s_RuleReader__takes) [] [] (He.ma K (He.ga K "RuleReader") "takes") fd
  m_Rules____init__ : ∃ fd, FunD K "__init__" "Rules.__init__" (defArgs s_Rules____init__) (defBody s_Rules____init__) (defScope s_Rules____init__) [] [] (He.ma K (He.ga K "Rules") "__init__") fd
  d__law_first : DefOk K mg "_law_first" s__law_first
  d__law_field : DefOk K mg "_law_field" s__law_field
  d__law_line : DefOk K mg "_law_line" s__law_line
  d__law_take : DefOk K mg "_law_take" s__law_take
  d__law_some : DefOk K mg "_law_some" s__law_some
  d__law_names : DefOk K mg "_law_names" s__law_names
  d__law_of : DefOk K mg "_law_of" s__law_of
  m_Meeting__by_rest : ∃ fd, FunD K "by_rest" "Meeting.by_rest" (defArgs s_Meeting__by_rest) (defBody s_Meeting__by_rest) (defScope s_Meeting__by_rest) [] [] (He.ma K (He.ga K "Meeting") "by_rest") fd
  m_Rules__rule_of : ∃ fd, FunD K "rule_of" "Rules.rule_of" (defArgs s_Rules__rule_of) (defBody s_Rules__rule_of) (defScope s_Rules__rule_of) [] [] (He.ma K (He.ga K "Rules") "rule_of") fd
  d_common : DefOk K mg "common" s_common
  d_inverse : DefOk K mg "inverse" s_inverse
  d_put_together : DefOk K mg "put_together" s_put_together
  d_all_together : DefOk K mg "all_together" s_all_together
  d_is_each : DefOk K mg "is_each" s_is_each
  m_Rules__stars_of : ∃ fd, FunD K "stars_of" "Rules.stars_of" (defArgs s_Rules__stars_of) (defBody s_Rules__stars_of) (defScope s_Rules__stars_of) [] [] (He.ma K (He.ga K "Rules") "stars_of") fd
  d_lengths_of : DefOk K mg "lengths_of" s_lengths_of
  d_told_never : DefOk K mg "told_never" s_told_never
  m_Meeting____init__ : ∃ fd, FunD K "__init__" "Meeting.__init__" (defArgs s_Meeting____init__) (defBody s_Meeting____init__) (defScope s_Meeting____init__) [] [] (He.ma K (He.ga K "Meeting") "__init__") fd
  d_is_long_year : DefOk K mg "is_long_year" s_is_long_year
  d_days_in : DefOk K mg "days_in" s_days_in
  d_fits_in : DefOk K mg "fits_in" s_fits_in
  d_weekday_by : DefOk K mg "weekday_by" s_weekday_by
  m_Meeting__days_from : ∃ fd, FunD K "days_from" "Meeting.days_from" (defArgs s_Meeting__days_from) (defBody s_Meeting__days_from) (defScope s_Meeting__days_from) [] [] (He.ma K (He.ga K "Meeting") "days_from") fd
  m_Meeting__minutes_on : ∃ fd, FunD K "minutes_on" "Meeting.minutes_on" (defArgs s_Meeting__minutes_on) (defBody s_Meeting__minutes_on) (defScope s_Meeting__minutes_on) [] [] (He.ma K (He.ga K "Meeting") "minutes_on") fd
  d_days_ahead : DefOk K mg "days_ahead" s_days_ahead
  d_date_by : DefOk K mg "date_by" s_date_by
  m_Meeting__first : ∃ fd, FunD K "first" "Meeting.first" (defArgs s_Meeting__first) (defBody s_Meeting__first) (defScope s_Meeting__first) [] [] (He.ma K (He.ga K "Meeting") "first") fd
  m_Rules__jobs : ∃ fd, FunD K "jobs" "Rules.jobs" (defArgs s_Rules__jobs) (defBody s_Rules__jobs) (defScope s_Rules__jobs) [] [] (pgA K "Rules" "jobs") fd
  d_are_unlike : DefOk K mg "are_unlike" s_are_unlike
  d_check_rules : DefOk K mg "check_rules" s_check_rules
  d_all_meet : DefOk K mg "all_meet" s_all_meet
  d_is_integer : DefOk K mg "is_integer" s_is_integer
  d_is_between : DefOk K mg "is_between" s_is_between
  d_are_starts : DefOk K mg "are_starts" s_are_starts
  d_is_piece : DefOk K mg "is_piece" s_is_piece
  d_check_pieces : DefOk K mg "check_pieces" s_check_pieces
  d_do_clash : DefOk K mg "do_clash" s_do_clash
  d_is_at_work : DefOk K mg "is_at_work" s_is_at_work
  d_first_minute : DefOk K mg "first_minute" s_first_minute
  d_clash : DefOk K mg "clash" s_clash
  d_check_job : DefOk K mg "check_job" s_check_job
  d_is_time : DefOk K mg "is_time" s_is_time
  d_check_time : DefOk K mg "check_time" s_check_time
  d_first_missed : DefOk K mg "first_missed" s_first_missed
  d_goes_down : DefOk K mg "goes_down" s_goes_down
  d_fits_day : DefOk K mg "fits_day" s_fits_day
  d_by_hours : DefOk K mg "by_hours" s_by_hours
  d_minutes_of : DefOk K mg "minutes_of" s_minutes_of
  d_fits_time : DefOk K mg "fits_time" s_fits_time
  d_is_run : DefOk K mg "is_run" s_is_run
  d_check_two : DefOk K mg "check_two" s_check_two
  d_why_apart : DefOk K mg "why_apart" s_why_apart
  d_meet : DefOk K mg "meet" s_meet
  d_check_each : DefOk K mg "check_each" s_check_each
  d_check_two_each : DefOk K mg "check_two_each" s_check_two_each
  d_least_apart : DefOk K mg "least_apart" s_least_apart
  d_nearest : DefOk K mg "nearest" s_nearest
  d_fitting_in : DefOk K mg "fitting_in" s_fitting_in
  d_day_on : DefOk K mg "day_on" s_day_on
  d_next_run : DefOk K mg "next_run" s_next_run
  d_are_rests : DefOk K mg "are_rests" s_are_rests
  d_solve : DefOk K mg "solve" s_solve
  d__law_right : DefOk K mg "_law_right" s__law_right
  d_law : DefOk K mg "law" s_law
  n_range : mg "range" = none
  n_all : mg "all" = none
  n_len : mg "len" = none
  n_min : mg "min" = none
  n_max : mg "max" = none
  n_list : mg "list" = none
  n_sum : mg "sum" = none
  n_abs : mg "abs" = none
  n_int : mg "int" = none
  n_zip : mg "zip" = none
  n_tuple : mg "tuple" = none
  n_set : mg "set" = none
  n_isinstance : mg "isinstance" = none
  n_str : mg "str" = none
  n_enumerate : mg "enumerate" = none
  n_bool : mg "bool" = none
  i_TAKES : ∃ t, mg "TAKES" = some (.str "takes" t)
  i_JOB : ∃ t, mg "JOB" = some (.str "job" t)
  i_MOST_JOBS_reading : ∃ t, mg "MOST_JOBS_reading" = some (.int 12 t)
  i_EACH : ∃ t, mg "EACH" = some (.str "each" t)
  i_AT : ∃ t, mg "AT" = some (.str "at" t)
  i_OR : ∃ t, mg "OR" = some (.str "or" t)
  i_FROM : ∃ t, mg "FROM" = some (.str "from" t)
  i_MOST_EACH_reading : ∃ t, mg "MOST_EACH_reading" = some (.int 999999 t)
  i_LAST_TIME : ∃ t, mg "LAST_TIME" = some (.int 210379679 t)
  i_FIGURES : ∃ t, mg "FIGURES" = some (.str "0123456789" t)
  i_STAR : ∃ t, mg "STAR" = some (.str "*" t)
  i_MOST_SIGNS : ∃ t, mg "MOST_SIGNS" = some (.int 8 t)
  i_LETTERS : ∃ t, mg "LETTERS" = some (.str "abcdefghijklmnopqrstuvwxyz" t)
  i_MOST_JOBS_meets : ∃ t, mg "MOST_JOBS_meets" = some (.int 6 t)
  i_TWO : ∃ t, mg "TWO" = some (.str "two" t)
  i_LATE_meets : ∃ t, mg "LATE_meets" = some (.str "late" t)
  i_MEET : ∃ t, mg "MEET" = some (.str "meet" t)
  i_MINUTES : ∃ t, mg "MINUTES" = some (.int 1440 t)
  i_LAST_YEAR : ∃ t, mg "LAST_YEAR" = some (.int 2399 t)
  i_MONTHS : ∃ t, mg "MONTHS" = some (.int 12 t)
  i_FIRST_WEEKDAY : ∃ t, mg "FIRST_WEEKDAY" = some (.int 6 t)
  i_FIRST_YEAR : ∃ t, mg "FIRST_YEAR" = some (.int 2000 t)
  i_MOST_PIECES : ∃ t, mg "MOST_PIECES" = some (.int 5 t)
  i_MOST_EVERY : ∃ t, mg "MOST_EVERY" = some (.int 1440 t)
  i_MOST_EACH_missed : ∃ t, mg "MOST_EACH_missed" = some (.int 999999 t)
  i_NEVER : ∃ t, mg "NEVER" = some (.str "never" t)
  i_MISSED : ∃ t, mg "MISSED" = some (.str "missed" t)
  i_LATE_missed : ∃ t, mg "LATE_missed" = some (.str "late" t)
  i_DAYS : ∃ t, mg "DAYS" = some (.int 146097 t)
  i_APART : ∃ t, mg "APART" = some (.str "apart" t)
  i_RESTS : ∃ t, mg "RESTS" = some (.str "rests" t)
  i_MINUTE_WORD : ∃ t, mg "MINUTE_WORD" = some (.str "minutes" t)
  i_DAY_WORD : ∃ t, mg "DAY_WORD" = some (.str "days" t)
  i_ALL : ∃ t, mg "ALL" = some (.str "all" t)
  i_MOST_RESTS : ∃ t, mg "MOST_RESTS" = some (.int 6 t)
  i_MOST_ROUND : ∃ t, mg "MOST_ROUND" = some (.int 999999 t)
  i_MOST_NUMBER : ∃ t, mg "MOST_NUMBER" = some (.int 999999999 t)
  t_LENGTHS : mg "LENGTHS" = some (.ref (He.ga K "LENGTHS"))
  u_LENGTHS : ∀ H, SqT K H (He.ga K "LENGTHS") (c_LENGTHS.map L2.V.int)
  g_RuleReader : mg "RuleReader" = some (.ref (He.ga K "RuleReader"))
  c_RuleReader : Cls K (He.ga K "RuleReader")
  k_RuleReader : Mk K (He.ga K "RuleReader") (He.ma K (He.ga K "RuleReader") "__init__")
  g_Rules : mg "Rules" = some (.ref (He.ga K "Rules"))
  c_Rules : Cls K (He.ga K "Rules")
  k_Rules : Mk K (He.ga K "Rules") (He.ma K (He.ga K "Rules") "__init__")
  z_Rules : IsiOk K (He.ga K "Rules")
  g_Meeting : mg "Meeting" = some (.ref (He.ga K "Meeting"))
  c_Meeting : Cls K (He.ga K "Meeting")
  k_Meeting : Mk K (He.ga K "Meeting") (He.ma K (He.ga K "Meeting") "__init__")
  e_RuleReader__takes : Meth K (He.ga K "RuleReader") "takes" (He.ma K (He.ga K "RuleReader") "takes")
  e_RuleReader__found : Meth K (He.ga K "RuleReader") "found" (He.ma K (He.ga K "RuleReader") "found")
  e_RuleReader__takes_long : Meth K (He.ga K "RuleReader") "takes_long" (He.ma K (He.ga K "RuleReader") "takes_long")
  e_RuleReader__takes_each : Meth K (He.ga K "RuleReader") "takes_each" (He.ma K (He.ga K "RuleReader") "takes_each")
  e_RuleReader__takes_fields : Meth K (He.ga K "RuleReader") "takes_fields" (He.ma K (He.ga K "RuleReader") "takes_fields")
  e_Meeting__first : Meth K (He.ga K "Meeting") "first" (He.ma K (He.ga K "Meeting") "first")
  e_Rules__rule_of : Meth K (He.ga K "Rules") "rule_of" (He.ma K (He.ga K "Rules") "rule_of")
  e_Meeting__by_rest : Meth K (He.ga K "Meeting") "by_rest" (He.ma K (He.ga K "Meeting") "by_rest")
  e_Rules__stars_of : Meth K (He.ga K "Rules") "stars_of" (He.ma K (He.ga K "Rules") "stars_of")
  e_Meeting__days_from : Meth K (He.ga K "Meeting") "days_from" (He.ma K (He.ga K "Meeting") "days_from")
  e_Meeting__minutes_on : Meth K (He.ga K "Meeting") "minutes_on" (He.ma K (He.ga K "Meeting") "minutes_on")
  p_Rules__jobs : PropOf K (He.ga K "Rules") "jobs" (ppA K "Rules" "jobs") (pgA K "Rules" "jobs")
  a_own_text : FldOk K (cl K) "own_text"
  a_own_rules : FldOk K (cl K) "own_rules"
  a_own_stars : FldOk K (cl K) "own_stars"
  a_own_takes : FldOk K (cl K) "own_takes"
  a_own_jobs : FldOk K (cl K) "own_jobs"
  a_own_fields : FldOk K (cl K) "own_fields"
  a_own_rest : FldOk K (cl K) "own_rest"
  a_own_begin : FldOk K (cl K) "own_begin"
  a_own_minutes : FldOk K (cl K) "own_minutes"
  a_own_is_ever : FldOk K (cl K) "own_is_ever"
  a_own_by_rest : FldOk K (cl K) "own_by_rest"
section
variable {P : Program} {w : World} {K : PySem.W.Frag} {mg : Str → Option Value} {base : Heap}
theorem ok__law_cells (T : Txt K mg) : OkF P w K mg base (cl K) "_law_cells" 1 ["script", "limit"] f__law_cells := have S := sc__law_cells
 okF T.d__law_cells sc__law_cells rfl (fun _ _ _ _ _ _ us hl => match us, hl with | [_, _], _ => rfl) fun cdv A outer s H E hr =>
 (s_one (s_ret (listR1 (by rfl) T.n_list (by rfl) T.n_range (callB (c_max hr rfl) (by rfl) T.n_max bt_max (a_cons cint (a_cons (callB (c_min hr rfl) (by rfl) T.n_min bt_min (a_cons (vv 1) (a_cons (callB c_lenD (by rfl) T.n_len bt_len (a_cons (vv 0) a_nil)) a_nil))) a_nil))))))
theorem ok__law_pot (T : Txt K mg) : OkF P w K mg base (cl K) "_law_pot" 1 ["script", "place"] f__law_pot := have S := sc__law_pot
 okF T.d__law_pot sc__law_pot rfl (fun _ _ _ _ _ _ us hl => match us, hl with | [_, _], _ => rfl) fun cdv A outer s H E hr =>
 (s_cons (s_set (i := 2) S.nd (by rfl) (by first | exact Or.inl rfl | exact Or.inr rfl) (ifx (t_cmp op_ltD (vv 1) (callB c_lenD (by rfl) T.n_len bt_len (a_cons (vv 0) a_nil)) (nomark _)) (ix (vv 0) (vv 1) (fun _ _ => rfl)) (bin op_addD (bin op_addD (bin op_modD (callB (c_sum rfl) (by rfl) T.n_sum bt_sum (a_cons (sl (vv 0) part0 (part1 cint)) a_nil)) cint) (bin op_mulD cint (vv 1))) cint)))
 (s_cons (s_set (i := 3) S.nd (by rfl) (by first | exact Or.inl rfl | exact Or.inr rfl) (bin op_mulD (bin op_modD (callTy c_intS (by rfl) T.n_int bt_int (a_cons (callB c_abs (by rfl) T.n_abs bt_abs (a_cons (vv 2) a_nil)) a_nil)) (bin op_powD (bin op_powD cint cint) cint)) (callTy c_intS (by rfl) T.n_int bt_int (a_cons (cmp op_geD (callB c_abs (by rfl) T.n_abs bt_abs (a_cons (vv 2) a_nil)) (bin op_powD cint cint) (nomark _)) a_nil))))
 (s_cons (s_set (i := 4) S.nd (by rfl) (by first | exact Or.inl rfl | exact Or.inr rfl) (bin op_modD (callTy c_intS (by rfl) T.n_int bt_int (a_cons (vv 2) a_nil)) cint))
 (s_one (s_ret (lstd (a_cons (vv 3) (a_cons (bin op_modD (callTy c_intS (by rfl) T.n_int bt_int (a_cons (bin op_addD (bin op_addD (bin op_mulD (vv 4) cint) (bin op_mulD (bin op_mulD cint (vv 1)) (vv 1))) cint) a_nil)) cint) (a_cons cint a_nil)))))))))
theorem ok_RuleReader____init__ (T : Txt K mg) : OkA P w K mg base (cl K) (He.ma K (He.ga K "RuleReader") "__init__") 1 ["self"] f_RuleReader____init__ := have S := sc_RuleReader____init__
 okA T.m_RuleReader____init__ sc_RuleReader____init__ rfl (fun _ _ _ _ _ _ us hl => match us, hl with | [_], _ => rfl) fun cdv A outer s H E hr =>
 (s_cons (s_asgI dnew (g_fld T.a_own_rules (vv 0)))
 (s_cons (s_asgI dnew (g_fld T.a_own_stars (vv 0)))
 (s_one (s_asgI dnew (g_fld T.a_own_takes (vv 0))))))
theorem ok_RuleReader__found (T : Txt K mg) : OkA P w K mg base (cl K) (He.ma K (He.ga K "RuleReader") "found") 1 ["self"] f_RuleReader__found := have S := sc_RuleReader__found
 okA T.m_RuleReader__found sc_RuleReader__found rfl (fun _ _ _ _ _ _ us hl => match us, hl with | [_], _ => rfl) fun cdv A outer s H E hr =>
 (s_one (s_ret (tupd (a_cons (fld T.a_own_rules (vv 0)) (a_cons (fld T.a_own_stars (vv 0)) (a_cons (fld T.a_own_takes (vv 0)) a_nil))))))
theorem ok_read_integer (T : Txt K mg) : OkF P w K mg base (cl K) "read_integer" 1 ["word"] f_read_integer := have S := sc_read_integer
 okF T.d_read_integer sc_read_integer rfl (fun _ _ _ _ _ _ us hl => match us, hl with | [_], _ => rfl) fun cdv A outer s H E hr =>
 (s_cons (s_set (i := 1) S.nd (by rfl) (by first | exact Or.inl rfl | exact Or.inr rfl) (ifx (t_cmp (op_eqM hr) (sl (vv 0) part0 (part1 cint)) cstr (nomark _)) (sl (vv 0) (part1 cint) part0) (vv 0)))
 (s_cons (s_if (t_w (t_or (t_cmp (op_eqM hr) (vv 1) cstr (nomark _)) (t_or (t_cmp op_gtD (callB c_lenD (by rfl) T.n_len bt_len (a_cons (vv 1) a_nil)) cint (nomark _)) (t_or1 (t_not (t_truth (callB (c_all rfl) (by rfl) T.n_all bt_all (a_cons (comp rfl S.nd (i_sig (vv 1)) (own := [("sign", 3)]) (blkOk_by (by kernel_rfl)) (by decide) (fun _ _ _ _ _ => (g_name (i := 3) S.nd (by rfl) (by first | exact Or.inl rfl | exact Or.inr rfl))) (fun _ _ _ _ _ => ts_nil) (fun _ _ _ _ _ => (cmp (op_inD hr) (vv 3) (globS T.i_FIGURES) (by rfl)))) a_nil)) (fun _ => rfl)))))))
 (s_one (s_ret cnon))
 s_nil)
 (s_cons (s_set (i := 2) S.nd (by rfl) (by first | exact Or.inl rfl | exact Or.inr rfl) (callTy c_intS (by rfl) T.n_int bt_int (a_cons (vv 0) a_nil)))
 (s_one (s_ret (ifx (t_cmp (op_eqM hr) (callTy c_str (by rfl) T.n_str bt_str (a_cons (vv 2) a_nil)) (vv 0) (nomark _)) (vv 2) cnon))))))
theorem ok_read_number (T : Txt K mg) : OkF P w K mg base (cl K) "read_number" 2 ["word", "least", "most"] f_read_number := have S := sc_read_number
 okF T.d_read_number sc_read_number rfl (fun _ _ _ _ _ _ us hl => match us, hl with | [_, _, _], _ => rfl) fun cdv A outer s H E hr =>
 (s_cons (s_set (i := 3) S.nd (by rfl) (by first | exact Or.inl rfl | exact Or.inr rfl) (callF (ok_read_integer T) hr (a_cons (vv 0) a_nil)))
 (s_one (s_ret (ifx (t_w (t_and (t_cmp op_notND (vv 3) cnon (nomark _)) (t_and1 (t_chain op_leD op_leD (vv 1) (vv 3) (vv 2))))) (vv 3) cnon))))
theorem ok_RuleReader__takes_each (T : Txt K mg) : OkA P w K mg base (cl K) (He.ma K (He.ga K "RuleReader") "takes_each") 3 ["self", "name", "words"] f_RuleReader__takes_each := have S := sc_RuleReader__takes_each
 okA T.m_RuleReader__takes_each sc_RuleReader__takes_each rfl (fun _ _ _ _ _ _ us hl => match us, hl with | [_, _, _], _ => rfl) fun cdv A outer s H E hr =>
 (s_cons (s_if (t_w (t_or (t_cmp (op_neM hr) (callB c_lenD (by rfl) T.n_len bt_len (a_cons (vv 2) a_nil)) cint (nomark _)) (t_or1 (t_cmp (op_neM hr) (ix (vv 2) cint (fun _ _ => rfl)) (globS T.i_FROM) (nomark _)))))
 (s_one (s_ret cbl))
 s_nil)
 (s_cons (s_par2 (i := 3) (j := 4) (k1 := .f) (k2 := .f) rfl S.nd (by rfl) (by rfl) (by decide) (by rfl) (by rfl) (a_cons (callF (ok_read_number T) hr (a_cons (ix (vv 2) cint (fun _ _ => rfl)) (a_cons cint (a_cons (globI T.i_MOST_EACH_reading) a_nil)))) (a_cons (callF (ok_read_number T) hr (a_cons (ix (vv 2) cint (fun _ _ => rfl)) (a_cons cint (a_cons (globI T.i_LAST_TIME) a_nil)))) a_nil)) (by rfl))
 (s_cons (s_if (t_w (t_or (t_cmp op_isND (vv 3) cnon (nomark _)) (t_or1 (t_cmp op_isND (vv 4) cnon (nomark _)))))
 (s_one (s_ret cbl))
 s_nil)
 (s_cons (s_dput hr (tupd (a_cons (globS T.i_EACH) (a_cons (vv 3) (a_cons (vv 4) a_nil)))) (fld T.a_own_rules (vv 0)) (vv 1))
 (s_one (s_ret cbl))))))
theorem ok_RuleReader__takes_fields (T : Txt K mg) : OkA P w K mg base (cl K) (He.ma K (He.ga K "RuleReader") "takes_fields") 1 ["self", "name", "word", "words"] f_RuleReader__takes_fields := have S := sc_RuleReader__takes_fields
 okA T.m_RuleReader__takes_fields sc_RuleReader__takes_fields rfl (fun _ _ _ _ _ _ us hl => match us, hl with | [_, _, _, _], _ => rfl) fun cdv A outer s H E hr =>
 (s_cons s_never
 (s_cons s_never
 (s_cons (s_if (t_cmp (op_inD hr) cnon (vv 4) (by rfl))
 (s_one (s_ret cbl))
 s_nil)
 (s_cons (s_dput hr (tupd (a_cons (vv 2) (a_star (vv 4) a_nil))) (fld T.a_own_rules (vv 0)) (vv 1))
 (s_cons (s_dput hr (tupd (a_cons (cmp (op_eqM hr) (ix (vv 3) cint (fun _ _ => rfl)) (globS T.i_STAR) (nomark _)) (a_cons (cmp (op_eqM hr) (ix (vv 3) cint (fun _ _ => rfl)) (globS T.i_STAR) (nomark _)) a_nil))) (fld T.a_own_stars (vv 0)) (vv 1))
 (s_one (s_ret cbl)))))))
theorem ok_RuleReader__takes_long (T : Txt K mg) : OkA P w K mg base (cl K) (He.ma K (He.ga K "RuleReader") "takes_long") 3 ["self", "words"] f_RuleReader__takes_long := have S := sc_RuleReader__takes_long
 okA T.m_RuleReader__takes_long sc_RuleReader__takes_long rfl (fun _ _ _ _ _ _ us hl => match us, hl with | [_, _], _ => rfl) fun cdv A outer s H E hr =>
 (s_cons (s_if (t_w (t_or (t_cmp (op_neM hr) (callB c_lenD (by rfl) T.n_len bt_len (a_cons (vv 1) a_nil)) cint (nomark _)) (t_or (t_cmp (op_ninD hr) (ix (vv 1) cint (fun _ _ => rfl)) (fld T.a_own_rules (vv 0)) (by rfl)) (t_or1 (t_cmp (op_inD hr) (ix (vv 1) cint (fun _ _ => rfl)) (fld T.a_own_takes (vv 0)) (by rfl))))))
 (s_one (s_ret cbl))
 s_nil)
 (s_cons (s_setC (i := 2) rfl S.nd (by rfl) (by rfl) (by rfl) (i_seq (sl (vv 1) (part1 cint) part0)) (own := [("word", 3)]) (blkOk_by (by kernel_rfl)) (by decide) (fun _ _ _ _ _ => (g_name (i := 3) S.nd (by rfl) (by first | exact Or.inl rfl | exact Or.inr rfl))) (fun _ _ _ _ _ => ts_nil) (fun _ _ _ _ _ => (callF (ok_read_number T) hr (a_cons (vv 3) (a_cons cint (a_cons (globI T.i_MOST_EACH_reading) a_nil))))))
 (s_cons (s_if (t_cmp (op_inD hr) cnon (vv 2) (by rfl))
 (s_one (s_ret cbl))
 s_nil)
 (s_cons (s_dput hr (callTy (c_tupleD rfl) (by rfl) T.n_tuple bt_tuple (a_cons (vv 2) a_nil)) (fld T.a_own_takes (vv 0)) (ix (vv 1) cint (fun _ _ => rfl)))
 (s_one (s_ret cbl))))))
theorem ok_is_name (T : Txt K mg) : OkF P w K mg base (cl K) "is_name" 1 ["value"] f_is_name := have S := sc_is_name
 okF T.d_is_name sc_is_name rfl (fun _ _ _ _ _ _ us hl => match us, hl with | [_], _ => rfl) fun cdv A outer s H E hr =>
 (s_cons (s_if (t_w (t_or (t_not (t_truth (isT (by rfl) T.n_isinstance (by rfl) T.n_str bt_str (.ty _) (vv 0)) (fun _ => rfl))) (t_or (t_not (t_chain op_ltD op_leD cint (callB c_lenD (by rfl) T.n_len bt_len (a_cons (vv 0) a_nil)) (globI T.i_MOST_SIGNS))) (t_or1 (t_cmp (op_ninD hr) (ix (vv 0) cint (fun _ _ => rfl)) (globS T.i_LETTERS) (by rfl))))))
 (s_one (s_ret cbl))
 s_nil)
 (s_one (s_ret (callB (c_all rfl) (by rfl) T.n_all bt_all (a_cons (comp rfl S.nd (i_sig (vv 0)) (own := [("sign", 1)]) (blkOk_by (by kernel_rfl)) (by decide) (fun _ _ _ _ _ => (g_name (i := 1) S.nd (by rfl) (by first | exact Or.inl rfl | exact Or.inr rfl))) (fun _ _ _ _ _ => ts_nil) (fun _ _ _ _ _ => (v_or (cmp (op_inD hr) (vv 1) (globS T.i_LETTERS) (by rfl)) (v_one (cmp (op_inD hr) (vv 1) (globS T.i_FIGURES) (by rfl)))))) a_nil)))))
theorem ok_RuleReader__takes (T : Txt K mg) : OkA P w K mg base (cl K) (He.ma K (He.ga K "RuleReader") "takes") 4 ["self", "line"] f_RuleReader__takes := have S := sc_RuleReader__takes
 okA T.m_RuleReader__takes sc_RuleReader__takes rfl (fun _ _ _ _ _ _ us hl => match us, hl with | [_, _], _ => rfl) fun cdv A outer s H E hr =>
 (s_cons (s_set (i := 2) S.nd (by rfl) (by first | exact Or.inl rfl | exact Or.inr rfl) (strm mt_splitS PySem.F.slot_str_split PySem.F.type_str_split (vv 1) (a_cons cstr a_nil)))
 (s_cons (s_if (t_cmp (op_eqM hr) (ix (vv 2) cint (fun _ _ => rfl)) (globS T.i_TAKES) (nomark _))
 (s_one (s_ret (meth (c := 0) (ok_RuleReader__takes_long T) hr rfl T.c_RuleReader T.e_RuleReader__takes_long (vv 0) (a_cons (sl (vv 2) (part1 cint) part0) a_nil))))
 s_nil)
 (s_cons (s_if (t_w (t_or (t_cmp (op_neM hr) (ix (vv 2) cint (fun _ _ => rfl)) (globS T.i_JOB) (nomark _)) (t_or (t_cmp op_ltD (callB c_lenD (by rfl) T.n_len bt_len (a_cons (vv 2) a_nil)) cint (nomark _)) (t_or (t_emp (neg := true) hr (fld T.a_own_takes (vv 0)) (by rfl)) (t_or1 (t_cmp (op_eqM hr) (callB c_lenD (by rfl) T.n_len bt_len (a_cons (fld T.a_own_rules (vv 0)) a_nil)) (globI T.i_MOST_JOBS_reading) (nomark _)))))))
 (s_one (s_ret cbl))
 s_nil)
 (s_cons (s_if (t_w (t_or (t_not (t_truth (callF (ok_is_name T) hr (a_cons (ix (vv 2) cint (fun _ _ => rfl)) a_nil)) (fun _ => rfl))) (t_or1 (t_cmp (op_inD hr) (ix (vv 2) cint (fun _ _ => rfl)) (fld T.a_own_rules (vv 0)) (by rfl)))))
 (s_one (s_ret cbl))
 s_nil)
 (s_cons (s_if (t_cmp (op_eqM hr) (ix (vv 2) cint (fun _ _ => rfl)) (globS T.i_EACH) (nomark _))
 (s_one (s_ret (meth (c := 0) (ok_RuleReader__takes_each T) hr rfl T.c_RuleReader T.e_RuleReader__takes_each (vv 0) (a_cons (ix (vv 2) cint (fun _ _ => rfl)) (a_cons (sl (vv 2) (part1 cint) part0) a_nil)))))
 s_nil)
 (s_one (s_ret (v_and (cmp (op_inD hr) (ix (vv 2) cint (fun _ _ => rfl)) (tupd (a_cons (globS T.i_AT) (a_cons (globS T.i_OR) a_nil))) (by rfl)) (v_one (meth (c := 0) (ok_RuleReader__takes_fields T) hr rfl T.c_RuleReader T.e_RuleReader__takes_fields (vv 0) (a_cons (ix (vv 2) cint (fun _ _ => rfl)) (a_cons (ix (vv 2) cint (fun _ _ => rfl)) (a_cons (sl (vv 2) (part1 cint) part0) a_nil)))))))))))))
theorem ok_Rules____init__ (T : Txt K mg) : OkA P w K mg base (cl K) (He.ma K (He.ga K "Rules") "__init__") 5 ["self", "text"] f_Rules____init__ := have S := sc_Rules____init__
 okA T.m_Rules____init__ sc_Rules____init__ rfl (fun _ _ _ _ _ _ us hl => match us, hl with | [_, _], _ => rfl) fun cdv A outer s H E hr =>
 (s_cons (s_if (t_not (t_truth (isT (by rfl) T.n_isinstance (by rfl) T.n_str bt_str (.ty _) (vv 1)) (fun _ => rfl)))
 (s_one s_never)
 s_nil)
 (s_cons (s_set (i := 2) S.nd (by rfl) (by first | exact Or.inl rfl | exact Or.inr rfl) (make0 (c := 0) (ok_RuleReader____init__ T) hr rfl T.k_RuleReader T.g_RuleReader))
 (s_cons (s_for (fz := []) PassesOwn.never rfl (i_enum (by rfl) T.n_enumerate (strm mt_splitS PySem.F.slot_str_split PySem.F.type_str_split (vv 1) (a_cons cstr a_nil))) (g_tup rfl (g_cons (g_name (i := 3) S.nd (by rfl) (by first | exact Or.inl rfl | exact Or.inr rfl)) (g_cons (g_name (i := 4) S.nd (by rfl) (by first | exact Or.inl rfl | exact Or.inr rfl)) g_nil)))
 (s_one (s_if (t_not (t_truth (meth (c := 0) (ok_RuleReader__takes T) hr rfl T.c_RuleReader T.e_RuleReader__takes (vv 2) (a_cons (vv 4) a_nil)) (fun _ => rfl)))
 (s_one s_never)
 s_nil)))
 (s_cons (s_asgI (vv 1) (g_fld T.a_own_text (vv 0)))
 (s_cons (s_asg (meth0 (c := 0) (ok_RuleReader__found T) hr rfl T.c_RuleReader T.e_RuleReader__found (vv 2)) (g_tup rfl (g_cons (g_fld T.a_own_rules (vv 0)) (g_cons (g_fld T.a_own_stars (vv 0)) (g_cons (g_fld T.a_own_takes (vv 0)) g_nil)))))
 (s_one (s_asgI (callTy (c_tupleD rfl) (by rfl) T.n_tuple bt_tuple (a_cons (fld T.a_own_rules (vv 0)) a_nil)) (g_fld T.a_own_jobs (vv 0)))))))))
theorem ok__law_first (T : Txt K mg) : OkF P w K mg base (cl K) "_law_first" 1 ["jobs", "far"] f__law_first := have S := sc__law_first
 okF T.d__law_first sc__law_first rfl (fun _ _ _ _ _ _ us hl => match us, hl with | [_, _], _ => rfl) fun cdv A outer s H E hr =>
 (s_cons (s_set (i := 2) S.nd (by rfl) (by first | exact Or.inl rfl | exact Or.inr rfl) (callB (c_max hr rfl) (by rfl) T.n_max bt_max (a_cons (comp rfl S.nd (i_seq (vv 0)) (own := [("number", 4), ("time", 3)]) (blkOk_by (by kernel_rfl)) (by decide) (fun _ _ _ _ _ => (g_tup rfl (g_cons (g_name (i := 4) S.nd (by rfl) (by first | exact Or.inl rfl | exact Or.inr rfl)) (g_cons (g_name (i := 3) S.nd (by rfl) (by first | exact Or.inl rfl | exact Or.inr rfl)) g_nil)))) (fun _ _ _ _ _ => ts_nil) (fun _ _ _ _ _ => (vv 3))) a_nil)))
 (s_cons (s_for (fz := []) PassesOwn.never rfl (i_range2 (by rfl) T.n_range (a_cons (vv 2) (a_cons (bin op_addD (vv 2) (vv 1)) a_nil))) (g_name (i := 3) S.nd (by rfl) (by first | exact Or.inl rfl | exact Or.inr rfl))
 (s_one (s_if (t_truth (callB (c_all rfl) (by rfl) T.n_all bt_all (a_cons (comp rfl S.nd (i_seq (vv 0)) (own := [("number", 4), ("first", 5)]) (blkOk_by (by kernel_rfl)) (by decide) (fun _ _ _ _ _ => (g_tup rfl (g_cons (g_name (i := 4) S.nd (by rfl) (by first | exact Or.inl rfl | exact Or.inr rfl)) (g_cons (g_name (i := 5) S.nd (by rfl) (by first | exact Or.inl rfl | exact Or.inr rfl)) g_nil)))) (fun _ _ _ _ _ => ts_nil) (fun _ _ _ _ _ => (cmp (op_eqM hr) (bin op_modD (bin op_subD (vv 3) (vv 5)) (vv 4)) cint (nomark _)))) a_nil)) (fun _ => rfl))
 (s_one (s_ret (vv 3)))
 s_nil)))
 (s_one (s_ret cnon))))
theorem ok__law_field (T : Txt K mg) : OkF P w K mg base (cl K) "_law_field" 1 ["some"] f__law_field := have S := sc__law_field
 okF T.d__law_field sc__law_field rfl (fun _ _ _ _ _ _ us hl => match us, hl with | [_], _ => rfl) fun cdv A outer s H E hr =>
 (s_one (s_ret (ifx (t_cmp op_isND (vv 0) cnon (nomark _)) cstr (strm mt_joinS PySem.F.slot_str_join PySem.F.type_str_join cstr (a_cons (comp rfl S.nd (i_seq (vv 0)) (own := [("number", 1)]) (blkOk_by (by kernel_rfl)) (by decide) (fun _ _ _ _ _ => (g_name (i := 1) S.nd (by rfl) (by first | exact Or.inl rfl | exact Or.inr rfl))) (fun _ _ _ _ _ => ts_nil) (fun _ _ _ _ _ => (callTy c_str (by rfl) T.n_str bt_str (a_cons (vv 1) a_nil)))) a_nil)))))
theorem ok__law_line (T : Txt K mg) : OkF P w K mg base (cl K) "_law_line" 2 ["name", "job"] f__law_line := have S := sc__law_line
 okF T.d__law_line sc__law_line rfl (fun _ _ _ _ _ _ us hl => match us, hl with | [_, _], _ => rfl) fun cdv A outer s H E hr =>
 (s_cons (s_if (t_cmp (op_eqM hr) (ix (vv 1) cint (fun _ _ => rfl)) cstr (nomark _))
 (s_one (s_ret (bin op_addD (bin op_addD (bin op_addD (bin op_addD (bin op_addD cstr (vv 0)) cstr) (callTy c_str (by rfl) T.n_str bt_str (a_cons (ix (vv 1) cint (fun _ _ => rfl)) a_nil))) cstr) (callTy c_str (by rfl) T.n_str bt_str (a_cons (ix (vv 1) cint (fun _ _ => rfl)) a_nil)))))
 s_nil)
 (s_cons (s_par2 (i := 2) (j := 3) (k1 := .f) (k2 := .f) rfl S.nd (by rfl) (by rfl) (by decide) (by rfl) (by rfl) (a_cons (callF (ok__law_field T) hr (a_cons (ix (vv 1) cint (fun _ _ => rfl)) a_nil)) (a_cons (callF (ok__law_field T) hr (a_cons (ix (vv 1) cint (fun _ _ => rfl)) a_nil)) a_nil)) (by rfl))
 (s_one (s_ret (strm mt_joinS PySem.F.slot_str_join PySem.F.type_str_join cstr (a_cons (lstd (a_cons cstr (a_cons (vv 0) (a_cons cstr (a_cons (callF (ok__law_field T) hr (a_cons (ix (vv 1) cint (fun _ _ => rfl)) a_nil)) (a_cons (vv 2) (a_cons cstr (a_cons cstr (a_cons (vv 3) a_nil))))))))) a_nil))))))
theorem ok__law_take (T : Txt K mg) : OkF P w K mg base (cl K) "_law_take" 1 ["pot", "upto"] f__law_take := have S := sc__law_take
 okF T.d__law_take sc__law_take rfl (fun _ _ _ _ _ _ us hl => match us, hl with | [_, _], _ => rfl) fun cdv A outer s H E hr =>
 (s_cons (s_if (t_cmp op_gtD (ix (vv 0) cint (fun _ _ => rfl)) cint (nomark _))
 (s_cons (s_set (i := 4) S.nd (by rfl) (by first | exact Or.inl rfl | exact Or.inr rfl) (bin op_modD (callTy c_intS (by rfl) T.n_int bt_int (a_cons (ix (vv 0) cint (fun _ _ => rfl)) a_nil)) (vv 1)))
 (s_cons (s_asg (bin op_fdivD (ix (vv 0) cint (fun _ _ => rfl)) (vv 1)) (g_item (vv 0) cint))
 (s_one (s_ret (vv 4)))))
 s_nil)
 (s_cons (s_asg (bin op_addD (ix (vv 0) cint (fun _ _ => rfl)) cint) (g_item (vv 0) cint))
 (s_cons (s_set (i := 2) S.nd (by rfl) (by first | exact Or.inl rfl | exact Or.inr rfl) (ix (lstd (a_cons cint (a_cons cint (a_cons cint (a_cons cint (a_cons cint a_nil)))))) (bin op_modD (callTy c_intS (by rfl) T.n_int bt_int (a_cons (ix (vv 0) cint (fun _ _ => rfl)) a_nil)) cint) (fun _ _ => rfl)))
 (s_cons (s_set (i := 3) S.nd (by rfl) (by first | exact Or.inl rfl | exact Or.inr rfl) (bin op_modD (callTy c_intS (by rfl) T.n_int bt_int (a_cons (bin op_powD (callTy c_intS (by rfl) T.n_int bt_int (a_cons (bin op_addD (bin op_addD (ix (vv 0) cint (fun _ _ => rfl)) (bin op_mulD (bin op_mulD cint (ix (vv 0) cint (fun _ _ => rfl))) (ix (vv 0) cint (fun _ _ => rfl)))) cint) a_nil)) cint) a_nil)) (vv 2)))
 (s_cons (s_set (i := 3) S.nd (by rfl) (by first | exact Or.inl rfl | exact Or.inr rfl) (bin op_modD (callTy c_intS (by rfl) T.n_int bt_int (a_cons (bin op_mulD (vv 3) (bin op_addD (bin op_modD (callTy c_intS (by rfl) T.n_int bt_int (a_cons (vv 3) a_nil)) cint) (bin op_mulD cint (ix (vv 0) cint (fun _ _ => rfl))))) a_nil)) cint))
 (s_one (s_ret (bin op_modD (callTy c_intS (by rfl) T.n_int bt_int (a_cons (bin op_fdivD (vv 3) cint) a_nil)) (vv 1)))))))))
theorem ok__law_some (T : Txt K mg) : OkF P w K mg base (cl K) "_law_some" 2 ["pot", "some", "amount"] f__law_some := have S := sc__law_some
 okF T.d__law_some sc__law_some rfl (fun _ _ _ _ _ _ us hl => match us, hl with | [_, _, _], _ => rfl) fun cdv A outer s H E hr =>
 (s_cons (s_par2 (i := 4) (j := 5) (k1 := .i) (k2 := .l) rfl S.nd (by rfl) (by rfl) (by decide) (by rfl) (by rfl) (a_cons (callTy (c_listD rfl) (by rfl) T.n_list bt_list (a_cons (vv 1) a_nil)) (a_cons (lstd a_nil) a_nil)) (by rfl))
 (s_cons (s_for (fz := []) PassesOwn.never rfl (i_range1 (by rfl) T.n_range (a_cons (vv 2) a_nil)) (g_name (i := 3) S.nd (by rfl) (by first | exact Or.inl rfl | exact Or.inr rfl))
 (s_one (s_own mt_appendD PySem.F.slot_list_append PySem.F.type_list_append (i := 5) (by rfl) (by first | exact Or.inl rfl | exact Or.inr (Or.inl rfl) | exact Or.inr (Or.inr rfl)) (a_cons (mutl mt_popD PySem.F.slot_list_pop PySem.F.type_list_pop (vv 4) (a_cons (callF (ok__law_take T) hr (a_cons (vv 0) (a_cons (callB c_lenD (by rfl) T.n_len bt_len (a_cons (vv 4) a_nil)) a_nil))) a_nil)) a_nil))))
 (s_one (s_retV (i := 5) (by rfl) (by first | exact Or.inl rfl | exact Or.inr (Or.inl rfl) | exact Or.inr (Or.inr rfl))))))
theorem ok__law_names (T : Txt K mg) : OkF P w K mg base (cl K) "_law_names" 3 ["pot", "many"] f__law_names := have S := sc__law_names
 okF T.d__law_names sc__law_names rfl (fun _ _ _ _ _ _ us hl => match us, hl with | [_, _], _ => rfl) fun cdv A outer s H E hr =>
 (s_cons (s_set (i := 2) S.nd (by rfl) (by first | exact Or.inl rfl | exact Or.inr rfl) (lstd (a_cons cstr (a_cons cstr (a_cons cstr (a_cons cstr (a_cons cstr (a_cons cstr (a_cons cstr (a_cons cstr a_nil))))))))))
 (s_cons (s_setI (i := 3) S.nd (by rfl) (by first | exact Or.inl rfl | exact Or.inr rfl) (callF (ok__law_some T) hr (a_cons (vv 0) (a_cons (bin op_addD (vv 2) (comp rfl S.nd (i_range1 (by rfl) T.n_range (a_cons cint a_nil)) (own := [("at", 6)]) (blkOk_by (by kernel_rfl)) (by decide) (fun _ _ _ _ _ => (g_name (i := 6) S.nd (by rfl) (by first | exact Or.inl rfl | exact Or.inr rfl))) (fun _ _ _ _ _ => ts_nil) (fun _ _ _ _ _ => (bin op_addD cstr (callTy c_str (by rfl) T.n_str bt_str (a_cons (vv 6) a_nil)))))) (a_cons (vv 1) a_nil)))))
 (s_cons (s_if (t_cmp (op_eqM hr) (callF (ok__law_take T) hr (a_cons (vv 0) (a_cons cint a_nil))) cint (nomark _))
 (s_cons (s_set (i := 4) S.nd (by rfl) (by first | exact Or.inl rfl | exact Or.inr rfl) (ix cstr (callF (ok__law_take T) hr (a_cons (vv 0) (a_cons cint a_nil))) (fun _ _ => rfl)))
 (s_cons (s_for (fz := []) PassesOwn.never rfl (i_range1 (by rfl) T.n_range (a_cons (callF (ok__law_take T) hr (a_cons (vv 0) (a_cons cint a_nil))) a_nil)) (g_name (i := 5) S.nd (by rfl) (by first | exact Or.inl rfl | exact Or.inr rfl))
 (s_one (s_set (i := 4) S.nd (by rfl) (by first | exact Or.inl rfl | exact Or.inr rfl) (bin op_addD (vv 4) (ix cstr (callF (ok__law_take T) hr (a_cons (vv 0) (a_cons cint a_nil))) (fun _ _ => rfl))))))
 (s_one (s_setI (i := 3) S.nd (by rfl) (by first | exact Or.inl rfl | exact Or.inr rfl) (ifx (t_cmp (op_ninD hr) (vv 4) (vv 3) (by rfl)) (bin op_addD (sl (vv 3) part0 (part1 (un op_negD cint))) (lstd (a_cons (vv 4) a_nil))) (vv 3))))))
 s_nil)
 (s_one (s_ret (vv 3))))))
theorem ok__law_of (T : Txt K mg) : OkF P w K mg base (cl K) "_law_of" 2 ["pot", "some"] f__law_of := have S := sc__law_of
 okF T.d__law_of sc__law_of rfl (fun _ _ _ _ _ _ us hl => match us, hl with | [_, _], _ => rfl) fun cdv A outer s H E hr =>
 (s_one (s_ret (ix (vv 1) (callF (ok__law_take T) hr (a_cons (vv 0) (a_cons (callB c_lenD (by rfl) T.n_len bt_len (a_cons (vv 1) a_nil)) a_nil))) (fun _ _ => rfl))))
theorem ok_Meeting__by_rest (T : Txt K mg) : OkA P w K mg base (cl K) (He.ma K (He.ga K "Meeting") "by_rest") 1 ["self"] f_Meeting__by_rest := have S := sc_Meeting__by_rest
 okA T.m_Meeting__by_rest sc_Meeting__by_rest rfl (fun _ _ _ _ _ _ us hl => match us, hl with | [_], _ => rfl) fun cdv A outer s H E hr =>
 (s_cons (s_set (i := 1) S.nd (by rfl) (by first | exact Or.inl rfl | exact Or.inr rfl) dnew)
 (s_cons (s_if (t_truth (fld T.a_own_is_ever (vv 0)) (fun _ => rfl))
 (s_one (s_for (fz := []) PassesOwn.never rfl (i_seq (fld T.a_own_minutes (vv 0))) (g_name (i := 2) S.nd (by rfl) (by first | exact Or.inl rfl | exact Or.inr rfl))
 (s_cons (s_set (i := 3) S.nd (by rfl) (by first | exact Or.inl rfl | exact Or.inr rfl) (bin op_modD (vv 2) (ixd hr (fld T.a_own_rest (vv 0)) cint (fun _ _ => rfl))))
 (s_one (s_dput hr (bin op_addD (dget2 hr (vv 1) (vv 3) (lstd a_nil)) (lstd (a_cons (vv 2) a_nil))) (vv 1) (vv 3))))))
 s_nil)
 (s_one (s_ret (vv 1)))))
theorem ok_Rules__rule_of (T : Txt K mg) : OkA P w K mg base (cl K) (He.ma K (He.ga K "Rules") "rule_of") 1 ["self", "job"] f_Rules__rule_of := have S := sc_Rules__rule_of
 okA T.m_Rules__rule_of sc_Rules__rule_of rfl (fun _ _ _ _ _ _ us hl => match us, hl with | [_, _], _ => rfl) fun cdv A outer s H E hr =>
 (s_one (s_ret (ixd hr (fld T.a_own_rules (vv 0)) (vv 1) (fun _ _ => rfl))))
theorem ok_common (T : Txt K mg) : OkF P w K mg base (cl K) "common" 1 ["one", "other"] f_common := have S := sc_common
 okF T.d_common sc_common rfl (fun _ _ _ _ _ _ us hl => match us, hl with | [_, _], _ => rfl) fun cdv A outer s H E hr =>
 (s_cons (s_while PassesOwn.never (t_cmp (op_neM hr) (vv 1) cint (nomark _))
 (s_one (s_par2 (i := 0) (j := 1) (k1 := .f) (k2 := .f) rfl S.nd (by rfl) (by rfl) (by decide) (by rfl) (by rfl) (a_cons (vv 1) (a_cons (bin op_modD (vv 0) (vv 1)) a_nil)) (by rfl))))
 (s_one (s_ret (callB c_abs (by rfl) T.n_abs bt_abs (a_cons (vv 0) a_nil)))))
theorem ok_inverse (T : Txt K mg) : OkF P w K mg base (cl K) "inverse" 1 ["number", "round_of"] f_inverse := have S := sc_inverse
 okF T.d_inverse sc_inverse rfl (fun _ _ _ _ _ _ us hl => match us, hl with | [_, _], _ => rfl) fun cdv A outer s H E hr =>
 (s_cons (s_asg (tupd (a_cons (bin op_modD (vv 0) (vv 1)) (a_cons (vv 1) (a_cons cint (a_cons cint a_nil))))) (g_tup rfl (g_cons (g_name (i := 2) S.nd (by rfl) (by first | exact Or.inl rfl | exact Or.inr rfl)) (g_cons (g_name (i := 3) S.nd (by rfl) (by first | exact Or.inl rfl | exact Or.inr rfl)) (g_cons (g_name (i := 4) S.nd (by rfl) (by first | exact Or.inl rfl | exact Or.inr rfl)) (g_cons (g_name (i := 5) S.nd (by rfl) (by first | exact Or.inl rfl | exact Or.inr rfl)) g_nil))))))
 (s_cons (s_while PassesOwn.never (t_cmp op_gtD (vv 2) cint (nomark _))
 (s_cons (s_set (i := 6) S.nd (by rfl) (by first | exact Or.inl rfl | exact Or.inr rfl) (bin op_fdivD (vv 3) (vv 2)))
 (s_one (s_asg (tupd (a_cons (bin op_subD (vv 3) (bin op_mulD (vv 6) (vv 2))) (a_cons (vv 2) (a_cons (bin op_subD (vv 5) (bin op_mulD (vv 6) (vv 4))) (a_cons (vv 4) a_nil))))) (g_tup rfl (g_cons (g_name (i := 2) S.nd (by rfl) (by first | exact Or.inl rfl | exact Or.inr rfl)) (g_cons (g_name (i := 3) S.nd (by rfl) (by first | exact Or.inl rfl | exact Or.inr rfl)) (g_cons (g_name (i := 4) S.nd (by rfl) (by first | exact Or.inl rfl | exact Or.inr rfl)) (g_cons (g_name (i := 5) S.nd (by rfl) (by first | exact Or.inl rfl | exact Or.inr rfl)) g_nil)))))))))
 (s_one (s_ret (bin op_modD (vv 4) (vv 1))))))
theorem ok_put_together (T : Txt K mg) : OkF P w K mg base (cl K) "put_together" 2 ["one", "other"] f_put_together := have S := sc_put_together
 okF T.d_put_together sc_put_together rfl (fun _ _ _ _ _ _ us hl => match us, hl with | [_, _], _ => rfl) fun cdv A outer s H E hr =>
 (s_cons (s_set (i := 2) S.nd (by rfl) (by first | exact Or.inl rfl | exact Or.inr rfl) (callF (ok_common T) hr (a_cons (ix (vv 0) cint (fun _ _ => rfl)) (a_cons (ix (vv 1) cint (fun _ _ => rfl)) a_nil))))
 (s_cons (s_if (t_cmp (op_neM hr) (bin op_modD (bin op_subD (ix (vv 1) cint (fun _ _ => rfl)) (ix (vv 0) cint (fun _ _ => rfl))) (vv 2)) cint (nomark _))
 (s_one (s_ret cnon))
 s_nil)
 (s_cons (s_par2 (i := 5) (j := 6) (k1 := .f) (k2 := .f) rfl S.nd (by rfl) (by rfl) (by decide) (by rfl) (by rfl) (a_cons (bin op_fdivD (bin op_subD (ix (vv 1) cint (fun _ _ => rfl)) (ix (vv 0) cint (fun _ _ => rfl))) (vv 2)) (a_cons (bin op_fdivD (ix (vv 1) cint (fun _ _ => rfl)) (vv 2)) a_nil)) (by rfl))
 (s_cons (s_set (i := 3) S.nd (by rfl) (by first | exact Or.inl rfl | exact Or.inr rfl) (bin op_modD (bin op_mulD (vv 5) (callF (ok_inverse T) hr (a_cons (bin op_fdivD (ix (vv 0) cint (fun _ _ => rfl)) (vv 2)) (a_cons (vv 6) a_nil)))) (vv 6)))
 (s_cons (s_set (i := 4) S.nd (by rfl) (by first | exact Or.inl rfl | exact Or.inr rfl) (bin op_mulD (ix (vv 0) cint (fun _ _ => rfl)) (vv 6)))
 (s_one (s_ret (tupd (a_cons (vv 4) (a_cons (bin op_modD (bin op_addD (ix (vv 0) cint (fun _ _ => rfl)) (bin op_mulD (ix (vv 0) cint (fun _ _ => rfl)) (vv 3))) (vv 4)) a_nil))))))))))
theorem ok_all_together (T : Txt K mg) : OkF P w K mg base (cl K) "all_together" 3 ["rests"] f_all_together := have S := sc_all_together
 okF T.d_all_together sc_all_together rfl (fun _ _ _ _ _ _ us hl => match us, hl with | [_], _ => rfl) fun cdv A outer s H E hr =>
 (s_cons (s_set (i := 1) S.nd (by rfl) (by first | exact Or.inl rfl | exact Or.inr rfl) (tupd (a_cons cint (a_cons cint a_nil))))
 (s_cons (s_for (fz := []) PassesOwn.never rfl (i_seq (vv 0)) (g_name (i := 2) S.nd (by rfl) (by first | exact Or.inl rfl | exact Or.inr rfl))
 (s_one (s_set (i := 1) S.nd (by rfl) (by first | exact Or.inl rfl | exact Or.inr rfl) (ifx (t_cmp op_isND (vv 1) cnon (nomark _)) cnon (callF (ok_put_together T) hr (a_cons (vv 1) (a_cons (vv 2) a_nil)))))))
 (s_one (s_ret (vv 1)))))
theorem ok_is_each (T : Txt K mg) : OkF P w K mg base (cl K) "is_each" 2 ["rules", "job"] f_is_each := have S := sc_is_each
 okF T.d_is_each sc_is_each rfl (fun _ _ _ _ _ _ us hl => match us, hl with | [_, _], _ => rfl) fun cdv A outer s H E hr =>
 (s_one (s_ret (cmp (op_eqM hr) (ix (meth (c := 1) (ok_Rules__rule_of T) hr rfl T.c_Rules T.e_Rules__rule_of (vv 0) (a_cons (vv 1) a_nil)) cint (fun _ _ => rfl)) (globS T.i_EACH) (nomark _))))
theorem ok_Rules__stars_of (T : Txt K mg) : OkA P w K mg base (cl K) (He.ma K (He.ga K "Rules") "stars_of") 1 ["self", "job"] f_Rules__stars_of := have S := sc_Rules__stars_of
 okA T.m_Rules__stars_of sc_Rules__stars_of rfl (fun _ _ _ _ _ _ us hl => match us, hl with | [_, _], _ => rfl) fun cdv A outer s H E hr =>
 (s_one (s_ret (ixd hr (fld T.a_own_stars (vv 0)) (vv 1) (fun _ _ => rfl))))
theorem ok_lengths_of (T : Txt K mg) : OkF P w K mg base (cl K) "lengths_of" 1 ["month"] f_lengths_of := have S := sc_lengths_of
 okF T.d_lengths_of sc_lengths_of rfl (fun _ _ _ _ _ _ us hl => match us, hl with | [_], _ => rfl) fun cdv A outer s H E hr =>
 (s_one (s_ret (ifx (t_cmp (op_eqM hr) (vv 0) cint (nomark _)) (lstd (a_cons (ix (globT T.t_LENGTHS T.u_LENGTHS (fun _ _ => RepL.ofInts _)) (bin op_subD (vv 0) cint) (fun _ _ => rfl)) (a_cons (bin op_addD (ix (globT T.t_LENGTHS T.u_LENGTHS (fun _ _ => RepL.ofInts _)) (bin op_subD (vv 0) cint) (fun _ _ => rfl)) cint) a_nil))) (lstd (a_cons (ix (globT T.t_LENGTHS T.u_LENGTHS (fun _ _ => RepL.ofInts _)) (bin op_subD (vv 0) cint) (fun _ _ => rfl)) a_nil)))))
theorem ok_told_never (T : Txt K mg) : OkF P w K mg base (cl K) "told_never" 3 ["rules", "job"] f_told_never := have S := sc_told_never
 okF T.d_told_never sc_told_never rfl (fun _ _ _ _ _ _ us hl => match us, hl with | [_, _], _ => rfl) fun cdv A outer s H E hr =>
 (s_cons (s_if (t_truth (callF (ok_is_each T) hr (a_cons (vv 0) (a_cons (vv 1) a_nil))) (fun _ => rfl))
 (s_one (s_ret cnon))
 s_nil)
 (s_cons (s_asg (meth (c := 1) (ok_Rules__rule_of T) hr rfl T.c_Rules T.e_Rules__rule_of (vv 0) (a_cons (vv 1) a_nil)) (g_tup rfl (g_cons (g_name (i := 4) S.nd (by rfl) (by first | exact Or.inl rfl | exact Or.inr rfl)) (g_cons (g_name (i := 5) S.nd (by rfl) (by first | exact Or.inl rfl | exact Or.inr rfl)) (g_cons (g_name (i := 6) S.nd (by rfl) (by first | exact Or.inl rfl | exact Or.inr rfl)) (g_cons (g_name (i := 7) S.nd (by rfl) (by first | exact Or.inl rfl | exact Or.inr rfl)) (g_cons (g_name (i := 8) S.nd (by rfl) (by first | exact Or.inl rfl | exact Or.inr rfl)) (g_cons (g_name (i := 9) S.nd (by rfl) (by first | exact Or.inl rfl | exact Or.inr rfl)) g_nil))))))))
 (s_cons (s_setC (i := 2) rfl S.nd (by rfl) (by rfl) (by rfl) (i_seq (vv 8)) (own := [("month", 10)]) (blkOk_by (by kernel_rfl)) (by decide) (fun _ _ _ _ _ => (g_name (i := 10) S.nd (by rfl) (by first | exact Or.inl rfl | exact Or.inr rfl))) (fun _ _ _ _ _ => ts_nil) (fun _ _ _ _ _ => (tupd (a_cons (vv 10) (a_cons (ix (callF (ok_lengths_of T) hr (a_cons (vv 10) a_nil)) (un op_negD cint) (fun _ _ => rfl)) a_nil)))))
 (s_cons (s_set (i := 3) S.nd (by rfl) (by first | exact Or.inl rfl | exact Or.inr rfl) (v_or (cmp (op_eqM hr) (vv 4) (globS T.i_AT) (nomark _)) (v_one (ix (meth (c := 1) (ok_Rules__stars_of T) hr rfl T.c_Rules T.e_Rules__stars_of (vv 0) (a_cons (vv 1) a_nil)) cint (fun _ _ => rfl)))))
 (s_cons (s_if (t_w (t_and (t_truth (vv 3) (fun _ => rfl)) (t_and1 (t_truth (callB (c_all rfl) (by rfl) T.n_all bt_all (a_cons (comp rfl S.nd (i_seq (vv 2)) (own := [("month", 10), ("long", 11)]) (blkOk_by (by kernel_rfl)) (by decide) (fun _ _ _ _ _ => (g_tup rfl (g_cons (g_name (i := 10) S.nd (by rfl) (by first | exact Or.inl rfl | exact Or.inr rfl)) (g_cons (g_name (i := 11) S.nd (by rfl) (by first | exact Or.inl rfl | exact Or.inr rfl)) g_nil)))) (fun _ _ _ _ _ => ts_nil) (fun _ _ _ _ _ => (cmp op_ltD (vv 11) (ix (vv 7) cint (fun _ _ => rfl)) (nomark _)))) a_nil)) (fun _ => rfl)))))
 (s_one (s_ret (callTy (c_tupleD rfl) (by rfl) T.n_tuple bt_tuple (a_cons (vv 2) a_nil))))
 s_nil)
 (s_one (s_ret cnon)))))))
theorem ok_Meeting____init__ (T : Txt K mg) : OkA P w K mg base (cl K) (He.ma K (He.ga K "Meeting") "__init__") 4 ["self", "rules", "jobs"] f_Meeting____init__ := have S := sc_Meeting____init__
 okA T.m_Meeting____init__ sc_Meeting____init__ rfl (fun _ _ _ _ _ _ us hl => match us, hl with | [_, _, _], _ => rfl) fun cdv A outer s H E hr =>
 (s_cons (s_setC (i := 3) rfl S.nd (by rfl) (by rfl) (by rfl) (i_seq (vv 2)) (own := [("job", 4)]) (blkOk_by (by kernel_rfl)) (by decide) (fun _ _ _ _ _ => (g_name (i := 4) S.nd (by rfl) (by first | exact Or.inl rfl | exact Or.inr rfl))) (fun _ _ _ _ _ => (ts_one (t_truth (callF (ok_is_each T) hr (a_cons (vv 1) (a_cons (vv 4) a_nil))) (fun _ => rfl)))) (fun _ _ _ _ _ => (meth (c := 1) (ok_Rules__rule_of T) hr rfl T.c_Rules T.e_Rules__rule_of (vv 1) (a_cons (vv 4) a_nil))))
 (s_cons (s_asgI (vv 1) (g_fld T.a_own_rules (vv 0)))
 (s_cons (s_asgI (comp rfl S.nd (i_seq (vv 2)) (own := [("job", 4)]) (blkOk_by (by kernel_rfl)) (by decide) (fun _ _ _ _ _ => (g_name (i := 4) S.nd (by rfl) (by first | exact Or.inl rfl | exact Or.inr rfl))) (fun _ _ _ _ _ => (ts_one (t_not (t_truth (callF (ok_is_each T) hr (a_cons (vv 1) (a_cons (vv 4) a_nil))) (fun _ => rfl))))) (fun _ _ _ _ _ => (vv 4))) (g_fld T.a_own_fields (vv 0)))
 (s_cons (s_asgI (callF (ok_all_together T) hr (a_cons (comp rfl S.nd (i_seq (vv 3)) (own := [("row", 7)]) (blkOk_by (by kernel_rfl)) (by decide) (fun _ _ _ _ _ => (g_name (i := 7) S.nd (by rfl) (by first | exact Or.inl rfl | exact Or.inr rfl))) (fun _ _ _ _ _ => ts_nil) (fun _ _ _ _ _ => (tupd (a_cons (ix (vv 7) cint (fun _ _ => rfl)) (a_cons (ix (vv 7) cint (fun _ _ => rfl)) a_nil))))) a_nil)) (g_fld T.a_own_rest (vv 0)))
 (s_cons (s_asgI (callB (c_max hr rfl) (by rfl) T.n_max bt_max (a_cons (bin op_addD (lstd (a_cons cint a_nil)) (comp rfl S.nd (i_seq (vv 3)) (own := [("row", 7)]) (blkOk_by (by kernel_rfl)) (by decide) (fun _ _ _ _ _ => (g_name (i := 7) S.nd (by rfl) (by first | exact Or.inl rfl | exact Or.inr rfl))) (fun _ _ _ _ _ => ts_nil) (fun _ _ _ _ _ => (ix (vv 7) cint (fun _ _ => rfl))))) a_nil)) (g_fld T.a_own_begin (vv 0)))
 (s_cons (s_asgI (listR1 (by rfl) T.n_list (by rfl) T.n_range (globI T.i_MINUTES)) (g_fld T.a_own_minutes (vv 0)))
 (s_cons (s_for (fz := []) PassesOwn.never rfl (i_seq (fld T.a_own_fields (vv 0))) (g_name (i := 4) S.nd (by rfl) (by first | exact Or.inl rfl | exact Or.inr rfl))
 (s_cons s_never
 (s_one (s_asgI (comp rfl S.nd (i_seq (fld T.a_own_minutes (vv 0))) (own := [("minute", 8)]) (blkOk_by (by kernel_rfl)) (by decide) (fun _ _ _ _ _ => (g_name (i := 8) S.nd (by rfl) (by first | exact Or.inl rfl | exact Or.inr rfl))) (fun _ _ _ _ _ => (ts_one (t_cmp (op_inD hr) (vv 8) (vv 6) (by rfl)))) (fun _ _ _ _ _ => (vv 8))) (g_fld T.a_own_minutes (vv 0))))))
 (s_cons (s_setC (i := 5) rfl S.nd (by rfl) (by rfl) (by rfl) (i_seq (fld T.a_own_fields (vv 0))) (own := [("job", 4)]) (blkOk_by (by kernel_rfl)) (by decide) (fun _ _ _ _ _ => (g_name (i := 4) S.nd (by rfl) (by first | exact Or.inl rfl | exact Or.inr rfl))) (fun _ _ _ _ _ => (ts_one (t_cmp op_notND (callF (ok_told_never T) hr (a_cons (vv 1) (a_cons (vv 4) a_nil))) cnon (nomark _)))) (fun _ _ _ _ _ => (vv 4)))
 (s_cons (s_asgI (v_and (cmp op_notND (fld T.a_own_rest (vv 0)) cnon (nomark _)) (v_and (cmp (op_neM hr) (fld T.a_own_minutes (vv 0)) (lstd a_nil) (nomark _)) (v_one (cmp (op_eqM hr) (vv 5) (lstd a_nil) (nomark _))))) (g_fld T.a_own_is_ever (vv 0)))
 (s_one (s_asgI (meth0 (c := 2) (ok_Meeting__by_rest T) hr rfl T.c_Meeting T.e_Meeting__by_rest (vv 0)) (g_fld T.a_own_by_rest (vv 0)))))))))))))
theorem ok_is_long_year (T : Txt K mg) : OkF P w K mg base (cl K) "is_long_year" 1 ["year"] f_is_long_year := have S := sc_is_long_year
 okF T.d_is_long_year sc_is_long_year rfl (fun _ _ _ _ _ _ us hl => match us, hl with | [_], _ => rfl) fun cdv A outer s H E hr =>
 (s_one (s_ret (v_or (v_and (cmp (op_eqM hr) (bin op_modD (vv 0) cint) cint (nomark _)) (v_one (cmp (op_neM hr) (bin op_modD (vv 0) cint) cint (nomark _)))) (v_one (cmp (op_eqM hr) (bin op_modD (vv 0) cint) cint (nomark _))))))
theorem ok_days_in (T : Txt K mg) : OkF P w K mg base (cl K) "days_in" 2 ["year", "month"] f_days_in := have S := sc_days_in
 okF T.d_days_in sc_days_in rfl (fun _ _ _ _ _ _ us hl => match us, hl with | [_, _], _ => rfl) fun cdv A outer s H E hr =>
 (s_one (s_ret (bin op_addD (ix (globT T.t_LENGTHS T.u_LENGTHS (fun _ _ => RepL.ofInts _)) (bin op_subD (vv 1) cint) (fun _ _ => rfl)) (callTy c_intS (by rfl) T.n_int bt_int (a_cons (v_and (cmp (op_eqM hr) (vv 1) cint (nomark _)) (v_one (callF (ok_is_long_year T) hr (a_cons (vv 0) a_nil)))) a_nil)))))
theorem ok_fits_in (T : Txt K mg) : OkF P w K mg base (cl K) "fits_in" 2 ["rules", "job", "month", "number", "weekday"] f_fits_in := have S := sc_fits_in
 okF T.d_fits_in sc_fits_in rfl (fun _ _ _ _ _ _ us hl => match us, hl with | [_, _, _, _, _], _ => rfl) fun cdv A outer s H E hr =>
 (s_cons (s_asg (meth (c := 1) (ok_Rules__rule_of T) hr rfl T.c_Rules T.e_Rules__rule_of (vv 0) (a_cons (vv 1) a_nil)) (g_tup rfl (g_cons (g_name (i := 5) S.nd (by rfl) (by first | exact Or.inl rfl | exact Or.inr rfl)) (g_cons (g_name (i := 6) S.nd (by rfl) (by first | exact Or.inl rfl | exact Or.inr rfl)) (g_cons (g_name (i := 7) S.nd (by rfl) (by first | exact Or.inl rfl | exact Or.inr rfl)) (g_cons (g_name (i := 8) S.nd (by rfl) (by first | exact Or.inl rfl | exact Or.inr rfl)) (g_cons (g_name (i := 9) S.nd (by rfl) (by first | exact Or.inl rfl | exact Or.inr rfl)) (g_cons (g_name (i := 10) S.nd (by rfl) (by first | exact Or.inl rfl | exact Or.inr rfl)) g_nil))))))))
 (s_cons (s_if (t_cmp (op_ninD hr) (vv 2) (vv 9) (by rfl))
 (s_one (s_ret cbl))
 s_nil)
 (s_cons (s_par2 (i := 11) (j := 12) (k1 := .f) (k2 := .f) rfl S.nd (by rfl) (by rfl) (by decide) (by rfl) (by rfl) (a_cons (cmp (op_inD hr) (vv 3) (vv 8) (by rfl)) (a_cons (cmp (op_inD hr) (vv 4) (vv 10) (by rfl)) a_nil)) (by rfl))
 (s_cons (s_asg (meth (c := 1) (ok_Rules__stars_of T) hr rfl T.c_Rules T.e_Rules__stars_of (vv 0) (a_cons (vv 1) a_nil)) (g_tup rfl (g_cons (g_name (i := 13) S.nd (by rfl) (by first | exact Or.inl rfl | exact Or.inr rfl)) (g_cons (g_name (i := 14) S.nd (by rfl) (by first | exact Or.inl rfl | exact Or.inr rfl)) g_nil))))
 (s_cons (s_if (t_w (t_or (t_cmp (op_eqM hr) (vv 5) (globS T.i_AT) (nomark _)) (t_or (t_truth (vv 13) (fun _ => rfl)) (t_or1 (t_truth (vv 14) (fun _ => rfl))))))
 (s_one (s_ret (v_and (vv 11) (v_one (vv 12)))))
 s_nil)
 (s_one (s_ret (v_or (vv 11) (v_one (vv 12))))))))))
theorem ok_weekday_by (T : Txt K mg) : OkF P w K mg base (cl K) "weekday_by" 1 ["day"] f_weekday_by := have S := sc_weekday_by
 okF T.d_weekday_by sc_weekday_by rfl (fun _ _ _ _ _ _ us hl => match us, hl with | [_], _ => rfl) fun cdv A outer s H E hr =>
 (s_one (s_ret (bin op_modD (bin op_addD (vv 0) (globI T.i_FIRST_WEEKDAY)) cint)))
theorem ok_Meeting__days_from (T : Txt K mg) : OkA P w K mg base (cl K) (He.ma K (He.ga K "Meeting") "days_from") 3 ["self", "year", "month", "begin"] f_Meeting__days_from := have S := sc_Meeting__days_from
 okA T.m_Meeting__days_from sc_Meeting__days_from rfl (fun _ _ _ _ _ _ us hl => match us, hl with | [_, _, _, _], _ => rfl) fun cdv A outer s H E hr =>
 (s_cons (s_setL (i := 4) S.nd (by rfl) (by first | exact Or.inl rfl | exact Or.inr rfl) (lstd a_nil))
 (s_cons (s_for (fz := []) PassesOwn.never rfl (i_range1 (by rfl) T.n_range (a_cons (callF (ok_days_in T) hr (a_cons (vv 1) (a_cons (vv 2) a_nil))) a_nil)) (g_name (i := 5) S.nd (by rfl) (by first | exact Or.inl rfl | exact Or.inr rfl))
 (s_cons (s_set (i := 6) S.nd (by rfl) (by first | exact Or.inl rfl | exact Or.inr rfl) (callF (ok_weekday_by T) hr (a_cons (bin op_addD (vv 3) (vv 5)) a_nil)))
 (s_one (s_if (t_truth (callB (c_all rfl) (by rfl) T.n_all bt_all (a_cons (comp rfl S.nd (i_seq (fld T.a_own_fields (vv 0))) (own := [("job", 7)]) (blkOk_by (by kernel_rfl)) (by decide) (fun _ _ _ _ _ => (g_name (i := 7) S.nd (by rfl) (by first | exact Or.inl rfl | exact Or.inr rfl))) (fun _ _ _ _ _ => ts_nil) (fun _ _ _ _ _ => (callF (ok_fits_in T) hr (a_cons (fld T.a_own_rules (vv 0)) (a_cons (vv 7) (a_cons (vv 2) (a_cons (bin op_addD (vv 5) cint) (a_cons (vv 6) a_nil)))))))) a_nil)) (fun _ => rfl))
 (s_one (s_own mt_appendD PySem.F.slot_list_append PySem.F.type_list_append (i := 4) (by rfl) (by first | exact Or.inl rfl | exact Or.inr (Or.inl rfl) | exact Or.inr (Or.inr rfl)) (a_cons (bin op_addD (vv 3) (vv 5)) a_nil)))
 s_nil))))
 (s_one (s_retV (i := 4) (by rfl) (by first | exact Or.inl rfl | exact Or.inr (Or.inl rfl) | exact Or.inr (Or.inr rfl))))))
theorem ok_Meeting__minutes_on (T : Txt K mg) : OkA P w K mg base (cl K) (He.ma K (He.ga K "Meeting") "minutes_on") 1 ["self", "day"] f_Meeting__minutes_on := have S := sc_Meeting__minutes_on
 okA T.m_Meeting__minutes_on sc_Meeting__minutes_on rfl (fun _ _ _ _ _ _ us hl => match us, hl with | [_, _], _ => rfl) fun cdv A outer s H E hr =>
 (s_cons (s_asg (fld T.a_own_rest (vv 0)) (g_tup rfl (g_cons (g_name (i := 2) S.nd (by rfl) (by first | exact Or.inl rfl | exact Or.inr rfl)) (g_cons (g_name (i := 3) S.nd (by rfl) (by first | exact Or.inl rfl | exact Or.inr rfl)) g_nil))))
 (s_one (s_ret (dget2 hr (fld T.a_own_by_rest (vv 0)) (bin op_modD (bin op_subD (vv 3) (bin op_mulD (vv 1) (globI T.i_MINUTES))) (vv 2)) (lstd a_nil)))))
theorem ok_days_ahead (T : Txt K mg) : OkF P w K mg base (cl K) "days_ahead" 1 ["year"] f_days_ahead := have S := sc_days_ahead
 okF T.d_days_ahead sc_days_ahead rfl (fun _ _ _ _ _ _ us hl => match us, hl with | [_], _ => rfl) fun cdv A outer s H E hr =>
 (s_cons (s_set (i := 1) S.nd (by rfl) (by first | exact Or.inl rfl | exact Or.inr rfl) (bin op_subD (vv 0) cint))
 (s_cons (s_set (i := 2) S.nd (by rfl) (by first | exact Or.inl rfl | exact Or.inr rfl) (bin op_subD (globI T.i_FIRST_YEAR) cint))
 (s_cons (s_setC (i := 3) rfl S.nd (by rfl) (by rfl) (by rfl) (i_seq (tupd (a_cons cint (a_cons cint (a_cons cint a_nil))))) (own := [("by", 4)]) (blkOk_by (by kernel_rfl)) (by decide) (fun _ _ _ _ _ => (g_name (i := 4) S.nd (by rfl) (by first | exact Or.inl rfl | exact Or.inr rfl))) (fun _ _ _ _ _ => ts_nil) (fun _ _ _ _ _ => (bin op_subD (bin op_fdivD (vv 1) (vv 4)) (bin op_fdivD (vv 2) (vv 4)))))
 (s_one (s_ret (bin op_addD (bin op_subD (bin op_addD (bin op_mulD cint (bin op_subD (vv 0) (globI T.i_FIRST_YEAR))) (ix (vv 3) cint (fun _ _ => rfl))) (ix (vv 3) cint (fun _ _ => rfl))) (ix (vv 3) cint (fun _ _ => rfl))))))))
theorem ok_date_by (T : Txt K mg) : OkF P w K mg base (cl K) "date_by" 3 ["day"] f_date_by := have S := sc_date_by
 okF T.d_date_by sc_date_by rfl (fun _ _ _ _ _ _ us hl => match us, hl with | [_], _ => rfl) fun cdv A outer s H E hr =>
 (s_cons (s_set (i := 1) S.nd (by rfl) (by first | exact Or.inl rfl | exact Or.inr rfl) (bin op_addD (globI T.i_FIRST_YEAR) (bin op_fdivD (vv 0) cint)))
 (s_cons (s_while PassesOwn.never (t_w (t_and (t_cmp op_ltD (vv 1) (globI T.i_LAST_YEAR) (nomark _)) (t_and1 (t_cmp op_leD (callF (ok_days_ahead T) hr (a_cons (bin op_addD (vv 1) cint) a_nil)) (vv 0) (nomark _)))))
 (s_one (s_set (i := 1) S.nd (by rfl) (by first | exact Or.inl rfl | exact Or.inr rfl) (bin op_addD (vv 1) cint))))
 (s_cons (s_par2 (i := 2) (j := 3) (k1 := .f) (k2 := .f) rfl S.nd (by rfl) (by rfl) (by decide) (by rfl) (by rfl) (a_cons (bin op_subD (vv 0) (callF (ok_days_ahead T) hr (a_cons (vv 1) a_nil))) (a_cons cint a_nil)) (by rfl))
 (s_cons (s_while PassesOwn.never (t_cmp op_geD (vv 2) (callF (ok_days_in T) hr (a_cons (vv 1) (a_cons (vv 3) a_nil))) (nomark _))
 (s_one (s_par2 (i := 2) (j := 3) (k1 := .f) (k2 := .f) rfl S.nd (by rfl) (by rfl) (by decide) (by rfl) (by rfl) (a_cons (bin op_subD (vv 2) (callF (ok_days_in T) hr (a_cons (vv 1) (a_cons (vv 3) a_nil)))) (a_cons (bin op_addD (vv 3) cint) a_nil)) (by rfl))))
 (s_one (s_ret (tupd (a_cons (vv 1) (a_cons (vv 3) (a_cons (bin op_addD (vv 2) cint) a_nil))))))))))
theorem ok_Meeting__first (T : Txt K mg) : OkA P w K mg base (cl K) (He.ma K (He.ga K "Meeting") "first") 4 ["self", "time"] f_Meeting__first := have S := sc_Meeting__first
 okA T.m_Meeting__first sc_Meeting__first rfl (fun _ _ _ _ _ _ us hl => match us, hl with | [_, _], _ => rfl) fun cdv A outer s H E hr =>
 (s_cons (s_set (i := 1) S.nd (by rfl) (by first | exact Or.inl rfl | exact Or.inr rfl) (callB (c_max hr rfl) (by rfl) T.n_max bt_max (a_cons (vv 1) (a_cons (fld T.a_own_begin (vv 0)) a_nil))))
 (s_cons (s_if (t_w (t_or (t_not (t_truth (fld T.a_own_is_ever (vv 0)) (fun _ => rfl))) (t_or1 (t_cmp op_gtD (vv 1) (globI T.i_LAST_TIME) (nomark _)))))
 (s_one (s_ret cnon))
 s_nil)
 (s_cons (s_if (t_cmp (op_eqM hr) (fld T.a_own_fields (vv 0)) (lstd a_nil) (nomark _))
 (s_cons (s_asg (fld T.a_own_rest (vv 0)) (g_tup rfl (g_cons (g_name (i := 8) S.nd (by rfl) (by first | exact Or.inl rfl | exact Or.inr rfl)) (g_cons (g_name (i := 9) S.nd (by rfl) (by first | exact Or.inl rfl | exact Or.inr rfl)) g_nil))))
 (s_cons (s_set (i := 3) S.nd (by rfl) (by first | exact Or.inl rfl | exact Or.inr rfl) (bin op_addD (vv 1) (bin op_modD (bin op_subD (vv 9) (vv 1)) (vv 8))))
 (s_one (s_ret (ifx (t_cmp op_leD (vv 3) (globI T.i_LAST_TIME) (nomark _)) (vv 3) cnon)))))
 s_nil)
 (s_cons (s_asg (callF (ok_date_by T) hr (a_cons (bin op_fdivD (vv 1) (globI T.i_MINUTES)) a_nil)) (g_tup rfl (g_cons (g_name (i := 4) S.nd (by rfl) (by first | exact Or.inl rfl | exact Or.inr rfl)) (g_cons (g_name (i := 5) S.nd (by rfl) (by first | exact Or.inl rfl | exact Or.inr rfl)) (g_cons (g_name (i := 6) S.nd (by rfl) (by first | exact Or.inl rfl | exact Or.inr rfl)) g_nil)))))
 (s_cons (s_set (i := 2) S.nd (by rfl) (by first | exact Or.inl rfl | exact Or.inr rfl) (bin op_addD (bin op_subD (bin op_fdivD (vv 1) (globI T.i_MINUTES)) (vv 6)) cint))
 (s_cons (s_while PassesOwn.never (t_cmp op_leD (vv 4) (globI T.i_LAST_YEAR) (nomark _))
 (s_cons (s_for (fz := []) PassesOwn.never rfl (i_seq (meth (c := 2) (ok_Meeting__days_from T) hr rfl T.c_Meeting T.e_Meeting__days_from (vv 0) (a_cons (vv 4) (a_cons (vv 5) (a_cons (vv 2) a_nil))))) (g_name (i := 7) S.nd (by rfl) (by first | exact Or.inl rfl | exact Or.inr rfl))
 (s_cons (s_setC (i := 10) rfl S.nd (by rfl) (by rfl) (by rfl) (i_seq (meth (c := 2) (ok_Meeting__minutes_on T) hr rfl T.c_Meeting T.e_Meeting__minutes_on (vv 0) (a_cons (vv 7) a_nil))) (own := [("minute", 11)]) (blkOk_by (by kernel_rfl)) (by decide) (fun _ _ _ _ _ => (g_name (i := 11) S.nd (by rfl) (by first | exact Or.inl rfl | exact Or.inr rfl))) (fun _ _ _ _ _ => (ts_one (t_cmp op_geD (bin op_addD (bin op_mulD (vv 7) (globI T.i_MINUTES)) (vv 11)) (vv 1) (nomark _)))) (fun _ _ _ _ _ => (vv 11)))
 (s_one (s_if (t_cmp (op_neM hr) (vv 10) (lstd a_nil) (nomark _))
 (s_one (s_ret (bin op_addD (bin op_mulD (vv 7) (globI T.i_MINUTES)) (ix (vv 10) cint (fun _ _ => rfl)))))
 s_nil))))
 (s_cons (s_set (i := 2) S.nd (by rfl) (by first | exact Or.inl rfl | exact Or.inr rfl) (bin op_addD (vv 2) (callF (ok_days_in T) hr (a_cons (vv 4) (a_cons (vv 5) a_nil)))))
 (s_one (s_par2 (i := 4) (j := 5) (k1 := .f) (k2 := .f) rfl S.nd (by rfl) (by rfl) (by decide) (by rfl) (by rfl) (a_cons (bin op_addD (vv 4) (bin op_fdivD (vv 5) (globI T.i_MONTHS))) (a_cons (bin op_addD (bin op_modD (vv 5) (globI T.i_MONTHS)) cint) a_nil)) (by rfl))))))
 (s_one (s_ret cnon))))))))
theorem ok_Rules__jobs (T : Txt K mg) : OkA P w K mg base (cl K) (pgA K "Rules" "jobs") 1 ["self"] f_Rules__jobs := have S := sc_Rules__jobs
 okA T.m_Rules__jobs sc_Rules__jobs rfl (fun _ _ _ _ _ _ us hl => match us, hl with | [_], _ => rfl) fun cdv A outer s H E hr =>
 (s_one (s_ret (fld T.a_own_jobs (vv 0))))
theorem ok_are_unlike (T : Txt K mg) : OkF P w K mg base (cl K) "are_unlike" 1 ["values"] f_are_unlike := have S := sc_are_unlike
 okF T.d_are_unlike sc_are_unlike rfl (fun _ _ _ _ _ _ us hl => match us, hl with | [_], _ => rfl) fun cdv A outer s H E hr =>
 (s_one (s_ret (cmp (op_eqM hr) (lenSet (by rfl) T.n_len (by rfl) T.n_set (vv 0)) (callB c_lenD (by rfl) T.n_len bt_len (a_cons (vv 0) a_nil)) (nomark _))))
theorem ok_check_rules (T : Txt K mg) : OkF P w K mg base (cl K) "check_rules" 1 ["rules"] f_check_rules := have S := sc_check_rules
 okF T.d_check_rules sc_check_rules rfl (fun _ _ _ _ _ _ us hl => match us, hl with | [_], _ => rfl) fun cdv A outer s H E hr =>
 (s_one (s_if (t_not (t_truth (isC (c := 1) (by rfl) T.n_isinstance (by rfl) T.g_Rules T.z_Rules rfl (vv 0)) (fun _ => rfl)))
 (s_one s_never)
 s_nil))
theorem ok_all_meet (T : Txt K mg) : OkF P w K mg base (cl K) "all_meet" 6 ["rules", "jobs"] f_all_meet := have S := sc_all_meet
 okF T.d_all_meet sc_all_meet rfl (fun _ _ _ _ _ _ us hl => match us, hl with | [_, _], _ => rfl) fun cdv A outer s H E hr =>
 (s_cons (s_expr (callF (ok_check_rules T) hr (a_cons (vv 0) a_nil)))
 (s_cons (s_if (t_w (t_or (t_not (t_truth (isT (by rfl) T.n_isinstance (by rfl) T.n_tuple bt_tuple (.ty _) (vv 1)) (fun _ => rfl))) (t_or1 (t_not (t_chain op_ltD op_leD cint (callB c_lenD (by rfl) T.n_len bt_len (a_cons (vv 1) a_nil)) (globI T.i_MOST_JOBS_meets))))))
 (s_one s_never)
 s_nil)
 (s_cons (s_if (t_w (t_or (t_not (t_truth (callB (c_all rfl) (by rfl) T.n_all bt_all (a_cons (comp rfl S.nd (i_seq (vv 1)) (own := [("job", 6)]) (blkOk_by (by kernel_rfl)) (by decide) (fun _ _ _ _ _ => (g_name (i := 6) S.nd (by rfl) (by first | exact Or.inl rfl | exact Or.inr rfl))) (fun _ _ _ _ _ => ts_nil) (fun _ _ _ _ _ => (v_and (isT (by rfl) T.n_isinstance (by rfl) T.n_str bt_str (.ty _) (vv 6)) (v_one (cmp (op_inD hr) (vv 6) (prop_ (c := 1) (ok_Rules__jobs T) hr rfl rfl T.c_Rules T.p_Rules__jobs (vv 0)) (by rfl)))))) a_nil)) (fun _ => rfl))) (t_or1 (t_not (t_truth (callF (ok_are_unlike T) hr (a_cons (vv 1) a_nil)) (fun _ => rfl))))))
 (s_one s_never)
 s_nil)
 (s_cons (s_for (fz := []) PassesOwn.never rfl (i_enum (by rfl) T.n_enumerate (vv 1)) (g_tup rfl (g_cons (g_name (i := 3) S.nd (by rfl) (by first | exact Or.inl rfl | exact Or.inr rfl)) (g_cons (g_name (i := 4) S.nd (by rfl) (by first | exact Or.inl rfl | exact Or.inr rfl)) g_nil)))
 (s_one (s_for (fz := []) PassesOwn.never rfl (i_seq (sl (vv 1) (part1 (bin op_addD (vv 3) cint)) part0)) (g_name (i := 5) S.nd (by rfl) (by first | exact Or.inl rfl | exact Or.inr rfl))
 (s_one (s_if (t_cmp op_isND (meth (c := 2) (ok_Meeting__first T) hr rfl T.c_Meeting T.e_Meeting__first (make (c := 2) (ok_Meeting____init__ T) hr rfl T.k_Meeting T.g_Meeting (a_cons (vv 0) (a_cons (tupd (a_cons (vv 4) (a_cons (vv 5) a_nil))) a_nil))) (a_cons cint a_nil)) cnon (nomark _))
 (s_one (s_ret (tupd (a_cons (globS T.i_TWO) (a_cons (vv 4) (a_cons (vv 5) a_nil))))))
 s_nil)))))
 (s_cons (s_set (i := 2) S.nd (by rfl) (by first | exact Or.inl rfl | exact Or.inr rfl) (meth (c := 2) (ok_Meeting__first T) hr rfl T.c_Meeting T.e_Meeting__first (make (c := 2) (ok_Meeting____init__ T) hr rfl T.k_Meeting T.g_Meeting (a_cons (vv 0) (a_cons (vv 1) a_nil))) (a_cons cint a_nil)))
 (s_one (s_ret (ifx (t_cmp op_isND (vv 2) cnon (nomark _)) (tupd (a_cons (globS T.i_LATE_meets) a_nil)) (tupd (a_cons (globS T.i_MEET) (a_cons (vv 2) a_nil)))))))))))
theorem ok_is_integer (T : Txt K mg) : OkF P w K mg base (cl K) "is_integer" 1 ["value"] f_is_integer := have S := sc_is_integer
 okF T.d_is_integer sc_is_integer rfl (fun _ _ _ _ _ _ us hl => match us, hl with | [_], _ => rfl) fun cdv A outer s H E hr =>
 (s_one (s_ret (v_and (isT (by rfl) T.n_isinstance (by rfl) T.n_int bt_int (.ty _) (vv 0)) (v_one (v_not (isT (by rfl) T.n_isinstance (by rfl) T.n_bool bt_bool (.ty _) (vv 0)))))))
theorem ok_is_between (T : Txt K mg) : OkF P w K mg base (cl K) "is_between" 2 ["value", "least", "most"] f_is_between := have S := sc_is_between
 okF T.d_is_between sc_is_between rfl (fun _ _ _ _ _ _ us hl => match us, hl with | [_, _, _], _ => rfl) fun cdv A outer s H E hr =>
 (s_one (s_ret (v_and (callF (ok_is_integer T) hr (a_cons (vv 0) a_nil)) (v_one (chain op_leD op_leD (vv 1) (vv 0) (vv 2))))))
theorem ok_are_starts (T : Txt K mg) : OkF P w K mg base (cl K) "are_starts" 3 ["pieces", "value"] f_are_starts := have S := sc_are_starts
 okF T.d_are_starts sc_are_starts rfl (fun _ _ _ _ _ _ us hl => match us, hl with | [_, _], _ => rfl) fun cdv A outer s H E hr =>
 (s_cons (s_if (t_w (t_or (t_not (t_truth (isT (by rfl) T.n_isinstance (by rfl) T.n_tuple bt_tuple (.ty _) (vv 1)) (fun _ => rfl))) (t_or1 (t_cmp (op_neM hr) (callB c_lenD (by rfl) T.n_len bt_len (a_cons (vv 1) a_nil)) (callB c_lenD (by rfl) T.n_len bt_len (a_cons (vv 0) a_nil)) (nomark _)))))
 (s_one (s_ret cbl))
 s_nil)
 (s_one (s_ret (callB (c_all rfl) (by rfl) T.n_all bt_all (a_cons (comp rfl S.nd (i_zip (by rfl) T.n_zip (vv 1) (vv 0)) (own := [("start", 2), ("every", 3), ("long", 4)]) (blkOk_by (by kernel_rfl)) (by decide) (fun _ _ _ _ _ => (g_tup rfl (g_cons (g_name (i := 2) S.nd (by rfl) (by first | exact Or.inl rfl | exact Or.inr rfl)) (g_cons (g_tup rfl (g_cons (g_name (i := 3) S.nd (by rfl) (by first | exact Or.inl rfl | exact Or.inr rfl)) (g_cons (g_name (i := 4) S.nd (by rfl) (by first | exact Or.inl rfl | exact Or.inr rfl)) g_nil))) g_nil)))) (fun _ _ _ _ _ => ts_nil) (fun _ _ _ _ _ => (callF (ok_is_between T) hr (a_cons (vv 2) (a_cons cint (a_cons (bin op_subD (vv 3) cint) a_nil)))))) a_nil)))))
theorem ok_is_piece (T : Txt K mg) : OkF P w K mg base (cl K) "is_piece" 3 ["value"] f_is_piece := have S := sc_is_piece
 okF T.d_is_piece sc_is_piece rfl (fun _ _ _ _ _ _ us hl => match us, hl with | [_], _ => rfl) fun cdv A outer s H E hr =>
 (s_cons (s_if (t_w (t_or (t_not (t_truth (isT (by rfl) T.n_isinstance (by rfl) T.n_tuple bt_tuple (.ty _) (vv 0)) (fun _ => rfl))) (t_or (t_cmp (op_neM hr) (callB c_lenD (by rfl) T.n_len bt_len (a_cons (vv 0) a_nil)) cint (nomark _)) (t_or1 (t_not (t_truth (callF (ok_is_between T) hr (a_cons (ix (vv 0) cint (fun _ _ => rfl)) (a_cons cint (a_cons (globI T.i_MOST_EVERY) a_nil)))) (fun _ => rfl)))))))
 (s_one (s_ret cbl))
 s_nil)
 (s_one (s_ret (callF (ok_is_between T) hr (a_cons (ix (vv 0) cint (fun _ _ => rfl)) (a_cons cint (a_cons (ix (vv 0) cint (fun _ _ => rfl)) a_nil)))))))
theorem ok_check_pieces (T : Txt K mg) : OkF P w K mg base (cl K) "check_pieces" 4 ["pieces"] f_check_pieces := have S := sc_check_pieces
 okF T.d_check_pieces sc_check_pieces rfl (fun _ _ _ _ _ _ us hl => match us, hl with | [_], _ => rfl) fun cdv A outer s H E hr =>
 (s_cons (s_if (t_w (t_or (t_not (t_truth (isT (by rfl) T.n_isinstance (by rfl) T.n_tuple bt_tuple (.ty _) (vv 0)) (fun _ => rfl))) (t_or1 (t_not (t_chain op_ltD op_leD cint (callB c_lenD (by rfl) T.n_len bt_len (a_cons (vv 0) a_nil)) (globI T.i_MOST_PIECES))))))
 (s_one s_never)
 s_nil)
 (s_one (s_if (t_not (t_truth (callB (c_all rfl) (by rfl) T.n_all bt_all (a_cons (comp rfl S.nd (i_seq (vv 0)) (own := [("one", 1)]) (blkOk_by (by kernel_rfl)) (by decide) (fun _ _ _ _ _ => (g_name (i := 1) S.nd (by rfl) (by first | exact Or.inl rfl | exact Or.inr rfl))) (fun _ _ _ _ _ => ts_nil) (fun _ _ _ _ _ => (callF (ok_is_piece T) hr (a_cons (vv 1) a_nil)))) a_nil)) (fun _ => rfl)))
 (s_one s_never)
 s_nil)))
theorem ok_do_clash (T : Txt K mg) : OkF P w K mg base (cl K) "do_clash" 2 ["one", "start", "other", "begin"] f_do_clash := have S := sc_do_clash
 okF T.d_do_clash sc_do_clash rfl (fun _ _ _ _ _ _ us hl => match us, hl with | [_, _, _, _], _ => rfl) fun cdv A outer s H E hr =>
 (s_cons (s_set (i := 4) S.nd (by rfl) (by first | exact Or.inl rfl | exact Or.inr rfl) (callF (ok_common T) hr (a_cons (ix (vv 0) cint (fun _ _ => rfl)) (a_cons (ix (vv 2) cint (fun _ _ => rfl)) a_nil))))
 (s_one (s_ret (v_or (cmp op_ltD (bin op_modD (bin op_subD (vv 3) (vv 1)) (vv 4)) (ix (vv 0) cint (fun _ _ => rfl)) (nomark _)) (v_one (cmp op_ltD (bin op_modD (bin op_subD (vv 1) (vv 3)) (vv 4)) (ix (vv 2) cint (fun _ _ => rfl)) (nomark _)))))))
theorem ok_is_at_work (T : Txt K mg) : OkF P w K mg base (cl K) "is_at_work" 1 ["piece", "start", "minute"] f_is_at_work := have S := sc_is_at_work
 okF T.d_is_at_work sc_is_at_work rfl (fun _ _ _ _ _ _ us hl => match us, hl with | [_, _, _], _ => rfl) fun cdv A outer s H E hr =>
 (s_one (s_ret (cmp op_ltD (bin op_modD (bin op_subD (vv 2) (vv 1)) (ix (vv 0) cint (fun _ _ => rfl))) (ix (vv 0) cint (fun _ _ => rfl)) (nomark _))))
theorem ok_first_minute (T : Txt K mg) : OkF P w K mg base (cl K) "first_minute" 2 ["one", "start", "other", "begin"] f_first_minute := have S := sc_first_minute
 okF T.d_first_minute sc_first_minute rfl (fun _ _ _ _ _ _ us hl => match us, hl with | [_, _, _, _], _ => rfl) fun cdv A outer s H E hr =>
 (s_cons (s_if (t_w (t_and (t_truth (callF (ok_is_at_work T) hr (a_cons (vv 0) (a_cons (vv 1) (a_cons cint a_nil)))) (fun _ => rfl)) (t_and1 (t_truth (callF (ok_is_at_work T) hr (a_cons (vv 2) (a_cons (vv 3) (a_cons cint a_nil)))) (fun _ => rfl)))))
 (s_one (s_ret cint))
 s_nil)
 (s_cons (s_setL (i := 4) S.nd (by rfl) (by first | exact Or.inl rfl | exact Or.inr rfl) (lstd a_nil))
 (s_cons (s_for (fz := []) PassesOwn.never rfl (i_seq (tupd (a_cons (tupd (a_cons (vv 0) (a_cons (vv 1) (a_cons (vv 2) (a_cons (vv 3) a_nil))))) (a_cons (tupd (a_cons (vv 2) (a_cons (vv 3) (a_cons (vv 0) (a_cons (vv 1) a_nil))))) a_nil)))) (g_tup rfl (g_cons (g_name (i := 5) S.nd (by rfl) (by first | exact Or.inl rfl | exact Or.inr rfl)) (g_cons (g_name (i := 6) S.nd (by rfl) (by first | exact Or.inl rfl | exact Or.inr rfl)) (g_cons (g_name (i := 7) S.nd (by rfl) (by first | exact Or.inl rfl | exact Or.inr rfl)) (g_cons (g_name (i := 8) S.nd (by rfl) (by first | exact Or.inl rfl | exact Or.inr rfl)) g_nil)))))
 (s_cons (s_setC (i := 9) rfl S.nd (by rfl) (by rfl) (by rfl) (i_range1 (by rfl) T.n_range (a_cons (bin op_fdivD (ix (vv 7) cint (fun _ _ => rfl)) (callF (ok_common T) hr (a_cons (ix (vv 5) cint (fun _ _ => rfl)) (a_cons (ix (vv 7) cint (fun _ _ => rfl)) a_nil)))) a_nil)) (own := [("lap", 10)]) (blkOk_by (by kernel_rfl)) (by decide) (fun _ _ _ _ _ => (g_name (i := 10) S.nd (by rfl) (by first | exact Or.inl rfl | exact Or.inr rfl))) (fun _ _ _ _ _ => ts_nil) (fun _ _ _ _ _ => (bin op_addD (vv 6) (bin op_mulD (ix (vv 5) cint (fun _ _ => rfl)) (vv 10)))))
 (s_one (s_own mt_extendD PySem.F.slot_list_extend PySem.F.type_list_extend (i := 4) (by rfl) (by first | exact Or.inl rfl | exact Or.inr (Or.inl rfl) | exact Or.inr (Or.inr rfl)) (a_cons (sl (comp rfl S.nd (i_seq (vv 9)) (own := [("minute", 11)]) (blkOk_by (by kernel_rfl)) (by decide) (fun _ _ _ _ _ => (g_name (i := 11) S.nd (by rfl) (by first | exact Or.inl rfl | exact Or.inr rfl))) (fun _ _ _ _ _ => (ts_one (t_truth (callF (ok_is_at_work T) hr (a_cons (vv 7) (a_cons (vv 8) (a_cons (vv 11) a_nil)))) (fun _ => rfl)))) (fun _ _ _ _ _ => (vv 11))) part0 (part1 cint)) a_nil)))))
 (s_one (s_ret (callB (c_min hr rfl) (by rfl) T.n_min bt_min (a_cons (vv 4) a_nil)))))))
theorem ok_clash (T : Txt K mg) : OkF P w K mg base (cl K) "clash" 5 ["pieces", "starts"] f_clash := have S := sc_clash
 okF T.d_clash sc_clash rfl (fun _ _ _ _ _ _ us hl => match us, hl with | [_, _], _ => rfl) fun cdv A outer s H E hr =>
 (s_cons (s_expr (callF (ok_check_pieces T) hr (a_cons (vv 0) a_nil)))
 (s_cons (s_if (t_not (t_truth (callF (ok_are_starts T) hr (a_cons (vv 0) (a_cons (vv 1) a_nil))) (fun _ => rfl)))
 (s_one s_never)
 s_nil)
 (s_cons (s_for (fz := []) PassesOwn.never rfl (i_enum (by rfl) T.n_enumerate (vv 0)) (g_tup rfl (g_cons (g_name (i := 2) S.nd (by rfl) (by first | exact Or.inl rfl | exact Or.inr rfl)) (g_cons (g_name (i := 3) S.nd (by rfl) (by first | exact Or.inl rfl | exact Or.inr rfl)) g_nil)))
 (s_one (s_for (fz := []) PassesOwn.never rfl (i_range2 (by rfl) T.n_range (a_cons (bin op_addD (vv 2) cint) (a_cons (callB c_lenD (by rfl) T.n_len bt_len (a_cons (vv 0) a_nil)) a_nil))) (g_name (i := 4) S.nd (by rfl) (by first | exact Or.inl rfl | exact Or.inr rfl))
 (s_one (s_if (t_truth (callF (ok_do_clash T) hr (a_cons (vv 3) (a_cons (ix (vv 1) (vv 2) (fun _ _ => rfl)) (a_cons (ix (vv 0) (vv 4) (fun _ _ => rfl)) (a_cons (ix (vv 1) (vv 4) (fun _ _ => rfl)) a_nil))))) (fun _ => rfl))
 (s_one (s_ret (tupd (a_cons (vv 2) (a_cons (vv 4) (a_cons (callF (ok_first_minute T) hr (a_cons (vv 3) (a_cons (ix (vv 1) (vv 2) (fun _ _ => rfl)) (a_cons (ix (vv 0) (vv 4) (fun _ _ => rfl)) (a_cons (ix (vv 1) (vv 4) (fun _ _ => rfl)) a_nil))))) a_nil))))))
 s_nil)))))
 (s_one (s_ret cnon)))))
theorem ok_check_job (T : Txt K mg) : OkF P w K mg base (cl K) "check_job" 3 ["rules", "job"] f_check_job := have S := sc_check_job
 okF T.d_check_job sc_check_job rfl (fun _ _ _ _ _ _ us hl => match us, hl with | [_, _], _ => rfl) fun cdv A outer s H E hr =>
 (s_cons (s_expr (callF (ok_check_rules T) hr (a_cons (vv 0) a_nil)))
 (s_one (s_if (t_w (t_or (t_not (t_truth (isT (by rfl) T.n_isinstance (by rfl) T.n_str bt_str (.ty _) (vv 1)) (fun _ => rfl))) (t_or1 (t_cmp (op_ninD hr) (vv 1) (prop_ (c := 1) (ok_Rules__jobs T) hr rfl rfl T.c_Rules T.p_Rules__jobs (vv 0)) (by rfl)))))
 (s_one s_never)
 s_nil)))
theorem ok_is_time (T : Txt K mg) : OkF P w K mg base (cl K) "is_time" 3 ["value"] f_is_time := have S := sc_is_time
 okF T.d_is_time sc_is_time rfl (fun _ _ _ _ _ _ us hl => match us, hl with | [_], _ => rfl) fun cdv A outer s H E hr =>
 (s_one (s_ret (callF (ok_is_between T) hr (a_cons (vv 0) (a_cons cint (a_cons (bin op_subD (bin op_mulD (globI T.i_DAYS) (globI T.i_MINUTES)) cint) a_nil))))))
theorem ok_check_time (T : Txt K mg) : OkF P w K mg base (cl K) "check_time" 4 ["time"] f_check_time := have S := sc_check_time
 okF T.d_check_time sc_check_time rfl (fun _ _ _ _ _ _ us hl => match us, hl with | [_], _ => rfl) fun cdv A outer s H E hr =>
 (s_one (s_if (t_not (t_truth (callF (ok_is_time T) hr (a_cons (vv 0) a_nil)) (fun _ => rfl)))
 (s_one s_never)
 s_nil))
theorem ok_first_missed (T : Txt K mg) : OkF P w K mg base (cl K) "first_missed" 2 ["rule", "begin", "every", "long"] f_first_missed := have S := sc_first_missed
 okF T.d_first_missed sc_first_missed rfl (fun _ _ _ _ _ _ us hl => match us, hl with | [_, _, _, _], _ => rfl) fun cdv A outer s H E hr =>
 (s_cons (s_asg (vv 0) (g_tup rfl (g_cons (g_name (i := 5) S.nd (by rfl) (by first | exact Or.inl rfl | exact Or.inr rfl)) (g_cons (g_name (i := 6) S.nd (by rfl) (by first | exact Or.inl rfl | exact Or.inr rfl)) g_nil))))
 (s_cons (s_if (t_cmp op_ltD (vv 6) (vv 1) (nomark _))
 (s_one (s_set (i := 6) S.nd (by rfl) (by first | exact Or.inl rfl | exact Or.inr rfl) (bin op_addD (vv 6) (bin op_mulD (vv 5) (bin op_subD cint (bin op_fdivD (bin op_subD (vv 6) (vv 1)) (vv 5)))))))
 s_nil)
 (s_cons (s_for (fz := []) PassesOwn.never rfl (i_range1 (by rfl) T.n_range (a_cons (bin op_fdivD (vv 2) (callF (ok_common T) hr (a_cons (vv 5) (a_cons (vv 2) a_nil)))) a_nil)) (g_name (i := 4) S.nd (by rfl) (by first | exact Or.inl rfl | exact Or.inr rfl))
 (s_cons (s_if (t_cmp op_ltD (bin op_modD (bin op_subD (vv 6) (vv 1)) (vv 2)) (vv 3) (nomark _))
 (s_one (s_ret (vv 6)))
 s_nil)
 (s_one (s_set (i := 6) S.nd (by rfl) (by first | exact Or.inl rfl | exact Or.inr rfl) (bin op_addD (vv 6) (vv 5))))))
 (s_one (s_ret cnon)))))
theorem ok_goes_down (T : Txt K mg) : OkF P w K mg base (cl K) "goes_down" 5 ["rules", "job", "begin", "every", "long"] f_goes_down := have S := sc_goes_down
 okF T.d_goes_down sc_goes_down rfl (fun _ _ _ _ _ _ us hl => match us, hl with | [_, _, _, _, _], _ => rfl) fun cdv A outer s H E hr =>
 (s_cons (s_expr (callF (ok_check_job T) hr (a_cons (vv 0) (a_cons (vv 1) a_nil))))
 (s_cons (s_if (t_not (t_truth (callF (ok_is_each T) hr (a_cons (vv 0) (a_cons (vv 1) a_nil))) (fun _ => rfl)))
 (s_one s_never)
 s_nil)
 (s_cons (s_expr (callF (ok_check_time T) hr (a_cons (vv 2) a_nil)))
 (s_cons (s_if (t_w (t_or (t_not (t_truth (callF (ok_is_between T) hr (a_cons (vv 3) (a_cons cint (a_cons (globI T.i_MOST_EACH_missed) a_nil)))) (fun _ => rfl))) (t_or1 (t_not (t_truth (callF (ok_is_between T) hr (a_cons (vv 4) (a_cons cint (a_cons (bin op_subD (vv 3) cint) a_nil)))) (fun _ => rfl))))))
 (s_one s_never)
 s_nil)
 (s_cons (s_asg (meth (c := 1) (ok_Rules__rule_of T) hr rfl T.c_Rules T.e_Rules__rule_of (vv 0) (a_cons (vv 1) a_nil)) (g_tup rfl (g_cons (g_name (i := 7) S.nd (by rfl) (by first | exact Or.inl rfl | exact Or.inr rfl)) (g_cons (g_name (i := 8) S.nd (by rfl) (by first | exact Or.inl rfl | exact Or.inr rfl)) (g_cons (g_name (i := 9) S.nd (by rfl) (by first | exact Or.inl rfl | exact Or.inr rfl)) g_nil)))))
 (s_cons (s_set (i := 5) S.nd (by rfl) (by first | exact Or.inl rfl | exact Or.inr rfl) (callF (ok_common T) hr (a_cons (vv 8) (a_cons (vv 3) a_nil))))
 (s_cons (s_if (t_cmp op_geD (bin op_modD (bin op_subD (vv 9) (vv 2)) (vv 5)) (vv 4) (nomark _))
 (s_one (s_ret (tupd (a_cons (globS T.i_NEVER) (a_cons (vv 5) (a_cons (bin op_modD (bin op_subD (vv 9) (vv 2)) (vv 5)) a_nil))))))
 s_nil)
 (s_cons (s_set (i := 6) S.nd (by rfl) (by first | exact Or.inl rfl | exact Or.inr rfl) (callF (ok_first_missed T) hr (a_cons (tupd (a_cons (vv 8) (a_cons (vv 9) a_nil))) (a_cons (vv 2) (a_cons (vv 3) (a_cons (vv 4) a_nil))))))
 (s_one (s_ret (ifx (t_cmp op_leD (vv 6) (globI T.i_LAST_TIME) (nomark _)) (tupd (a_cons (globS T.i_MISSED) (a_cons (vv 6) a_nil))) (tupd (a_cons (globS T.i_LATE_missed) (a_cons (vv 6) a_nil))))))))))))))
theorem ok_fits_day (T : Txt K mg) : OkF P w K mg base (cl K) "fits_day" 4 ["rules", "job", "day"] f_fits_day := have S := sc_fits_day
 okF T.d_fits_day sc_fits_day rfl (fun _ _ _ _ _ _ us hl => match us, hl with | [_, _, _], _ => rfl) fun cdv A outer s H E hr =>
 (s_cons (s_asg (callF (ok_date_by T) hr (a_cons (vv 2) a_nil)) (g_tup rfl (g_cons (g_name (i := 3) S.nd (by rfl) (by first | exact Or.inl rfl | exact Or.inr rfl)) (g_cons (g_name (i := 4) S.nd (by rfl) (by first | exact Or.inl rfl | exact Or.inr rfl)) (g_cons (g_name (i := 5) S.nd (by rfl) (by first | exact Or.inl rfl | exact Or.inr rfl)) g_nil)))))
 (s_one (s_ret (callF (ok_fits_in T) hr (a_cons (vv 0) (a_cons (vv 1) (a_cons (vv 4) (a_cons (vv 5) (a_cons (callF (ok_weekday_by T) hr (a_cons (vv 2) a_nil)) a_nil)))))))))
theorem ok_by_hours (T : Txt K mg) : OkF P w K mg base (cl K) "by_hours" 1 ["hours", "minutes"] f_by_hours := have S := sc_by_hours
 okF T.d_by_hours sc_by_hours rfl (fun _ _ _ _ _ _ us hl => match us, hl with | [_, _], _ => rfl) fun cdv A outer s H E hr =>
 (s_cons (s_setL (i := 2) S.nd (by rfl) (by first | exact Or.inl rfl | exact Or.inr rfl) (lstd a_nil))
 (s_cons (s_for (fz := []) PassesOwn.never rfl (i_seq (vv 0)) (g_name (i := 3) S.nd (by rfl) (by first | exact Or.inl rfl | exact Or.inr rfl))
 (s_one (s_own mt_extendD PySem.F.slot_list_extend PySem.F.type_list_extend (i := 2) (by rfl) (by first | exact Or.inl rfl | exact Or.inr (Or.inl rfl) | exact Or.inr (Or.inr rfl)) (a_cons (comp rfl S.nd (i_seq (vv 1)) (own := [("minute", 4)]) (blkOk_by (by kernel_rfl)) (by decide) (fun _ _ _ _ _ => (g_name (i := 4) S.nd (by rfl) (by first | exact Or.inl rfl | exact Or.inr rfl))) (fun _ _ _ _ _ => ts_nil) (fun _ _ _ _ _ => (bin op_addD (bin op_mulD cint (vv 3)) (vv 4)))) a_nil))))
 (s_one (s_retV (i := 2) (by rfl) (by first | exact Or.inl rfl | exact Or.inr (Or.inl rfl) | exact Or.inr (Or.inr rfl))))))
theorem ok_minutes_of (T : Txt K mg) : OkF P w K mg base (cl K) "minutes_of" 2 ["rules", "job"] f_minutes_of := have S := sc_minutes_of
 okF T.d_minutes_of sc_minutes_of rfl (fun _ _ _ _ _ _ us hl => match us, hl with | [_, _], _ => rfl) fun cdv A outer s H E hr =>
 (s_cons (s_asg (meth (c := 1) (ok_Rules__rule_of T) hr rfl T.c_Rules T.e_Rules__rule_of (vv 0) (a_cons (vv 1) a_nil)) (g_tup rfl (g_cons (g_name (i := 2) S.nd (by rfl) (by first | exact Or.inl rfl | exact Or.inr rfl)) (g_cons (g_name (i := 3) S.nd (by rfl) (by first | exact Or.inl rfl | exact Or.inr rfl)) (g_cons (g_name (i := 4) S.nd (by rfl) (by first | exact Or.inl rfl | exact Or.inr rfl)) (g_cons (g_name (i := 5) S.nd (by rfl) (by first | exact Or.inl rfl | exact Or.inr rfl)) (g_cons (g_name (i := 6) S.nd (by rfl) (by first | exact Or.inl rfl | exact Or.inr rfl)) (g_cons (g_name (i := 7) S.nd (by rfl) (by first | exact Or.inl rfl | exact Or.inr rfl)) g_nil))))))))
 (s_one (s_ret (callF (ok_by_hours T) hr (a_cons (vv 4) (a_cons (vv 3) a_nil))))))
theorem ok_fits_time (T : Txt K mg) : OkF P w K mg base (cl K) "fits_time" 5 ["rules", "job", "time"] f_fits_time := have S := sc_fits_time
 okF T.d_fits_time sc_fits_time rfl (fun _ _ _ _ _ _ us hl => match us, hl with | [_, _, _], _ => rfl) fun cdv A outer s H E hr =>
 (s_cons (s_if (t_truth (callF (ok_is_each T) hr (a_cons (vv 0) (a_cons (vv 1) a_nil))) (fun _ => rfl))
 (s_cons (s_asg (meth (c := 1) (ok_Rules__rule_of T) hr rfl T.c_Rules T.e_Rules__rule_of (vv 0) (a_cons (vv 1) a_nil)) (g_tup rfl (g_cons (g_name (i := 3) S.nd (by rfl) (by first | exact Or.inl rfl | exact Or.inr rfl)) (g_cons (g_name (i := 4) S.nd (by rfl) (by first | exact Or.inl rfl | exact Or.inr rfl)) (g_cons (g_name (i := 5) S.nd (by rfl) (by first | exact Or.inl rfl | exact Or.inr rfl)) g_nil)))))
 (s_one (s_ret (v_and (cmp op_geD (vv 2) (vv 5) (nomark _)) (v_one (cmp (op_eqM hr) (bin op_modD (bin op_subD (vv 2) (vv 5)) (vv 4)) cint (nomark _)))))))
 s_nil)
 (s_one (s_ret (v_and (cmp (op_inD hr) (bin op_modD (vv 2) (globI T.i_MINUTES)) (callF (ok_minutes_of T) hr (a_cons (vv 0) (a_cons (vv 1) a_nil))) (by rfl)) (v_one (callF (ok_fits_day T) hr (a_cons (vv 0) (a_cons (vv 1) (a_cons (bin op_fdivD (vv 2) (globI T.i_MINUTES)) a_nil)))))))))
theorem ok_is_run (T : Txt K mg) : OkF P w K mg base (cl K) "is_run" 6 ["rules", "job", "time"] f_is_run := have S := sc_is_run
 okF T.d_is_run sc_is_run rfl (fun _ _ _ _ _ _ us hl => match us, hl with | [_, _, _], _ => rfl) fun cdv A outer s H E hr =>
 (s_cons (s_expr (callF (ok_check_job T) hr (a_cons (vv 0) (a_cons (vv 1) a_nil))))
 (s_cons (s_expr (callF (ok_check_time T) hr (a_cons (vv 2) a_nil)))
 (s_one (s_ret (callF (ok_fits_time T) hr (a_cons (vv 0) (a_cons (vv 1) (a_cons (vv 2) a_nil))))))))
theorem ok_check_two (T : Txt K mg) : OkF P w K mg base (cl K) "check_two" 4 ["rules", "one", "other"] f_check_two := have S := sc_check_two
 okF T.d_check_two sc_check_two rfl (fun _ _ _ _ _ _ us hl => match us, hl with | [_, _, _], _ => rfl) fun cdv A outer s H E hr =>
 (s_cons (s_expr (callF (ok_check_job T) hr (a_cons (vv 0) (a_cons (vv 1) a_nil))))
 (s_one (s_expr (callF (ok_check_job T) hr (a_cons (vv 0) (a_cons (vv 2) a_nil))))))
theorem ok_why_apart (T : Txt K mg) : OkF P w K mg base (cl K) "why_apart" 3 ["rules", "one", "other"] f_why_apart := have S := sc_why_apart
 okF T.d_why_apart sc_why_apart rfl (fun _ _ _ _ _ _ us hl => match us, hl with | [_, _, _], _ => rfl) fun cdv A outer s H E hr =>
 (s_cons (s_set (i := 3) S.nd (by rfl) (by first | exact Or.inl rfl | exact Or.inr rfl) (comp rfl S.nd (i_seq (tupd (a_cons (vv 1) (a_cons (vv 2) a_nil)))) (own := [("job", 8)]) (blkOk_by (by kernel_rfl)) (by decide) (fun _ _ _ _ _ => (g_name (i := 8) S.nd (by rfl) (by first | exact Or.inl rfl | exact Or.inr rfl))) (fun _ _ _ _ _ => (ts_one (t_truth (callF (ok_is_each T) hr (a_cons (vv 0) (a_cons (vv 8) a_nil))) (fun _ => rfl)))) (fun _ _ _ _ _ => (meth (c := 1) (ok_Rules__rule_of T) hr rfl T.c_Rules T.e_Rules__rule_of (vv 0) (a_cons (vv 8) a_nil)))))
 (s_cons (s_if (t_cmp (op_eqM hr) (callB c_lenD (by rfl) T.n_len bt_len (a_cons (vv 3) a_nil)) cint (nomark _))
 (s_cons (s_set (i := 6) S.nd (by rfl) (by first | exact Or.inl rfl | exact Or.inr rfl) (callF (ok_common T) hr (a_cons (ix (ix (vv 3) cint (fun _ _ => rfl)) cint (fun _ _ => rfl)) (a_cons (ix (ix (vv 3) cint (fun _ _ => rfl)) cint (fun _ _ => rfl)) a_nil))))
 (s_one (s_ret (ifx (t_cmp (op_eqM hr) (bin op_modD (bin op_subD (ix (ix (vv 3) cint (fun _ _ => rfl)) cint (fun _ _ => rfl)) (ix (ix (vv 3) cint (fun _ _ => rfl)) cint (fun _ _ => rfl))) (vv 6)) cint (nomark _)) (globS T.i_LATE_meets) (globS T.i_RESTS)))))
 s_nil)
 (s_cons (s_setC (i := 4) rfl S.nd (by rfl) (by rfl) (by rfl) (i_seq (tupd (a_cons (vv 1) (a_cons (vv 2) a_nil)))) (own := [("job", 8)]) (blkOk_by (by kernel_rfl)) (by decide) (fun _ _ _ _ _ => (g_name (i := 8) S.nd (by rfl) (by first | exact Or.inl rfl | exact Or.inr rfl))) (fun _ _ _ _ _ => (ts_one (t_not (t_truth (callF (ok_is_each T) hr (a_cons (vv 0) (a_cons (vv 8) a_nil))) (fun _ => rfl))))) (fun _ _ _ _ _ => (vv 8)))
 (s_cons (s_if (t_cmp (op_eqM hr) (callB c_lenD (by rfl) T.n_len bt_len (a_cons (vv 3) a_nil)) cint (nomark _))
 (s_cons (s_set (i := 6) S.nd (by rfl) (by first | exact Or.inl rfl | exact Or.inr rfl) (callF (ok_common T) hr (a_cons (ix (ix (vv 3) cint (fun _ _ => rfl)) cint (fun _ _ => rfl)) (a_cons (globI T.i_MINUTES) a_nil))))
 (s_cons (s_setC (i := 7) rfl S.nd (by rfl) (by rfl) (by rfl) (i_seq (callF (ok_minutes_of T) hr (a_cons (vv 0) (a_cons (ix (vv 4) cint (fun _ _ => rfl)) a_nil)))) (own := [("minute", 9)]) (blkOk_by (by kernel_rfl)) (by decide) (fun _ _ _ _ _ => (g_name (i := 9) S.nd (by rfl) (by first | exact Or.inl rfl | exact Or.inr rfl))) (fun _ _ _ _ _ => (ts_one (t_cmp (op_eqM hr) (bin op_modD (bin op_subD (vv 9) (ix (ix (vv 3) cint (fun _ _ => rfl)) cint (fun _ _ => rfl))) (vv 6)) cint (nomark _)))) (fun _ _ _ _ _ => (vv 9)))
 (s_one (s_ret (ifx (t_cmp (op_eqM hr) (vv 7) (lstd a_nil) (nomark _)) (globS T.i_RESTS) (globS T.i_LATE_meets))))))
 s_nil)
 (s_cons (s_setC (i := 5) rfl S.nd (by rfl) (by rfl) (by rfl) (i_seq (callF (ok_minutes_of T) hr (a_cons (vv 0) (a_cons (vv 1) a_nil)))) (own := [("minute", 9)]) (blkOk_by (by kernel_rfl)) (by decide) (fun _ _ _ _ _ => (g_name (i := 9) S.nd (by rfl) (by first | exact Or.inl rfl | exact Or.inr rfl))) (fun _ _ _ _ _ => (ts_one (t_cmp (op_inD hr) (vv 9) (callF (ok_minutes_of T) hr (a_cons (vv 0) (a_cons (vv 2) a_nil))) (by rfl)))) (fun _ _ _ _ _ => (vv 9)))
 (s_one (s_ret (ifx (t_cmp (op_eqM hr) (vv 5) (lstd a_nil) (nomark _)) (globS T.i_MINUTE_WORD) (globS T.i_DAY_WORD)))))))))
theorem ok_meet (T : Txt K mg) : OkF P w K mg base (cl K) "meet" 6 ["rules", "one", "other"] f_meet := have S := sc_meet
 okF T.d_meet sc_meet rfl (fun _ _ _ _ _ _ us hl => match us, hl with | [_, _, _], _ => rfl) fun cdv A outer s H E hr =>
 (s_cons (s_expr (callF (ok_check_two T) hr (a_cons (vv 0) (a_cons (vv 1) (a_cons (vv 2) a_nil)))))
 (s_cons (s_set (i := 3) S.nd (by rfl) (by first | exact Or.inl rfl | exact Or.inr rfl) (meth (c := 2) (ok_Meeting__first T) hr rfl T.c_Meeting T.e_Meeting__first (make (c := 2) (ok_Meeting____init__ T) hr rfl T.k_Meeting T.g_Meeting (a_cons (vv 0) (a_cons (tupd (a_cons (vv 1) (a_cons (vv 2) a_nil))) a_nil))) (a_cons cint a_nil)))
 (s_one (s_ret (ifx (t_cmp op_isND (vv 3) cnon (nomark _)) (tupd (a_cons (globS T.i_APART) (a_cons (callF (ok_why_apart T) hr (a_cons (vv 0) (a_cons (vv 1) (a_cons (vv 2) a_nil)))) a_nil))) (tupd (a_cons (globS T.i_MEET) (a_cons (vv 3) a_nil))))))))
theorem ok_check_each (T : Txt K mg) : OkF P w K mg base (cl K) "check_each" 3 ["rules", "job"] f_check_each := have S := sc_check_each
 okF T.d_check_each sc_check_each rfl (fun _ _ _ _ _ _ us hl => match us, hl with | [_, _], _ => rfl) fun cdv A outer s H E hr =>
 (s_one (s_if (t_not (t_truth (callF (ok_is_each T) hr (a_cons (vv 0) (a_cons (vv 1) a_nil))) (fun _ => rfl)))
 (s_one s_never)
 s_nil))
theorem ok_check_two_each (T : Txt K mg) : OkF P w K mg base (cl K) "check_two_each" 4 ["rules", "one", "other"] f_check_two_each := have S := sc_check_two_each
 okF T.d_check_two_each sc_check_two_each rfl (fun _ _ _ _ _ _ us hl => match us, hl with | [_, _, _], _ => rfl) fun cdv A outer s H E hr =>
 (s_cons (s_expr (callF (ok_check_job T) hr (a_cons (vv 0) (a_cons (vv 1) a_nil))))
 (s_cons (s_expr (callF (ok_check_job T) hr (a_cons (vv 0) (a_cons (vv 2) a_nil))))
 (s_cons (s_expr (callF (ok_check_each T) hr (a_cons (vv 0) (a_cons (vv 1) a_nil))))
 (s_one (s_expr (callF (ok_check_each T) hr (a_cons (vv 0) (a_cons (vv 2) a_nil))))))))
theorem ok_least_apart (T : Txt K mg) : OkF P w K mg base (cl K) "least_apart" 2 ["here", "there"] f_least_apart := have S := sc_least_apart
 okF T.d_least_apart sc_least_apart rfl (fun _ _ _ _ _ _ us hl => match us, hl with | [_, _], _ => rfl) fun cdv A outer s H E hr =>
 (s_cons (s_set (i := 2) S.nd (by rfl) (by first | exact Or.inl rfl | exact Or.inr rfl) (callF (ok_common T) hr (a_cons (ix (vv 0) cint (fun _ _ => rfl)) (a_cons (ix (vv 1) cint (fun _ _ => rfl)) a_nil))))
 (s_cons (s_set (i := 3) S.nd (by rfl) (by first | exact Or.inl rfl | exact Or.inr rfl) (bin op_modD (bin op_subD (ix (vv 1) cint (fun _ _ => rfl)) (ix (vv 0) cint (fun _ _ => rfl))) (vv 2)))
 (s_one (s_ret (ifx (t_cmp op_leD (bin op_mulD cint (vv 3)) (vv 2) (nomark _)) (tupd (a_cons (vv 3) (a_cons (vv 3) a_nil))) (tupd (a_cons (bin op_subD (vv 2) (vv 3)) (a_cons (bin op_subD (vv 3) (vv 2)) a_nil))))))))
theorem ok_nearest (T : Txt K mg) : OkF P w K mg base (cl K) "nearest" 5 ["rules", "one", "other"] f_nearest := have S := sc_nearest
 okF T.d_nearest sc_nearest rfl (fun _ _ _ _ _ _ us hl => match us, hl with | [_, _, _], _ => rfl) fun cdv A outer s H E hr =>
 (s_cons (s_expr (callF (ok_check_two_each T) hr (a_cons (vv 0) (a_cons (vv 1) (a_cons (vv 2) a_nil)))))
 (s_cons (s_par2 (i := 4) (j := 5) (k1 := .f) (k2 := .f) rfl S.nd (by rfl) (by rfl) (by decide) (by rfl) (by rfl) (a_cons (meth (c := 1) (ok_Rules__rule_of T) hr rfl T.c_Rules T.e_Rules__rule_of (vv 0) (a_cons (vv 1) a_nil)) (a_cons (meth (c := 1) (ok_Rules__rule_of T) hr rfl T.c_Rules T.e_Rules__rule_of (vv 0) (a_cons (vv 2) a_nil)) a_nil)) (by rfl))
 (s_cons (s_asg (callF (ok_least_apart T) hr (a_cons (vv 4) (a_cons (vv 5) a_nil))) (g_tup rfl (g_cons (g_name (i := 6) S.nd (by rfl) (by first | exact Or.inl rfl | exact Or.inr rfl)) (g_cons (g_name (i := 7) S.nd (by rfl) (by first | exact Or.inl rfl | exact Or.inr rfl)) g_nil))))
 (s_cons (s_set (i := 3) S.nd (by rfl) (by first | exact Or.inl rfl | exact Or.inr rfl) (ix (callF (ok_put_together T) hr (a_cons (tupd (a_cons (ix (vv 4) cint (fun _ _ => rfl)) (a_cons (bin op_modD (ix (vv 4) cint (fun _ _ => rfl)) (ix (vv 4) cint (fun _ _ => rfl))) a_nil))) (a_cons (tupd (a_cons (ix (vv 5) cint (fun _ _ => rfl)) (a_cons (bin op_modD (bin op_subD (ix (vv 5) cint (fun _ _ => rfl)) (vv 7)) (ix (vv 5) cint (fun _ _ => rfl))) a_nil))) a_nil))) cint (fun _ _ => rfl)))
 (s_one (s_ret (tupd (a_cons (vv 6) (a_cons (vv 3) (a_cons (bin op_addD (vv 3) (vv 7)) a_nil))))))))))
theorem ok_fitting_in (T : Txt K mg) : OkF P w K mg base (cl K) "fitting_in" 3 ["rules", "job", "year", "month", "begin"] f_fitting_in := have S := sc_fitting_in
 okF T.d_fitting_in sc_fitting_in rfl (fun _ _ _ _ _ _ us hl => match us, hl with | [_, _, _, _, _], _ => rfl) fun cdv A outer s H E hr =>
 (s_cons (s_if (t_cmp (op_ninD hr) (vv 3) (ix (meth (c := 1) (ok_Rules__rule_of T) hr rfl T.c_Rules T.e_Rules__rule_of (vv 0) (a_cons (vv 1) a_nil)) cint (fun _ _ => rfl)) (by rfl))
 (s_one (s_ret (lstd a_nil)))
 s_nil)
 (s_cons (s_set (i := 5) S.nd (by rfl) (by first | exact Or.inl rfl | exact Or.inr rfl) (callF (ok_days_in T) hr (a_cons (vv 2) (a_cons (vv 3) a_nil))))
 (s_one (s_ret (comp rfl S.nd (i_range1 (by rfl) T.n_range (a_cons (vv 5) a_nil)) (own := [("at", 6)]) (blkOk_by (by kernel_rfl)) (by decide) (fun _ _ _ _ _ => (g_name (i := 6) S.nd (by rfl) (by first | exact Or.inl rfl | exact Or.inr rfl))) (fun _ _ _ _ _ => (ts_one (t_truth (callF (ok_fits_in T) hr (a_cons (vv 0) (a_cons (vv 1) (a_cons (vv 3) (a_cons (bin op_addD (vv 6) cint) (a_cons (callF (ok_weekday_by T) hr (a_cons (bin op_addD (vv 4) (vv 6)) a_nil)) a_nil)))))) (fun _ => rfl)))) (fun _ _ _ _ _ => (bin op_addD (vv 4) (vv 6))))))))
theorem ok_day_on (T : Txt K mg) : OkF P w K mg base (cl K) "day_on" 4 ["rules", "job", "day"] f_day_on := have S := sc_day_on
 okF T.d_day_on sc_day_on rfl (fun _ _ _ _ _ _ us hl => match us, hl with | [_, _, _], _ => rfl) fun cdv A outer s H E hr =>
 (s_cons (s_if (t_cmp op_geD (vv 2) (globI T.i_DAYS) (nomark _))
 (s_one (s_ret cnon))
 s_nil)
 (s_cons (s_asg (callF (ok_date_by T) hr (a_cons (vv 2) a_nil)) (g_tup rfl (g_cons (g_name (i := 4) S.nd (by rfl) (by first | exact Or.inl rfl | exact Or.inr rfl)) (g_cons (g_name (i := 5) S.nd (by rfl) (by first | exact Or.inl rfl | exact Or.inr rfl)) (g_cons (g_name (i := 6) S.nd (by rfl) (by first | exact Or.inl rfl | exact Or.inr rfl)) g_nil)))))
 (s_cons (s_set (i := 3) S.nd (by rfl) (by first | exact Or.inl rfl | exact Or.inr rfl) (bin op_addD (bin op_subD (vv 2) (vv 6)) cint))
 (s_cons (s_while PassesOwn.never (t_cmp op_leD (vv 4) (globI T.i_LAST_YEAR) (nomark _))
 (s_cons (s_setC (i := 7) rfl S.nd (by rfl) (by rfl) (by rfl) (i_seq (callF (ok_fitting_in T) hr (a_cons (vv 0) (a_cons (vv 1) (a_cons (vv 4) (a_cons (vv 5) (a_cons (vv 3) a_nil))))))) (own := [("own", 8)]) (blkOk_by (by kernel_rfl)) (by decide) (fun _ _ _ _ _ => (g_name (i := 8) S.nd (by rfl) (by first | exact Or.inl rfl | exact Or.inr rfl))) (fun _ _ _ _ _ => (ts_one (t_cmp op_geD (vv 8) (vv 2) (nomark _)))) (fun _ _ _ _ _ => (vv 8)))
 (s_cons (s_if (t_cmp (op_neM hr) (vv 7) (lstd a_nil) (nomark _))
 (s_one (s_ret (ix (vv 7) cint (fun _ _ => rfl))))
 s_nil)
 (s_cons (s_set (i := 3) S.nd (by rfl) (by first | exact Or.inl rfl | exact Or.inr rfl) (bin op_addD (vv 3) (callF (ok_days_in T) hr (a_cons (vv 4) (a_cons (vv 5) a_nil)))))
 (s_one (s_par2 (i := 4) (j := 5) (k1 := .f) (k2 := .f) rfl S.nd (by rfl) (by rfl) (by decide) (by rfl) (by rfl) (a_cons (bin op_addD (vv 4) (bin op_fdivD (vv 5) (globI T.i_MONTHS))) (a_cons (bin op_addD (bin op_modD (vv 5) (globI T.i_MONTHS)) cint) a_nil)) (by rfl)))))))
 (s_one (s_ret cnon))))))
theorem ok_next_run (T : Txt K mg) : OkF P w K mg base (cl K) "next_run" 5 ["rules", "job", "time"] f_next_run := have S := sc_next_run
 okF T.d_next_run sc_next_run rfl (fun _ _ _ _ _ _ us hl => match us, hl with | [_, _, _], _ => rfl) fun cdv A outer s H E hr =>
 (s_cons (s_expr (callF (ok_check_job T) hr (a_cons (vv 0) (a_cons (vv 1) a_nil))))
 (s_cons (s_expr (callF (ok_check_time T) hr (a_cons (vv 2) a_nil)))
 (s_cons (s_if (t_truth (callF (ok_is_each T) hr (a_cons (vv 0) (a_cons (vv 1) a_nil))) (fun _ => rfl))
 (s_cons (s_asg (meth (c := 1) (ok_Rules__rule_of T) hr rfl T.c_Rules T.e_Rules__rule_of (vv 0) (a_cons (vv 1) a_nil)) (g_tup rfl (g_cons (g_name (i := 6) S.nd (by rfl) (by first | exact Or.inl rfl | exact Or.inr rfl)) (g_cons (g_name (i := 7) S.nd (by rfl) (by first | exact Or.inl rfl | exact Or.inr rfl)) (g_cons (g_name (i := 8) S.nd (by rfl) (by first | exact Or.inl rfl | exact Or.inr rfl)) g_nil)))))
 (s_cons (s_set (i := 5) S.nd (by rfl) (by first | exact Or.inl rfl | exact Or.inr rfl) (ifx (t_cmp op_leD (vv 2) (vv 8) (nomark _)) (vv 8) (bin op_addD (vv 8) (bin op_mulD (vv 7) (bin op_subD cint (bin op_fdivD (bin op_subD (vv 8) (vv 2)) (vv 7)))))))
 (s_one (s_ret (ifx (t_cmp op_leD (vv 5) (globI T.i_LAST_TIME) (nomark _)) (vv 5) cnon)))))
 s_nil)
 (s_cons (s_if (t_cmp op_notND (callF (ok_told_never T) hr (a_cons (vv 0) (a_cons (vv 1) a_nil))) cnon (nomark _))
 (s_one (s_ret cnon))
 s_nil)
 (s_cons (s_set (i := 3) S.nd (by rfl) (by first | exact Or.inl rfl | exact Or.inr rfl) (callF (ok_minutes_of T) hr (a_cons (vv 0) (a_cons (vv 1) a_nil))))
 (s_cons (s_set (i := 4) S.nd (by rfl) (by first | exact Or.inl rfl | exact Or.inr rfl) (bin op_fdivD (vv 2) (globI T.i_MINUTES)))
 (s_cons (s_if (t_w (t_and (t_truth (callF (ok_fits_day T) hr (a_cons (vv 0) (a_cons (vv 1) (a_cons (vv 4) a_nil)))) (fun _ => rfl)) (t_and1 (t_cmp op_geD (ix (vv 3) (un op_negD cint) (fun _ _ => rfl)) (bin op_modD (vv 2) (globI T.i_MINUTES)) (nomark _)))))
 (s_one (s_ret (bin op_addD (bin op_mulD (vv 4) (globI T.i_MINUTES)) (ix (comp rfl S.nd (i_seq (vv 3)) (own := [("minute", 9)]) (blkOk_by (by kernel_rfl)) (by decide) (fun _ _ _ _ _ => (g_name (i := 9) S.nd (by rfl) (by first | exact Or.inl rfl | exact Or.inr rfl))) (fun _ _ _ _ _ => (ts_one (t_cmp op_geD (vv 9) (bin op_modD (vv 2) (globI T.i_MINUTES)) (nomark _)))) (fun _ _ _ _ _ => (vv 9))) cint (fun _ _ => rfl)))))
 s_nil)
 (s_cons (s_set (i := 4) S.nd (by rfl) (by first | exact Or.inl rfl | exact Or.inr rfl) (callF (ok_day_on T) hr (a_cons (vv 0) (a_cons (vv 1) (a_cons (bin op_addD (vv 4) cint) a_nil)))))
 (s_one (s_ret (ifx (t_cmp op_isND (vv 4) cnon (nomark _)) cnon (bin op_addD (bin op_mulD (vv 4) (globI T.i_MINUTES)) (ix (vv 3) cint (fun _ _ => rfl))))))))))))))
theorem ok_are_rests (T : Txt K mg) : OkF P w K mg base (cl K) "are_rests" 3 ["value"] f_are_rests := have S := sc_are_rests
 okF T.d_are_rests sc_are_rests rfl (fun _ _ _ _ _ _ us hl => match us, hl with | [_], _ => rfl) fun cdv A outer s H E hr =>
 (s_cons (s_if (t_w (t_or (t_not (t_truth (isT (by rfl) T.n_isinstance (by rfl) T.n_tuple bt_tuple (.ty _) (vv 0)) (fun _ => rfl))) (t_or1 (t_not (t_chain op_ltD op_leD cint (callB c_lenD (by rfl) T.n_len bt_len (a_cons (vv 0) a_nil)) (globI T.i_MOST_RESTS))))))
 (s_one (s_ret cbl))
 s_nil)
 (s_cons (s_if (t_not (t_truth (callB (c_all rfl) (by rfl) T.n_all bt_all (a_cons (comp rfl S.nd (i_seq (vv 0)) (own := [("pair", 1)]) (blkOk_by (by kernel_rfl)) (by decide) (fun _ _ _ _ _ => (g_name (i := 1) S.nd (by rfl) (by first | exact Or.inl rfl | exact Or.inr rfl))) (fun _ _ _ _ _ => ts_nil) (fun _ _ _ _ _ => (v_and (isT (by rfl) T.n_isinstance (by rfl) T.n_tuple bt_tuple (.ty _) (vv 1)) (v_one (cmp (op_eqM hr) (callB c_lenD (by rfl) T.n_len bt_len (a_cons (vv 1) a_nil)) cint (nomark _)))))) a_nil)) (fun _ => rfl)))
 (s_one (s_ret cbl))
 s_nil)
 (s_one (s_ret (callB (c_all rfl) (by rfl) T.n_all bt_all (a_cons (comp rfl S.nd (i_seq (vv 0)) (own := [("round_of", 2), ("rest", 3)]) (blkOk_by (by kernel_rfl)) (by decide) (fun _ _ _ _ _ => (g_tup rfl (g_cons (g_name (i := 2) S.nd (by rfl) (by first | exact Or.inl rfl | exact Or.inr rfl)) (g_cons (g_name (i := 3) S.nd (by rfl) (by first | exact Or.inl rfl | exact Or.inr rfl)) g_nil)))) (fun _ _ _ _ _ => ts_nil) (fun _ _ _ _ _ => (v_and (callF (ok_is_between T) hr (a_cons (vv 2) (a_cons cint (a_cons (globI T.i_MOST_ROUND) a_nil)))) (v_one (callF (ok_is_between T) hr (a_cons (vv 3) (a_cons cint (a_cons (globI T.i_MOST_NUMBER) a_nil)))))))) a_nil))))))
theorem ok_solve (T : Txt K mg) : OkF P w K mg base (cl K) "solve" 4 ["rests"] f_solve := have S := sc_solve
 okF T.d_solve sc_solve rfl (fun _ _ _ _ _ _ us hl => match us, hl with | [_], _ => rfl) fun cdv A outer s H E hr =>
 (s_cons (s_if (t_not (t_truth (callF (ok_are_rests T) hr (a_cons (vv 0) a_nil)) (fun _ => rfl)))
 (s_one s_never)
 s_nil)
 (s_cons (s_for (fz := []) PassesOwn.never rfl (i_enum (by rfl) T.n_enumerate (vv 0)) (g_tup rfl (g_cons (g_name (i := 1) S.nd (by rfl) (by first | exact Or.inl rfl | exact Or.inr rfl)) (g_cons (g_name (i := 2) S.nd (by rfl) (by first | exact Or.inl rfl | exact Or.inr rfl)) g_nil)))
 (s_one (s_for (fz := []) PassesOwn.never rfl (i_range2 (by rfl) T.n_range (a_cons (bin op_addD (vv 1) cint) (a_cons (callB c_lenD (by rfl) T.n_len bt_len (a_cons (vv 0) a_nil)) a_nil))) (g_name (i := 3) S.nd (by rfl) (by first | exact Or.inl rfl | exact Or.inr rfl))
 (s_one (s_if (t_cmp op_isND (callF (ok_put_together T) hr (a_cons (vv 2) (a_cons (ix (vv 0) (vv 3) (fun _ _ => rfl)) a_nil))) cnon (nomark _))
 (s_one (s_ret (tupd (a_cons (globS T.i_TWO) (a_cons (vv 1) (a_cons (vv 3) a_nil))))))
 s_nil)))))
 (s_one (s_ret (tupd (a_cons (globS T.i_ALL) (a_star (callF (ok_all_together T) hr (a_cons (vv 0) a_nil)) a_nil)))))))
theorem ok__law_right (T : Txt K mg) : OkF P w K mg base (cl K) "_law_right" 7 ["pot"] f__law_right := have S := sc__law_right
 okF T.d__law_right sc__law_right rfl (fun _ _ _ _ _ _ us hl => match us, hl with | [_], _ => rfl) fun cdv A outer s H E hr =>
 (s_cons (s_set (i := 1) S.nd (by rfl) (by first | exact Or.inl rfl | exact Or.inr rfl) (callF (ok__law_names T) hr (a_cons (vv 0) (a_cons (bin op_addD cint (callF (ok__law_take T) hr (a_cons (vv 0) (a_cons cint a_nil)))) a_nil))))
 (s_cons (s_setC (i := 2) rfl S.nd (by rfl) (by rfl) (by rfl) (i_seq (vv 1)) (own := [("name", 13)]) (blkOk_by (by kernel_rfl)) (by decide) (fun _ _ _ _ _ => (g_name (i := 13) S.nd (by rfl) (by first | exact Or.inl rfl | exact Or.inr rfl))) (fun _ _ _ _ _ => ts_nil) (fun _ _ _ _ _ => (tupd (a_cons (callTy c_intS (by rfl) T.n_int bt_int (a_cons (bin op_addD cint (callF (ok__law_take T) hr (a_cons (vv 0) (a_cons (callF (ok__law_of T) hr (a_cons (vv 0) (a_cons (lstd (a_cons cint (a_cons cint (a_cons cint a_nil)))) a_nil))) a_nil)))) a_nil)) (a_cons (callTy c_intS (by rfl) T.n_int bt_int (a_cons (callF (ok__law_take T) hr (a_cons (vv 0) (a_cons cint a_nil))) a_nil)) a_nil)))))
 (s_cons (s_set (i := 3) S.nd (by rfl) (by first | exact Or.inl rfl | exact Or.inr rfl) (make (c := 1) (ok_Rules____init__ T) hr rfl T.k_Rules T.g_Rules (a_cons (strm mt_joinS PySem.F.slot_str_join PySem.F.type_str_join cstr (a_cons (comp rfl S.nd (i_zip (by rfl) T.n_zip (vv 1) (vv 2)) (own := [("name", 13), ("job", 18)]) (blkOk_by (by kernel_rfl)) (by decide) (fun _ _ _ _ _ => (g_tup rfl (g_cons (g_name (i := 13) S.nd (by rfl) (by first | exact Or.inl rfl | exact Or.inr rfl)) (g_cons (g_name (i := 18) S.nd (by rfl) (by first | exact Or.inl rfl | exact Or.inr rfl)) g_nil)))) (fun _ _ _ _ _ => ts_nil) (fun _ _ _ _ _ => (callF (ok__law_line T) hr (a_cons (vv 13) (a_cons (bin op_addD (tupd (a_cons cstr a_nil)) (vv 18)) a_nil))))) a_nil)) a_nil)))
 (s_cons (s_asg (tupd (a_cons (ix (vv 2) cint (fun _ _ => rfl)) (a_cons (ix (vv 2) cint (fun _ _ => rfl)) a_nil))) (g_tup rfl (g_cons (g_tup rfl (g_cons (g_name (i := 14) S.nd (by rfl) (by first | exact Or.inl rfl | exact Or.inr rfl)) (g_cons (g_name (i := 15) S.nd (by rfl) (by first | exact Or.inl rfl | exact Or.inr rfl)) g_nil))) (g_cons (g_tup rfl (g_cons (g_name (i := 16) S.nd (by rfl) (by first | exact Or.inl rfl | exact Or.inr rfl)) (g_cons (g_name (i := 17) S.nd (by rfl) (by first | exact Or.inl rfl | exact Or.inr rfl)) g_nil))) g_nil))))
 (s_cons (s_par2 (i := 9) (j := 10) (k1 := .f) (k2 := .f) rfl S.nd (by rfl) (by rfl) (by decide) (by rfl) (by rfl) (a_cons (callF (ok_meet T) hr (a_cons (vv 3) (a_cons (ix (vv 1) cint (fun _ _ => rfl)) (a_cons (ix (vv 1) cint (fun _ _ => rfl)) a_nil)))) (a_cons (tupd (a_cons (bin op_modD (vv 15) (vv 14)) (a_cons (bin op_modD (vv 17) (vv 16)) a_nil))) a_nil)) (by rfl))
 (s_cons (s_set (i := 4) S.nd (by rfl) (by first | exact Or.inl rfl | exact Or.inr rfl) (cmp op_isND (callF (ok_clash T) hr (a_cons (tupd (a_cons (tupd (a_cons (vv 14) (a_cons cint a_nil))) (a_cons (tupd (a_cons (vv 16) (a_cons cint a_nil))) a_nil))) (a_cons (vv 10) a_nil))) cnon (nomark _)))
 (s_cons (s_if (t_w (t_or (t_cmp (op_neM hr) (cmp (op_eqM hr) (vv 9) (tupd (a_cons cstr (a_cons cstr a_nil))) (nomark _)) (vv 4) (nomark _)) (t_or1 (t_w (t_and (t_not (t_truth (vv 4) (fun _ => rfl))) (t_and1 (t_cmp (op_neM hr) (ix (vv 9) cint (fun _ _ => rfl)) (callF (ok__law_first T) hr (a_cons (sl (vv 2) part0 (part1 cint)) (a_cons (bin op_addD (bin op_mulD (vv 14) (vv 16)) cint) a_nil))) (nomark _))))))))
 (s_one (s_ret cbl))
 s_nil)
 (s_cons (s_set (i := 5) S.nd (by rfl) (by first | exact Or.inl rfl | exact Or.inr rfl) (ix (callF (ok_nearest T) hr (a_cons (vv 3) (a_cons (ix (vv 1) cint (fun _ _ => rfl)) (a_cons (ix (vv 1) cint (fun _ _ => rfl)) a_nil)))) cint (fun _ _ => rfl)))
 (s_cons (s_if (t_cmp (op_eqM hr) (cmp (op_eqM hr) (vv 5) cint (nomark _)) (vv 4) (nomark _))
 (s_one (s_ret cbl))
 s_nil)
 (s_cons (s_if (t_w (t_and (t_truth (vv 4) (fun _ => rfl)) (t_and1 (t_chain op_ltD op_leD cint (vv 5) (callB (c_min hr rfl) (by rfl) T.n_min bt_min (a_cons (vv 14) (a_cons (vv 16) a_nil)))))))
 (s_one (s_if (t_cmp op_notND (callF (ok_clash T) hr (a_cons (tupd (a_cons (tupd (a_cons (vv 14) (a_cons (vv 5) a_nil))) (a_cons (tupd (a_cons (vv 16) (a_cons (vv 5) a_nil))) a_nil))) (a_cons (vv 10) a_nil))) cnon (nomark _))
 (s_one (s_ret cbl))
 s_nil))
 s_nil)
 (s_cons (s_set (i := 6) S.nd (by rfl) (by first | exact Or.inl rfl | exact Or.inr rfl) (callF (ok_solve T) hr (a_cons (callTy (c_tupleD rfl) (by rfl) T.n_tuple bt_tuple (a_cons (vv 2) a_nil)) a_nil)))
 (s_cons (s_set (i := 7) S.nd (by rfl) (by first | exact Or.inl rfl | exact Or.inr rfl) (callF (ok__law_first T) hr (a_cons (vv 2) (a_cons (bin op_addD cint (bin op_mulD (bin op_mulD (vv 14) (vv 16)) (ifx (t_cmp op_gtD (callB c_lenD (by rfl) T.n_len bt_len (a_cons (vv 2) a_nil)) cint (nomark _)) (ix (ix (vv 2) cint (fun _ _ => rfl)) cint (fun _ _ => rfl)) cint))) a_nil))))
 (s_cons (s_if (t_w (t_or (t_cmp (op_neM hr) (cmp (op_eqM hr) (ix (vv 6) cint (fun _ _ => rfl)) cstr (nomark _)) (cmp op_notND (vv 7) cnon (nomark _)) (nomark _)) (t_or1 (t_w (t_and (t_cmp op_notND (vv 7) cnon (nomark _)) (t_and1 (t_cmp (op_neM hr) (bin op_modD (bin op_subD (vv 7) (ix (vv 6) cint (fun _ _ => rfl))) (ix (vv 6) cint (fun _ _ => rfl))) cint (nomark _))))))))
 (s_one (s_ret cbl))
 s_nil)
 (s_cons (s_if (t_w (t_and (t_cmp op_gtD (callB c_lenD (by rfl) T.n_len bt_len (a_cons (vv 2) a_nil)) cint (nomark _)) (t_and1 (t_cmp (op_eqM hr) (lenSet (by rfl) T.n_len (by rfl) T.n_set (vv 1)) (callB c_lenD (by rfl) T.n_len bt_len (a_cons (vv 1) a_nil)) (nomark _)))))
 (s_cons (s_set (i := 11) S.nd (by rfl) (by first | exact Or.inl rfl | exact Or.inr rfl) (callF (ok_all_meet T) hr (a_cons (vv 3) (a_cons (callTy (c_tupleD rfl) (by rfl) T.n_tuple bt_tuple (a_cons (vv 1) a_nil)) a_nil))))
 (s_cons (s_if (t_w (t_or (t_cmp (op_neM hr) (cmp (op_eqM hr) (ix (vv 11) cint (fun _ _ => rfl)) cstr (nomark _)) (cmp op_notND (vv 7) cnon (nomark _)) (nomark _)) (t_or1 (t_w (t_and (t_cmp op_notND (vv 7) cnon (nomark _)) (t_and1 (t_cmp (op_neM hr) (vv 11) (tupd (a_cons cstr (a_cons (vv 7) a_nil))) (nomark _))))))))
 (s_one (s_ret cbl))
 s_nil)
 (s_cons (s_set (i := 12) S.nd (by rfl) (by first | exact Or.inl rfl | exact Or.inr rfl) (ifx (t_cmp op_notND (vv 7) cnon (nomark _)) (vv 1) (lstd a_nil)))
 (s_one (s_if (t_not (t_truth (callB (c_all rfl) (by rfl) T.n_all bt_all (a_cons (comp rfl S.nd (i_seq (vv 12)) (own := [("name", 13)]) (blkOk_by (by kernel_rfl)) (by decide) (fun _ _ _ _ _ => (g_name (i := 13) S.nd (by rfl) (by first | exact Or.inl rfl | exact Or.inr rfl))) (fun _ _ _ _ _ => ts_nil) (fun _ _ _ _ _ => (v_and (callF (ok_is_run T) hr (a_cons (vv 3) (a_cons (vv 13) (a_cons (vv 7) a_nil)))) (v_one (cmp (op_eqM hr) (callF (ok_next_run T) hr (a_cons (vv 3) (a_cons (vv 13) (a_cons (vv 7) a_nil)))) (vv 7) (nomark _)))))) a_nil)) (fun _ => rfl)))
 (s_one (s_ret cbl))
 s_nil)))))
 s_nil)
 (s_cons (s_set (i := 8) S.nd (by rfl) (by first | exact Or.inl rfl | exact Or.inr rfl) (callF (ok_goes_down T) hr (a_cons (vv 3) (a_cons (ix (vv 1) cint (fun _ _ => rfl)) (a_cons (vv 17) (a_cons (vv 16) (a_cons cint a_nil)))))))
 (s_cons (s_if (t_cmp (op_neM hr) (cmp (op_eqM hr) (ix (vv 8) cint (fun _ _ => rfl)) cstr (nomark _)) (vv 4) (nomark _))
 (s_one (s_ret cbl))
 s_nil)
 (s_one (s_ret (v_or (cmp (op_eqM hr) (ix (vv 8) cint (fun _ _ => rfl)) cstr (nomark _)) (v_one (cmp (op_eqM hr) (ix (vv 8) cint (fun _ _ => rfl)) (callF (ok__law_first T) hr (a_cons (lstd (a_cons (ix (vv 2) cint (fun _ _ => rfl)) (a_cons (ix (vv 2) cint (fun _ _ => rfl)) a_nil))) (a_cons (bin op_addD (bin op_mulD (vv 14) (vv 16)) cint) a_nil))) (nomark _))))))))))))))))))))))
theorem ok_law (T : Txt K mg) : OkF P w K mg base (cl K) "law" 8 ["script"] f_law := have S := sc_law
 okF T.d_law sc_law rfl (fun _ _ _ _ _ _ us hl => match us, hl with | [_], _ => rfl) fun cdv A outer s H E hr =>
 (s_cons (s_for (fz := []) PassesOwn.never rfl (i_seq (callF (ok__law_cells T) hr (a_cons (vv 0) (a_cons cint a_nil)))) (g_name (i := 1) S.nd (by rfl) (by first | exact Or.inl rfl | exact Or.inr rfl))
 (s_cons (s_setI (i := 2) S.nd (by rfl) (by first | exact Or.inl rfl | exact Or.inr rfl) (callF (ok__law_pot T) hr (a_cons (vv 0) (a_cons (vv 1) a_nil))))
 (s_one (s_if (t_not (t_truth (callB (c_all rfl) (by rfl) T.n_all bt_all (a_cons (comp rfl S.nd (i_range1 (by rfl) T.n_range (a_cons cint a_nil)) (own := [("lap", 3)]) (blkOk_by (by kernel_rfl)) (by decide) (fun _ _ _ _ _ => (g_name (i := 3) S.nd (by rfl) (by first | exact Or.inl rfl | exact Or.inr rfl))) (fun _ _ _ _ _ => ts_nil) (fun _ _ _ _ _ => (callF (ok__law_right T) hr (a_cons (vv 2) a_nil)))) a_nil)) (fun _ => rfl)))
 (s_one (s_ret cbl))
 s_nil))))
 (s_one (s_ret cbl)))
end
theorem txt {K : PySem.W.Frag} {h : Heap} {mg : Str → Option Value} (X : K.In h) (G : h.Ns mainGlobals mg) (c : SaysM fa fn K) : Txt K mg where
  d__law_cells := ⟨c.def_ 0 rfl, He.glo_ok X G (c.fact 0 rfl)⟩
  d__law_pot := ⟨c.def_ 1 rfl, He.glo_ok X G (c.fact 1 rfl)⟩
  m_RuleReader____init__ := c.def_ 2 rfl
  m_RuleReader__found := c.def_ 3 rfl
  d_read_integer := ⟨c.def_ 4 rfl, He.glo_ok X G (c.fact 2 rfl)⟩
  d_read_number := ⟨c.def_ 5 rfl, He.glo_ok X G (c.fact 3 rfl)⟩
  m_RuleReader__takes_each := c.def_ 6 rfl
  m_RuleReader__takes_fields := c.def_ 7 rfl
  m_RuleReader__takes_long := c.def_ 8 rfl
  d_is_name := ⟨c.def_ 9 rfl, He.glo_ok X G (c.fact 4 rfl)⟩
  m_RuleReader__takes := c.def_ 10 rfl
  m_Rules____init__ := c.def_ 11 rfl
  d__law_first := ⟨c.def_ 12 rfl, He.glo_ok X G (c.fact 5 rfl)⟩
  d__law_field := ⟨c.def_ 13 rfl, He.glo_ok X G (c.fact 6 rfl)⟩
  d__law_line := ⟨c.def_ 14 rfl, He.glo_ok X G (c.fact 7 rfl)⟩
  d__law_take := ⟨c.def_ 15 rfl, He.glo_ok X G (c.fact 8 rfl)⟩
  d__law_some := ⟨c.def_ 16 rfl, He.glo_ok X G (c.fact 9 rfl)⟩
  d__law_names := ⟨c.def_ 17 rfl, He.glo_ok X G (c.fact 10 rfl)⟩
  d__law_of := ⟨c.def_ 18 rfl, He.glo_ok X G (c.fact 11 rfl)⟩
  m_Meeting__by_rest := c.def_ 19 rfl
  m_Rules__rule_of := c.def_ 20 rfl
  d_common := ⟨c.def_ 21 rfl, He.glo_ok X G (c.fact 12 rfl)⟩
  d_inverse := ⟨c.def_ 22 rfl, He.glo_ok X G (c.fact 13 rfl)⟩
  d_put_together := ⟨c.def_ 23 rfl, He.glo_ok X G (c.fact 14 rfl)⟩
  d_all_together := ⟨c.def_ 24 rfl, He.glo_ok X G (c.fact 15 rfl)⟩
  d_is_each := ⟨c.def_ 25 rfl, He.glo_ok X G (c.fact 16 rfl)⟩
  m_Rules__stars_of := c.def_ 26 rfl
  d_lengths_of := ⟨c.def_ 27 rfl, He.glo_ok X G (c.fact 17 rfl)⟩
  d_told_never := ⟨c.def_ 28 rfl, He.glo_ok X G (c.fact 18 rfl)⟩
  m_Meeting____init__ := c.def_ 29 rfl
  d_is_long_year := ⟨c.def_ 30 rfl, He.glo_ok X G (c.fact 19 rfl)⟩
  d_days_in := ⟨c.def_ 31 rfl, He.glo_ok X G (c.fact 20 rfl)⟩
  d_fits_in := ⟨c.def_ 32 rfl, He.glo_ok X G (c.fact 21 rfl)⟩
  d_weekday_by := ⟨c.def_ 33 rfl, He.glo_ok X G (c.fact 22 rfl)⟩
  m_Meeting__days_from := c.def_ 34 rfl
  m_Meeting__minutes_on := c.def_ 35 rfl
  d_days_ahead := ⟨c.def_ 36 rfl, He.glo_ok X G (c.fact 23 rfl)⟩
  d_date_by := ⟨c.def_ 37 rfl, He.glo_ok X G (c.fact 24 rfl)⟩
  m_Meeting__first := c.def_ 38 rfl
  m_Rules__jobs := c.def_ 39 rfl
  d_are_unlike := ⟨c.def_ 40 rfl, He.glo_ok X G (c.fact 25 rfl)⟩
  d_check_rules := ⟨c.def_ 41 rfl, He.glo_ok X G (c.fact 26 rfl)⟩
  d_all_meet := ⟨c.def_ 42 rfl, He.glo_ok X G (c.fact 27 rfl)⟩
  d_is_integer := ⟨c.def_ 43 rfl, He.glo_ok X G (c.fact 28 rfl)⟩
  d_is_between := ⟨c.def_ 44 rfl, He.glo_ok X G (c.fact 29 rfl)⟩
  d_are_starts := ⟨c.def_ 45 rfl, He.glo_ok X G (c.fact 30 rfl)⟩
  d_is_piece := ⟨c.def_ 46 rfl, He.glo_ok X G (c.fact 31 rfl)⟩
  d_check_pieces := ⟨c.def_ 47 rfl, He.glo_ok X G (c.fact 32 rfl)⟩
  d_do_clash := ⟨c.def_ 48 rfl, He.glo_ok X G (c.fact 33 rfl)⟩
  d_is_at_work := ⟨c.def_ 49 rfl, He.glo_ok X G (c.fact 34 rfl)⟩
  d_first_minute := ⟨c.def_ 50 rfl, He.glo_ok X G (c.fact 35 rfl)⟩
  d_clash := ⟨c.def_ 51 rfl, He.glo_ok X G (c.fact 36 rfl)⟩
  d_check_job := ⟨c.def_ 52 rfl, He.glo_ok X G (c.fact 37 rfl)⟩
  d_is_time := ⟨c.def_ 53 rfl, He.glo_ok X G (c.fact 38 rfl)⟩
  d_check_time := ⟨c.def_ 54 rfl, He.glo_ok X G (c.fact 39 rfl)⟩
  d_first_missed := ⟨c.def_ 55 rfl, He.glo_ok X G (c.fact 40 rfl)⟩
  d_goes_down := ⟨c.def_ 56 rfl, He.glo_ok X G (c.fact 41 rfl)⟩
  d_fits_day := ⟨c.def_ 57 rfl, He.glo_ok X G (c.fact 42 rfl)⟩
  d_by_hours := ⟨c.def_ 58 rfl, He.glo_ok X G (c.fact 43 rfl)⟩
  d_minutes_of := ⟨c.def_ 59 rfl, He.glo_ok X G (c.fact 44 rfl)⟩
  d_fits_time := ⟨c.def_ 60 rfl, He.glo_ok X G (c.fact 45 rfl)⟩
  d_is_run := ⟨c.def_ 61 rfl, He.glo_ok X G (c.fact 46 rfl)⟩
  d_check_two := ⟨c.def_ 62 rfl, He.glo_ok X G (c.fact 47 rfl)⟩
  d_why_apart := ⟨c.def_ 63 rfl, He.glo_ok X G (c.fact 48 rfl)⟩
  d_meet := ⟨c.def_ 64 rfl, He.glo_ok X G (c.fact 49 rfl)⟩
  d_check_each := ⟨c.def_ 65 rfl, He.glo_ok X G (c.fact 50 rfl)⟩
  d_check_two_each := ⟨c.def_ 66 rfl, He.glo_ok X G (c.fact 51 rfl)⟩
  d_least_apart := ⟨c.def_ 67 rfl, He.glo_ok X G (c.fact 52 rfl)⟩
  d_nearest := ⟨c.def_ 68 rfl, He.glo_ok X G (c.fact 53 rfl)⟩
  d_fitting_in := ⟨c.def_ 69 rfl, He.glo_ok X G (c.fact 54 rfl)⟩
  d_day_on := ⟨c.def_ 70 rfl, He.glo_ok X G (c.fact 55 rfl)⟩
  d_next_run := ⟨c.def_ 71 rfl, He.glo_ok X G (c.fact 56 rfl)⟩
  d_are_rests := ⟨c.def_ 72 rfl, He.glo_ok X G (c.fact 57 rfl)⟩
  d_solve := ⟨c.def_ 73 rfl, He.glo_ok X G (c.fact 58 rfl)⟩
  d__law_right := ⟨c.def_ 74 rfl, He.glo_ok X G (c.fact 59 rfl)⟩
  d_law := ⟨c.def_ 75 rfl, He.glo_ok X G (c.fact 60 rfl)⟩
  n_range := He.free_ok X G (c.fact 61 rfl)
  n_all := He.free_ok X G (c.fact 62 rfl)
  n_len := He.free_ok X G (c.fact 63 rfl)
  n_min := He.free_ok X G (c.fact 64 rfl)
  n_max := He.free_ok X G (c.fact 65 rfl)
  n_list := He.free_ok X G (c.fact 66 rfl)
  n_sum := He.free_ok X G (c.fact 67 rfl)
  n_abs := He.free_ok X G (c.fact 68 rfl)
  n_int := He.free_ok X G (c.fact 69 rfl)
  n_zip := He.free_ok X G (c.fact 70 rfl)
  n_tuple := He.free_ok X G (c.fact 71 rfl)
  n_set := He.free_ok X G (c.fact 72 rfl)
  n_isinstance := He.free_ok X G (c.fact 73 rfl)
  n_str := He.free_ok X G (c.fact 74 rfl)
  n_enumerate := He.free_ok X G (c.fact 75 rfl)
  n_bool := He.free_ok X G (c.fact 76 rfl)
  i_TAKES := He.str_ok X G (c.fact 77 rfl)
  i_JOB := He.str_ok X G (c.fact 78 rfl)
  i_MOST_JOBS_reading := He.int_ok X G (c.fact 79 rfl)
  i_EACH := He.str_ok X G (c.fact 80 rfl)
  i_AT := He.str_ok X G (c.fact 81 rfl)
  i_OR := He.str_ok X G (c.fact 82 rfl)
  i_FROM := He.str_ok X G (c.fact 83 rfl)
  i_MOST_EACH_reading := He.int_ok X G (c.fact 84 rfl)
  i_LAST_TIME := He.int_ok X G (c.fact 85 rfl)
  i_FIGURES := He.str_ok X G (c.fact 86 rfl)
  i_STAR := He.str_ok X G (c.fact 87 rfl)
  i_MOST_SIGNS := He.int_ok X G (c.fact 88 rfl)
  i_LETTERS := He.str_ok X G (c.fact 89 rfl)
  i_MOST_JOBS_meets := He.int_ok X G (c.fact 90 rfl)
  i_TWO := He.str_ok X G (c.fact 91 rfl)
  i_LATE_meets := He.str_ok X G (c.fact 92 rfl)
  i_MEET := He.str_ok X G (c.fact 93 rfl)
  i_MINUTES := He.int_ok X G (c.fact 94 rfl)
  i_LAST_YEAR := He.int_ok X G (c.fact 95 rfl)
  i_MONTHS := He.int_ok X G (c.fact 96 rfl)
  i_FIRST_WEEKDAY := He.int_ok X G (c.fact 97 rfl)
  i_FIRST_YEAR := He.int_ok X G (c.fact 98 rfl)
  i_MOST_PIECES := He.int_ok X G (c.fact 99 rfl)
  i_MOST_EVERY := He.int_ok X G (c.fact 100 rfl)
  i_MOST_EACH_missed := He.int_ok X G (c.fact 101 rfl)
  i_NEVER := He.str_ok X G (c.fact 102 rfl)
  i_MISSED := He.str_ok X G (c.fact 103 rfl)
  i_LATE_missed := He.str_ok X G (c.fact 104 rfl)
  i_DAYS := He.int_ok X G (c.fact 105 rfl)
  i_APART := He.str_ok X G (c.fact 106 rfl)
  i_RESTS := He.str_ok X G (c.fact 107 rfl)
  i_MINUTE_WORD := He.str_ok X G (c.fact 108 rfl)
  i_DAY_WORD := He.str_ok X G (c.fact 109 rfl)
  i_ALL := He.str_ok X G (c.fact 110 rfl)
  i_MOST_RESTS := He.int_ok X G (c.fact 111 rfl)
  i_MOST_ROUND := He.int_ok X G (c.fact 112 rfl)
  i_MOST_NUMBER := He.int_ok X G (c.fact 113 rfl)
  t_LENGTHS := He.glo_ok X G (c.fact 114 rfl)
  u_LENGTHS := fun H => by have h := He.tupB_ok (c.fact 115 rfl) H; rwa [List.map_map] at h
  g_RuleReader := He.glo_ok X G (c.fact 116 rfl)
  c_RuleReader := He.cls_ok (c.fact 117 rfl)
  k_RuleReader := He.mkr_ok (c.fact 118 rfl)
  g_Rules := He.glo_ok X G (c.fact 119 rfl)
  c_Rules := He.cls_ok (c.fact 120 rfl)
  k_Rules := He.mkr_ok (c.fact 121 rfl)
  z_Rules := isi_of (c.fact 122 rfl)
  g_Meeting := He.glo_ok X G (c.fact 123 rfl)
  c_Meeting := He.cls_ok (c.fact 124 rfl)
  k_Meeting := He.mkr_ok (c.fact 125 rfl)
  e_RuleReader__takes := He.meth_ok (c.fact 126 rfl)
  e_RuleReader__found := He.meth_ok (c.fact 127 rfl)
  e_RuleReader__takes_long := He.meth_ok (c.fact 128 rfl)
  e_RuleReader__takes_each := He.meth_ok (c.fact 129 rfl)
  e_RuleReader__takes_fields := He.meth_ok (c.fact 130 rfl)
  e_Meeting__first := He.meth_ok (c.fact 131 rfl)
  e_Rules__rule_of := He.meth_ok (c.fact 132 rfl)
  e_Meeting__by_rest := He.meth_ok (c.fact 133 rfl)
  e_Rules__stars_of := He.meth_ok (c.fact 134 rfl)
  e_Meeting__days_from := He.meth_ok (c.fact 135 rfl)
  e_Meeting__minutes_on := He.meth_ok (c.fact 136 rfl)
  p_Rules__jobs := prop_of (c.fact 137 rfl)
  a_own_text := fun z hz => by
    simp only [cl, List.mem_cons, List.not_mem_nil, or_false] at hz
    rcases hz with rfl | rfl | rfl
    · exact ⟨He.cls_ok (c.fact 138 rfl), He.noat_ok (c.fact 139 rfl)⟩
    · exact ⟨He.cls_ok (c.fact 140 rfl), He.noat_ok (c.fact 141 rfl)⟩
    · exact ⟨He.cls_ok (c.fact 142 rfl), He.noat_ok (c.fact 143 rfl)⟩
  a_own_rules := fun z hz => by
    simp only [cl, List.mem_cons, List.not_mem_nil, or_false] at hz
    rcases hz with rfl | rfl | rfl
    · exact ⟨He.cls_ok (c.fact 144 rfl), He.noat_ok (c.fact 145 rfl)⟩
    · exact ⟨He.cls_ok (c.fact 146 rfl), He.noat_ok (c.fact 147 rfl)⟩
    · exact ⟨He.cls_ok (c.fact 148 rfl), He.noat_ok (c.fact 149 rfl)⟩
  a_own_stars := fun z hz => by
    simp only [cl, List.mem_cons, List.not_mem_nil, or_false] at hz
    rcases hz with rfl | rfl | rfl
    · exact ⟨He.cls_ok (c.fact 150 rfl), He.noat_ok (c.fact 151 rfl)⟩
    · exact ⟨He.cls_ok (c.fact 152 rfl), He.noat_ok (c.fact 153 rfl)⟩
    · exact ⟨He.cls_ok (c.fact 154 rfl), He.noat_ok (c.fact 155 rfl)⟩
  a_own_takes := fun z hz => by
    simp only [cl, List.mem_cons, List.not_mem_nil, or_false] at hz
    rcases hz with rfl | rfl | rfl
    · exact ⟨He.cls_ok (c.fact 156 rfl), He.noat_ok (c.fact 157 rfl)⟩
    · exact ⟨He.cls_ok (c.fact 158 rfl), He.noat_ok (c.fact 159 rfl)⟩
    · exact ⟨He.cls_ok (c.fact 160 rfl), He.noat_ok (c.fact 161 rfl)⟩
  a_own_jobs := fun z hz => by
    simp only [cl, List.mem_cons, List.not_mem_nil, or_false] at hz
    rcases hz with rfl | rfl | rfl
    · exact ⟨He.cls_ok (c.fact 162 rfl), He.noat_ok (c.fact 163 rfl)⟩
    · exact ⟨He.cls_ok (c.fact 164 rfl), He.noat_ok (c.fact 165 rfl)⟩
    · exact ⟨He.cls_ok (c.fact 166 rfl), He.noat_ok (c.fact 167 rfl)⟩
  a_own_fields := fun z hz => by
    simp only [cl, List.mem_cons, List.not_mem_nil, or_false] at hz
    rcases hz with rfl | rfl | rfl
    · exact ⟨He.cls_ok (c.fact 168 rfl), He.noat_ok (c.fact 169 rfl)⟩
    · exact ⟨He.cls_ok (c.fact 170 rfl), He.noat_ok (c.fact 171 rfl)⟩
    · exact ⟨He.cls_ok (c.fact 172 rfl), He.noat_ok (c.fact 173 rfl)⟩
  a_own_rest := fun z hz => by
    simp only [cl, List.mem_cons, List.not_mem_nil, or_false] at hz
    rcases hz with rfl | rfl | rfl
    · exact ⟨He.cls_ok (c.fact 174 rfl), He.noat_ok (c.fact 175 rfl)⟩
    · exact ⟨He.cls_ok (c.fact 176 rfl), He.noat_ok (c.fact 177 rfl)⟩
    · exact ⟨He.cls_ok (c.fact 178 rfl), He.noat_ok (c.fact 179 rfl)⟩
  a_own_begin := fun z hz => by
    simp only [cl, List.mem_cons, List.not_mem_nil, or_false] at hz
    rcases hz with rfl | rfl | rfl
    · exact ⟨He.cls_ok (c.fact 180 rfl), He.noat_ok (c.fact 181 rfl)⟩
    · exact ⟨He.cls_ok (c.fact 182 rfl), He.noat_ok (c.fact 183 rfl)⟩
    · exact ⟨He.cls_ok (c.fact 184 rfl), He.noat_ok (c.fact 185 rfl)⟩
  a_own_minutes := fun z hz => by
    simp only [cl, List.mem_cons, List.not_mem_nil, or_false] at hz
    rcases hz with rfl | rfl | rfl
    · exact ⟨He.cls_ok (c.fact 186 rfl), He.noat_ok (c.fact 187 rfl)⟩
    · exact ⟨He.cls_ok (c.fact 188 rfl), He.noat_ok (c.fact 189 rfl)⟩
    · exact ⟨He.cls_ok (c.fact 190 rfl), He.noat_ok (c.fact 191 rfl)⟩
  a_own_is_ever := fun z hz => by
    simp only [cl, List.mem_cons, List.not_mem_nil, or_false] at hz
    rcases hz with rfl | rfl | rfl
    · exact ⟨He.cls_ok (c.fact 192 rfl), He.noat_ok (c.fact 193 rfl)⟩
    · exact ⟨He.cls_ok (c.fact 194 rfl), He.noat_ok (c.fact 195 rfl)⟩
    · exact ⟨He.cls_ok (c.fact 196 rfl), He.noat_ok (c.fact 197 rfl)⟩
  a_own_by_rest := fun z hz => by
    simp only [cl, List.mem_cons, List.not_mem_nil, or_false] at hz
    rcases hz with rfl | rfl | rfl
    · exact ⟨He.cls_ok (c.fact 198 rfl), He.noat_ok (c.fact 199 rfl)⟩
    · exact ⟨He.cls_ok (c.fact 200 rfl), He.noat_ok (c.fact 201 rfl)⟩
    · exact ⟨He.cls_ok (c.fact 202 rfl), He.noat_ok (c.fact 203 rfl)⟩
end K91
/-! Mk: texts, plain; comprehensions, plain. -/
namespace Mi
open PySem hiding Env
open PySem.Spec PyProof.Rows TL
/-- a small text of plain signs -/
def Sm (x : Str) : Prop := x.length ≤ 1000 ∧ ∀ c ∈ tl x, c < 128
theorem Sm.len {x : Str} (h : Sm x) : x.length ≤ 16777216 := Nat.le_trans h.1 (by decide)
theorem Sm.ok {x : Str} (h : Sm x) : PyData.strOk x = true := by
  unfold PyData.strOk
  (rw [← Array.all_toList, List.all_eq_true]); intro c hc
  have := h.2 c hc
  exact decide_eq_true (by omega)
theorem eqv_str (x y : Str) : PyData.eqv (.str x) (.str y) = decide (x = y) := by
  rw [PyData.eqv]
  rfl
section
variable {x y : Str} {s : Sto} {l h : Option Int} {i : Int}
theorem gEq_sm (hx : Sm x) (hy : Sm y) : gEq (.v (.str x)) (.v (.str y)) s = some (.v (.bl (decide (x = y))), s) := by
  rw [gEq_vv (Pd.str hx.ok) (Pd.str hy.ok) (by omega) (by omega), eqv_str]
theorem gNe_sm (hx : Sm x) (hy : Sm y) : gNe (.v (.str x)) (.v (.str y)) s = some (.v (.bl (!decide (x = y))), s) := by
  rw [gNe_vv (Pd.str hx.ok) (Pd.str hy.ok) (by omega) (by omega), eqv_str]
theorem gSl_s (hx : x.length ≤ 16777216) : gSl (.v (.str x)) l h s = some (.v (.str (L2.cutS x l h)), s) := by
  show (if lenOk x.length = true then pure (R.v (.str (L2.cutS x l h))) else M.fail : M R) s = _
  rw [if_pos (show lenOk _ = true from decide_eq_true hx)]
  rfl
theorem gIx_s (hx : x.length ≤ 16777216) : gIx (.v (.str x)) (.v (.int i)) s = M.ofO ((L2.atI (tl x) i).map fun c => .v (.str ⟨#[c]⟩)) s := by
  show M.ofO (if lenOk x.length = true then (L2.atI x.cps.toList i).map fun c => R.v (.str ⟨#[c]⟩) else none) s = _
  rw [if_pos (show lenOk _ = true from decide_eq_true hx)]
theorem tl_cut0 (k : Nat) : tl (L2.cutS x none (some (k : Int))) = (tl x).take k := by
  show ((x.cps.toList.drop (HT.sIx x.length 0 none)).take (HT.sIx x.length x.length (some (k : Int)) - HT.sIx x.length 0 none)) = _
  rw [HT.sIx_none, HT.sIx_nat, List.drop_zero, Nat.sub_zero]
  rw [len_tl x, ← List.take_eq_take_min]
theorem tl_cut1 (k : Nat) : tl (L2.cutS x (some (k : Int)) none) = (tl x).drop k := by
  show ((x.cps.toList.drop (HT.sIx x.length 0 (some (k : Int)))).take (HT.sIx x.length x.length none - HT.sIx x.length 0 (some (k : Int)))) = _
  rw [HT.sIx_none, HT.sIx_nat, len_tl x]
  rw [List.take_of_length_le (by rw [List.length_drop]; exact Nat.le_refl _)]
  by_cases hk : k ≤ (tl x).length
  · rw [Nat.min_eq_left hk]
  · rw [Nat.min_eq_right (by omega), List.drop_eq_nil_of_le (Nat.le_refl _), List.drop_eq_nil_of_le (by omega)]
end
@[simp] theorem gSl_bl {ds : List D} {l h : Option Int} {s : Sto} : gSl (.b (.lst ds)) l h s = some (.l (.lst (cutD ds l h)), s) := Eq.trans rfl rfl
@[simp] theorem gSl_ol {ds : List D} {l h : Option Int} {s : Sto} : gSl (.o (.lst ds)) l h s = some (.l (.lst (cutD ds l h)), s) := Eq.trans rfl rfl
/-! numbers as texts -/
def numS (n : Nat) : Str := Str.ofString (toString ((n : Nat) : Int))
theorem tl_numS (n : Nat) : tl (numS n) = numL n := tl_num n
theorem numS_len {n k : Nat} (hk : 0 < k) (h : n < 10 ^ k) : (numS n).length ≤ k := by
  rw [len_tl, tl_numS]
  exact numL_len hk h
theorem numS_dig {n c : Nat} (h : c ∈ tl (numS n)) : 48 ≤ c ∧ c ≤ 57 := by
  rw [tl_numS] at h
  have := numL_digits n c h
  omega
theorem numS_sm {n : Nat} (h : n < 1000000000) : Sm (numS n) := by
  refine ⟨Nat.le_trans (numS_len (k := 9) (by decide) (by simpa using h)) (by decide), fun c hc => ?_⟩
  have := numS_dig hc
  omega
theorem numS_inj {m n : Nat} (h : numS m = numS n) : m = n := numL_inj (by rw [← tl_numS, ← tl_numS, h])
theorem log2_small {n : Nat} (h : n < 1000000000) : n.log2 < 1920 := by
  by_cases h0 : n = 0
  · subst h0; decide
  · rw [Nat.log2_lt h0]
    exact Nat.lt_trans h (by decide)
theorem bStr_num {n : Nat} {s : Sto} (h : n < 1000000000) : bStr [.v (.int (n : Int))] s = some (.v (.str (numS n)), s) :=
  bStr_ap (k := (n : Int)) (by rw [Int.natAbs_natCast]; exact log2_small h)
theorem bIntS_num {n : Nat} {s : Sto} (h : n < 1000000000) : bIntS [.v (.str (numS n))] s = some (.v (.int (n : Int)), s) := by
  have hl : (numL n).length ≤ 9 := numL_len (k := 9) (by decide) (by simpa using h)
  exact bIntS_s (int_num (by omega)) (Nat.le_trans (numS_len (k := 9) (by decide) (by simpa using h)) (by decide))
/-! a text, split again -/
theorem split_nl {parts : List Str} (hne : parts ≠ []) (hp : ∀ p ∈ parts, 10 ∉ tl p) : Txt.split (Txt.join "\n" parts) "\n" = parts := split_join (s := 10) (S := []) (by rfl) (by decide +kernel) hne hp
theorem split_sp {parts : List Str} (hne : parts ≠ []) (hp : ∀ p ∈ parts, 32 ∉ tl p) : Txt.split (Txt.join " " parts) " " = parts := split_join (s := 32) (S := []) (by rfl) (by decide +kernel) hne hp
theorem tl_joinT (y : Str) (ps : List Str) : tl (Txt.join y ps) = joinL (tl y) (ps.map tl) := by rw [TL.join_eq, tl_join]
/-! comprehensions -/
section
variable {g : Tg} {t : Env → M Bool} {m : Env → M R} {env : Env} {st : Sto} {ds : List D}
theorem comp_map (F : D → D) (hl : ds.length ≤ 16777216) (h : ∀ d ∈ ds, ∃ e, g d env st = some (e, st) ∧ m e st = some (.v (F d), st)) : compL tr1 g tTrue m env ds [] st = some (ds.map F, st) := by
  rw [comp_pure (fun d => some (F d)) trivial (by simpa using hl), List.nil_append]
  · rw [show (fun d => some (F d)) = some ∘ F from rfl, List.filterMap_eq_map]
  · intro d hd
    obtain ⟨e, h1, h2⟩ := h d hd
    exact ⟨e, h1, .inr ⟨by simp, _, h2, rfl⟩⟩
theorem comp_bool (p : D → Bool) (hl : ds.length ≤ 16777216) (h : ∀ d ∈ ds, ∃ e, g d env st = some (e, st) ∧ m e st = some (.v (.bl (p d)), st)) :
    ∃ es, compL tr1 g tTrue m env ds [] st = some (es, st) ∧ bAll [.l (.lst es)] st = some (.v (.bl (ds.all p)), st) := by
  refine ⟨_, comp_map (fun d => .bl (p d)) hl h, ?_⟩
  have e : ds.map (fun d => D.bl (p d)) = (ds.map p).map D.bl := by rw [List.map_map]; rfl
  rw [e, bAll_l, List.all_map]
  rfl
end
/-! fields, laid -/
section
variable {env : Env} {s s1 : Sto} {i n c : Nat} {d : D} {fs : List (Str × D)} {f : Str} {ma : Env → M R}
theorem fld_put (ha : ma env s = some (.v d, s1)) (h0 : env[i]? = some (some (.v (.obj n)))) (hs : s1[n]? = some (.ins c fs)) (hl : fs.length < 900) : sAsgI (gFldT f (eVar i)) ma env s = some (.nx env, s1.set n (.ins c (putP f d fs))) := by
  simp [ha, h0, setFld_ap hs hl]
theorem fld_tgt (h0 : env[i]? = some (some (.v (.obj n)))) (hs : s[n]? = some (.ins c fs)) (hl : fs.length < 900) : gFldT f (eVar i) d env s = some (env, s.set n (.ins c (putP f d fs))) := by
  simp [h0, setFld_ap hs hl]
theorem putP_len : ∀ fs : List (Str × D), (putP f d fs).length ≤ fs.length + 1
  | [] => by simp [putP]
  | (g, x) :: r => by
    have := putP_len r
    unfold putP
    split <;> simp <;> omega
theorem enumD_inv : ∀ {ds : List D} {k i : Nat} {d : D}, (enumD k ds)[i]? = some d → ∃ x, ds[i]? = some x ∧ d = .tup [.int ((k + i : Nat) : Int), x]
  | [], _, _, _, h => by cases h
  | x :: ds, k, 0, d, h => by
    cases h
    exact ⟨x, rfl, rfl⟩
  | x :: ds, k, i + 1, d, h => by
    obtain ⟨y, hy, e⟩ := enumD_inv (ds := ds) (k := k + 1) (i := i) h
    exact ⟨y, hy, by rw [e, show k + 1 + i = k + (i + 1) by omega]⟩
theorem set_0 (l : Sto) (a b : O) (r : List O) : (l ++ a :: r).set l.length b = l ++ b :: r := by
  induction l with
  | nil => rfl
  | cons x l ih =>
    rw [List.cons_append, List.length_cons, List.set_cons_succ, ih]
    rfl
theorem set_1 (l : Sto) (a b b' : O) (r : List O) : (l ++ a :: b :: r).set (l.length + 1) b' = l ++ a :: b' :: r := by
  have e := set_0 (l ++ [a]) b b' r
  rw [List.append_assoc, List.append_assoc, List.length_append] at e
  exact e
theorem get_0 (l : Sto) (a : O) (r : List O) : (l ++ a :: r)[l.length]? = some a := by
  rw [List.getElem?_append_right (Nat.le_refl _), Nat.sub_self]
  rfl
theorem get_1 (l : Sto) (a b : O) (r : List O) : (l ++ a :: b :: r)[l.length + 1]? = some b := by
  rw [List.getElem?_append_right (by omega), show l.length + 1 - l.length = 1 by omega]
  rfl
end
/-- a join of small texts -/
theorem fJoin_l {ys : List Str} {q : Str} {s : Sto} (h : (ys.map (·.length)).sum + ys.length * q.length ≤ 16777216) : fJoin q [.l (.lst (ys.map .str))] s = some (.v (.str (Txt.join q ys)), s) := fJoin_ap rfl h
end Mi
namespace K91
open Mi
open PySem (Str)
open TL (tl numL)
theorem sm_lit {x : String} (h : (Str.ofString x).length ≤ 1000 ∧ (tl (Str.ofString x)).all (fun c => decide (c < 128)) = true) : Sm (Str.ofString x) :=
  ⟨h.1, fun c hc => of_decide_eq_true (List.all_eq_true.mp h.2 c hc)⟩
theorem read_integer_ev {n : Nat} (h : n < 1000000000) (st : Sto) : f_read_integer [.v (.str (numS n))] st = some (.v (.int n), st) := by
  have hs := numS_sm h
  have hl : (numS n).length ≤ 9 := numS_len (k := 9) (by decide) (by simpa using h)
  have hne : tl (numS n) ≠ [] := by rw [tl_numS]; exact TL.numL_ne n
  have h1 := gSl_s (x := numS n) (s := st) (l := none) (h := some 1) hs.len
  have ht : tl (L2.cutS (numS n) none (some 1)) = (tl (numS n)).take 1 := tl_cut0 1
  have hs2 : Sm (L2.cutS (numS n) none (some 1)) := ⟨by rw [TL.len_tl, ht, List.length_take]; omega, fun c hc => hs.2 c (List.mem_of_mem_take (by rw [← ht]; exact hc))⟩
  have h2 := gEq_sm (y := "-") (s := st) hs2 (sm_lit (by decide +kernel))
  have e2 : L2.cutS (numS n) none (some 1) ≠ "-" := by
    intro e
    rw [e] at ht
    cases q : tl (numS n) with
    | nil => exact hne q
    | cons c r =>
      rw [q] at ht
      have hc : (45 : Nat) = c := by
        have : tl (Str.ofString "-") = [45] := by decide +kernel
        rw [this] at ht
        simpa using ht
      have := numS_dig (n := n) (c := c) (by rw [q]; simp)
      omega
  rw [decide_eq_false e2] at h2
  have h3 := gEq_sm (y := "") (s := st) hs (sm_lit (by decide +kernel))
  have e3 : numS n ≠ "" := by
    intro e
    rw [e] at hne
    exact hne (by decide +kernel)
  rw [decide_eq_false e3] at h3
  have h4 := bLenD_s (q := numS n) (s := st) hs.len
  have h5 : ¬ (9 : Int) < ((numS n).length : Int) := by omega
  have h6 := bIntS_num (s := st) h
  have h7 := bStr_num (s := st) h
  have h8 := gEq_sm (s := st) hs hs
  rw [decide_eq_true rfl] at h8
  obtain ⟨es, hc, ha⟩ := comp_bool (g := g1_read_integer) (m := e1_read_integer) (env := [some (.v (.str (numS n))), some (.v (.str (numS n))), none, none]) (st := st) (ds := (tl (numS n)).map fun c => .str ⟨#[c]⟩) (fun _ => true) (by rw [List.length_map, ← TL.len_tl]; omega) (fun d hd => by
    obtain ⟨c, hc, rfl⟩ := List.mem_map.mp hd
    have := numS_dig hc
    have hm : c ∈ (Str.ofString "0123456789").cps.toList := by
      rw [show (Str.ofString "0123456789").cps.toList = [48, 49, 50, 51, 52, 53, 54, 55, 56, 57] by decide +kernel]
      simp
      omega
    have hi := gIn_ap (s := st) (inB_sign (s := st) (a := c) (p := Str.ofString "0123456789"))
    rw [decide_eq_true hm] at hi
    exact ⟨_, by simp [g1_read_integer]; rfl, by simp [e1_read_integer, hi]⟩)
  have ha2 : (List.all (List.map (fun c => D.str ⟨#[c]⟩) (tl (numS n))) fun _ => true) = true := by simp
  rw [ha2] at ha
  simp [f_read_integer, runFn_ap, m_read_integer, h1, h2, h3, h4, h5, h6, h7, h8, wipeE, hc, ha]
theorem read_number_ev {n lo hi : Nat} (h : n < 1000000000) (h1 : lo ≤ n) (h2 : n ≤ hi) (st : Sto) : f_read_number [.v (.str (numS n)), .v (.int lo), .v (.int hi)] st = some (.v (.int n), st) := by
  simp [f_read_number, runFn_ap, m_read_number, read_integer_ev h, h1, h2]
/-- a name that the reader takes -/
structure Nm (x : Str) : Prop where
  l1 : 1 ≤ x.length
  l8 : x.length ≤ 8
  hd : ∀ c r, tl x = c :: r → 97 ≤ c ∧ c ≤ 122
  al : ∀ c ∈ tl x, 97 ≤ c ∧ c ≤ 122 ∨ 48 ≤ c ∧ c ≤ 57
theorem Nm.sm {x : Str} (h : Nm x) : Sm x := ⟨by have := h.l8; omega, fun c hc => by have := h.al c hc; omega⟩
theorem letters_tl : (Str.ofString "abcdefghijklmnopqrstuvwxyz").cps.toList = (List.range 26).map (97 + ·) := by decide +kernel
theorem figures_tl : (Str.ofString "0123456789").cps.toList = (List.range 10).map (48 + ·) := by decide +kernel
theorem mem_let (c : Nat) : c ∈ (Str.ofString "abcdefghijklmnopqrstuvwxyz").cps.toList ↔ 97 ≤ c ∧ c ≤ 122 := by
  rw [letters_tl, List.mem_map]
  constructor
  · rintro ⟨a, ha, rfl⟩
    rw [List.mem_range] at ha
    omega
  · intro h
    exact ⟨c - 97, by rw [List.mem_range]; omega, by omega⟩
theorem mem_fig (c : Nat) : c ∈ (Str.ofString "0123456789").cps.toList ↔ 48 ≤ c ∧ c ≤ 57 := by
  rw [figures_tl, List.mem_map]
  constructor
  · rintro ⟨a, ha, rfl⟩
    rw [List.mem_range] at ha
    omega
  · intro h
    exact ⟨c - 48, by rw [List.mem_range]; omega, by omega⟩
@[simp] theorem isTs_s {x : Str} {s : Sto} : gIsT "str" (.v (.str x)) s = some (.v (.bl true), s) := Eq.trans rfl rfl
theorem is_name_ev {x : Str} (h : Nm x) (st : Sto) : f_is_name [.v (.str x)] st = some (.v (.bl true), st) := by
  have hlen := h.sm.len
  have h1 := h.l1
  have h8 := h.l8
  obtain ⟨c, r, e⟩ : ∃ c r, tl x = c :: r := by
    cases q : tl x with
    | nil => rw [TL.len_tl, q] at h1; simp at h1
    | cons c r => exact ⟨c, r, rfl⟩
  have hc := h.hd c r e
  have g1 := gIx_s (x := x) (i := 0) (s := st) hlen
  rw [e, atI_0] at g1
  have g2 := gNotIn_ap (s := st) (inB_sign (s := st) (a := c) (p := Str.ofString "abcdefghijklmnopqrstuvwxyz"))
  rw [decide_eq_true ((mem_let c).mpr hc)] at g2
  have g4 := bLenD_s (q := x) (s := st) hlen
  have z1 : (0 : Int) < (x.length : Int) := by omega
  have z2 : (x.length : Int) ≤ 8 := by omega
  have z3 : 0 < x.length := by omega
  obtain ⟨es, hcc, ha⟩ := comp_bool (g := g1_is_name) (m := e1_is_name) (env := [some (.v (.str x)), none]) (st := st) (ds := (tl x).map fun c => .str ⟨#[c]⟩) (fun _ => true) (by rw [List.length_map, ← TL.len_tl]; omega) (fun d hd => by
    obtain ⟨c, hc, rfl⟩ := List.mem_map.mp hd
    have hal := h.al c hc
    have q1 := gIn_ap (s := st) (inB_sign (s := st) (a := c) (p := Str.ofString "abcdefghijklmnopqrstuvwxyz"))
    have q2 := gIn_ap (s := st) (inB_sign (s := st) (a := c) (p := Str.ofString "0123456789"))
    refine ⟨_, by simp [g1_is_name]; rfl, ?_⟩
    by_cases hl : 97 ≤ c ∧ c ≤ 122
    · rw [decide_eq_true ((mem_let c).mpr hl)] at q1
      simp [e1_is_name, q1]
    · rw [decide_eq_false (fun z => hl ((mem_let c).mp z))] at q1
      rw [decide_eq_true ((mem_fig c).mpr (by omega))] at q2
      simp [e1_is_name, q1, q2])
  have ha2 : (List.all (List.map (fun c => D.str ⟨#[c]⟩) (tl x)) fun _ => true) = true := by simp
  rw [ha2] at ha
  simp [f_is_name, runFn_ap, m_is_name, g1, g2, g4, z1, z2, z3, h8, wipeE, hcc, ha]
/-! ### a line, the reader -/
/-- a rule: name, number, first -/
structure Ru where
  name : Str
  n : Nat
  t : Nat
structure Ru.Ok (r : Ru) : Prop where
  nm : Nm r.name
  n1 : 1 ≤ r.n
  n2 : r.n ≤ 999999
  t2 : r.t ≤ 210379679
def wds (r : Ru) : List Str := ["job", r.name, "each", numS r.n, "from", numS r.t]
def lineOf (r : Ru) : Str := PySem.Txt.join " " (wds r)
def ruD (r : Ru) : D := .tup [.str "each", .int r.n, .int r.t]
def kvsOf (rs : List Ru) : List (L2.Key × D) := rs.map fun r => (.inr r.name, ruD r)
def rdr (k : Nat) : O := .ins 0 [("own_rules", .obj (k + 2)), ("own_stars", .obj (k + 3)), ("own_takes", .obj (k + 4))]
/-- the store while the text is read: the new Rules at k -/
def stR (st : Sto) (rs : List Ru) : Sto := st ++ [.ins 1 [], rdr st.length, .dic (kvsOf rs), .dic [], .dic []]
theorem stR_1 (st : Sto) (rs : List Ru) : (stR st rs)[st.length + 1]? = some (rdr st.length) := by
  unfold stR
  rw [List.getElem?_append_right (by omega)]
  simp
theorem stR_2 (st : Sto) (rs : List Ru) : (stR st rs)[st.length + 2]? = some (.dic (kvsOf rs)) := by
  unfold stR
  rw [List.getElem?_append_right (by omega)]
  simp
theorem stR_3 (st : Sto) (rs : List Ru) : (stR st rs)[st.length + 3]? = some (.dic []) := by
  unfold stR
  rw [List.getElem?_append_right (by omega)]
  simp
theorem stR_4 (st : Sto) (rs : List Ru) : (stR st rs)[st.length + 4]? = some (.dic []) := by
  unfold stR
  rw [List.getElem?_append_right (by omega)]
  simp
theorem stR_set (st : Sto) (rs rs' : List Ru) : (stR st rs).set (st.length + 2) (.dic (kvsOf rs')) = stR st rs' := by
  have e : ∀ (l : Sto) (a b c d e c' : O), (l ++ [a, b, c, d, e]).set (l.length + 2) c' = l ++ [a, b, c', d, e] := fun l a b c d e c' => by
    induction l with
    | nil => rfl
    | cons x l ih =>
      rw [List.cons_append, List.length_cons, show l.length + 1 + 2 = (l.length + 2) + 1 by omega, List.set_cons_succ, ih]
      rfl
  exact e _ _ _ _ _ _ _
theorem wds_sp {r : Ru} (h : r.Ok) : ∀ p ∈ wds r, 32 ∉ tl p := by
  have hd : ∀ n : Nat, 32 ∉ tl (numS n) := fun n hm => by
    have := numS_dig hm
    omega
  intro p hp
  simp only [wds, List.mem_cons, List.not_mem_nil, or_false] at hp
  rcases hp with rfl | rfl | rfl | rfl | rfl | rfl
  · decide +kernel
  · intro hm
    have := h.nm.al 32 hm
    omega
  · decide +kernel
  · exact hd _
  · decide +kernel
  · exact hd _
theorem line_len {r : Ru} (h : r.Ok) : (lineOf r).length ≤ 100 := by
  have h1 : (tl r.name).length ≤ 8 := by rw [← TL.len_tl]; exact h.nm.l8
  have h2 : (tl (numS r.n)).length ≤ 9 := by rw [← TL.len_tl]; exact numS_len (k := 9) (by decide) (by have := h.n2; omega)
  have h3 : (tl (numS r.t)).length ≤ 9 := by rw [← TL.len_tl]; exact numS_len (k := 9) (by decide) (by have := h.t2; omega)
  have e1 : (tl (Str.ofString "job")).length = 3 := by decide +kernel
  have e2 : (tl (Str.ofString "each")).length = 4 := by decide +kernel
  have e3 : (tl (Str.ofString "from")).length = 4 := by decide +kernel
  have e4 : (tl (Str.ofString " ")).length = 1 := by decide +kernel
  rw [TL.len_tl, lineOf, tl_joinT]
  simp only [wds, List.map_cons, List.map_nil, TL.joinL, List.length_append, e1, e2, e3, e4]
  omega
theorem split_line {r : Ru} (h : r.Ok) (st : Sto) : fSplit (lineOf r) [.v (.str " ")] st = some (.l (.lst ((wds r).map .str)), st) := by
  have e := split_sp (parts := wds r) (by simp [wds]) (wds_sp h)
  have z := fSplit_ap (q := lineOf r) (p := " ") (s := st) (by decide +kernel) (by have := line_len h; omega)
  rw [show PySem.Txt.split (lineOf r) " " = wds r from e] at z
  exact z
theorem dVal_none {rs : List Ru} {x : Str} (h : x ∉ rs.map (·.name)) : dVal (kvsOf rs) (.inr x) = none := by
  unfold dVal
  rw [List.find?_eq_none.mpr]
  · rfl
  · intro kv hkv
    obtain ⟨r, hr, rfl⟩ := List.mem_map.mp hkv
    intro e
    have e2 : (Sum.inr r.name : L2.Key) = .inr x := of_decide_eq_true e
    cases e2
    exact h (List.mem_map.mpr ⟨r, hr, rfl⟩)
theorem dVal_some {rs : List Ru} {r : Ru} (hn : (rs.map (·.name)).Nodup) (h : r ∈ rs) : dVal (kvsOf rs) (.inr r.name) = some (ruD r) := by
  induction rs with
  | nil => cases h
  | cons q rs ih =>
    (rw [List.map_cons, List.nodup_cons] at hn); unfold dVal kvsOf at *
    rw [List.map_cons, List.find?_cons]
    dsimp only
    by_cases e : q.name = r.name
    · rw [e, decide_eq_true rfl]
      rcases List.mem_cons.mp h with rfl | h
      · rfl
      · exact absurd (List.mem_map.mpr ⟨r, h, e.symm⟩) hn.1
    · have : (Sum.inr q.name : L2.Key) ≠ .inr r.name := fun z => e (by injection z)
      (rw [decide_eq_false this]); rcases List.mem_cons.mp h with rfl | h
      · exact absurd rfl e
      · exact ih hn.2 h
theorem dPut_new {rs : List Ru} {r : Ru} (h : r.name ∉ rs.map (·.name)) : dPut (kvsOf rs) (.inr r.name) (ruD r) = kvsOf (rs ++ [r]) := by
  unfold dPut
  rw [if_neg]
  · unfold kvsOf
    rw [List.map_append]
    rfl
  · rw [List.any_eq_true]
    rintro ⟨kv, hkv, e⟩
    obtain ⟨q, hq, rfl⟩ := List.mem_map.mp hkv
    have e2 : (Sum.inr q.name : L2.Key) = .inr r.name := of_decide_eq_true e
    have e3 : q.name = r.name := by injection e2
    exact h (List.mem_map.mpr ⟨q, hq, e3⟩)
theorem rd_rules (k : Nat) : List.lookup (β := D) ("own_rules" : Str) [("own_rules", .obj (k + 2)), ("own_stars", .obj (k + 3)), ("own_takes", .obj (k + 4))] = some (.obj (k + 2)) := by kernel_rfl
theorem rd_stars (k : Nat) : List.lookup (β := D) ("own_stars" : Str) [("own_rules", .obj (k + 2)), ("own_stars", .obj (k + 3)), ("own_takes", .obj (k + 4))] = some (.obj (k + 3)) := by kernel_rfl
theorem rd_takes (k : Nat) : List.lookup (β := D) ("own_takes" : Str) [("own_rules", .obj (k + 2)), ("own_stars", .obj (k + 3)), ("own_takes", .obj (k + 4))] = some (.obj (k + 4)) := by kernel_rfl
theorem takes_each_ev {rs : List Ru} {r : Ru} (h : r.Ok) (hn : r.name ∉ rs.map (·.name)) (hl : rs.length < 12) (st : Sto) :
    f_RuleReader__takes_each [.v (.obj (st.length + 1)), .v (.str r.name), .b (.lst [.str (numS r.n), .str "from", .str (numS r.t)])] (stR st rs) = some (.v (.bl true), stR st (rs ++ [r])) := by
  have s1 := stR_1 st rs
  have s2 := stR_2 st rs
  have n1 := read_number_ev (n := r.n) (lo := 1) (hi := 999999) (by have := h.n2; omega) h.n1 h.n2 (stR st rs)
  have n2 := read_number_ev (n := r.t) (lo := 0) (hi := 210379679) (by have := h.t2; omega) (Nat.zero_le _) h.t2 (stR st rs)
  have c1 := gNe_sm (s := stR st rs) (x := "from") (y := "from") (sm_lit (by decide +kernel)) (sm_lit (by decide +kernel))
  rw [decide_eq_true rfl] at c1
  have f1 := gFld_ap (f := "own_rules") s1 (rd_rules st.length)
  have p1 := setDic_ap (d := .str r.name) (w := ruD r) s2 (toKey_s (q := r.name)) (by unfold kvsOf; rw [List.length_map]; omega)
  rw [dPut_new hn, stR_set] at p1
  unfold ruD at p1
  have n1' : f_read_number [R.v (.str (numS r.n)), R.v (.int 1), R.v (.int 999999)] (stR st rs) = some (.v (.int r.n), stR st rs) := n1
  have n2' : f_read_number [R.v (.str (numS r.t)), R.v (.int 0), R.v (.int 210379679)] (stR st rs) = some (.v (.int r.t), stR st rs) := n2
  simp [f_RuleReader__takes_each, runFn_ap, m_RuleReader__takes_each, c1, n1', n2', f1, p1]
theorem takes_ev {rs : List Ru} {r : Ru} (h : r.Ok) (hn : r.name ∉ rs.map (·.name)) (hl : rs.length < 12) (st : Sto) :
    f_RuleReader__takes [.v (.obj (st.length + 1)), .v (.str (lineOf r))] (stR st rs) = some (.v (.bl true), stR st (rs ++ [r])) := by
  have s1 := stR_1 st rs
  have s2 := stR_2 st rs
  have s4 := stR_4 st rs
  have hsp := split_line h (stR st rs)
  have f1 := gFld_ap (f := "own_rules") s1 (rd_rules st.length)
  have f4 := gFld_ap (f := "own_takes") s1 (rd_takes st.length)
  have z1 := gNeEmp_ap s4
  have z2 := bLenD_dic s2
  have z3 : ¬ ((kvsOf rs).length : Int) = 12 := by unfold kvsOf; rw [List.length_map]; omega
  have z3' : ¬ (kvsOf rs).length = 12 := by unfold kvsOf; rw [List.length_map]; omega
  have c1 := gEq_sm (s := stR st rs) (x := "job") (y := "takes") (sm_lit (by decide +kernel)) (sm_lit (by decide +kernel))
  rw [decide_eq_false (by decide +kernel)] at c1
  have c2 := gNe_sm (s := stR st rs) (x := "job") (y := "job") (sm_lit (by decide +kernel)) (sm_lit (by decide +kernel))
  rw [decide_eq_true rfl] at c2
  have c3 := gEq_sm (s := stR st rs) (x := "each") (y := "each") (sm_lit (by decide +kernel)) (sm_lit (by decide +kernel))
  rw [decide_eq_true rfl] at c3
  have nm := is_name_ev h.nm (stR st rs)
  have i1 := gIn_ap (s := stR st rs) (inB_dic (d := .str r.name) s2 (toKey_s (q := r.name)))
  rw [dVal_none hn] at i1
  have te := takes_each_ev h hn hl st
  have m1 := insIs_ap (f := "takes_each") (c := 0) s1 (by kernel_rfl)
  have hcut : cutD [.str "job", .str r.name, .str "each", .str (numS r.n), .str "from", .str (numS r.t)] (some 3) none = [.str (numS r.n), .str "from", .str (numS r.t)] := rfl
  simp [f_RuleReader__takes, runFn_ap, m_RuleReader__takes, hsp, wds, c1, c2, c3, f1, f4, z1, z2, z3, z3', nm, i1, m1, hcut, te]
/-! the text of all lines -/
def textOf (rs : List Ru) : Str := PySem.Txt.join "\n" (rs.map lineOf)
theorem joinL_mem {S : List Nat} {c : Nat} : ∀ {ps : List (List Nat)}, c ∈ TL.joinL S ps → c ∈ S ∨ ∃ p ∈ ps, c ∈ p
  | [], h => by cases h
  | [p], h => .inr ⟨p, by simp, h⟩
  | p :: q :: r, h => by
    have h : c ∈ p ++ (S ++ TL.joinL S (q :: r)) := h
    rw [List.mem_append, List.mem_append] at h
    rcases h with h | h | h
    · exact .inr ⟨p, by simp, h⟩
    · exact .inl h
    · rcases joinL_mem h with h | ⟨x, hx, h⟩
      · exact .inl h
      · exact .inr ⟨x, by simp at hx ⊢; exact .inr hx, h⟩
theorem line_nl {r : Ru} (h : r.Ok) : 10 ∉ tl (lineOf r) := by
  intro hm
  rw [lineOf, tl_joinT] at hm
  rcases joinL_mem hm with hm | ⟨p, hp, hm⟩
  · exact absurd hm (by decide +kernel)
  · obtain ⟨z, hz, rfl⟩ := List.mem_map.mp hp
    simp only [wds, List.mem_cons, List.not_mem_nil, or_false] at hz
    rcases hz with rfl | rfl | rfl | rfl | rfl | rfl
    · exact absurd hm (by decide +kernel)
    · have := h.nm.al 10 hm
      omega
    · exact absurd hm (by decide +kernel)
    · have := numS_dig hm
      omega
    · exact absurd hm (by decide +kernel)
    · have := numS_dig hm
      omega
theorem sum_len {rs : List Ru} (h : ∀ r ∈ rs, r.Ok) : (rs.map fun r => (lineOf r).length).sum ≤ 100 * rs.length := by
  induction rs with
  | nil => simp
  | cons r rs ih =>
    have h1 := line_len (h r (by simp))
    have h2 := ih fun q hq => h q (by simp [hq])
    rw [List.map_cons, List.sum_cons, List.length_cons]
    omega
theorem join_len (S : List Nat) : ∀ ps : List (List Nat), (TL.joinL S ps).length ≤ (ps.map (·.length)).sum + ps.length * S.length
  | [] => by simp [TL.joinL]
  | [p] => by simp [TL.joinL]
  | p :: q :: r => by
    have ih := join_len S (q :: r)
    show (p ++ (S ++ TL.joinL S (q :: r))).length ≤ _
    rw [List.length_append, List.length_append, List.map_cons, List.sum_cons, List.length_cons, Nat.succ_mul]
    omega
theorem text_len {rs : List Ru} (h : ∀ r ∈ rs, r.Ok) (hl : rs.length ≤ 12) : (textOf rs).length ≤ 2000 := by
  have h1 := join_len (tl (Str.ofString "\n")) ((rs.map lineOf).map tl)
  rw [← tl_joinT, ← TL.len_tl] at h1
  have h2 := sum_len h
  have e : (((rs.map lineOf).map tl).map (·.length)).sum = (rs.map fun r => (lineOf r).length).sum := by
    (rw [List.map_map, List.map_map]); congr 1
  rw [e, List.length_map, List.length_map] at h1
  have e4 : (tl (Str.ofString "\n")).length = 1 := by decide +kernel
  rw [e4] at h1
  unfold textOf
  omega
/-- what the law joins -/
theorem join_text {rs : List Ru} (h : ∀ r ∈ rs, r.Ok) (hl : rs.length ≤ 12) (st : Sto) : fJoin "\n" [.l (.lst ((rs.map lineOf).map .str))] st = some (.v (.str (textOf rs)), st) := by
  refine fJoin_l ?_
  have h2 := sum_len h
  rw [List.map_map, List.length_map]
  have e4 : (Str.ofString "\n").length = 1 := by decide +kernel
  rw [e4]
  show (rs.map fun r => (lineOf r).length).sum + _ ≤ _
  omega
theorem split_text {rs : List Ru} (h : ∀ r ∈ rs, r.Ok) (h0 : rs ≠ []) (hl : rs.length ≤ 12) (st : Sto) : fSplit (textOf rs) [.v (.str "\n")] st = some (.l (.lst ((rs.map lineOf).map .str)), st) := by
  have e := split_nl (parts := rs.map lineOf) (by simpa using h0) (fun p hp => by
    (obtain ⟨r, hr, rfl⟩ := List.mem_map.mp hp); exact line_nl (h r hr))
  have z := fSplit_ap (q := textOf rs) (p := "\n") (s := st) (by decide +kernel) (by have := text_len h hl; omega)
  rw [show PySem.Txt.split (textOf rs) "\n" = rs.map lineOf from e] at z
  exact z
/-- a Rules in the store -/
def ruIns0 (k : Nat) (rs : List Ru) : O := .ins 1 [("own_text", .str (textOf rs)), ("own_rules", .obj (k + 2)), ("own_stars", .obj (k + 3)), ("own_takes", .obj (k + 4)), ("own_jobs", .tup (rs.map fun r => .str r.name))]
theorem reader_init_ev (st : Sto) : f_RuleReader____init__ [.v (.obj (st.length + 1))] (st ++ [.ins 1 [], .ins 0 []]) = some (.v .non, stR st []) := by
  have k1 := fld_put (f := "own_rules") (i := 0) (env := [some (.v (.obj (st.length + 1)))]) (ma := eDic) (s := st ++ [.ins 1 [], .ins 0 []]) (n := st.length + 1) eDic_ap rfl (by rw [List.append_assoc]; exact get_1 _ _ _ _) (by decide)
  rw [List.append_assoc, show ([O.ins 1 [], .ins 0 []] ++ [O.dic []]) = [O.ins 1 [], .ins 0 [], .dic []] from rfl, set_1] at k1
  have k2 := fld_put (f := "own_stars") (i := 0) (env := [some (.v (.obj (st.length + 1)))]) (ma := eDic) (s := st ++ [.ins 1 [], .ins 0 (putP "own_rules" (.obj (st ++ [O.ins 1 [], O.ins 0 []]).length) []), .dic []]) (n := st.length + 1) eDic_ap rfl (by rw [List.append_assoc]; exact get_1 _ _ _ _) (by
    refine Nat.lt_of_le_of_lt (putP_len _) ?_
    first
      | exact (by decide : 0 + 1 < 900)
      | exact Nat.lt_of_le_of_lt (Nat.add_le_add_right (putP_len _) 1) (by decide : 0 + 1 + 1 < 900))
  rw [List.append_assoc, List.cons_append, List.cons_append, List.cons_append, List.nil_append, set_1] at k2
  generalize hx1 : (st ++ [O.ins 1 [], O.ins 0 []]).length = x1 at k1 k2
  generalize hx2 : (st ++ [O.ins 1 [], .ins 0 (putP "own_rules" (.obj x1) []), .dic []]).length = x2 at k1 k2
  have k3 := fld_put (f := "own_takes") (i := 0) (env := [some (.v (.obj (st.length + 1)))]) (ma := eDic) (s := st ++ [.ins 1 [], .ins 0 (putP "own_stars" (.obj x2) (putP "own_rules" (.obj x1) [])), .dic [], .dic []]) (n := st.length + 1) eDic_ap rfl (by rw [List.append_assoc]; exact get_1 _ _ _ _) (by
    refine Nat.lt_of_le_of_lt (putP_len _) ?_
    first
      | exact (by decide : 0 + 1 < 900)
      | exact Nat.lt_of_le_of_lt (Nat.add_le_add_right (putP_len _) 1) (by decide : 0 + 1 + 1 < 900))
  rw [List.append_assoc, List.cons_append, List.cons_append, List.cons_append, List.cons_append, List.nil_append, set_1] at k3
  generalize hx3 : (st ++ [O.ins 1 [], .ins 0 (putP "own_stars" (.obj x2) (putP "own_rules" (.obj x1) [])), .dic [], .dic []]).length = x3 at k3
  rw [List.length_append] at hx1 hx2 hx3
  subst hx1 hx2 hx3
  have e : stR st [] = st ++ [O.ins 1 [], .ins 0 (putP "own_takes" (.obj (st.length + 4)) (putP "own_stars" (.obj (st.length + 3)) (putP "own_rules" (.obj (st.length + 2)) []))), .dic [], .dic [], .dic []] := by kernel_rfl
  rw [e, f_RuleReader____init__, runFn_ap]
  show bo (m_RuleReader____init__ [some (.v (.obj (st.length + 1)))] _) fn1 = _
  simp only [m_RuleReader____init__, sSeq_ap, k1, k2, k3, bo_some, sq1_nx, fn1_nx]
  rfl
theorem lines_loop {rs : List Ru} (h : ∀ r ∈ rs, r.Ok) (hn : (rs.map (·.name)).Nodup) (hl : rs.length ≤ 12) (st : Sto) (x0 x1 : Option R) :
    ∃ e, forL tr1 g1_Rules____init__ b1_Rules____init__ (enumD 0 ((rs.map lineOf).map .str)) [x0, x1, some (.v (.obj (st.length + 1))), none, none] (stR st []) = some (.nx e, stR st rs) ∧ ∃ y3 y4, e = [x0, x1, some (.v (.obj (st.length + 1))), y3, y4] := by
  have hlen : (enumD 0 ((rs.map lineOf).map D.str)).length = rs.length := by rw [enumD_length, List.length_map, List.length_map]
  have hf := for_inv (ck := tr1) (g := g1_Rules____init__) (b := b1_Rules____init__) (ds := enumD 0 ((rs.map lineOf).map .str)) (env := [x0, x1, some (.v (.obj (st.length + 1))), none, none]) (st := stR st [])
    (fun i e s => s = stR st (rs.take i) ∧ ∃ y3 y4, e = [x0, x1, some (.v (.obj (st.length + 1))), y3, y4]) ?step (fun _ _ _ => trivial) ⟨rfl, none, none, rfl⟩
  · obtain ⟨e, s, he, hs, hy⟩ := hf
    rw [hlen, List.take_of_length_le (Nat.le_refl _)] at hs
    subst hs
    exact ⟨e, he, hy⟩
  case step =>
    rintro i d e s hd ⟨rfl, y3, y4, rfl⟩
    have hi : i < rs.length := by
      rcases Nat.lt_or_ge i rs.length with h | h
      · exact h
      · rw [List.getElem?_eq_none (by omega)] at hd
        cases hd
    have hd2 : d = .tup [.int i, .str (lineOf rs[i])] := by
      obtain ⟨x, hx, rfl⟩ := enumD_inv hd
      rw [List.getElem?_map, List.getElem?_map, List.getElem?_eq_getElem hi] at hx
      cases hx
      rw [Nat.zero_add]
    subst hd2
    have hno : rs[i].name ∉ (rs.take i).map (·.name) := by
      have e : rs = rs.take i ++ rs[i] :: rs.drop (i + 1) := by
        rw [← List.drop_eq_getElem_cons hi, List.take_append_drop]
      rw [e, List.map_append, List.map_cons, List.nodup_append] at hn
      intro hm
      exact hn.2.2 _ hm _ (by simp) rfl
    have ht := takes_ev (rs := rs.take i) (r := rs[i]) (h _ (List.getElem_mem hi)) hno (by rw [List.length_take]; omega) st
    rw [List.take_append_getElem hi] at ht
    have s1 := stR_1 st (rs.take i)
    have m1 := insIs_ap (f := "takes") (c := 0) s1 (by kernel_rfl)
    exact ⟨trivial, _, _, _, _, by simp [g1_Rules____init__]; exact ⟨rfl, rfl⟩, by simp [b1_Rules____init__, m1, ht]; exact ⟨rfl, rfl⟩, rfl, _, _, rfl⟩
def stX (st : Sto) (a : O) (rs : List Ru) : Sto := st ++ [a, rdr st.length, .dic (kvsOf rs), .dic [], .dic []]
theorem stX_0 (st : Sto) (a : O) (rs : List Ru) : (stX st a rs)[st.length]? = some a := get_0 _ _ _
theorem stX_1 (st : Sto) (a : O) (rs : List Ru) : (stX st a rs)[st.length + 1]? = some (rdr st.length) := get_1 _ _ _ _
theorem stX_2 (st : Sto) (a : O) (rs : List Ru) : (stX st a rs)[st.length + 2]? = some (.dic (kvsOf rs)) := by
  unfold stX
  rw [List.getElem?_append_right (by omega)]
  simp
theorem stX_set (st : Sto) (a b : O) (rs : List Ru) : (stX st a rs).set st.length b = stX st b rs := set_0 _ _ _ _
theorem found_ev (st : Sto) (a : O) (rs : List Ru) : f_RuleReader__found [.v (.obj (st.length + 1))] (stX st a rs) = some (.v (.tup [.obj (st.length + 2), .obj (st.length + 3), .obj (st.length + 4)]), stX st a rs) := by
  have s1 := stX_1 st a rs
  have f1 := gFld_ap (f := "own_rules") s1 (rd_rules st.length)
  have f2 := gFld_ap (f := "own_stars") s1 (rd_stars st.length)
  have f3 := gFld_ap (f := "own_takes") s1 (rd_takes st.length)
  simp [f_RuleReader__found, runFn_ap, m_RuleReader__found, f1, f2, f3]
theorem kvs_names (rs : List Ru) : (kvsOf rs).map (fun kv : L2.Key × D => keyD kv.1) = rs.map fun r => .str r.name := by
  unfold kvsOf
  rw [List.map_map]
  rfl
def fs1 (t : D) : List (Str × D) := [("own_text", t)]
def fs2 (k : Nat) (t : D) : List (Str × D) := [("own_text", t), ("own_rules", .obj (k + 2))]
def fs3 (k : Nat) (t : D) : List (Str × D) := [("own_text", t), ("own_rules", .obj (k + 2)), ("own_stars", .obj (k + 3))]
def fs4 (k : Nat) (t : D) : List (Str × D) := [("own_text", t), ("own_rules", .obj (k + 2)), ("own_stars", .obj (k + 3)), ("own_takes", .obj (k + 4))]
def fs5 (k : Nat) (t : D) (j : D) : List (Str × D) := [("own_text", t), ("own_rules", .obj (k + 2)), ("own_stars", .obj (k + 3)), ("own_takes", .obj (k + 4)), ("own_jobs", j)]
theorem fs_1 (t : D) : putP "own_text" t [] = fs1 t := rfl
theorem fs_2 (k : Nat) (t : D) : putP "own_rules" (.obj (k + 2)) (fs1 t) = fs2 k t := by kernel_rfl
theorem fs_3 (k : Nat) (t : D) : putP "own_stars" (.obj (k + 3)) (fs2 k t) = fs3 k t := by kernel_rfl
theorem fs_4 (k : Nat) (t : D) : putP "own_takes" (.obj (k + 4)) (fs3 k t) = fs4 k t := by kernel_rfl
theorem fs_5 (k : Nat) (t j : D) : putP "own_jobs" j (fs4 k t) = fs5 k t j := by kernel_rfl
theorem fs_4l (k : Nat) (t : D) : List.lookup (β := D) ("own_rules" : Str) (fs4 k t) = some (.obj (k + 2)) := by kernel_rfl
def ruIns (k : Nat) (rs : List Ru) : O := .ins 1 (fs5 k (.str (textOf rs)) (.tup (rs.map fun r => .str r.name)))
theorem rules_init_ev {rs : List Ru} (h : ∀ r ∈ rs, r.Ok) (h0 : rs ≠ []) (hn : (rs.map (·.name)).Nodup) (hl : rs.length ≤ 12) (st : Sto) :
    f_Rules____init__ [.v (.obj st.length), .v (.str (textOf rs))] (st ++ [.ins 1 []]) = some (.v .non, stX st (ruIns st.length rs) rs) := by
  have e1 : (st ++ [O.ins 1 []]).length = st.length + 1 := by simp
  have e2 : st ++ [O.ins 1 []] ++ [O.ins 0 []] = st ++ [O.ins 1 [], .ins 0 []] := by simp
  have r1 := reader_init_ev st
  have sp := split_text h h0 hl (stR st [])
  obtain ⟨e, hloop, y3, y4, rfl⟩ := lines_loop h hn hl st (some (.v (.obj st.length))) (some (.v (.str (textOf rs))))
  generalize hE : ([some (.v (.obj st.length)), some (.v (.str (textOf rs))), some (.v (.obj (st.length + 1))), y3, y4] : Mi.Env) = E at hloop
  have hE0 : E[0]? = some (some (.v (.obj st.length))) := by rw [← hE]; rfl
  have hE1 : E[1]? = some (some (.v (.str (textOf rs)))) := by rw [← hE]; rfl
  have hE2 : E[2]? = some (some (.v (.obj (st.length + 1)))) := by rw [← hE]; rfl
  unfold ruIns
  generalize ht : D.str (textOf rs) = t at *
  have k4 := fld_put (f := "own_text") (i := 0) (env := E) (ma := eVar 1) (s := stX st (.ins 1 []) rs) (s1 := stX st (.ins 1 []) rs) (d := t) (n := st.length) (c := 1) (fs := []) (by simp [hE1]) hE0 (stX_0 _ _ _) (by decide)
  rw [stX_set, fs_1] at k4
  have m1 := insIs_ap (f := "found") (c := 0) (stX_1 st (.ins 1 (fs1 t)) rs) (by kernel_rfl)
  have hf := found_ev st (.ins 1 (fs1 t)) rs
  have q1 := fld_tgt (f := "own_rules") (i := 0) (d := .obj (st.length + 2)) (env := E) (n := st.length) hE0 (stX_0 st (.ins 1 (fs1 t)) rs) (by simp [fs1])
  rw [stX_set, fs_2] at q1
  have q2 := fld_tgt (f := "own_stars") (i := 0) (d := .obj (st.length + 3)) (env := E) (n := st.length) hE0 (stX_0 st (.ins 1 (fs2 st.length t)) rs) (by simp [fs2])
  rw [stX_set, fs_3] at q2
  have q3 := fld_tgt (f := "own_takes") (i := 0) (d := .obj (st.length + 4)) (env := E) (n := st.length) hE0 (stX_0 st (.ins 1 (fs3 st.length t)) rs) (by simp [fs3])
  rw [stX_set, fs_4] at q3
  have f5 := gFld_ap (f := "own_rules") (d := .obj (st.length + 2)) (stX_0 st (.ins 1 (fs4 st.length t)) rs) (fs_4l _ _)
  have t5 := bTupD_dic (stX_2 st (.ins 1 (fs4 st.length t)) rs)
  rw [kvs_names] at t5
  have k6 := fld_put (f := "own_jobs") (i := 0) (env := E) (ma := eB bTupD (aCons (eU (gFld "own_rules") (eVar 0)) aNil)) (s := stX st (.ins 1 (fs4 st.length t)) rs) (s1 := stX st (.ins 1 (fs4 st.length t)) rs) (c := 1) (fs := fs4 st.length t) (d := .tup (rs.map fun r => .str r.name)) (n := st.length) (by simp [hE0, f5, t5]) hE0 (stX_0 _ _ _) (by simp [fs4])
  rw [stX_set, fs_5] at k6
  have eR : stR st rs = stX st (.ins 1 []) rs := rfl
  rw [eR] at hloop
  rw [f_Rules____init__, runFn_ap]
  have c1 : (sIf (tNot1 (tTr (eU (gIsT "str") (eVar 1)))) sNever sNil) [some (.v (.obj st.length)), some (.v t), none, none, none] (st ++ [O.ins 1 []]) = some (.nx [some (.v (.obj st.length)), some (.v t), none, none, none], st ++ [O.ins 1 []]) := by
    rw [← ht]
    simp
  have c2 : (sSet 2 (eMake 0 1 f_RuleReader____init__ aNil)) [some (.v (.obj st.length)), some (.v t), none, none, none] (st ++ [O.ins 1 []]) = some (.nx [some (.v (.obj st.length)), some (.v t), some (.v (.obj (st.length + 1))), none, none], stR st []) := by
    rw [sSet_ap, eMake_ap, aNil_ap, bo_some, mk0_ap (np := 1) (rs := []) rfl, e1, e2, List.map_nil, r1]
    simp
  have c3 : (sFor [] (mEnum (eStrM fSplit (eVar 1) (aCons (eC (.str "\n")) aNil))) g1_Rules____init__ b1_Rules____init__) [some (.v (.obj st.length)), some (.v t), some (.v (.obj (st.length + 1))), none, none] (stR st []) = some (.nx E, stX st (.ins 1 []) rs) := by
    rw [← hloop, ← ht]
    simp [sp]
  have c5 : (sAsg (gTp 3 (gCs (gFldT "own_rules" (eVar 0)) (gCs (gFldT "own_stars" (eVar 0)) (gCs (gFldT "own_takes" (eVar 0)) gNl)))) (eMeth 0 "found" 1 f_RuleReader__found (eVar 2) aNil)) E (stX st (.ins 1 (fs1 t)) rs) = some (.nx E, stX st (.ins 1 (fs4 st.length t)) rs) := by
    rw [sAsg_ap, eMeth_ap, eVar_ap, hE2, vSl_s, bo_some, rdSlot_v, m1, bo_some, me2_ap, aNil_ap, bo_some, me3_ap (np := 1) (rs := []) rfl, List.map_nil, hf]
    rw [bo_some, lastO_ap, toO_v, bo_some, toD_v, bo_some, as0_ap, gTp_ap (n := 3) (ds := [.obj (st.length + 2), .obj (st.length + 3), .obj (st.length + 4)]) rfl, gCs_ap, q1, bo_some, gc1_ap, gCs_ap, q2, bo_some, gc1_ap, gCs_ap, q3, bo_some, gc1_ap, gNl_ap, bo_some, as1_ap]
  show bo (m_Rules____init__ [some (.v (.obj st.length)), some (.v t), none, none, none] _) fn1 = _
  unfold m_Rules____init__
  rw [sSeq_ap, c1, bo_some, sq1_nx, sSeq_ap, c2, bo_some, sq1_nx, sSeq_ap, c3, bo_some, sq1_nx, sSeq_ap, k4, bo_some, sq1_nx, sSeq_ap, c5, bo_some, sq1_nx, k6]
  rfl
end K91
namespace K91
open Mi
open PySem (Str)
theorem is_integer_ev (a : Int) (st : Sto) : f_is_integer [.v (.int a)] st = some (.v (.bl true), st) := by
  simp [f_is_integer, runFn_ap, m_is_integer]
theorem is_between_ev (a lo hi : Int) (st : Sto) : f_is_between [.v (.int a), .v (.int lo), .v (.int hi)] st = some (.v (.bl (decide (lo ≤ a) && decide (a ≤ hi))), st) := by
  simp [f_is_between, runFn_ap, m_is_between, is_integer_ev]
  cases h : decide (lo ≤ a) <;> simp
theorem between_yes {a lo hi : Int} (h1 : lo ≤ a) (h2 : a ≤ hi) (st : Sto) : f_is_between [.v (.int a), .v (.int lo), .v (.int hi)] st = some (.v (.bl true), st) := by
  rw [is_between_ev, decide_eq_true h1, decide_eq_true h2]
  rfl
theorem common_loop : ∀ (n a b : Nat), b ≤ n → ∀ st, sWhile t1_common b1_common [some (.v (.int a)), some (.v (.int b))] st =
    some (.nx [some (.v (.int (Nat.gcd a b : Nat))), some (.v (.int 0))], st)
  | n, a, 0, _, st => by
    rw [while_no (s := st) (by simp [t1_common])]
    simp
  | 0, a, b + 1, h, st => by omega
  | n + 1, a, b + 1, h, st => by
    have hb : ((b + 1 : Nat) : Int) ≠ 0 := by omega
    have hm : Int.fmod (a : Int) ((b + 1 : Nat) : Int) = ((a % (b + 1) : Nat) : Int) := by
      (rw [Int.fmod_eq_emod_of_nonneg _ (by omega)]); rfl
    have ih := common_loop n (b + 1) (a % (b + 1)) (by have := Nat.mod_lt a (show b + 1 > 0 by omega); omega) st
    rw [Nat.gcd_comm a, Nat.gcd_rec (b + 1) a, Nat.gcd_comm]
    generalize ((b + 1 : Nat) : Int) = B at *
    refine while_yes (s := st) (s2 := st) (by simp [t1_common, hb]) (by simp [b1_common, hb]; rfl) ?_
    rw [hm]
    exact ih
theorem common_ev (a b : Nat) (st : Sto) : f_common [.v (.int a), .v (.int b)] st = some (.v (.int (Nat.gcd a b : Nat)), st) := by
  simp [f_common, runFn_ap, m_common, common_loop b a b (Nat.le_refl _)]
/-! ### the inverse -/
theorem inv_loop (A B : Int) : ∀ (n : Nat) (one other here there : Int) (x0 x1 x6 : Option R) (st : Sto), 0 ≤ one → one ≤ n → one ≤ 1000000 → 0 ≤ other → other ≤ 1000000 → B ∣ here * A - one → B ∣ there * A - other →
    ∃ (h on : Int) (y3 y5 y6 : Option R), sWhile t1_inverse b1_inverse [x0, x1, some (.v (.int one)), some (.v (.int other)), some (.v (.int here)), some (.v (.int there)), x6] st = some (.nx [x0, x1, some (.v (.int on)), y3, some (.v (.int h)), y5, y6], st) ∧
      B ∣ h * A - on ∧ 0 ≤ on ∧ on ≤ 1 ∧ (1 ≤ one → Int.gcd one other = 1 → on = 1) := by
  intro n
  induction n with
  | zero =>
    intro one other here there x0 x1 x6 st h0 h1 hm1 h2 h3 d1 d2
    refine ⟨here, one, _, _, _, while_no (s := st) ?_, d1, h0, by omega, fun z => by omega⟩
    have : ¬ 1 < one := by omega
    simp [t1_inverse, this]
  | succ n ih =>
    intro one other here there x0 x1 x6 st h0 h1 hm1 h2 h3 d1 d2
    by_cases h : 1 < one
    · have hd := fdiv_nn h2 (show 0 < one by omega)
      have em : other - other.fdiv one * one = other.fmod one := by
        rw [Int.fmod_def, Int.mul_comm]
      have hm := fmod_nn other (show 0 < one by omega)
      have hone : one < 1073741824 := by omega
      have g1 := gFdiv_ap (i := other) (s := st) (show one ≠ 0 by omega) (by omega) hone
      have g2 := gMul_l (i := other.fdiv one) (j := one) (s := st) (by omega) (by omega)
      have g3 := gMul_l (i := other.fdiv one) (j := here) (s := st) (by omega) (by omega)
      have d3 : B ∣ (there - other.fdiv one * here) * A - other.fmod one := by
        have e : (there - other.fdiv one * here) * A - other.fmod one = (there * A - other) - other.fdiv one * (here * A - one) := by
          rw [← em, Int.sub_mul, Int.mul_sub, Int.mul_assoc]
          omega
        rw [e]
        exact Int.dvd_sub d2 (Int.dvd_mul_of_dvd_right d1)
      obtain ⟨hh, on, y3, y5, y6, hw, w1, w2, w3, w4⟩ := ih (other.fmod one) one (there - other.fdiv one * here) here x0 x1 (some (.v (.int (other.fdiv one)))) st hm.1 (by omega) (by omega) (by omega) (by omega) d3 d1
      refine ⟨hh, on, y3, y5, y6, while_yes (s := st) (s2 := st) (by simp [t1_inverse, h]) (by simp [b1_inverse, g1, g2, g3, em]) hw, w1, w2, w3, fun z1 z2 => ?_⟩
      have hg : Int.gcd (other.fmod one) one = 1 := by
        (obtain ⟨m, rfl⟩ := Int.eq_ofNat_of_zero_le h0); obtain ⟨k, rfl⟩ := Int.eq_ofNat_of_zero_le h2
        rw [Int.fmod_eq_emod_of_nonneg _ (by omega), ← Int.natCast_emod, Int.gcd_natCast_natCast, ← Nat.gcd_rec]
        rwa [Int.gcd_natCast_natCast] at z2
      refine w4 ?_ hg
      by_cases hz : other.fmod one = 0
      · rw [hz, Int.gcd_zero_left] at hg
        omega
      · omega
    · refine ⟨here, one, _, _, _, while_no (s := st) ?_, d1, h0, by omega, fun z _ => by omega⟩
      simp [t1_inverse, h]
theorem inverse_ev {a b : Nat} (ha : a ≤ 1000000) (hb : 1 ≤ b) (hb2 : b ≤ 1000000) (hg : Nat.gcd a b = 1) (st : Sto) : ∃ r : Int, f_inverse [.v (.int a), .v (.int b)] st = some (.v (.int r), st) ∧ 0 ≤ r ∧ r < b ∧ (b : Int) ∣ r * a - 1 := by
  have hm := fmod_nn (a : Int) (show (0 : Int) < b by omega)
  have hd1 : (b : Int) ∣ 1 * (a : Int) - (a : Int).fmod b := by
    rw [Int.fmod_def, Int.one_mul]
    exact ⟨_, by rw [Int.sub_sub_self]⟩
  obtain ⟨h, on, y3, y5, y6, hw, d1, o0, o1, o2⟩ := inv_loop a b 1000000 ((a : Int).fmod b) b 1 0 (some (.v (.int a))) (some (.v (.int b))) none st hm.1 (by omega) (by omega) (by omega) (by omega) hd1 ⟨-1, by rw [Int.zero_mul]; omega⟩
  have hr := fmod_nn h (show (0 : Int) < b by omega)
  have hb0 : b ≠ 0 := by omega
  refine ⟨h.fmod b, by simp [f_inverse, runFn_ap, m_inverse, hb0, hw], hr.1, hr.2, ?_⟩
  have d2 : (b : Int) ∣ h.fmod b * a - h * a := by
    rw [Int.fmod_def]
    exact ⟨-(h.fdiv b * a), by rw [Int.sub_mul, Int.mul_neg, Int.mul_assoc]; omega⟩
  have d3 : (b : Int) ∣ h * a - 1 := by
    by_cases h1 : b = 1
    · subst h1
      exact Int.one_dvd _
    · have hon : on = 1 := by
        have h2 : 1 ≤ (a : Int).fmod b := by
          rw [Int.fmod_eq_emod_of_nonneg _ (by omega), ← Int.natCast_emod]
          have : a % b ≠ 0 := fun e => h1 (by
            have := Nat.gcd_rec b a
            rw [e, Nat.gcd_zero_left, Nat.gcd_comm, hg] at this
            exact this.symm)
          omega
        refine o2 h2 ?_
        rw [Int.fmod_eq_emod_of_nonneg _ (by omega), ← Int.natCast_emod, Int.gcd_natCast_natCast, ← Nat.gcd_rec, Nat.gcd_comm]
        exact hg
      rw [hon] at d1
      exact d1
  have e : h.fmod b * a - 1 = (h.fmod b * a - h * a) + (h * a - 1) := by omega
  rw [e]
  exact Int.dvd_add d2 d3
/-! ### two rests -/
def rsD (a : Nat) (x : Int) : D := .tup [.int a, .int x]
@[simp] theorem rsD_0 (a : Nat) (x : Int) (s : Sto) : gIx (.v (rsD a x)) (.v (.int 0)) s = some (.v (.int a), s) := Eq.trans rfl rfl
@[simp] theorem rsD_1 (a : Nat) (x : Int) (s : Sto) : gIx (.v (rsD a x)) (.v (.int 1)) s = some (.v (.int x), s) := Eq.trans rfl rfl
theorem put_none {a b : Nat} (ha : 0 < a) (x y : Int) (h : (y - x).fmod (Nat.gcd a b : Nat) ≠ 0) (st : Sto) : f_put_together [.v (rsD a x), .v (rsD b y)] st = some (.v .non, st) := by
  have hg : 0 < Nat.gcd a b := Nat.gcd_pos_of_pos_left _ ha
  have hg2 : Nat.gcd a b ≠ 0 := by omega
  have g1 := gMod_ap (i := y - x) (j := (Nat.gcd a b : Nat)) (s := st) (by omega)
  simp [f_put_together, runFn_ap, m_put_together, common_ev, g1, h]
theorem fmod0_dvd {x : Int} {n : Nat} (h : 0 < n) : x.fmod (n : Nat) = 0 ↔ ((n : Nat) : Int) ∣ x := by
  (rw [Int.fmod_eq_emod_of_nonneg _ (by omega)]); exact (Int.dvd_iff_emod_eq_zero).symm
theorem put_some {a b : Nat} (ha : 0 < a) (ha2 : a ≤ 1000000) (hb : 0 < b) (hb2 : b ≤ 1000) (x y : Int) (h : (y - x).fmod (Nat.gcd a b : Nat) = 0) (st : Sto) : ∃ (L : Nat) (r : Int),
    f_put_together [.v (rsD a x), .v (rsD b y)] st = some (.v (rsD L r), st) ∧ L = a * (b / Nat.gcd a b) ∧ 0 < L ∧ 0 ≤ r ∧ r < L ∧ (a : Int) ∣ r - x ∧ (b : Int) ∣ r - y := by
  have hg : 0 < Nat.gcd a b := Nat.gcd_pos_of_pos_left _ ha
  have hgb : Nat.gcd a b ≤ b := Nat.gcd_le_right _ hb
  have hga : Nat.gcd a b ≤ a := Nat.gcd_le_left _ ha
  have hw : 1 ≤ b / Nat.gcd a b := (Nat.le_div_iff_mul_le hg).mpr (by omega)
  have hw2 : b / Nat.gcd a b ≤ 1000 := Nat.le_trans (Nat.div_le_self _ _) hb2
  have hco : Nat.gcd (a / Nat.gcd a b) (b / Nat.gcd a b) = 1 := Nat.gcd_div_gcd_div_gcd_of_pos_left ha
  obtain ⟨i, hi, hi0, hi1, hi2⟩ := inverse_ev (a := a / Nat.gcd a b) (b := b / Nat.gcd a b) (Nat.le_trans (Nat.div_le_self _ _) ha2) hw (by omega) hco st
  have g1 := gMod_ap (i := y - x) (j := (Nat.gcd a b : Nat)) (s := st) (by omega)
  have g2 := gFdiv_ap (i := y - x) (j := (Nat.gcd a b : Nat)) (s := st) (by omega) (by omega) (by omega)
  have g3 := gFdiv_ap (i := b) (j := (Nat.gcd a b : Nat)) (s := st) (by omega) (by omega) (by omega)
  have g4 := gFdiv_ap (i := a) (j := (Nat.gcd a b : Nat)) (s := st) (by omega) (by omega) (by omega)
  have e3 : Int.fdiv (b : Int) (Nat.gcd a b : Nat) = (b / Nat.gcd a b : Nat) := by
    rw [Int.fdiv_eq_ediv_of_nonneg _ (by omega), Int.natCast_ediv]
  have e4 : Int.fdiv (a : Int) (Nat.gcd a b : Nat) = (a / Nat.gcd a b : Nat) := by
    rw [Int.fdiv_eq_ediv_of_nonneg _ (by omega), Int.natCast_ediv]
  rw [e3] at g3
  rw [e4] at g4
  have hk : a * (b / Nat.gcd a b) ≠ 0 := Nat.mul_ne_zero (by omega) (by omega)
  have g5 := gMul_r (i := (y - x).fdiv (Nat.gcd a b : Nat)) (j := i) (s := st) (by omega) (by omega)
  have g6 := gMod_ap (i := (y - x).fdiv (Nat.gcd a b : Nat) * i) (j := (b / Nat.gcd a b : Nat)) (s := st) (by omega)
  have g7 := gMul_nl (i := (b / Nat.gcd a b : Nat)) (n := a) (s := st) (by omega)
  have g8 := gMul_nl (i := ((y - x).fdiv (Nat.gcd a b : Nat) * i).fmod (b / Nat.gcd a b : Nat)) (n := a) (s := st) (by omega)
  have e7 : (a : Int) * (b / Nat.gcd a b : Nat) = ((a * (b / Nat.gcd a b) : Nat) : Int) := by simp
  rw [e7] at g7
  have g9 := gMod_ap (i := x + a * ((y - x).fdiv (Nat.gcd a b : Nat) * i).fmod (b / Nat.gcd a b : Nat)) (j := ((a * (b / Nat.gcd a b) : Nat) : Int)) (s := st) (by omega)
  have hLp : (0 : Int) < ((a * (b / Nat.gcd a b) : Nat) : Int) := by omega
  refine ⟨a * (b / Nat.gcd a b), (x + a * ((y - x).fdiv (Nat.gcd a b : Nat) * i).fmod (b / Nat.gcd a b : Nat)).fmod ((a * (b / Nat.gcd a b) : Nat) : Int), ?_, rfl, Nat.pos_of_ne_zero hk, (fmod_nn _ hLp).1, (fmod_nn _ hLp).2, ?_, ?_⟩
  · unfold rsD
    generalize ((a * (b / Nat.gcd a b) : Nat) : Int) = W at *
    generalize ((b / Nat.gcd a b : Nat) : Int) = w at *
    generalize ((a / Nat.gcd a b : Nat) : Int) = u at *
    have c1 := common_ev a b st
    generalize ((Nat.gcd a b : Nat) : Int) = g at *
    simp [f_put_together, runFn_ap, m_put_together, c1, g1, h, g2, g3, g4, hi, g5, g6, g7, g8, g9]
  all_goals
    obtain ⟨a', ea⟩ := Nat.gcd_dvd_left a b
    obtain ⟨b', eb⟩ := Nat.gcd_dvd_right a b
    have ea2 : a / Nat.gcd a b = a' := Nat.div_eq_of_eq_mul_right hg ea
    have eb2 : b / Nat.gcd a b = b' := Nat.div_eq_of_eq_mul_right hg eb
    obtain ⟨s, hs⟩ := (fmod0_dvd hg).mp h
    have hs2 : (y - x).fdiv (Nat.gcd a b : Nat) = s := by
      rw [hs, Int.mul_comm, Int.mul_fdiv_cancel _ (by omega)]
    rw [hs2, eb2]
    rw [ea2, eb2] at hi2
    generalize Nat.gcd a b = g at *
  · rw [Int.fmod_def, show ((a * b' : Nat) : Int) = (a : Int) * b' by simp, Int.mul_assoc]
    refine ⟨(s * i).fmod b' - b' * (x + a * (s * i).fmod b').fdiv (a * b'), ?_⟩
    rw [Int.mul_sub]
    omega
  · have key : (b' : Int) ∣ (a' : Int) * (s * i).fmod b' - s := by
      rw [Int.fmod_def, Int.mul_sub]
      obtain ⟨q, hq⟩ := hi2
      refine ⟨s * q - a' * (s * i).fdiv b', ?_⟩
      rw [Int.mul_sub]
      have e1 : (a' : Int) * (s * i) - s = s * (i * a' - 1) := by
        rw [Int.mul_sub, Int.mul_one, ← Int.mul_assoc, ← Int.mul_assoc, Int.mul_comm (a' : Int) s, Int.mul_assoc s i, Int.mul_comm i, ← Int.mul_assoc]
      have e2 : (a' : Int) * (b' * (s * i).fdiv b') = b' * (a' * (s * i).fdiv b') := by
        rw [← Int.mul_assoc, ← Int.mul_assoc, Int.mul_comm (a' : Int)]
      have e3 : (b' : Int) * (s * q) = s * (b' * q) := by
        rw [← Int.mul_assoc, ← Int.mul_assoc, Int.mul_comm (b' : Int)]
      rw [e2, e3, ← hq, ← e1]
      omega
    obtain ⟨k, hk2⟩ := key
    have eL : ((a * b' : Nat) : Int) = (b : Int) * a' := by
      rw [ea, eb]
      simp [Int.mul_assoc, Int.mul_comm, Int.mul_left_comm]
    rw [Int.fmod_def, eL, Int.mul_assoc]
    refine ⟨k - a' * (x + a * (s * i).fmod b').fdiv (b * a'), ?_⟩
    rw [Int.mul_sub]
    have e5 : (a : Int) * (s * i).fmod b' - g * s = b * k := by
      rw [eb, ea]
      simp only [Int.natCast_mul]
      rw [Int.mul_assoc, Int.mul_assoc, ← Int.mul_sub, hk2]
    omega
end K91
namespace K91
open Mi
open PySem (Str)
/-! ### several rests -/
abbrev Pr := Nat × Nat
def pD (p : Pr) : D := rsD p.1 p.2
def Cm (js : List Pr) (x : Int) : Prop := ∀ p ∈ js, (p.1 : Int) ∣ x - p.2
theorem crt_iff {a b L : Nat} {x y r z : Int} (hL : L = a * (b / Nat.gcd a b)) (h1 : (a : Int) ∣ r - x) (h2 : (b : Int) ∣ r - y) : ((a : Int) ∣ z - x ∧ (b : Int) ∣ z - y) ↔ (L : Int) ∣ z - r := by
  have e : L = Nat.lcm a b := by rw [hL, Nat.lcm_eq_mul_div, Nat.mul_div_assoc _ (Nat.gcd_dvd_right a b)]
  rw [e]
  constructor
  · rintro ⟨h3, h4⟩
    have d1 : (a : Int) ∣ z - r := by
      have := Int.dvd_sub h3 h1
      rwa [show z - x - (r - x) = z - r by omega] at this
    have d2 : (b : Int) ∣ z - r := by
      have := Int.dvd_sub h4 h2
      rwa [show z - y - (r - y) = z - r by omega] at this
    rw [Int.ofNat_dvd_left] at d1 d2 ⊢
    exact Nat.lcm_dvd d1 d2
  · intro h3
    have d1 : (a : Int) ∣ z - r := Int.dvd_trans (Int.natCast_dvd_natCast.mpr (Nat.dvd_lcm_left a b)) h3
    have d2 : (b : Int) ∣ z - r := Int.dvd_trans (Int.natCast_dvd_natCast.mpr (Nat.dvd_lcm_right a b)) h3
    constructor
    · have := Int.dvd_add d1 h1
      rwa [show z - r + (r - x) = z - x by omega] at this
    · have := Int.dvd_add d2 h2
      rwa [show z - r + (r - y) = z - y by omega] at this
theorem no_both {a b : Nat} (ha : 0 < a) {x y z : Int} (h : (y - x).fmod (Nat.gcd a b : Nat) ≠ 0) (h1 : (a : Int) ∣ z - x) (h2 : (b : Int) ∣ z - y) : False := by
  apply h
  rw [fmod0_dvd (Nat.gcd_pos_of_pos_left _ ha)]
  have d1 := Int.dvd_trans (Int.natCast_dvd_natCast.mpr (Nat.gcd_dvd_left a b)) h1
  have d2 := Int.dvd_trans (Int.natCast_dvd_natCast.mpr (Nat.gcd_dvd_right a b)) h2
  have := Int.dvd_sub d1 d2
  rwa [show z - x - (z - y) = y - x by omega] at this
theorem Cm_snoc {js : List Pr} {p : Pr} {x : Int} : Cm (js ++ [p]) x ↔ Cm js x ∧ (p.1 : Int) ∣ x - p.2 := by
  unfold Cm
  constructor
  · intro h
    exact ⟨fun q hq => h q (by simp [hq]), h p (by simp)⟩
  · rintro ⟨h1, h2⟩ q hq
    rcases List.mem_append.mp hq with hq | hq
    · exact h1 q hq
    · rw [List.mem_singleton.mp hq]
      exact h2
theorem pow_40 {i : Nat} (h : i ≤ 3) : 40 ^ i ≤ 64000 := by
  have := Nat.pow_le_pow_right (n := 40) (by decide) h
  omega
theorem all_ev {js : List Pr} (hj : ∀ p ∈ js, 0 < p.1 ∧ p.1 ≤ 40) (hl : js.length ≤ 4) {X : R} (hX : X = .v (.tup (js.map pD)) ∨ X = .b (.lst (js.map pD))) (st : Sto) :
    (f_all_together [X] st = some (.v .non, st) ∧ ∀ x, ¬ Cm js x) ∨ ∃ (L : Nat) (r : Int), f_all_together [X] st = some (.v (rsD L r), st) ∧ 0 < L ∧ L ≤ 40 ^ js.length ∧ 0 ≤ r ∧ r < L ∧ ∀ x, Cm js x ↔ (L : Int) ∣ x - r := by
  have hlen : (js.map pD).length = js.length := List.length_map ..
  have hf := for_inv (ck := tr1) (g := g1_all_together) (b := b1_all_together) (ds := js.map pD) (env := [some X, some (.v (rsD 1 0)), none]) (st := st)
    (fun i e s => s = st ∧ ∃ y2, (e = [some X, some (.v .non), y2] ∧ ∀ x, ¬ Cm (js.take i) x) ∨ ∃ (L : Nat) (r : Int), e = [some X, some (.v (rsD L r)), y2] ∧ 0 < L ∧ L ≤ 40 ^ i ∧ 0 ≤ r ∧ r < L ∧ ∀ x, Cm (js.take i) x ↔ (L : Int) ∣ x - r)
    ?step (fun _ _ _ => trivial) ⟨rfl, none, .inr ⟨1, 0, rfl, by decide, by decide, by decide, by decide, fun x => ⟨fun _ => Int.one_dvd _, fun _ p hp => by simp at hp⟩⟩⟩
  · obtain ⟨e, s, he, rfl, hI⟩ := hf
    rw [hlen, List.take_of_length_le (Nat.le_refl _)] at hI
    obtain ⟨y2, ⟨rfl, hn⟩ | ⟨L, r, rfl, h1, h2, h3, h4, h5⟩⟩ := hI
    · refine .inl ⟨?_, hn⟩
      have he : forL tr1 g1_all_together b1_all_together (js.map pD) [some X, some (.v (.tup [.int 1, .int 0])), none] s = _ := he
      rcases hX with rfl | rfl <;> simp [f_all_together, runFn_ap, m_all_together, he]
    · refine .inr ⟨L, r, ?_, h1, h2, h3, h4, h5⟩
      have he : forL tr1 g1_all_together b1_all_together (js.map pD) [some X, some (.v (.tup [.int 1, .int 0])), none] s = _ := he
      rcases hX with rfl | rfl <;> simp [f_all_together, runFn_ap, m_all_together, he]
  case step =>
    rintro i d e s hd ⟨rfl, y2, hI⟩
    have hi : i < js.length := by
      rcases Nat.lt_or_ge i js.length with h | h
      · exact h
      · rw [List.getElem?_eq_none (by omega)] at hd
        cases hd
    rw [List.getElem?_map, List.getElem?_eq_getElem hi] at hd
    cases hd
    have hjp := hj _ (List.getElem_mem hi)
    have ht : js.take (i + 1) = js.take i ++ [js[i]] := (List.take_append_getElem hi).symm
    rcases hI with ⟨rfl, hn⟩ | ⟨L, r, rfl, h1, h2, h3, h4, h5⟩
    · exact turn_nx (s1 := s) (s2 := s) trivial (e := [some X, some (.v .non), some (.v (pD js[i]))]) (e2 := [some X, some (.v .non), some (.v (pD js[i]))]) (by simp [g1_all_together]) (by simp [b1_all_together]) ⟨rfl, _, .inl ⟨rfl, fun x hx => by
        rw [ht, Cm_snoc] at hx
        exact hn x hx.1⟩⟩
    · have hL := pow_40 (i := i) (by omega)
      have nn : gIsN (.v (rsD L r)) (.v .non) s = some (.v (.bl false), s) := rfl
      by_cases h : ((js[i].2 : Int) - r).fmod (Nat.gcd L js[i].1 : Nat) = 0
      · obtain ⟨L2, r2, hp, eL, p1, p2, p3, p4, p5⟩ := put_some h1 (by omega) hjp.1 (by omega) r js[i].2 h s
        have hp : f_put_together [.v (rsD L r), .v (pD js[i])] s = _ := hp
        exact turn_nx (s1 := s) (s2 := s) trivial (e := [some X, some (.v (rsD L r)), some (.v (pD js[i]))]) (e2 := [some X, some (.v (rsD L2 r2)), some (.v (pD js[i]))]) (by simp [g1_all_together]) (by simp [b1_all_together, nn, hp]) ⟨rfl, _, .inr ⟨L2, r2, rfl, p1, by
          rw [eL, Nat.pow_succ]
          exact Nat.mul_le_mul h2 (Nat.le_trans (Nat.div_le_self _ _) hjp.2), p2, p3, fun x => by
          rw [ht, Cm_snoc, h5]
          exact crt_iff eL p4 p5⟩⟩
      · have hp := put_none (b := js[i].1) h1 r js[i].2 h s
        have hp : f_put_together [.v (rsD L r), .v (pD js[i])] s = _ := hp
        exact turn_nx (s1 := s) (s2 := s) trivial (e := [some X, some (.v (rsD L r)), some (.v (pD js[i]))]) (e2 := [some X, some (.v .non), some (.v (pD js[i]))]) (by simp [g1_all_together]) (by simp [b1_all_together, nn, hp]) ⟨rfl, _, .inl ⟨rfl, fun x hx => by
          rw [ht, Cm_snoc, h5] at hx
          exact no_both h1 h hx.1 hx.2⟩⟩
/-! ### the first time together -/
def Fst (js : List Pr) (x : Int) : Prop := (∀ p ∈ js, (p.2 : Int) ≤ x) ∧ Cm js x ∧ ∀ y, (∀ p ∈ js, (p.2 : Int) ≤ y) → Cm js y → x ≤ y
theorem Fst.unique {js : List Pr} {x y : Int} (h : Fst js x) (h' : Fst js y) : x = y := Int.le_antisymm (h.2.2 y h'.1 h'.2.1) (h'.2.2 x h.1 h.2.1)
def bg (js : List Pr) : Int := maxL (js.map fun p => (p.2 : Int))
theorem bg_le {js : List Pr} (h : js ≠ []) {y : Int} : (∀ p ∈ js, (p.2 : Int) ≤ y) ↔ bg js ≤ y := by
  have hm := maxL_mem (ns := js.map fun p => (p.2 : Int)) (by simpa using h)
  constructor
  · intro hy
    obtain ⟨p, hp, e⟩ := List.mem_map.mp hm.1
    have := hy p hp
    unfold bg
    omega
  · intro hy p hp
    have := hm.2 p.2 (List.mem_map.mpr ⟨p, hp, rfl⟩)
    unfold bg at hy
    omega
theorem bg_mem {js : List Pr} (h : js ≠ []) : ∃ p ∈ js, bg js = p.2 := by
  have hm := maxL_mem (ns := js.map fun p => (p.2 : Int)) (by simpa using h)
  obtain ⟨p, hp, e⟩ := List.mem_map.mp hm.1
  exact ⟨p, hp, e.symm⟩
/-- found by the remainder -/
theorem fst_of {js : List Pr} (h0 : js ≠ []) {L : Nat} (hL : 0 < L) {r : Int} (h : ∀ x, Cm js x ↔ (L : Int) ∣ x - r) : Fst js (bg js + (r - bg js).fmod L) := by
  have hm := fmod_nn (r - bg js) (show (0 : Int) < L by omega)
  have hd : (L : Int) ∣ (bg js + (r - bg js).fmod L) - r := by
    rw [Int.fmod_def]
    exact ⟨-((r - bg js).fdiv L), by rw [Int.mul_neg]; omega⟩
  refine ⟨(bg_le h0).mpr (by omega), (h _).mpr hd, fun y hy hc => ?_⟩
  have hy := (bg_le h0).mp hy
  obtain ⟨k, hk⟩ := Int.dvd_sub ((h y).mp hc) hd
  have hk0 : 0 ≤ k ∨ k ≤ -1 := by omega
  rcases hk0 with hk0 | hk0
  · have := Int.mul_nonneg (show (0 : Int) ≤ L by omega) hk0
    omega
  · have := Int.mul_le_mul_of_nonneg_left hk0 (show (0 : Int) ≤ L by omega)
    omega
end K91
namespace K91
open Mi
open PySem (Str)
def snD : D → D
  | .tup [_, x] => x
  | d => d
def okD (x : Int) : D → Bool
  | .tup [.int n, .int t] => decide ((x - t).fmod n = 0)
  | _ => false
theorem okD_p (x : Int) {p : Pr} (h : 0 < p.1) : okD x (pD p) = decide ((p.1 : Int) ∣ x - p.2) := by
  show decide ((x - (p.2 : Int)).fmod p.1 = 0) = _
  congr 1
  exact propext (fmod0_dvd h)
theorem all_okD {js : List Pr} (hj : ∀ p ∈ js, 0 < p.1) (x : Int) : (js.map pD).all (okD x) = true ↔ Cm js x := by
  rw [List.all_map, List.all_eq_true]
  unfold Cm
  constructor
  · intro h p hp
    have := h p hp
    simp only [Function.comp, okD_p x (hj p hp)] at this
    exact of_decide_eq_true this
  · intro h p hp
    simp only [Function.comp, okD_p x (hj p hp)]
    exact decide_eq_true (h p hp)
theorem bMax_ll {ns : List Int} {s : Sto} (h : ns ≠ []) : bMax [.l (.lst (ns.map .int))] s = some (.v (.int (maxL ns)), s) := by
  show bo (M.ofO (allInts (ns.map D.int)) s) _ = _
  rw [allInts_map, ofO_some, bo_some, if_neg h]
  rfl
theorem first_ev {js : List Pr} (h0 : js ≠ []) (hj : ∀ p ∈ js, 0 < p.1 ∧ p.2 ≤ 1000000) (hl : js.length ≤ 4) {far : Int} (hf0 : 0 ≤ far) (hf1 : far ≤ 1000000) (st : Sto) :
    (f__law_first [.b (.lst (js.map pD)), .v (.int far)] st = some (.v .non, st) ∧ ∀ x, bg js ≤ x → x < bg js + far → ¬ Cm js x) ∨
    ∃ x, f__law_first [.b (.lst (js.map pD)), .v (.int far)] st = some (.v (.int x), st) ∧ Fst js x ∧ x < bg js + far := by
  obtain ⟨q, hq, eq⟩ := bg_mem h0
  have hq2 := (hj q hq).2
  have hb0 : 0 ≤ bg js := by omega
  have hb1 : bg js ≤ 1000000 := by omega
  have hm : (js.map pD).map snD = (js.map fun p => (p.2 : Int)).map .int := by
    (rw [List.map_map, List.map_map]); rfl
  have c1 := comp_map (g := g1__law_first) (m := e1__law_first) (env := [some (.b (.lst (js.map pD))), some (.v (.int far)), none, none, none, none]) (st := st) (ds := js.map pD) snD (by rw [List.length_map]; omega) (fun d hd => by
    obtain ⟨p, hp, rfl⟩ := List.mem_map.mp hd
    exact ⟨_, by simp [g1__law_first, pD, rsD]; rfl, by simp [e1__law_first, snD, pD, rsD]⟩)
  rw [hm] at c1
  have m1 := bMax_ll (ns := js.map fun p => (p.2 : Int)) (s := st) (by simpa using h0)
  rw [show maxL (js.map fun p => (p.2 : Int)) = bg js from rfl] at m1
  generalize hIL : (js.map fun p => (p.2 : Int)).map D.int = IL at c1 m1
  clear hIL hm
  have r2 := ra2_ap (s := st) (i := bg js) (k := bg js + far) (by omega) (by omega) (by omega) (by omega)
  rw [show bg js + far - bg js = far by omega] at r2
  have hlen : (rangeD (bg js) far.toNat).length = far.toNat := by simp [rangeD]
  have hf := for_post (ck := tr1) (g := g3__law_first) (b := b1__law_first) (ds := rangeD (bg js) far.toNat) (env := [some (.b (.lst (js.map pD))), some (.v (.int far)), some (.v (.int (bg js))), none, none, none]) (st := st)
    (fun i e s => s = st ∧ (∃ y3, e = [some (.b (.lst (js.map pD))), some (.v (.int far)), some (.v (.int (bg js))), y3, none, none]) ∧ ∀ x, bg js ≤ x → x < bg js + i → ¬ Cm js x)
    (fun r s => s = st ∧ ∃ x, r = .v (.int x) ∧ Fst js x ∧ x < bg js + far)
    ?step (fun _ _ _ => trivial) ⟨rfl, ⟨none, rfl⟩, fun x h1 h2 => by omega⟩
  · rcases hf with ⟨e, s, he, rfl, ⟨y3, rfl⟩, hn⟩ | ⟨r, s, he, rfl, x, rfl, hx, hx2⟩
    · refine .inl ⟨?_, fun x h1 h2 => hn x h1 (by rw [hlen]; omega)⟩
      generalize rangeD (bg js) far.toNat = RR at *
      generalize bg js = B at *
      simp [f__law_first, runFn_ap, m__law_first, wipeE, c1, m1, r2, he]
    · refine .inr ⟨x, ?_, hx, hx2⟩
      generalize rangeD (bg js) far.toNat = RR at *
      generalize bg js = B at *
      simp [f__law_first, runFn_ap, m__law_first, wipeE, c1, m1, r2, he]
  case step =>
    rintro i d e s hd ⟨rfl, ⟨y3, rfl⟩, hn⟩
    have hi : i < far.toNat := by
      rcases Nat.lt_or_ge i far.toNat with h | h
      · exact h
      · rw [List.getElem?_eq_none (by omega)] at hd
        cases hd
    unfold rangeD at hd
    rw [List.getElem?_map, List.getElem?_range hi] at hd
    cases hd
    generalize hx : bg js + (i : Int) = x at *
    obtain ⟨es, cc, ha⟩ := comp_bool (g := g2__law_first) (m := e2__law_first) (env := [some (.b (.lst (js.map pD))), some (.v (.int far)), some (.v (.int (bg js))), some (.v (.int x)), none, none]) (st := s) (ds := js.map pD) (okD x) (by rw [List.length_map]; omega) (fun d hd => by
      obtain ⟨p, hp, rfl⟩ := List.mem_map.mp hd
      have hp0 := (hj p hp).1
      have g1 := gMod_ap (i := x - p.2) (j := (p.1 : Int)) (s := s) (by omega)
      exact ⟨_, by simp [g2__law_first, pD, rsD]; rfl, by simp [e2__law_first, okD, pD, rsD, g1]⟩)
    by_cases hc : Cm js x
    · rw [(all_okD (fun p hp => (hj p hp).1) x).mpr hc] at ha
      refine turn_r (s1 := s) (s2 := s) trivial (r := .v (.int x)) (e := [some (.b (.lst (js.map pD))), some (.v (.int far)), some (.v (.int (bg js))), some (.v (.int x)), none, none]) (by simp [g3__law_first, hx]) (by simp [b1__law_first, wipeE, cc, ha]) ⟨rfl, x, rfl, ⟨(bg_le h0).mpr (by omega), hc, fun y hy hcy => ?_⟩, by omega⟩
      have hy := (bg_le h0).mp hy
      rcases Int.lt_or_le y x with h | h
      · exact absurd hcy (hn y hy (by omega))
      · exact h
    · have hf : (js.map pD).all (okD x) = false := by
        cases q : (js.map pD).all (okD x)
        · rfl
        · exact absurd ((all_okD (fun p hp => (hj p hp).1) x).mp q) hc
      rw [hf] at ha
      exact turn_n (s1 := s) (s2 := s) trivial (e := [some (.b (.lst (js.map pD))), some (.v (.int far)), some (.v (.int (bg js))), some (.v (.int x)), none, none]) (e2 := [some (.b (.lst (js.map pD))), some (.v (.int far)), some (.v (.int (bg js))), some (.v (.int x)), none, none]) (by simp [g3__law_first, hx]) (by simp [b1__law_first, wipeE, cc, ha]) ⟨rfl, ⟨_, rfl⟩, fun y h1 h2 hcy => by
        rcases Int.lt_or_le y x with h | h
        · exact hn y h1 (by omega) hcy
        · have : y = x := by omega
          rw [this] at hcy
          exact hc hcy⟩
/-- far enough: there is a first time, or none at all -/
theorem first_far {js : List Pr} (h0 : js ≠ []) (hj : ∀ p ∈ js, 0 < p.1 ∧ p.1 ≤ 40 ∧ p.2 ≤ 1000000) (hl : js.length ≤ 4) {far : Int} (hf0 : ∀ (L : Nat) (r : Int), 0 < L → (∀ x, Cm js x ↔ (L : Int) ∣ x - r) → (L : Int) ≤ far) (hfp : 0 ≤ far) (hf1 : far ≤ 1000000) (st : Sto) :
    (f__law_first [.b (.lst (js.map pD)), .v (.int far)] st = some (.v .non, st) ∧ ∀ x, ¬ Cm js x) ∨
    ∃ x, f__law_first [.b (.lst (js.map pD)), .v (.int far)] st = some (.v (.int x), st) ∧ Fst js x := by
  rcases first_ev h0 (fun p hp => ⟨(hj p hp).1, (hj p hp).2.2⟩) hl hfp hf1 st with ⟨h1, h2⟩ | ⟨x, h1, h2, _⟩
  · refine .inl ⟨h1, fun x hx => ?_⟩
    rcases all_ev (fun p hp => ⟨(hj p hp).1, (hj p hp).2.1⟩) hl (.inl rfl) st with ⟨_, h3⟩ | ⟨L, r, _, hL, _, _, _, h3⟩
    · exact h3 x hx
    · have hF := fst_of h0 hL h3
      have hm := fmod_nn (r - bg js) (show (0 : Int) < L by omega)
      have := hf0 L r hL h3
      exact h2 _ ((bg_le h0).mp hF.1) (by omega) hF.2.1
  · exact .inr ⟨x, h1, h2⟩
/-- a round divides the product -/
theorem round_le {js : List Pr} {L : Nat} {r : Int} (h : ∀ x, Cm js x ↔ (L : Int) ∣ x - r) {P : Nat} (hP : 0 < P) (hd : ∀ p ∈ js, p.1 ∣ P) (hc : ∃ x, Cm js x) : L ≤ P := by
  obtain ⟨x, hx⟩ := hc
  have h1 : Cm js (x + P) := fun p hp => by
    have := Int.dvd_add (hx p hp) (Int.natCast_dvd_natCast.mpr (hd p hp))
    rwa [show x - (p.2 : Int) + P = x + P - p.2 by omega] at this
  have h2 := Int.dvd_sub ((h _).mp h1) ((h _).mp hx)
  rw [show x + (P : Int) - r - (x - r) = (P : Nat) by omega] at h2
  exact Nat.le_of_dvd hP (Int.natCast_dvd_natCast.mp h2)
/-- there is a first time where there is one -/
theorem all_ev_fst {js : List Pr} (h0 : js ≠ []) (hc : ∃ x, Cm js x) (hj : ∀ p ∈ js, 0 < p.1) : ∃ y, Fst js y := by
  obtain ⟨x, hx⟩ := hc
  -- a product of all rounds
  have hP : ∀ l : List Pr, (∀ p ∈ l, 0 < p.1) → ∃ P : Nat, 0 < P ∧ ∀ p ∈ l, p.1 ∣ P := by
    intro l
    induction l with
    | nil => exact fun _ => ⟨1, by decide, by simp⟩
    | cons p l ih =>
      intro h
      obtain ⟨P, h1, h2⟩ := ih fun q hq => h q (by simp [hq])
      (refine ⟨p.1 * P, Nat.mul_pos (h p (by simp)) h1, fun q hq => ?_⟩); rcases List.mem_cons.mp hq with rfl | hq
      · exact Nat.dvd_mul_right _ _
      · exact Nat.dvd_trans (h2 q hq) (Nat.dvd_mul_left _ _)
  obtain ⟨P, hP0, hPd⟩ := hP js hj
  have hshift : ∀ (y : Int) (k : Int), Cm js y → Cm js (y + P * k) := fun y k hy p hp => by
    have := Int.dvd_add (hy p hp) (Int.dvd_trans (Int.natCast_dvd_natCast.mpr (hPd p hp)) (Int.dvd_mul_right (P : Int) k))
    rwa [show y - (p.2 : Int) + P * k = y + P * k - p.2 by omega] at this
  have key : ∀ (n : Nat), (∃ y, bg js ≤ y ∧ y ≤ bg js + n ∧ Cm js y) → ∃ y, Fst js y := by
    intro n
    induction n with
    | zero =>
      rintro ⟨y, h1, h2, h3⟩
      exact ⟨y, (bg_le h0).mpr h1, h3, fun z hz _ => by
        have := (bg_le h0).mp hz
        omega⟩
    | succ n ih =>
      rintro ⟨y, h1, h2, h3⟩
      by_cases h : ∃ z, bg js ≤ z ∧ z ≤ bg js + n ∧ Cm js z
      · exact ih h
      · refine ⟨y, (bg_le h0).mpr h1, h3, fun z hz hcz => ?_⟩
        have hz := (bg_le h0).mp hz
        rcases Int.lt_or_le z y with h4 | h4
        · exact absurd ⟨z, hz, by omega, hcz⟩ h
        · exact h4
  have hm := fmod_nn (x - bg js) (show (0 : Int) < P by omega)
  refine key P ⟨bg js + (x - bg js).fmod P, by omega, by omega, ?_⟩
  have := hshift x (-((x - bg js).fdiv P)) hx
  rw [Int.fmod_def]
  rwa [Int.mul_neg, show x + -((P : Int) * (x - bg js).fdiv P) = bg js + (x - bg js - P * (x - bg js).fdiv P) by omega] at this
/-! ### two by two, all -/
theorem gcd_lcm_dvd {a : Nat} (b c : Nat) (ha : 0 < a) : Nat.gcd (a * (b / Nat.gcd a b)) c ∣ Nat.lcm (Nat.gcd a c) (Nat.gcd b c) := by
  have e : a * (b / Nat.gcd a b) = Nat.lcm a b := by rw [Nat.lcm_eq_mul_div, Nat.mul_div_assoc _ (Nat.gcd_dvd_right a b)]
  rw [e]
  have hu : 0 < Nat.gcd a c := Nat.gcd_pos_of_pos_left _ ha
  have hw : 0 < Nat.gcd (Nat.gcd a c) (Nat.gcd b c) := Nat.gcd_pos_of_pos_left _ hu
  have d1 := Nat.gcd_dvd_left (Nat.lcm a b) c
  have d2 := Nat.gcd_dvd_right (Nat.lcm a b) c
  have wu := Nat.gcd_dvd_left (Nat.gcd a c) (Nat.gcd b c)
  have wv := Nat.gcd_dvd_right (Nat.gcd a c) (Nat.gcd b c)
  have wa := Nat.dvd_trans wu (Nat.gcd_dvd_left a c)
  have wc := Nat.dvd_trans wu (Nat.gcd_dvd_right a c)
  have wb := Nat.dvd_trans wv (Nat.gcd_dvd_left b c)
  generalize Nat.gcd (Nat.lcm a b) c = d at *
  have h : d * Nat.gcd (Nat.gcd a c) (Nat.gcd b c) ∣ Nat.gcd a c * Nat.gcd b c := by
    generalize Nat.gcd (Nat.gcd a c) (Nat.gcd b c) = w at *
    have k1 : d * w ∣ a * b := by
      have := Nat.mul_dvd_mul d1 (Nat.dvd_gcd wa wb)
      rwa [Nat.lcm_mul_gcd] at this
    have k2 : d * w ∣ c * b := Nat.mul_dvd_mul d2 wb
    have k3 : d * w ∣ a * c := by
      rw [Nat.mul_comm a c]
      exact Nat.mul_dvd_mul d2 wa
    have k4 : d * w ∣ c * c := Nat.mul_dvd_mul d2 wc
    have k5 := Nat.dvd_gcd k1 k2
    have k6 := Nat.dvd_gcd k3 k4
    rw [Nat.gcd_mul_right] at k5 k6
    have k7 := Nat.dvd_gcd k5 k6
    rwa [Nat.gcd_mul_left] at k7
  rw [Nat.mul_comm d, ← Nat.gcd_mul_lcm (Nat.gcd a c) (Nat.gcd b c)] at h
  exact Nat.dvd_of_mul_dvd_mul_left hw h
end K91
namespace K91
open Mi
open PySem (Str)
theorem dvd_tr {a g : Nat} (h : g ∣ a) {x : Int} (h2 : (a : Int) ∣ x) : (g : Int) ∣ x := Int.dvd_trans (Int.natCast_dvd_natCast.mpr h) h2
/-- three, two by two -/
theorem three {a b c : Nat} (ha : 0 < a) (ha2 : a < 40) (hb : 0 < b) (hb2 : b < 40) (hc : 0 < c) (hc2 : c < 40) {s t u x y z : Int} (h1 : (a : Int) ∣ x - s) (h2 : (b : Int) ∣ x - t) (h3 : (a : Int) ∣ y - s) (h4 : (c : Int) ∣ y - u) (h5 : (b : Int) ∣ z - t) (h6 : (c : Int) ∣ z - u) :
    ∃ w : Int, (a : Int) ∣ w - s ∧ (b : Int) ∣ w - t ∧ (c : Int) ∣ w - u := by
  have k1 : (t - s).fmod (Nat.gcd a b : Nat) = 0 := by
    rw [fmod0_dvd (Nat.gcd_pos_of_pos_left _ ha)]
    have := Int.dvd_sub (dvd_tr (Nat.gcd_dvd_left a b) h1) (dvd_tr (Nat.gcd_dvd_right a b) h2)
    rwa [show x - s - (x - t) = t - s by omega] at this
  obtain ⟨L, r, _, eL, p1, p2, p3, p4, p5⟩ := put_some ha (by omega) hb (by omega) s t k1 []
  have hL : L ≤ 1600 := by
    rw [eL]
    exact Nat.mul_le_mul (show a ≤ 40 by omega) (show b / Nat.gcd a b ≤ 40 from Nat.le_trans (Nat.div_le_self _ _) (by omega))
  have k2 : (u - r).fmod (Nat.gcd L c : Nat) = 0 := by
    rw [fmod0_dvd (Nat.gcd_pos_of_pos_left _ p1)]
    have hd : Nat.gcd L c ∣ Nat.lcm (Nat.gcd a c) (Nat.gcd b c) := by
      rw [eL]
      exact gcd_lcm_dvd b c ha
    have d1 : ((Nat.gcd a c : Nat) : Int) ∣ u - r := by
      have e1 := Int.dvd_sub (dvd_tr (Nat.gcd_dvd_left a c) h3) (dvd_tr (Nat.gcd_dvd_right a c) h4)
      have := Int.dvd_sub e1 (dvd_tr (Nat.gcd_dvd_left a c) p4)
      rwa [show y - s - (y - u) - (r - s) = u - r by omega] at this
    have d2 : ((Nat.gcd b c : Nat) : Int) ∣ u - r := by
      have e1 := Int.dvd_sub (dvd_tr (Nat.gcd_dvd_left b c) h5) (dvd_tr (Nat.gcd_dvd_right b c) h6)
      have := Int.dvd_sub e1 (dvd_tr (Nat.gcd_dvd_left b c) p5)
      rwa [show z - t - (z - u) - (r - t) = u - r by omega] at this
    refine dvd_tr hd ?_
    rw [Int.ofNat_dvd_left] at d1 d2 ⊢
    exact Nat.lcm_dvd d1 d2
  obtain ⟨L2, w, _, _, _, _, _, q4, q5⟩ := put_some p1 (by omega) hc (by omega) r u k2 []
  refine ⟨w, ?_, ?_, q5⟩
  · have := Int.dvd_add (dvd_tr (by rw [eL]; exact Nat.dvd_mul_right a _) q4) p4
    rwa [show w - r + (r - s) = w - s by omega] at this
  · have hb3 : b ∣ L := by
      rw [eL, ← Nat.mul_div_assoc _ (Nat.gcd_dvd_right a b)]
      exact Nat.dvd_lcm_right a b
    have := Int.dvd_add (dvd_tr hb3 q4) p5
    rwa [show w - r + (r - t) = w - t by omega] at this
def PW (js : List Pr) : Prop := ∀ i j (hi : i < js.length) (hj : j < js.length), i < j → ∃ x, Cm [js[i], js[j]] x
theorem Cm_2 {p q : Pr} {x : Int} : Cm [p, q] x ↔ (p.1 : Int) ∣ x - p.2 ∧ (q.1 : Int) ∣ x - q.2 := by simp [Cm]
theorem pw_all {js : List Pr} (hj : ∀ p ∈ js, 0 < p.1 ∧ p.1 < 40) (hl : js.length = 2 ∨ js.length = 3) (h : PW js) : ∃ x, Cm js x := by
  match js, hl with
  | [p, q], _ => exact h 0 1 (by simp) (by simp) (by decide)
  | [p, q, r], _ =>
    obtain ⟨x, hx⟩ := h 0 1 (by simp) (by simp) (by decide)
    obtain ⟨y, hy⟩ := h 0 2 (by simp) (by simp) (by decide)
    obtain ⟨z, hz⟩ := h 1 2 (by simp) (by simp) (by decide)
    have hx := Cm_2.mp hx
    have hy := Cm_2.mp hy
    have hz := Cm_2.mp hz
    obtain ⟨w, h1, h2, h3⟩ := three (hj p (by simp)).1 (hj p (by simp)).2 (hj q (by simp)).1 (hj q (by simp)).2 (hj r (by simp)).1 (hj r (by simp)).2 hx.1 hx.2 hy.1 hy.2 hz.1 hz.2
    refine ⟨w, fun s hs => ?_⟩
    simp at hs
    rcases hs with rfl | rfl | rfl
    · exact h1
    · exact h2
    · exact h3
theorem Cm_pair {js : List Pr} {i j : Nat} (hi : i < js.length) (hj : j < js.length) {x : Int} (h : Cm js x) : Cm [js[i], js[j]] x := Cm_2.mpr ⟨h _ (List.getElem_mem hi), h _ (List.getElem_mem hj)⟩
/-- what two put together tell -/
theorem put_pair {p q : Pr} (hp : 0 < p.1 ∧ p.1 ≤ 40) (hq : 0 < q.1 ∧ q.1 ≤ 40) (st : Sto) :
    (f_put_together [.v (pD p), .v (pD q)] st = some (.v .non, st) ∧ ∀ x, ¬ Cm [p, q] x) ∨ ∃ (L : Nat) (r : Int), f_put_together [.v (pD p), .v (pD q)] st = some (.v (rsD L r), st) ∧ Cm [p, q] r := by
  by_cases h : ((q.2 : Int) - p.2).fmod (Nat.gcd p.1 q.1 : Nat) = 0
  · obtain ⟨L, r, h1, _, _, _, _, h5, h6⟩ := put_some hp.1 (by omega) hq.1 (by omega) p.2 q.2 h st
    exact .inr ⟨L, r, h1, Cm_2.mpr ⟨h5, h6⟩⟩
  · exact .inl ⟨put_none hp.1 _ _ h st, fun x hx => no_both hp.1 h (Cm_2.mp hx).1 (Cm_2.mp hx).2⟩
theorem are_rests_ev {js : List Pr} (hj : ∀ p ∈ js, 0 < p.1 ∧ p.1 ≤ 40 ∧ p.2 ≤ 1000000) (h0 : 0 < js.length) (hl : js.length ≤ 4) (st : Sto) : f_are_rests [.v (.tup (js.map pD))] st = some (.v (.bl true), st) := by
  obtain ⟨d1, c1, a1⟩ := comp_bool (g := g1_are_rests) (m := e1_are_rests) (env := [some (.v (.tup (js.map pD))), none, none, none]) (st := st) (ds := js.map pD) (fun _ => true) (by rw [List.length_map]; omega) (fun d hd => by
    obtain ⟨p, hp, rfl⟩ := List.mem_map.mp hd
    exact ⟨_, by simp [g1_are_rests]; rfl, by simp [e1_are_rests, pD, rsD]⟩)
  obtain ⟨d2, c2, a2⟩ := comp_bool (g := g2_are_rests) (m := e2_are_rests) (env := [some (.v (.tup (js.map pD))), none, none, none]) (st := st) (ds := js.map pD) (fun _ => true) (by rw [List.length_map]; omega) (fun d hd => by
    obtain ⟨p, hp, rfl⟩ := List.mem_map.mp hd
    have hp2 := hj p hp
    have r1 := between_yes (a := p.1) (lo := 1) (hi := 999999) (by omega) (by omega) st
    have r3 := between_yes (a := p.2) (lo := 0) (hi := 999999999) (by omega) (by omega) st
    exact ⟨_, by simp [g2_are_rests, pD, rsD]; rfl, by simp [e2_are_rests, r1, r3]⟩)
  have hall : (js.map pD).all (fun _ => true) = true := by simp
  rw [hall] at a1 a2
  have z1 : 0 < js.length := h0
  have z2 : (js.length : Int) ≤ 6 := by omega
  have z3 : js.length ≤ 6 := by omega
  have z4 : (0 : Int) < js.length := by omega
  have hlen : (js.map pD).length = js.length := List.length_map ..
  generalize js.map pD = ds at *
  rw [← hlen] at z1 z2 z3 z4
  simp [f_are_rests, runFn_ap, m_are_rests, wipeE, c1, a1, c2, a2, z1, z2, z3, z4]
theorem solve_in {js : List Pr} (hj : ∀ p ∈ js, 0 < p.1 ∧ p.1 ≤ 40 ∧ p.2 ≤ 1000000) (hl : js.length ≤ 4) {i : Nat} (hi : i < js.length) (y3 : Option R) (st : Sto) :
    Ends (fun e s => s = st ∧ (∃ y, e = [some (.v (.tup (js.map pD))), some (.v (.int i)), some (.v (pD js[i])), y]) ∧ ∀ j (hj : j < js.length), i < j → ∃ x, Cm [js[i], js[j]] x) (fun r s => s = st ∧ (∃ ds, r = .v (.tup (.str "two" :: ds))) ∧ ∀ x, ¬ Cm js x)
      (forL tr1 g1_solve b1_solve (rangeD ((i : Int) + 1) (js.length - (i + 1))) [some (.v (.tup (js.map pD))), some (.v (.int i)), some (.v (pD js[i])), y3] st) := by
  have hlen : (rangeD ((i : Int) + 1) (js.length - (i + 1))).length = js.length - (i + 1) := by simp [rangeD]
  have hf := for_post (ck := tr1) (g := g1_solve) (b := b1_solve) (ds := rangeD ((i : Int) + 1) (js.length - (i + 1))) (env := [some (.v (.tup (js.map pD))), some (.v (.int i)), some (.v (pD js[i])), y3]) (st := st)
    (fun k e s => s = st ∧ (∃ y, e = [some (.v (.tup (js.map pD))), some (.v (.int i)), some (.v (pD js[i])), y]) ∧ ∀ j (hj : j < js.length), i < j → j < i + 1 + k → ∃ x, Cm [js[i], js[j]] x)
    (fun r s => s = st ∧ (∃ ds, r = .v (.tup (.str "two" :: ds))) ∧ ∀ x, ¬ Cm js x)
    ?step (fun _ _ _ => trivial) ⟨rfl, ⟨_, rfl⟩, fun j _ h1 h2 => by omega⟩
  · rcases hf with ⟨e, s, he, h1, h2, h3⟩ | h
    · exact .inl ⟨e, s, he, h1, h2, fun j hj h => h3 j hj h (by rw [hlen]; omega)⟩
    · exact .inr h
  case step =>
    rintro k d e s hd ⟨rfl, ⟨y, rfl⟩, hI⟩
    have hk : k < js.length - (i + 1) := by
      rcases Nat.lt_or_ge k (js.length - (i + 1)) with h | h
      · exact h
      · rw [List.getElem?_eq_none (by omega)] at hd
        cases hd
    unfold rangeD at hd
    rw [List.getElem?_map, List.getElem?_range hk] at hd
    cases hd
    have hjl : i + 1 + k < js.length := by omega
    have ei : ((i : Int) + 1 + (k : Nat)) = ((i + 1 + k : Nat) : Int) := by omega
    dsimp only
    rw [ei]
    have hix : gIx (.v (.tup (js.map pD))) (.v (.int ((i + 1 + k : Nat) : Int))) s = some (.v (pD js[i + 1 + k]), s) := by
      rw [gIx_tup, atI_nat, List.getElem?_map, List.getElem?_eq_getElem hjl]
      rfl
    have h1 := hj _ (List.getElem_mem hi)
    have h2 := hj _ (List.getElem_mem hjl)
    generalize hjj : i + 1 + k = j at *
    generalize hX : D.tup (js.map pD) = X at *
    rcases put_pair (p := js[i]) (q := js[j]) ⟨h1.1, h1.2.1⟩ ⟨h2.1, h2.2.1⟩ s with ⟨hp, hn⟩ | ⟨L, r, hp, hc⟩
    · exact turn_r (s1 := s) (s2 := s) trivial (r := .v (.tup [.str "two", .int i, .int j])) (e := [some (.v X), some (.v (.int i)), some (.v (pD js[i])), some (.v (.int j))]) (by simp [g1_solve]) (by simp [b1_solve, hix, hp]) ⟨rfl, ⟨_, rfl⟩, fun x hx => hn x (Cm_pair hi hjl hx)⟩
    · have nn : gIsN (.v (rsD L r)) (.v .non) s = some (.v (.bl false), s) := rfl
      exact turn_n (s1 := s) (s2 := s) trivial (e := [some (.v X), some (.v (.int i)), some (.v (pD js[i])), some (.v (.int j))]) (e2 := [some (.v X), some (.v (.int i)), some (.v (pD js[i])), some (.v (.int j))]) (by simp [g1_solve]) (by simp [b1_solve, hix, hp, nn]) ⟨rfl, ⟨_, rfl⟩, fun j' hj' g1 g2 => by
        by_cases e : j' = j
        · subst e
          exact ⟨r, hc⟩
        · exact hI j' hj' g1 (by omega)⟩
theorem solve_ev {js : List Pr} (hj : ∀ p ∈ js, 0 < p.1 ∧ p.1 < 40 ∧ p.2 ≤ 1000000) (hl : js.length = 2 ∨ js.length = 3) (st : Sto) :
    (∃ ds, f_solve [.v (.tup (js.map pD))] st = some (.v (.tup (.str "two" :: ds)), st) ∧ ∀ x, ¬ Cm js x) ∨
    ∃ (L : Nat) (r : Int), f_solve [.v (.tup (js.map pD))] st = some (.v (.tup [.str "all", .int L, .int r]), st) ∧ 0 < L ∧ ∀ x, Cm js x ↔ (L : Int) ∣ x - r := by
  have hj2 : ∀ p ∈ js, 0 < p.1 ∧ p.1 ≤ 40 ∧ p.2 ≤ 1000000 := fun p hp => ⟨(hj p hp).1, by have := (hj p hp).2.1; omega, (hj p hp).2.2⟩
  have ar := are_rests_ev hj2 (by omega) (by omega) st
  have hlen : (enumD 0 (js.map pD)).length = js.length := by rw [enumD_length, List.length_map]
  have hf := for_post (ck := tr1) (g := g2_solve) (b := b2_solve) (ds := enumD 0 (js.map pD)) (env := [some (.v (.tup (js.map pD))), none, none, none]) (st := st)
    (fun i e s => s = st ∧ (∃ y1 y2 y3, e = [some (.v (.tup (js.map pD))), y1, y2, y3]) ∧ ∀ a b (ha : a < js.length) (hb : b < js.length), a < i → a < b → ∃ x, Cm [js[a], js[b]] x)
    (fun r s => s = st ∧ (∃ ds, r = .v (.tup (.str "two" :: ds))) ∧ ∀ x, ¬ Cm js x)
    ?step (fun _ _ _ => trivial) ⟨rfl, ⟨_, _, _, rfl⟩, fun a b _ _ h => by omega⟩
  · rcases hf with ⟨e, s, he, rfl, ⟨y1, y2, y3, rfl⟩, h3⟩ | ⟨r, s, he, rfl, ⟨ds, rfl⟩, hn⟩
    · obtain ⟨x, hx⟩ := pw_all (fun p hp => ⟨(hj p hp).1, (hj p hp).2.1⟩) hl (fun a b ha hb hab => h3 a b ha hb (by rw [hlen]; exact ha) hab)
      rcases all_ev (fun p hp => ⟨(hj2 p hp).1, (hj2 p hp).2.1⟩) (by omega) (.inl rfl) s with ⟨_, hn⟩ | ⟨L, r, hall, q1, _, _, _, q5⟩
      · exact absurd hx (hn x)
      · refine .inr ⟨L, r, ?_, q1, q5⟩
        unfold rsD at hall
        generalize js.map pD = ds at *
        simp [f_solve, runFn_ap, m_solve, ar, he, hall]
    · refine .inl ⟨ds, ?_, hn⟩
      generalize js.map pD = ds at *
      simp [f_solve, runFn_ap, m_solve, ar, he]
  case step =>
    rintro i d e s hd ⟨rfl, ⟨y1, y2, y3, rfl⟩, hI⟩
    have hi : i < js.length := by
      rcases Nat.lt_or_ge i js.length with h | h
      · exact h
      · rw [List.getElem?_eq_none (by omega)] at hd
        cases hd
    obtain ⟨x, hx, rfl⟩ := enumD_inv hd
    rw [List.getElem?_map, List.getElem?_eq_getElem hi] at hx
    cases hx
    rw [Nat.zero_add]
    have hin := solve_in hj2 (by omega) hi y3 s
    have q1 := ra2_ap (s := s) (i := (i : Int) + 1) (k := (js.length : Int)) (by omega) (by omega) (by omega) (by omega)
    rw [show ((js.length : Int) - ((i : Int) + 1)).toNat = js.length - (i + 1) by omega] at q1
    have hlm : (js.map pD).length = js.length := List.length_map ..
    refine ⟨trivial, [some (.v (.tup (js.map pD))), some (.v (.int i)), some (.v (pD js[i])), y3], s, by simp [g2_solve], ?_⟩
    have hb : b2_solve [some (.v (.tup (js.map pD))), some (.v (.int i)), some (.v (pD js[i])), y3] s = forL tr1 g1_solve b1_solve (rangeD ((i : Int) + 1) (js.length - (i + 1))) [some (.v (.tup (js.map pD))), some (.v (.int i)), some (.v (pD js[i])), y3] s := by
      generalize hds : js.map pD = ds at *
      simp [b2_solve, hlm, q1]
    rw [hb]
    rcases hin with ⟨e, s2, he, rfl, ⟨y, rfl⟩, h3⟩ | h
    · refine .inl ⟨_, _, he, rfl, ⟨_, _, _, rfl⟩, fun a b ha hbl h1 h2 => ?_⟩
      by_cases e : a = i
      · subst e
        exact h3 b hbl h2
      · exact hI a b ha hbl (by omega) h2
    · exact .inr h
end K91
/-! Mk: lists in the store; what is kept of a store. -/
namespace Mi
open PySem hiding Env
open PySem.Spec PyProof.Rows TL
section
variable {st : Sto} {n k : Nat} {ds es : List D} {ps : List PyData}
theorem Pds.obj (hn : st[n]? = some (.lst ds)) (h : Pds k st ds ps) : Pd (k + 1) st (.obj n) (.list ps) := by
  refine ⟨fun j hj => ?_, ?_, ?_⟩
  · cases j with
    | zero => omega
    | succ j =>
      rw [pdD, hn]
      dsimp only
      rw [h.1 j (by omega)]
      rfl
  · rw [PyData.canLay0]
    exact h.2.1
  · rw [PyData.depth]
    exact Nat.succ_le_succ h.2.2
theorem eqv_emp (h : Pds k st ds ps) : PyData.eqv (.list ps) (.list []) = ds.isEmpty := by
  have hl := h.1 k (Nat.le_refl _)
  rw [PyData.eqv]
  cases ds with
  | nil =>
    rw [pdL] at hl
    cases hl
    rw [PyData.eqvAll]
    rfl
  | cons d ds =>
    cases ps with
    | nil =>
      rw [pdL] at hl
      split at hl <;> cases hl
    | cons p ps =>
      rw [PyData.eqvAll]
      rfl
theorem gEq_se (hn : st[n]? = some (.lst ds)) (h : Pds k st ds ps) (hk : k ≤ 7) : gEq (.v (.obj n)) (.l (.lst [])) st = some (.v (.bl ds.isEmpty), st) := by
  unfold gEq
  rw [cmpP (pdR_v (h.obj hn) (by omega)) (pdR_l (n := 0) .nil (by omega)) ((h.obj hn).shaped (by omega)) (Pds.shaped (n := 0) (st := st) .nil (by omega)), eqv_emp h]
theorem gNe_se (hn : st[n]? = some (.lst ds)) (h : Pds k st ds ps) (hk : k ≤ 7) : gNe (.v (.obj n)) (.l (.lst [])) st = some (.v (.bl (!ds.isEmpty)), st) := by
  unfold gNe
  rw [cmpP (pdR_v (h.obj hn) (by omega)) (pdR_l (n := 0) .nil (by omega)) ((h.obj hn).shaped (by omega)) (Pds.shaped (n := 0) (st := st) .nil (by omega)), eqv_emp h]
theorem pdR_b (h : Pds k st ds ps) (hn : k ≤ 8) : pdR st (.b (.lst ds)) = some (.list ps) := by
  show (pdL 8 st ds).map PyData.list = _
  rw [h.1 8 hn]
  rfl
theorem gEq_be (h : Pds k st ds ps) (hk : k ≤ 8) : gEq (.b (.lst ds)) (.l (.lst [])) st = some (.v (.bl ds.isEmpty), st) := by
  unfold gEq
  rw [cmpP (pdR_b h hk) (pdR_l (n := 0) .nil (by omega)) (h.shaped hk) (Pds.shaped (n := 0) (st := st) .nil (by omega)), eqv_emp h]
theorem gNe_be (h : Pds k st ds ps) (hk : k ≤ 8) : gNe (.b (.lst ds)) (.l (.lst [])) st = some (.v (.bl (!ds.isEmpty)), st) := by
  unfold gNe
  rw [cmpP (pdR_b h hk) (pdR_l (n := 0) .nil (by omega)) (h.shaped hk) (Pds.shaped (n := 0) (st := st) .nil (by omega)), eqv_emp h]
theorem asIt_st (hn : st[n]? = some (.lst ds)) : asIt (.v (.obj n)) st = some ((⟨ds, fun s => stAt n s = some ds⟩ : Itm), st) := by
  show (match stAt n st with
    | some ds => some ((⟨ds, fun s => stAt n s = some ds⟩ : Itm), st)
    | none => none) = _
  have e : stAt n st = some ds := by simp [stAt, hn]
  rw [e]
theorem asLst_st (hn : st[n]? = some (.lst ds)) : asLst (.v (.obj n)) st = some (ds, st) := by
  show (match st[n]? with
    | some (.lst ds) => some (ds, st)
    | _ => none) = _
  rw [hn]
theorem gAdd_sl (hn : st[n]? = some (.lst ds)) (h : ds.length + es.length ≤ 16777216) : gAdd (.v (.obj n)) (.l (.lst es)) st = some (.l (.lst (ds ++ es)), st) := by
  show (asLst (.v (.obj n)) >>= fun xs => asLst (.l (.lst es)) >>= fun ys => if lenOk (xs.length + ys.length) = true then pure (R.l (.lst (xs ++ ys))) else M.fail) st = _
  rw [bind_bo, asLst_st hn, bo_some, bind_bo]
  show bo (some (es, st)) _ = _
  rw [bo_some, if_pos (show lenOk _ = true from decide_eq_true h)]
  rfl
end
theorem pop_e1 {i : Nat} (h : i < 1000000) : (-(2 ^ 63) : Int) ≤ (i:Int) := by
  have : (0 : Int) ≤ i := by omega
  exact Int.le_trans (by decide) this
theorem pop_e2 {i : Nat} (h : i < 1000000) : (i:Int) < 2 ^ 63 := by
  have : (i : Int) < 1000000 := by omega
  exact Int.lt_trans this (by decide)
theorem pop_si {i n : Nat} (hi : i < n) : PySem.seqIndex? (i : Int) n = some i := by
    unfold PySem.seqIndex?
    have h1 : ¬ (i : Int) < 0 := by omega
    have h2 : (0 : Int) ≤ (i : Int) := by omega
    have h3 : (i : Int) < (n : Int) := by omega
    simp [h1, h3, hi]
theorem fPop_i {ds : List D} {i : Nat} {s : Sto} (hi : i < ds.length) (hb : ds.length ≤ 1000000) : fPop ds [.v (.int (i : Int))] s = some ((.v ds[i], ds.eraseIdx i), s) := by
  have h1 := pop_e1 (i := i) (by omega)
  have h2 := pop_e2 (i := i) (by omega)
  have h3 := pop_si hi
  unfold fPop
  simp only [decide_eq_true h1, decide_eq_true h2, Bool.and_self, if_true, h3, bind_bo, ofO_some, bo_some, List.getElem?_eq_getElem hi, pure_ap]
theorem lstNo_st {m : Nat} {s : Sto} {ds : List D} (h1 : stAt m s = some ds) : lstNo (.v (.obj m)) s = some (m, s) := by
    show (match stAt m s with
      | some _ => some (m, s)
      | none => none) = _
    rw [h1]
theorem inSt_ap {m : Nat} {s s' : Sto} {ds ds' : List D} {f : List D → M (R × List D)} {r : R} (h1 : stAt m s = some ds) (h2 : f ds s = some ((r, ds'), s')) : inSt m f s = some (r, s'.set m (.lst ds')) := by
  unfold inSt
  rw [h1]
  dsimp only
  rw [h2]
theorem mut_ap {env : Env} {s s2 s3 : Sto} {m : Nat} {mo : Env → M R} {ms : Env → M (List R)} {f : List D → List R → M (R × List D)} {ds es es' : List D} {rs : List R} {r : R} (ho : mo env s = some (.v (.obj m), s)) (h1 : stAt m s = some ds) (ha : ms env s = some (rs, s2)) (h2 : stAt m s2 = some es) (hf : f es rs s2 = some ((r, es'), s3)) :
    eMut f mo ms env s = some (r, s3.set m (.lst es')) := by
  unfold eMut
  rw [bind_bo, ho, bo_some, bind_bo, lstNo_st h1, bo_some, bind_bo, ha, bo_some]
  exact inSt_ap (f := fun ds => f ds rs) h2 hf
/-! lists in the store are changed -/
section
variable {env : Env} {s s2 : Sto} {m : Nat} {mo : Env → M R} {ms : Env → M (List R)} {i : Nat}
@[simp] theorem laid_i {o : O} {s : Sto} : laid .i (.l o) s = some (.v (.obj s.length), s ++ [o]) := Eq.trans rfl rfl
@[simp] theorem gAdd_bl {xs ys : List D} {s : Sto} (h : xs.length + ys.length ≤ 16777216) : gAdd (.b (.lst xs)) (.l (.lst ys)) s = some (.l (.lst (xs ++ ys)), s) := by
  simp [gAdd, asLst, bind_bo, lenOk, h]
theorem mut_pop {ds es : List D} (ho : mo env s = some (.v (.obj m), s)) (h1 : s[m]? = some (.lst ds)) (ha : ms env s = some ([.v (.int (i : Int))], s2)) (h2 : s2[m]? = some (.lst es)) (hi : i < es.length) (hb : es.length ≤ 1000000) :
    eMut fPop mo ms env s = some (.v es[i], s2.set m (.lst (es.eraseIdx i))) := by
  have hs1 : stAt m s = some ds := by simp [stAt, h1]
  have hs2 : stAt m s2 = some es := by simp [stAt, h2]
  exact mut_ap (f := fPop) ho hs1 ha hs2 (fPop_i hi hb)
theorem gSl_st {ds : List D} {l h : Option Int} (h1 : s[m]? = some (.lst ds)) : gSl (.v (.obj m)) l h s = some (.l (.lst (cutD ds l h)), s) := by
  show (asLst (.v (.obj m)) >>= fun ds => pure (R.l (.lst (cutD ds l h)))) s = _
  rw [bind_bo, asLst_st h1]
  rfl
theorem asSeq_st {ds : List D} (h1 : s[m]? = some (.lst ds)) : asSeq (.v (.obj m)) s = some (ds, s) := asLst_st h1
theorem bTupD_st {ds : List D} (h1 : s[m]? = some (.lst ds)) : bTupD [.v (.obj m)] s = some (.v (.tup ds), s) := by
  rw [bTupD_no (dicAt_lst h1)]
  show (asSeq (.v (.obj m)) >>= fun ds => pure (R.v (.tup ds))) s = _
  rw [bind_bo, asSeq_st h1]
  rfl
end
theorem map_eraseIdx' {α β : Type} (f : α → β) : ∀ (l : List α) (i : Nat), (l.map f).eraseIdx i = (l.eraseIdx i).map f
  | [], _ => rfl
  | _ :: _, 0 => rfl
  | x :: l, i + 1 => by
    show f x :: (l.map f).eraseIdx i = f x :: (l.eraseIdx i).map f
    rw [map_eraseIdx' f l i]
/-! comprehensions over a list that is mapped -/
section
variable {g : Tg} {t : Env → M Bool} {m : Env → M R} {env : Env} {st : Sto}
theorem comp_alpha {α : Type} (f : α → D) (F : α → D) : ∀ {xs : List α} {acc : List D}, acc.length + xs.length ≤ 16777216 → (∀ x ∈ xs, ∃ e, g (f x) env st = some (e, st) ∧ t e st = some (true, st) ∧ m e st = some (.v (F x), st)) →
    compL tr1 g t m env (xs.map f) acc st = some (acc ++ xs.map F, st)
  | [], acc, _, _ => by rw [List.map_nil, List.map_nil, comp_nil trivial, List.append_nil]
  | x :: xs, acc, hl, h => by
    obtain ⟨e, h1, h2, h3⟩ := h x (by simp)
    rw [List.length_cons] at hl
    rw [List.map_cons, comp_yes trivial h1 h2 h3 (by omega), comp_alpha f F (by rw [List.length_append, List.length_singleton]; omega) fun y hy => h y (by simp [hy]), List.append_assoc]
    rfl
theorem comp_alphaC {ck : Sto → Prop} {α : Type} (f : α → D) (F : α → D) (hc : ck st) : ∀ {xs : List α} {acc : List D}, acc.length + xs.length ≤ 16777216 → (∀ x ∈ xs, ∃ e, g (f x) env st = some (e, st) ∧ t e st = some (true, st) ∧ m e st = some (.v (F x), st)) →
    compL ck g t m env (xs.map f) acc st = some (acc ++ xs.map F, st)
  | [], acc, _, _ => by rw [List.map_nil, List.map_nil, comp_nil hc, List.append_nil]
  | x :: xs, acc, hl, h => by
    obtain ⟨e, h1, h2, h3⟩ := h x (by simp)
    rw [List.length_cons] at hl
    rw [List.map_cons, comp_yes hc h1 h2 h3 (by omega), comp_alphaC f F hc (by rw [List.length_append, List.length_singleton]; omega) fun y hy => h y (by simp [hy]), List.append_assoc]
    rfl
theorem comp_drop {acc : List D} : ∀ {ds : List D}, (∀ d ∈ ds, ∃ e, g d env st = some (e, st) ∧ t e st = some (false, st)) → compL tr1 g t m env ds acc st = some (acc, st)
  | [], _ => comp_nil trivial
  | d :: ds, h => by
    obtain ⟨e, h1, h2⟩ := h d (by simp)
    rw [comp_no trivial h1 h2, comp_drop fun y hy => h y (by simp [hy])]
theorem fld_putA {s s1 s2 : Sto} {i n c : Nat} {d : D} {r : R} {fs : List (Str × D)} {f : Str} {ma : Env → M R} (ha : ma env s = some (r, s1)) (hal : alloc r s1 = some (.v d, s2)) (h0 : env[i]? = some (some (.v (.obj n)))) (hs : s2[n]? = some (.ins c fs)) (hl : fs.length < 900) : sAsgI (gFldT f (eVar i)) ma env s = some (.nx env, s2.set n (.ins c (putP f d fs))) := by
  simp [ha, hal, h0, setFld_ap hs hl]
end
section
variable {κ : Type} [DecidableEq κ] {kvs : List (κ × D)} {k : κ} {d : D}
theorem mem_dPut {kv : κ × D} (h : kv ∈ dPut kvs k d) : kv ∈ kvs ∨ kv.2 = d := by
  unfold dPut at h
  split at h
  · obtain ⟨q, hq, rfl⟩ := List.mem_map.mp h
    split
    · exact .inr rfl
    · exact .inl hq
  · rcases List.mem_append.mp h with h | h
    · exact .inl h
    · rw [List.mem_singleton.mp h]
      exact .inr rfl
theorem len_dPut : (dPut kvs k d).length ≤ kvs.length + 1 := by
  unfold dPut
  split
  · rw [List.length_map]
    omega
  · simp
theorem mem_dVal {w : D} (h : dVal kvs k = some w) : ∃ kv ∈ kvs, kv.2 = w := by
  unfold dVal at h
  cases q : kvs.find? fun kv => decide (kv.1 = k) with
  | none => rw [q] at h; cases h
  | some kv =>
    rw [q] at h
    cases h
    exact ⟨kv, List.mem_of_find?_eq_some q, rfl⟩
end
@[simp] theorem asSeq_bl {ds : List D} {s : Sto} : asSeq (.b (.lst ds)) s = some (ds, s) := Eq.trans rfl rfl
@[simp] theorem asSeq_ll {ds : List D} {s : Sto} : asSeq (.l (.lst ds)) s = some (ds, s) := Eq.trans rfl rfl
@[simp] theorem asSeq_ol {ds : List D} {s : Sto} : asSeq (.o (.lst ds)) s = some (ds, s) := Eq.trans rfl rfl
@[simp] theorem gIsN_b {o : O} {s : Sto} : gIsN (.b o) (.v .non) s = some (.v (.bl false), s) := Eq.trans rfl rfl
@[simp] theorem gIsN_l {o : O} {s : Sto} : gIsN (.l o) (.v .non) s = some (.v (.bl false), s) := Eq.trans rfl rfl
/-! what is kept -/
def Keeps (st st' : Sto) : Prop := st.length ≤ st'.length ∧ ∀ i, i < st.length → st'[i]? = st[i]?
theorem Keeps.rfl' (st : Sto) : Keeps st st := ⟨Nat.le_refl _, fun _ _ => rfl⟩
theorem Keeps.trans {a b c : Sto} (h : Keeps a b) (h' : Keeps b c) : Keeps a c := ⟨Nat.le_trans h.1 h'.1, fun i hi => (h'.2 i (Nat.lt_of_lt_of_le hi h.1)).trans (h.2 i hi)⟩
theorem Keeps.app (st l : Sto) : Keeps st (st ++ l) := ⟨by rw [List.length_append]; omega, fun i hi => List.getElem?_append_left hi⟩
theorem Keeps.at {st st' : Sto} (h : Keeps st st') {i : Nat} {o : O} (hi : st[i]? = some o) : st'[i]? = some o := by
  rw [h.2 i (List.getElem?_eq_some_iff.mp hi).1]
  exact hi
theorem Keeps.set {st st' : Sto} (h : Keeps st st') {i : Nat} (hi : st.length ≤ i) (o : O) : Keeps st (st'.set i o) := ⟨by rw [List.length_set]; exact h.1, fun j hj => by
  rw [List.getElem?_set_ne (by omega)]
  exact h.2 j hj⟩
theorem Keeps.push {st st' : Sto} (h : Keeps st st') (l : Sto) : Keeps st (st' ++ l) := h.trans (Keeps.app _ _)
end Mi
namespace K91
open Mi
open PySem (Str)
/-! ### a Rules in the store -/
structure RAt (n : Nat) (rs : List Ru) (st : Sto) : Prop where
  ins : st[n]? = some (ruIns n rs)
  dic : st[n + 2]? = some (.dic (kvsOf rs))
theorem RAt.keep {n : Nat} {rs : List Ru} {st st' : Sto} (h : RAt n rs st) (k : Keeps st st') : RAt n rs st' := ⟨k.at h.ins, k.at h.dic⟩
theorem RAt.of (st : Sto) (rs : List Ru) : RAt st.length rs (stX st (ruIns st.length rs) rs) := ⟨stX_0 _ _ _, stX_2 _ _ _⟩
theorem fs_5r (k : Nat) (t j : D) : List.lookup (β := D) ("own_rules" : Str) (fs5 k t j) = some (.obj (k + 2)) := by kernel_rfl
theorem fs_5j (k : Nat) (t j : D) : List.lookup (β := D) ("own_jobs" : Str) (fs5 k t j) = some j := by kernel_rfl
section
variable {n : Nat} {rs : List Ru} {r : Ru} {st : Sto}
theorem rule_of_ev (h : RAt n rs st) (hn : (rs.map (·.name)).Nodup) (hr : r ∈ rs) : f_Rules__rule_of [.v (.obj n), .v (.str r.name)] st = some (.v (ruD r), st) := by
  have f1 := gFld_ap (f := "own_rules") h.ins (fs_5r _ _ _)
  have g1 := gIxD_dic (d := .str r.name) h.dic (toKey_s (q := r.name)) (dVal_some hn hr)
  simp [f_Rules__rule_of, runFn_ap, m_Rules__rule_of, f1, g1]
theorem jobs_ev (h : RAt n rs st) : f_Rules__jobs [.v (.obj n)] st = some (.v (.tup (rs.map fun r => .str r.name)), st) := by
  have f1 := gFld_ap (f := "own_jobs") h.ins (fs_5j _ _ _)
  simp [f_Rules__jobs, runFn_ap, m_Rules__jobs, f1]
theorem insR (h : RAt n rs st) {f : Str} (hf : ∀ k t j, (fs5 k t j).lookup f = none) : insIs 1 f (.v (.obj n)) st = some (.v (.obj n), st) := insIs_ap h.ins (hf _ _ _)
theorem ins_rule_of (h : RAt n rs st) : insIs 1 "rule_of" (.v (.obj n)) st = some (.v (.obj n), st) := insR h fun k t j => by kernel_rfl
theorem ins_prop (h : RAt n rs st) : insIs 1 "" (.v (.obj n)) st = some (.v (.obj n), st) := insR h fun k t j => by kernel_rfl
@[simp] theorem ruD_0 (r : Ru) (s : Sto) : gIx (.v (ruD r)) (.v (.int 0)) s = some (.v (.str "each"), s) := Eq.trans rfl rfl
@[simp] theorem ruD_1 (r : Ru) (s : Sto) : gIx (.v (ruD r)) (.v (.int 1)) s = some (.v (.int r.n), s) := Eq.trans rfl rfl
@[simp] theorem ruD_2 (r : Ru) (s : Sto) : gIx (.v (ruD r)) (.v (.int 2)) s = some (.v (.int r.t), s) := Eq.trans rfl rfl
theorem eq_each (s : Sto) : gEq (.v (.str "each")) (.v (.str "each")) s = some (.v (.bl true), s) := by
  rw [gEq_sm (sm_lit (by decide +kernel)) (sm_lit (by decide +kernel)), decide_eq_true rfl]
theorem is_each_ev (h : RAt n rs st) (hn : (rs.map (·.name)).Nodup) (hr : r ∈ rs) : f_is_each [.v (.obj n), .v (.str r.name)] st = some (.v (.bl true), st) := by
  simp [f_is_each, runFn_ap, m_is_each, ins_rule_of h, rule_of_ev h hn hr, eq_each]
theorem check_rules_ev (h : RAt n rs st) : f_check_rules [.v (.obj n)] st = some (.v .non, st) := by
  have g := gIsC_ap h.ins
  simp [f_check_rules, runFn_ap, m_check_rules, g]
theorem in_names (hr : r ∈ rs) (s : Sto) : gInB (.v (.str r.name)) (.v (.tup (rs.map fun r => .str r.name))) s = some true := by
  rw [inB_seq (dicAt_t) (asSeq_t) rfl (by rw [List.all_eq_true]; intro d hd; obtain ⟨q, _, rfl⟩ := List.mem_map.mp hd; rfl)]
  congr 1
  rw [List.any_eq_true]
  exact ⟨.str r.name, List.mem_map.mpr ⟨r, hr, rfl⟩, by simp [eqFlat]⟩
theorem check_job_ev (h : RAt n rs st) (hr : r ∈ rs) : f_check_job [.v (.obj n), .v (.str r.name)] st = some (.v .non, st) := by
  have i1 := gNotIn_ap (in_names hr st)
  simp [f_check_job, runFn_ap, m_check_job, check_rules_ev h, ins_prop h, jobs_ev h, i1]
theorem check_time_ev {t : Int} (h0 : 0 ≤ t) (h1 : t ≤ 210379679) (st : Sto) : f_check_time [.v (.int t)] st = some (.v .non, st) := by
  have b := between_yes (a := t) (lo := 0) (hi := 210379679) h0 h1 st
  simp [f_check_time, runFn_ap, m_check_time, f_is_time, m_is_time, b]
end
end K91
namespace K91
open Mi
open PySem (Str)
def rp (r : Ru) : Pr := (r.n, r.t)
section
variable {n : Nat} {rs : List Ru} {r q : Ru} {st : Sto} {x : Int}
theorem is_run_ev (h : RAt n rs st) (hn : (rs.map (·.name)).Nodup) (hr : r ∈ rs) (h0 : 0 < r.n) (h1 : (r.t : Int) ≤ x) (h2 : (r.n : Int) ∣ x - r.t) (h3 : x ≤ 210379679) : f_is_run [.v (.obj n), .v (.str r.name), .v (.int x)] st = some (.v (.bl true), st) := by
  have ct := check_time_ev (t := x) (by omega) h3 st
  have g1 := gMod_ap (i := x - r.t) (j := (r.n : Int)) (s := st) (by omega)
  rw [(fmod0_dvd h0).mpr h2] at g1
  have ro := rule_of_ev h hn hr
  unfold ruD at ro
  simp [f_is_run, runFn_ap, m_is_run, check_job_ev h hr, ct, f_fits_time, m_fits_time, is_each_ev h hn hr, ins_rule_of h, ro, h1, g1]
theorem next_run_ev (h : RAt n rs st) (hn : (rs.map (·.name)).Nodup) (hr : r ∈ rs) (h0 : 0 < r.n) (hn2 : r.n ≤ 1000000) (h1 : (r.t : Int) ≤ x) (h2 : (r.n : Int) ∣ x - r.t) (h3 : x ≤ 210379679) : f_next_run [.v (.obj n), .v (.str r.name), .v (.int x)] st = some (.v (.int x), st) := by
  have ct := check_time_ev (t := x) (by omega) h3 st
  have ro := rule_of_ev h hn hr
  unfold ruD at ro
  by_cases hx : x ≤ r.t
  · have e : (r.t : Int) = x := by omega
    rw [e] at ro
    simp [f_next_run, runFn_ap, m_next_run, check_job_ev h hr, ct, is_each_ev h hn hr, ins_rule_of h, ro, h3]
  · obtain ⟨k, hk⟩ := h2
    have g1 := gFdiv_ap (i := r.t - x) (j := (r.n : Int)) (s := st) (by omega) (by omega) (by omega)
    have e1 : ((r.t : Int) - x).fdiv r.n = -k := by
      rw [show (r.t : Int) - x = -k * r.n by rw [Int.neg_mul, Int.mul_comm]; omega, Int.mul_fdiv_cancel _ (by omega)]
    rw [e1] at g1
    have g2 := gMul_nl (i := (0 - -k)) (n := r.n) (s := st) hn2
    have e2 : (r.t : Int) + r.n * (0 - -k) = x := by
      rw [show (0 : Int) - -k = k by omega]
      omega
    simp [f_next_run, runFn_ap, m_next_run, check_job_ev h hr, ct, is_each_ev h hn hr, ins_rule_of h, ro, hx, g1, g2]
    rw [show (0 : Int) - -k = k by omega] at g2 e2
    simp [g2, e2, h3]
end
end K91
namespace K91
open Mi
open PySem (Str)
/-! ### what is missed -/
/-- the first time not before b in a class -/
theorem first_ge (p : Nat) (t b : Int) (h : 0 < p) : ∃ x0 : Int, (if t < b then t + p * (0 - (t - b).fdiv p) else t) = x0 ∧ b ≤ x0 ∧ t ≤ x0 ∧ (p : Int) ∣ x0 - t ∧ ∀ y, b ≤ y → t ≤ y → (p : Int) ∣ y - t → x0 ≤ y := by
  by_cases hb : t < b
  · rw [if_pos hb]
    refine ⟨_, rfl, ?_⟩
    have hd := Int.fmod_add_mul_fdiv (t - b) p
    have hm := fmod_nn (t - b) (show (0 : Int) < p by omega)
    generalize (t - b).fdiv p = k at *
    have e : (p : Int) * (0 - k) = -(p * k) := by rw [Int.zero_sub, Int.mul_neg]
    rw [e]
    have hk : k ≤ -1 := by
      rcases Int.lt_or_le k 0 with h1 | h1
      · omega
      · have := Int.mul_nonneg (show (0 : Int) ≤ p by omega) h1
        omega
    have hk2 : (p : Int) * k ≤ p * (-1) := Int.mul_le_mul_of_nonneg_left hk (by omega)
    refine ⟨by omega, by omega, ⟨-k, by rw [Int.mul_neg]; omega⟩, fun y h1 h2 h3 => ?_⟩
    obtain ⟨j, hj⟩ := h3
    rcases Int.lt_or_le j (-k) with h4 | h4
    · have : (p : Int) * j ≤ p * (-k - 1) := Int.mul_le_mul_of_nonneg_left (by omega) (by omega)
      rw [Int.mul_sub, Int.mul_neg, Int.mul_one] at this
      omega
    · have : (p : Int) * (-k) ≤ p * j := Int.mul_le_mul_of_nonneg_left h4 (by omega)
      rw [Int.mul_neg] at this
      omega
  · rw [if_neg hb]
    exact ⟨t, rfl, by omega, by omega, ⟨0, by simp⟩, fun y _ h _ => h⟩
theorem missed_ev {p q : Pr} (hp : 0 < p.1 ∧ p.1 ≤ 1000) (hq : 1 < q.1 ∧ q.1 ≤ 1000) (hc : ∃ x, Cm [p, q] x) (st : Sto) :
    ∃ x, f_first_missed [.v (.tup [.int p.1, .int p.2]), .v (.int q.2), .v (.int q.1), .v (.int 1)] st = some (.v (.int x), st) ∧ Fst [p, q] x := by
  obtain ⟨x0, e0, b0, b1, d0, m0⟩ := first_ge p.1 p.2 q.2 hp.1
  have hg : 0 < Nat.gcd p.1 q.1 := Nat.gcd_pos_of_pos_left _ hp.1
  have hgq : Nat.gcd p.1 q.1 ≤ q.1 := Nat.gcd_le_right _ (by omega)
  have hdq := Nat.gcd_dvd_right p.1 q.1
  have g3 := gFdiv_ap (i := q.1) (j := (Nat.gcd p.1 q.1 : Nat)) (s := st) (by omega) (by omega) (by omega)
  have e3 : Int.fdiv (q.1 : Int) (Nat.gcd p.1 q.1 : Nat) = (q.1 / Nat.gcd p.1 q.1 : Nat) := by
    rw [Int.fdiv_eq_ediv_of_nonneg _ (by omega), Int.natCast_ediv]
  rw [e3] at g3
  have hw : q.1 / Nat.gcd p.1 q.1 ≤ 1000 := Nat.le_trans (Nat.div_le_self _ _) hq.2
  generalize hW : q.1 / Nat.gcd p.1 q.1 = w at *
  have rr := ra1_ap (s := st) (k := (w : Int)) (by omega) (by omega)
  rw [Int.toNat_natCast] at rr
  have hcm := common_ev p.1 q.1 st
  -- the set of solutions repeats after p * w
  have hrep : ∀ x, Cm [p, q] x → Cm [p, q] (x - p.1 * w) := fun x hx => by
    have hx := Cm_2.mp hx
    refine Cm_2.mpr ⟨?_, ?_⟩
    · have := Int.dvd_sub hx.1 (Int.dvd_mul_right (p.1 : Int) w)
      rwa [show x - (p.2 : Int) - p.1 * w = x - p.1 * w - p.2 by omega] at this
    · have hd : q.1 ∣ p.1 * w := by
        rw [← hW, ← Nat.mul_div_assoc _ hdq]
        exact Nat.dvd_lcm_right p.1 q.1
      have := Int.dvd_sub hx.2 (Int.natCast_dvd_natCast.mpr hd)
      rw [Int.natCast_mul] at this
      rwa [show x - (q.2 : Int) - p.1 * w = x - p.1 * w - q.2 by omega] at this
  have hlen : (rangeD 0 w).length = w := by simp [rangeD]
  have hf := for_post (ck := tr1) (g := g1_first_missed) (b := b1_first_missed) (ds := rangeD 0 w) (env := [some (.v (.tup [.int p.1, .int p.2])), some (.v (.int q.2)), some (.v (.int q.1)), some (.v (.int 1)), none, some (.v (.int p.1)), some (.v (.int x0))]) (st := st)
    (fun i e s => s = st ∧ (∃ y4, e = [some (.v (.tup [.int p.1, .int p.2])), some (.v (.int q.2)), some (.v (.int q.1)), some (.v (.int 1)), y4, some (.v (.int p.1)), some (.v (.int (x0 + p.1 * i)))]) ∧ ∀ k : Nat, k < i → ¬ Cm [p, q] (x0 + p.1 * k))
    (fun r s => s = st ∧ ∃ k : Nat, r = .v (.int (x0 + p.1 * k)) ∧ Cm [p, q] (x0 + p.1 * k) ∧ ∀ k' : Nat, k' < k → ¬ Cm [p, q] (x0 + p.1 * k'))
    ?step (fun _ _ _ => trivial) ⟨rfl, ⟨none, by simp⟩, fun k hk => by omega⟩
  · -- a solution as x0 + p * k
    have hform : ∀ y, (∀ z ∈ [p, q], (z.2 : Int) ≤ y) → Cm [p, q] y → ∃ k : Nat, y = x0 + p.1 * k := fun y hy hcy => by
      have hcy := Cm_2.mp hcy
      have hle := m0 y (hy q (by simp)) (hy p (by simp)) hcy.1
      obtain ⟨k, hk⟩ := Int.dvd_sub hcy.1 d0
      have hk2 : y - x0 = p.1 * k := by omega
      have hk0 : 0 ≤ k := by
        rcases Int.lt_or_le k 0 with h | h
        · have : (p.1 : Int) * k ≤ p.1 * (-1) := Int.mul_le_mul_of_nonneg_left (by omega) (by omega)
          omega
        · exact h
      obtain ⟨m, rfl⟩ := Int.eq_ofNat_of_zero_le hk0
      exact ⟨m, by omega⟩
    rcases hf with ⟨e, s, he, rfl, ⟨y4, rfl⟩, hn⟩ | ⟨r, s, he, rfl, k, rfl, hk, hn⟩
    · exfalso
      obtain ⟨x, hx⟩ := hc
      rcases all_ev_fst (js := [p, q]) (by simp) ⟨x, hx⟩ (by
        intro z hz
        simp at hz
        rcases hz with rfl | rfl <;> omega) with ⟨y, hy⟩
      obtain ⟨k, rfl⟩ := hform y hy.1 hy.2.1
      rw [hlen] at hn
      have hkw : w ≤ k := by
        rcases Nat.lt_or_ge k w with h | h
        · exact absurd hy.2.1 (hn k h)
        · exact h
      have h1 := hrep _ hy.2.1
      obtain ⟨j, hj⟩ : ∃ j, k = w + j := ⟨k - w, by omega⟩
      subst hj
      have e : x0 + (p.1 : Int) * ((w + j : Nat) : Int) - p.1 * w = x0 + p.1 * j := by
        rw [Int.natCast_add, Int.mul_add]
        omega
      rw [e] at h1
      have hpj := Int.mul_nonneg (show (0 : Int) ≤ p.1 by omega) (show (0 : Int) ≤ j by omega)
      have h2 := hy.2.2 _ (fun z hz => by
        simp at hz
        rcases hz with rfl | rfl <;> omega) h1
      have hw0 : 0 < w := by
        rw [← hW]
        exact Nat.div_pos hgq hg
      have h3 : (p.1 : Int) * 1 ≤ p.1 * w := Int.mul_le_mul_of_nonneg_left (by omega) (by omega)
      rw [Int.natCast_add, Int.mul_add] at h2
      omega
    · refine ⟨x0 + p.1 * k, ?_, ?_, hk, fun y hy hcy => ?_⟩
      · by_cases hb : (p.2 : Int) < q.2
        · rw [if_pos hb] at e0
          have g4 := gFdiv_ap (i := (p.2 : Int) - q.2) (j := (p.1 : Int)) (s := s) (by omega) (by omega) (by omega)
          have g5 := gMul_nl (i := 0 - ((p.2 : Int) - q.2).fdiv p.1) (n := p.1) (s := s) (by omega)
          generalize ((p.2 : Int) - q.2).fdiv p.1 = K at *
          generalize (p.1 : Int) * (0 - K) = K2 at *
          generalize x0 + (p.1 : Int) * k = F at *
          subst e0
          have hb' : p.2 < q.2 := by omega
          simp only [Int.zero_sub] at g5
          simp [f_first_missed, runFn_ap, m_first_missed, hb, hb', g4, g5, hcm, g3, rr, he]
        · rw [if_neg hb] at e0
          subst e0
          have hb' : ¬ p.2 < q.2 := by omega
          generalize (p.2 : Int) + (p.1 : Int) * k = F at *
          simp [f_first_missed, runFn_ap, m_first_missed, hb, hb', hcm, g3, rr, he]
      · have hpj := Int.mul_nonneg (show (0 : Int) ≤ p.1 by omega) (show (0 : Int) ≤ k by omega)
        intro z hz
        simp at hz
        rcases hz with rfl | rfl <;> omega
      · obtain ⟨k', rfl⟩ := hform y hy hcy
        rcases Nat.lt_or_ge k' k with h | h
        · exact absurd hcy (hn k' h)
        · have : (p.1 : Int) * k ≤ p.1 * k' := Int.mul_le_mul_of_nonneg_left (by omega) (by omega)
          omega
  case step =>
    rintro i d e s hd ⟨rfl, ⟨y4, rfl⟩, hI⟩
    have hi : i < w := by
      rcases Nat.lt_or_ge i w with h | h
      · exact h
      · rw [List.getElem?_eq_none (by omega)] at hd
        cases hd
    unfold rangeD at hd
    rw [List.getElem?_map, List.getElem?_range hi] at hd
    cases hd
    dsimp only
    have e1 : x0 + (p.1 : Int) * ((i + 1 : Nat) : Int) = x0 + p.1 * i + p.1 := by
      rw [Int.natCast_add, Int.mul_add]
      omega
    have hcp : (p.1 : Int) ∣ x0 + p.1 * i - p.2 := by
      have := Int.dvd_add d0 (Int.dvd_mul_right (p.1 : Int) i)
      rwa [show x0 - (p.2 : Int) + p.1 * i = x0 + p.1 * i - p.2 by omega] at this
    have g1 := gMod_ap (i := x0 + p.1 * i - q.2) (j := (q.1 : Int)) (s := s) (by omega)
    have hm := fmod_nn (x0 + p.1 * i - q.2) (show (0 : Int) < q.1 by omega)
    by_cases hz : (x0 + (p.1 : Int) * i - q.2).fmod q.1 = 0
    · have hcq : Cm [p, q] (x0 + p.1 * i) := Cm_2.mpr ⟨hcp, (fmod0_dvd (by omega)).mp hz⟩
      rw [hz] at g1
      refine turn_r (s1 := s) (s2 := s) trivial (r := .v (.int (x0 + p.1 * i))) (e := [some (.v (.tup [.int p.1, .int p.2])), some (.v (.int q.2)), some (.v (.int q.1)), some (.v (.int 1)), some (.v (.int (0 + (i : Int)))), some (.v (.int p.1)), some (.v (.int (x0 + p.1 * i)))]) (by simp [g1_first_missed]) ?_ ⟨rfl, i, rfl, hcq, hI⟩
      generalize x0 + (p.1 : Int) * i = F at *
      simp [b1_first_missed, g1]
    · have hlt : ¬ (x0 + (p.1 : Int) * i - q.2).fmod q.1 < 1 := by omega
      refine turn_n (s1 := s) (s2 := s) trivial (e := [some (.v (.tup [.int p.1, .int p.2])), some (.v (.int q.2)), some (.v (.int q.1)), some (.v (.int 1)), some (.v (.int (0 + (i : Int)))), some (.v (.int p.1)), some (.v (.int (x0 + p.1 * i)))])
        (e2 := [some (.v (.tup [.int p.1, .int p.2])), some (.v (.int q.2)), some (.v (.int q.1)), some (.v (.int 1)), some (.v (.int (0 + (i : Int)))), some (.v (.int p.1)), some (.v (.int (x0 + p.1 * ((i + 1 : Nat) : Int))))]) (by simp [g1_first_missed]) ?_ ⟨rfl, ⟨_, rfl⟩, fun k hk hck => ?_⟩
      · rw [e1]
        generalize x0 + (p.1 : Int) * i = F at *
        simp [b1_first_missed, g1, hlt]
      · by_cases e : k = i
        · subst e
          exact hz ((fmod0_dvd (by omega)).mpr (Cm_2.mp hck).2)
        · exact hI k (by omega) hck
theorem sm_never : Mi.Sm (Str.ofString "never") := sm_lit (by decide +kernel)
/-- goes_down, one minute long -/
theorem down_ev {n : Nat} {rs : List Ru} {r : Ru} {q : Pr} {st : Sto} (h : RAt n rs st) (hn : (rs.map (·.name)).Nodup) (hr : r ∈ rs) (h0 : 0 < r.n ∧ r.n ≤ 40) (hq : 1 < q.1 ∧ q.1 ≤ 40) (ht : r.t ≤ 1000) (hq2 : q.2 ≤ 1000) :
    (∃ ds, f_goes_down [.v (.obj n), .v (.str r.name), .v (.int q.2), .v (.int q.1), .v (.int 1)] st = some (.v (.tup (.str "never" :: ds)), st) ∧ ∀ x, ¬ Cm [rp r, q] x) ∨
    ∃ x, f_goes_down [.v (.obj n), .v (.str r.name), .v (.int q.2), .v (.int q.1), .v (.int 1)] st = some (.v (.tup [.str "missed", .int x]), st) ∧ Fst [rp r, q] x := by
  have ct := check_time_ev (t := q.2) (by omega) (by omega) st
  have b1 := between_yes (a := q.1) (lo := 2) (hi := 999999) (by omega) (by omega) st
  have b2 := between_yes (a := 1) (lo := 1) (hi := (q.1 : Int) - 1) (by omega) (by omega) st
  have ro := rule_of_ev h hn hr
  unfold ruD at ro
  have hg : 0 < Nat.gcd r.n q.1 := Nat.gcd_pos_of_pos_left _ h0.1
  have cm := common_ev r.n q.1 st
  have g1 := gMod_ap (i := (r.t : Int) - q.2) (j := (Nat.gcd r.n q.1 : Nat)) (s := st) (by omega)
  have hm := fmod_nn ((r.t : Int) - q.2) (show (0 : Int) < (Nat.gcd r.n q.1 : Nat) by omega)
  by_cases hz : ((r.t : Int) - q.2).fmod (Nat.gcd r.n q.1 : Nat) = 0
  · right
    have hc : ∃ x, Cm [rp r, q] x := by
      rcases put_pair (p := rp r) (q := q) h0 ⟨by omega, hq.2⟩ [] with ⟨hp, _⟩ | ⟨L, x, _, hx⟩
      · exfalso
        have hz2 : ((q.2 : Int) - r.t).fmod (Nat.gcd r.n q.1 : Nat) = 0 := by
          rw [fmod0_dvd hg] at hz ⊢
          have := Int.dvd_neg.mpr hz
          rwa [show -((r.t : Int) - q.2) = q.2 - r.t by omega] at this
        obtain ⟨L, x, hp2, _⟩ := put_some (a := r.n) (b := q.1) h0.1 (by omega) (by omega) (by omega) r.t q.2 hz2 []
        have hp : f_put_together [.v (rsD r.n r.t), .v (rsD q.1 q.2)] [] = some (.v .non, []) := hp
        rw [hp] at hp2
        cases hp2
      · exact ⟨x, hx⟩
    obtain ⟨x, hx, hF⟩ := missed_ev (p := rp r) (q := q) ⟨h0.1, by have := h0.2; show r.n ≤ 1000; omega⟩ ⟨hq.1, by omega⟩ hc st
    have hx : f_first_missed [.v (.tup [.int r.n, .int r.t]), .v (.int q.2), .v (.int q.1), .v (.int 1)] st = some (.v (.int x), st) := hx
    refine ⟨x, ?_, hF⟩
    have hxl : x ≤ 210379679 := by
      rcases all_ev (js := [rp r, q]) (by intro z hz; simp at hz; exact hz.elim (fun e => by rw [e]; exact h0) (fun e => by rw [e]; exact ⟨by omega, hq.2⟩)) (by simp) (.inl rfl) [] with ⟨_, hno⟩ | ⟨L, y, _, hL, hL2, _, _, hiff⟩
      · exact absurd hF.2.1 (hno x)
      · have := hF.unique (fst_of (by simp) hL hiff)
        have hm2 := fmod_nn (y - bg [rp r, q]) (show (0 : Int) < L by omega)
        obtain ⟨z, hz3, hz2⟩ := bg_mem (js := [rp r, q]) (by simp)
        have hzl : z.2 ≤ 1000 := by
          simp at hz3
          rcases hz3 with rfl | rfl
          · exact ht
          · exact hq2
        have : L ≤ 1600 := hL2
        omega
    rw [hz] at g1
    generalize ((Nat.gcd r.n q.1 : Nat) : Int) = g at *
    simp [f_goes_down, runFn_ap, m_goes_down, check_job_ev h hr, is_each_ev h hn hr, ct, b1, b2, ins_rule_of h, ro, cm, g1, hx, hxl]
  · left
    have hge : (1 : Int) ≤ ((r.t : Int) - q.2).fmod (Nat.gcd r.n q.1 : Nat) := by omega
    refine ⟨[.int (Nat.gcd r.n q.1 : Nat), .int (((r.t : Int) - q.2).fmod (Nat.gcd r.n q.1 : Nat))], ?_, fun x hx => ?_⟩
    · generalize ((Nat.gcd r.n q.1 : Nat) : Int) = g at *
      generalize ((r.t : Int) - q.2).fmod g = m at *
      simp [f_goes_down, runFn_ap, m_goes_down, check_job_ev h hr, is_each_ev h hn hr, ct, b1, b2, ins_rule_of h, ro, cm, g1, hge]
    · have hx := Cm_2.mp hx
      refine no_both (a := r.n) (b := q.1) (x := r.t) (y := q.2) (z := x) h0.1 (fun e => hz ?_) hx.1 hx.2
      rw [fmod0_dvd hg] at e ⊢
      have := Int.dvd_neg.mpr e
      rwa [show -((q.2 : Int) - r.t) = r.t - q.2 by omega] at this
end K91
namespace K91
open Mi
open PySem (Str)
/-! ### two pieces -/
theorem do_clash_ev {a b : Nat} {l : Int} (ha : 0 < a) (x y : Int) (st : Sto) : f_do_clash [.v (.tup [.int a, .int l]), .v (.int x), .v (.tup [.int b, .int l]), .v (.int y)] st =
    some (.v (.bl (decide ((y - x).fmod (Nat.gcd a b : Nat) < l) || decide ((x - y).fmod (Nat.gcd a b : Nat) < l))), st) := by
  have hg : 0 < Nat.gcd a b := Nat.gcd_pos_of_pos_left _ ha
  have cm := common_ev a b st
  have g1 := gMod_ap (i := y - x) (j := (Nat.gcd a b : Nat)) (s := st) (by omega)
  have g2 := gMod_ap (i := x - y) (j := (Nat.gcd a b : Nat)) (s := st) (by omega)
  generalize ((Nat.gcd a b : Nat) : Int) = g at *
  by_cases h : (y - x).fmod g < l <;> simp [f_do_clash, runFn_ap, m_do_clash, cm, g1, g2, h]
theorem check_ev {a b : Nat} {l : Int} (ha : 1 ≤ a ∧ a ≤ 40) (hb : 1 ≤ b ∧ b ≤ 40) (hl : 1 ≤ l ∧ l ≤ a ∧ l ≤ b) {x y : Int} (hx : 0 ≤ x ∧ x < a) (hy : 0 ≤ y ∧ y < b) (st : Sto) :
    f_check_pieces [.v (.tup [.tup [.int a, .int l], .tup [.int b, .int l]])] st = some (.v .non, st) ∧ f_are_starts [.v (.tup [.tup [.int a, .int l], .tup [.int b, .int l]]), .v (.tup [.int x, .int y])] st = some (.v (.bl true), st) := by
  have a1 := between_yes (a := a) (lo := 1) (hi := 1440) (by omega) (by omega) st
  have a2 := between_yes (a := b) (lo := 1) (hi := 1440) (by omega) (by omega) st
  have a3 := between_yes (a := l) (lo := 1) (hi := a) (by omega) (by omega) st
  have a4 := between_yes (a := l) (lo := 1) (hi := b) (by omega) (by omega) st
  have a5 := between_yes (a := x) (lo := 0) (hi := (a : Int) - 1) (by omega) (by omega) st
  have a6 := between_yes (a := y) (lo := 0) (hi := (b : Int) - 1) (by omega) (by omega) st
  have p1 : f_is_piece [.v (.tup [.int a, .int l])] st = some (.v (.bl true), st) := by simp [f_is_piece, runFn_ap, m_is_piece, a1, a3]
  have p2 : f_is_piece [.v (.tup [.int b, .int l])] st = some (.v (.bl true), st) := by simp [f_is_piece, runFn_ap, m_is_piece, a2, a4]
  constructor
  · obtain ⟨d1, c1, b1⟩ := comp_bool (g := g1_check_pieces) (m := e1_check_pieces) (env := [some (.v (.tup [.tup [.int a, .int l], .tup [.int b, .int l]])), none]) (st := st) (ds := [.tup [.int a, .int l], .tup [.int b, .int l]]) (fun _ => true) (by simp) (fun d hd => by
      refine ⟨_, by simp [g1_check_pieces]; rfl, ?_⟩
      simp at hd
      rcases hd with rfl | rfl
      · simp [e1_check_pieces, p1]
      · simp [e1_check_pieces, p2])
    simp at b1
    simp [f_check_pieces, runFn_ap, m_check_pieces, wipeE, c1, b1]
  · have hz : zipD [D.int x, .int y] [.tup [.int a, .int l], .tup [.int b, .int l]] = [.tup [.int x, .tup [.int a, .int l]], .tup [.int y, .tup [.int b, .int l]]] := rfl
    obtain ⟨d1, c1, b1⟩ := comp_bool (g := g1_are_starts) (m := e1_are_starts) (env := [some (.v (.tup [.tup [.int a, .int l], .tup [.int b, .int l]])), some (.v (.tup [.int x, .int y])), none, none, none]) (st := st) (ds := [.tup [.int x, .tup [.int a, .int l]], .tup [.int y, .tup [.int b, .int l]]]) (fun _ => true) (by simp) (fun d hd => by
      simp at hd
      rcases hd with rfl | rfl
      · exact ⟨_, by simp [g1_are_starts]; rfl, by simp [e1_are_starts, a5]⟩
      · exact ⟨_, by simp [g1_are_starts]; rfl, by simp [e1_are_starts, a6]⟩)
    simp at b1
    simp [f_are_starts, runFn_ap, m_are_starts, hz, wipeE, c1, b1]
theorem clash_none {a b : Nat} {l : Int} (ha : 1 ≤ a ∧ a ≤ 40) (hb : 1 ≤ b ∧ b ≤ 40) (hl : 1 ≤ l ∧ l ≤ a ∧ l ≤ b) {x y : Int} (hx : 0 ≤ x ∧ x < a) (hy : 0 ≤ y ∧ y < b)
    (h1 : l ≤ (y - x).fmod (Nat.gcd a b : Nat)) (h2 : l ≤ (x - y).fmod (Nat.gcd a b : Nat)) (st : Sto) :
    f_clash [.v (.tup [.tup [.int a, .int l], .tup [.int b, .int l]]), .v (.tup [.int x, .int y])] st = some (.v .non, st) := by
  obtain ⟨c1, c2⟩ := check_ev ha hb hl hx hy st
  have dc := do_clash_ev (l := l) (b := b) (show 0 < a by omega) x y st
  have n1 : ¬ (y - x).fmod (Nat.gcd a b : Nat) < l := by omega
  have n2 : ¬ (x - y).fmod (Nat.gcd a b : Nat) < l := by omega
  rw [decide_eq_false n1, decide_eq_false n2] at dc
  have q1 := ra2_ap (s := st) (i := 1) (k := 2) (by decide) (by decide) (by decide) (by decide)
  have q2 := ra2_ap (s := st) (i := 2) (k := 2) (by decide) (by decide) (by decide) (by decide)
  have e1 : rangeD 1 (2 - 1 : Int).toNat = [.int 1] := rfl
  have e2 : rangeD 2 (2 - 2 : Int).toNat = [] := rfl
  rw [e1] at q1
  rw [e2] at q2
  generalize hP : D.tup [.int a, .int l] = P at *
  generalize hQ : D.tup [.int b, .int l] = Q at *
  have j1 := for_nx (ck := tr1) (g := g1_clash) (b := b1_clash) (d := .int 1) (ds := []) (env := [some (.v (.tup [P, Q])), some (.v (.tup [.int x, .int y])), some (.v (.int 0)), some (.v P), none]) (e2 := [some (.v (.tup [P, Q])), some (.v (.tup [.int x, .int y])), some (.v (.int 0)), some (.v P), some (.v (.int 1))]) (st := st) (s2 := st) trivial (by simp [g1_clash]; and_intros <;> rfl) (by simp [b1_clash, dc])
  rw [for_nil trivial] at j1
  have i1 := for_nx (ck := tr1) (g := g2_clash) (b := b2_clash) (d := .tup [.int 0, P]) (ds := [.tup [.int 1, Q]]) (env := [some (.v (.tup [P, Q])), some (.v (.tup [.int x, .int y])), none, none, none]) (e2 := [some (.v (.tup [P, Q])), some (.v (.tup [.int x, .int y])), some (.v (.int 0)), some (.v P), some (.v (.int 1))]) (st := st) (s2 := st) trivial (by simp [g2_clash]; and_intros <;> rfl) (by simp [b2_clash, q1, j1])
  have j2 := for_nil (ck := tr1) (g := g1_clash) (b := b1_clash) (env := [some (.v (.tup [P, Q])), some (.v (.tup [.int x, .int y])), some (.v (.int 1)), some (.v Q), some (.v (.int 1))]) (st := st) trivial
  have i2 := for_nx (ck := tr1) (g := g2_clash) (b := b2_clash) (d := .tup [.int 1, Q]) (ds := []) (env := [some (.v (.tup [P, Q])), some (.v (.tup [.int x, .int y])), some (.v (.int 0)), some (.v P), some (.v (.int 1))]) (e2 := [some (.v (.tup [P, Q])), some (.v (.tup [.int x, .int y])), some (.v (.int 1)), some (.v Q), some (.v (.int 1))]) (st := st) (s2 := st) trivial (by simp [g2_clash]; and_intros <;> rfl) (by simp [b2_clash, q2, j2])
  rw [i2, for_nil trivial] at i1
  simp [f_clash, runFn_ap, m_clash, c1, c2, enumD, i1]
theorem clash_some {a b : Nat} {l v : Int} (ha : 1 ≤ a ∧ a ≤ 40) (hb : 1 ≤ b ∧ b ≤ 40) (hl : 1 ≤ l ∧ l ≤ a ∧ l ≤ b) {x y : Int} (hx : 0 ≤ x ∧ x < a) (hy : 0 ≤ y ∧ y < b) {st : Sto}
    (h1 : (y - x).fmod (Nat.gcd a b : Nat) < l) (hf : f_first_minute [.v (.tup [.int a, .int l]), .v (.int x), .v (.tup [.int b, .int l]), .v (.int y)] st = some (.v (.int v), st)) :
    f_clash [.v (.tup [.tup [.int a, .int l], .tup [.int b, .int l]]), .v (.tup [.int x, .int y])] st = some (.v (.tup [.int 0, .int 1, .int v]), st) := by
  obtain ⟨c1, c2⟩ := check_ev ha hb hl hx hy st
  have dc := do_clash_ev (l := l) (b := b) (show 0 < a by omega) x y st
  rw [decide_eq_true h1, Bool.true_or] at dc
  have q1 := ra2_ap (s := st) (i := 1) (k := 2) (by decide) (by decide) (by decide) (by decide)
  have e1 : rangeD 1 (2 - 1 : Int).toNat = [.int 1] := rfl
  rw [e1] at q1
  generalize hP : D.tup [.int a, .int l] = P at *
  generalize hQ : D.tup [.int b, .int l] = Q at *
  have j1 := for_rt (ck := tr1) (g := g1_clash) (b := b1_clash) (d := .int 1) (ds := []) (env := [some (.v (.tup [P, Q])), some (.v (.tup [.int x, .int y])), some (.v (.int 0)), some (.v P), none]) (e := [some (.v (.tup [P, Q])), some (.v (.tup [.int x, .int y])), some (.v (.int 0)), some (.v P), some (.v (.int 1))]) (r := .v (.tup [.int 0, .int 1, .int v])) (st := st) (s1 := st) (s2 := st) trivial (by simp [g1_clash]) (by simp [b1_clash, dc, hf])
  have i1 := for_rt (ck := tr1) (g := g2_clash) (b := b2_clash) (d := .tup [.int 0, P]) (ds := [.tup [.int 1, Q]]) (env := [some (.v (.tup [P, Q])), some (.v (.tup [.int x, .int y])), none, none, none]) (e := [some (.v (.tup [P, Q])), some (.v (.tup [.int x, .int y])), some (.v (.int 0)), some (.v P), none]) (r := .v (.tup [.int 0, .int 1, .int v])) (st := st) (s1 := st) (s2 := st) trivial (by simp [g2_clash]) (by simp [b2_clash, q1, j1])
  simp [f_clash, runFn_ap, m_clash, c1, c2, enumD, i1]
end K91
namespace K91
open Mi
open PySem (Str)
theorem at_work_ev {a : Nat} (ha : 0 < a) (x m : Int) (st : Sto) : f_is_at_work [.v (.tup [.int a, .int 1]), .v (.int x), .v (.int m)] st = some (.v (.bl (decide ((a : Int) ∣ m - x))), st) := by
  have g1 := gMod_ap (i := m - x) (j := (a : Int)) (s := st) (by omega)
  have hm := fmod_nn (m - x) (show (0 : Int) < a by omega)
  have e : decide ((m - x).fmod (a : Int) < 1) = decide ((a : Int) ∣ m - x) := by
    congr 1
    rw [← fmod0_dvd ha]
    exact propext ⟨fun h => by omega, fun h => by omega⟩
  simp [f_is_at_work, runFn_ap, m_is_at_work, g1, e]
def lapD (a : Nat) (x : Int) : D → D
  | .int k => .int (x + a * k)
  | d => d
theorem cut_1 (ds : List D) : cutD ds none (some 1) = ds.take 1 := by
  have e := HT.sIx_nat ds.length ds.length 1
  unfold cutD
  rw [HT.sIx_none, List.drop_zero, Nat.sub_zero, show (some 1 : Option Int) = some ((1 : Nat) : Int) from rfl, e, ← List.take_eq_take_min]
theorem minute_turn {a b : Nat} (ha : 1 ≤ a ∧ a ≤ 40) (hb : 1 ≤ b ∧ b ≤ 40) (x y : Int) (F : List Int) (hF : F.length ≤ 10) (x0 x1 x2 x3 x9 : Option R) (st : Sto) : ∃ (G : List Int) (y9 : R),
    b1_first_minute [x0, x1, x2, x3, some (.l (.lst (F.map .int))), some (.v (.tup [.int a, .int 1])), some (.v (.int x)), some (.v (.tup [.int b, .int 1])), some (.v (.int y)), x9, none, none] st =
      some (.nx [x0, x1, x2, x3, some (.l (.lst ((F ++ G).map .int))), some (.v (.tup [.int a, .int 1])), some (.v (.int x)), some (.v (.tup [.int b, .int 1])), some (.v (.int y)), some y9, none, none], st) ∧
    ((∃ k : Nat, k < b / Nat.gcd a b ∧ (b : Int) ∣ x + a * k - y) → G ≠ []) ∧ G.length ≤ 1 := by
  have hg : 0 < Nat.gcd a b := Nat.gcd_pos_of_pos_left _ ha.1
  have hgb : Nat.gcd a b ≤ b := Nat.gcd_le_right _ hb.1
  have cm := common_ev a b st
  have g3 := gFdiv_ap (i := b) (j := (Nat.gcd a b : Nat)) (s := st) (by omega) (by omega) (by omega)
  have e3 : Int.fdiv (b : Int) (Nat.gcd a b : Nat) = (b / Nat.gcd a b : Nat) := by
    rw [Int.fdiv_eq_ediv_of_nonneg _ (by omega), Int.natCast_ediv]
  rw [e3] at g3
  have hw : b / Nat.gcd a b ≤ 40 := Nat.le_trans (Nat.div_le_self _ _) hb.2
  generalize b / Nat.gcd a b = w at *
  have rr := ra1_ap (s := st) (k := (w : Int)) (by omega) (by omega)
  rw [Int.toNat_natCast] at rr
  have c1 := comp_map (g := g1_first_minute) (m := e1_first_minute) (env := [x0, x1, x2, x3, some (.l (.lst (F.map .int))), some (.v (.tup [.int a, .int 1])), some (.v (.int x)), some (.v (.tup [.int b, .int 1])), some (.v (.int y)), x9, none, none]) (st := st) (ds := rangeD 0 w) (lapD a x) (by simp [rangeD]; omega) (fun d hd => by
    obtain ⟨k, hk, rfl⟩ := List.mem_map.mp hd
    have hk := List.mem_range.mp hk
    have g := gMul_nl (i := 0 + (k : Int)) (n := a) (s := st) (by omega)
    simp only [Int.zero_add] at g
    exact ⟨_, by simp [g1_first_minute]; and_intros <;> rfl, by simp [e1_first_minute, lapD, g]⟩)
  have em : (rangeD 0 w).map (lapD a x) = ((List.range w).map fun k : Nat => x + a * (k : Int)).map D.int := by
    unfold rangeD
    (rw [List.map_map, List.map_map]); apply List.map_congr_left
    intro k _
    simp [lapD]
  rw [em] at c1
  generalize hM : (List.range w).map (fun k : Nat => x + a * (k : Int)) = M at *
  have hMl : M.length = w := by rw [← hM]; simp
  have c2 := comp_pure (ck := tr1) (g := g2_first_minute) (t := c1_first_minute) (m := e2_first_minute) (env := [x0, x1, x2, x3, some (.l (.lst (F.map .int))), some (.v (.tup [.int a, .int 1])), some (.v (.int x)), some (.v (.tup [.int b, .int 1])), some (.v (.int y)), some (.b (.lst (M.map .int))), none, none]) (st := st) (ds := M.map .int) (acc := [])
    (fun d => match d with
      | .int m => if (b : Int) ∣ m - y then some (.int m) else none
      | _ => none) trivial (by simp; omega) (fun d hd => by
    obtain ⟨m, hm, rfl⟩ := List.mem_map.mp hd
    have aw := at_work_ev (a := b) hb.1 y m st
    refine ⟨_, by simp [g2_first_minute]; and_intros <;> rfl, ?_⟩
    by_cases hz : (b : Int) ∣ m - y
    · rw [decide_eq_true hz] at aw
      exact .inr ⟨by simp [c1_first_minute, aw], .int m, by simp [e2_first_minute], by simp [hz]⟩
    · rw [decide_eq_false hz] at aw
      exact .inl ⟨by simp [c1_first_minute, aw], by simp [hz]⟩)
  have ef : (M.map D.int).filterMap (fun d => match d with
      | .int m => if (b : Int) ∣ m - y then some (D.int m) else none
      | _ => none) = (M.filter fun m => decide ((b : Int) ∣ m - y)).map D.int := by
    clear c2 c1 em hM hMl
    induction M with
    | nil => rfl
    | cons m M ih =>
      by_cases hz : (b : Int) ∣ m - y
      · simp only [List.map_cons, List.filterMap_cons, hz, if_true, List.filter_cons, decide_true]
        rw [ih]
      · simp only [List.map_cons, List.filterMap_cons, hz, if_false, List.filter_cons, decide_false]
        rw [ih]
        rfl
  rw [ef, List.nil_append] at c2
  generalize hG : (M.filter fun m => decide ((b : Int) ∣ m - y)) = G at *
  have hcut : cutD (G.map D.int) none (some 1) = (G.take 1).map .int := by rw [cut_1, List.map_take]
  have hx : fExtend (F.map D.int) [.l (.lst ((G.take 1).map .int))] st = some ((.v .non, (F ++ G.take 1).map .int), st) := by
    show (if lenOk ((F.map D.int).length + ((G.take 1).map D.int).length) = true then (pure (R.v .non, F.map D.int ++ (G.take 1).map D.int) : Mi.M (R × List D)) else Mi.M.fail) st = _
    rw [if_pos (show lenOk _ = true from decide_eq_true (by rw [List.length_map, List.length_map, List.length_take]; omega)), List.map_append]
    rfl
  refine ⟨G.take 1, .b (.lst (M.map .int)), ?_, ?_, by rw [List.length_take]; omega⟩
  · generalize rangeD 0 w = RR at *
    generalize F.map D.int = FF at *
    generalize (F ++ G.take 1).map D.int = FG at *
    generalize (G.take 1).map D.int = GT at *
    generalize G.map D.int = GG at *
    generalize M.map D.int = MM at *
    simp [b1_first_minute, wipeE, cm, g3, rr, c1, c2, hcut, hx]
  · rintro ⟨k, hk, hd⟩ e
    have hmem : x + a * (k : Int) ∈ G := by
      rw [← hG, List.mem_filter, ← hM]
      exact ⟨List.mem_map.mpr ⟨k, List.mem_range.mpr hk, rfl⟩, decide_eq_true hd⟩
    cases G with
    | nil => cases hmem
    | cons => simp at e
theorem first_minute_ev {a b : Nat} (ha : 1 ≤ a ∧ a ≤ 40) (hb : 1 ≤ b ∧ b ≤ 40) {x y : Int} (hx : 0 ≤ x ∧ x < a) (hy : 0 ≤ y ∧ y < b) (h : (y - x).fmod (Nat.gcd a b : Nat) = 0) (st : Sto) :
    ∃ v, f_first_minute [.v (.tup [.int a, .int 1]), .v (.int x), .v (.tup [.int b, .int 1]), .v (.int y)] st = some (.v (.int v), st) := by
  have a1 := at_work_ev (a := a) ha.1 x 0 st
  have a2 := at_work_ev (a := b) hb.1 y 0 st
  by_cases h0 : (a : Int) ∣ 0 - x ∧ (b : Int) ∣ 0 - y
  · rw [decide_eq_true h0.1] at a1
    rw [decide_eq_true h0.2] at a2
    exact ⟨0, by simp [f_first_minute, runFn_ap, m_first_minute, a1, a2]⟩
  · obtain ⟨L, r, _, eL, _, r0, r1, d1, d2⟩ := put_some ha.1 (by omega) hb.1 (by omega) x y h []
    have hk : ∃ k : Nat, k < b / Nat.gcd a b ∧ (b : Int) ∣ x + a * k - y := by
      obtain ⟨k, hk⟩ := d1
      have hk0 : 0 ≤ k := by
        rcases Int.lt_or_le k 0 with h | h
        · have : (a : Int) * k ≤ a * (-1) := Int.mul_le_mul_of_nonneg_left (by omega) (by omega)
          omega
        · exact h
      obtain ⟨m, rfl⟩ := Int.eq_ofNat_of_zero_le hk0
      refine ⟨m, ?_, by rwa [show x + (a : Int) * m - y = r - y by omega]⟩
      rw [eL] at r1
      have : a * m < a * (b / Nat.gcd a b) := by
        have e1 : ((a * m : Nat) : Int) = a * m := Int.natCast_mul ..
        omega
      exact Nat.lt_of_mul_lt_mul_left this
    obtain ⟨G1, y9, t1, n1, l1⟩ := minute_turn ha hb x y [] (by simp) (some (.v (.tup [.int a, .int 1]))) (some (.v (.int x))) (some (.v (.tup [.int b, .int 1]))) (some (.v (.int y))) none st
    rw [List.nil_append] at t1
    obtain ⟨G2, z9, t2, _, l2⟩ := minute_turn hb ha y x G1 (by omega) (some (.v (.tup [.int a, .int 1]))) (some (.v (.int x))) (some (.v (.tup [.int b, .int 1]))) (some (.v (.int y))) (some y9) st
    have hne : G1 ++ G2 ≠ [] := by
      intro e
      exact n1 hk (List.append_eq_nil_iff.mp e).1
    have hmin := bMin_o (ns := G1 ++ G2) (s := st) hne
    have hif : (if (decide ((a : Int) ∣ 0 - x)) = true then decide ((b : Int) ∣ 0 - y) else false) = false := by
      by_cases h1 : (a : Int) ∣ 0 - x
      · rw [decide_eq_true h1, if_pos rfl]
        exact decide_eq_false fun h2 => h0 ⟨h1, h2⟩
      · rw [decide_eq_false h1]
        rfl
    refine ⟨minL (G1 ++ G2), ?_⟩
    have f1 := for_nx (ck := tr1) (g := g3_first_minute) (b := b1_first_minute) (d := .tup [.tup [.int a, .int 1], .int x, .tup [.int b, .int 1], .int y]) (ds := [.tup [.tup [.int b, .int 1], .int y, .tup [.int a, .int 1], .int x]]) (env := [some (.v (.tup [.int a, .int 1])), some (.v (.int x)), some (.v (.tup [.int b, .int 1])), some (.v (.int y)), some (.l (.lst [])), none, none, none, none, none, none, none]) (st := st) trivial (by simp [g3_first_minute] <;> (and_intros <;> rfl)) t1
    have f2 := for_nx (ck := tr1) (g := g3_first_minute) (b := b1_first_minute) (d := .tup [.tup [.int b, .int 1], .int y, .tup [.int a, .int 1], .int x]) (ds := []) (env := [some (.v (.tup [.int a, .int 1])), some (.v (.int x)), some (.v (.tup [.int b, .int 1])), some (.v (.int y)), some (.l (.lst (G1.map .int))), some (.v (.tup [.int a, .int 1])), some (.v (.int x)), some (.v (.tup [.int b, .int 1])), some (.v (.int y)), some y9, none, none]) (st := st) trivial (by simp [g3_first_minute] <;> (and_intros <;> rfl)) t2
    rw [f2, for_nil trivial] at f1
    generalize (G1 ++ G2).map D.int = GG at *
    generalize minL (G1 ++ G2) = mm at *
    cases hd : decide ((a : Int) ∣ 0 - x)
    · rw [hd] at a1
      simp [f_first_minute, runFn_ap, m_first_minute, a1, f1, hmin]
    · rw [hd] at a1 hif
      rw [if_pos rfl] at hif
      rw [hif] at a2
      simp [f_first_minute, runFn_ap, m_first_minute, a1, a2, f1, hmin]
end K91
namespace K91
open Mi
open PySem (Str)
theorem fmod_sub_dvd (x : Int) (n : Nat) : (n : Int) ∣ x - x.fmod n := by
  rw [Int.fmod_def]
  exact ⟨x.fdiv n, by omega⟩
section
variable {n : Nat} {rs : List Ru} {r q : Ru} {st : Sto}
theorem check_each_ev (h : RAt n rs st) (hn : (rs.map (·.name)).Nodup) (hr : r ∈ rs) : f_check_each [.v (.obj n), .v (.str r.name)] st = some (.v .non, st) := by
  simp [f_check_each, runFn_ap, m_check_each, is_each_ev h hn hr]
theorem check_two_each_ev (h : RAt n rs st) (hn : (rs.map (·.name)).Nodup) (hr : r ∈ rs) (hq : q ∈ rs) : f_check_two_each [.v (.obj n), .v (.str r.name), .v (.str q.name)] st = some (.v .non, st) := by
  simp [f_check_two_each, runFn_ap, m_check_two_each, check_job_ev h hr, check_job_ev h hq, check_each_ev h hn hr, check_each_ev h hn hq]
theorem nearest_ev (h : RAt n rs st) (hn : (rs.map (·.name)).Nodup) (hr : r ∈ rs) (hq : q ∈ rs) (h1 : 0 < r.n ∧ r.n ≤ 40) (h2 : 0 < q.n ∧ q.n ≤ 40) {m : Int} (hm : ((q.t : Int) - r.t).fmod (Nat.gcd r.n q.n : Nat) = m) :
    ∃ ds, f_nearest [.v (.obj n), .v (.str r.name), .v (.str q.name)] st = some (.v (.tup (.int (if 2 * m ≤ (Nat.gcd r.n q.n : Nat) then m else (Nat.gcd r.n q.n : Nat) - m) :: ds)), st) := by
  have hg : 0 < Nat.gcd r.n q.n := Nat.gcd_pos_of_pos_left _ h1.1
  have hgn : Nat.gcd r.n q.n ≤ r.n := Nat.gcd_le_left _ h1.1
  have cm := common_ev r.n q.n st
  have g1 := gMod_ap (i := (q.t : Int) - r.t) (j := (Nat.gcd r.n q.n : Nat)) (s := st) (by omega)
  rw [hm] at g1
  have hml := fmod_nn ((q.t : Int) - r.t) (show (0 : Int) < (Nat.gcd r.n q.n : Nat) by omega)
  rw [hm] at hml
  have hdv : ((Nat.gcd r.n q.n : Nat) : Int) ∣ (q.t : Int) - r.t - m := by
    rw [← hm]
    exact fmod_sub_dvd _ _
  obtain ⟨mo, hmo, hla⟩ : ∃ mo : Int, ((Nat.gcd r.n q.n : Nat) : Int) ∣ (q.t : Int) - r.t - mo ∧ f_least_apart [.v (ruD r), .v (ruD q)] st = some (.v (.tup [.int (if 2 * m ≤ (Nat.gcd r.n q.n : Nat) then m else (Nat.gcd r.n q.n : Nat) - m), .int mo]), st) := by
    by_cases hc : 2 * m ≤ (Nat.gcd r.n q.n : Nat)
    · refine ⟨m, hdv, ?_⟩
      rw [if_pos hc]
      generalize ((Nat.gcd r.n q.n : Nat) : Int) = g at *
      simp [f_least_apart, runFn_ap, m_least_apart, cm, g1, hc]
    · refine ⟨m - (Nat.gcd r.n q.n : Nat), ?_, ?_⟩
      · have := Int.dvd_add hdv (Int.dvd_refl _)
        rwa [show (q.t : Int) - r.t - m + (Nat.gcd r.n q.n : Nat) = q.t - r.t - (m - (Nat.gcd r.n q.n : Nat)) by omega] at this
      · rw [if_neg hc]
        generalize ((Nat.gcd r.n q.n : Nat) : Int) = g at *
        simp [f_least_apart, runFn_ap, m_least_apart, cm, g1, hc]
  have g2 := gMod_ap (i := (r.t : Int)) (j := (r.n : Int)) (s := st) (by omega)
  have g3 := gMod_ap (i := (q.t : Int) - mo) (j := (q.n : Int)) (s := st) (by omega)
  have hz : (((q.t : Int) - mo).fmod q.n - (r.t : Int).fmod r.n).fmod (Nat.gcd r.n q.n : Nat) = 0 := by
    rw [fmod0_dvd hg]
    have d1 := dvd_tr (Nat.gcd_dvd_right r.n q.n) (fmod_sub_dvd ((q.t : Int) - mo) q.n)
    have d2 := dvd_tr (Nat.gcd_dvd_left r.n q.n) (fmod_sub_dvd (r.t : Int) r.n)
    have := Int.dvd_add (Int.dvd_sub hmo d1) d2
    generalize ((q.t : Int) - mo).fmod q.n = A at *
    generalize (r.t : Int).fmod r.n = B at *
    rwa [show (q.t : Int) - r.t - mo - (q.t - mo - A) + (r.t - B) = A - B by omega] at this
  obtain ⟨L, x, hp, _⟩ := put_some (a := r.n) (b := q.n) h1.1 (by omega) h2.1 (by omega) ((r.t : Int).fmod r.n) (((q.t : Int) - mo).fmod q.n) hz st
  have hp : f_put_together [.v (.tup [.int r.n, .int ((r.t : Int).fmod r.n)]), .v (.tup [.int q.n, .int (((q.t : Int) - mo).fmod q.n)])] st = some (.v (rsD L x), st) := hp
  refine ⟨[.int x, .int (x + mo)], ?_⟩
  generalize (if 2 * m ≤ ((Nat.gcd r.n q.n : Nat) : Int) then m else ((Nat.gcd r.n q.n : Nat) : Int) - m) = V at *
  generalize ((q.t : Int) - mo).fmod q.n = A at *
  generalize (r.t : Int).fmod r.n = B at *
  simp [f_nearest, runFn_ap, m_nearest, check_two_each_ev h hn hr hq, ins_rule_of h, rule_of_ev h hn hr, rule_of_ev h hn hq, hla, g2, g3, hp]
end
end K91
namespace K91
open Mi
open PySem (Str)
/-! ### a Meeting -/
def mf1 (n : Nat) : List (Str × D) := [("own_rules", .obj n)]
def mf2 (n k : Nat) : List (Str × D) := [("own_rules", .obj n), ("own_fields", .obj (k + 1))]
def mf3 (n k : Nat) (r : D) : List (Str × D) := [("own_rules", .obj n), ("own_fields", .obj (k + 1)), ("own_rest", r)]
def mf4 (n k : Nat) (r : D) (b : Int) : List (Str × D) := [("own_rules", .obj n), ("own_fields", .obj (k + 1)), ("own_rest", r), ("own_begin", .int b)]
def mf5 (n k : Nat) (r : D) (b : Int) : List (Str × D) := [("own_rules", .obj n), ("own_fields", .obj (k + 1)), ("own_rest", r), ("own_begin", .int b), ("own_minutes", .obj (k + 2))]
def mf6 (n k : Nat) (r : D) (b : Int) (e : Bool) : List (Str × D) := [("own_rules", .obj n), ("own_fields", .obj (k + 1)), ("own_rest", r), ("own_begin", .int b), ("own_minutes", .obj (k + 2)), ("own_is_ever", .bl e)]
def mf7 (n k : Nat) (r : D) (b : Int) (e : Bool) : List (Str × D) := [("own_rules", .obj n), ("own_fields", .obj (k + 1)), ("own_rest", r), ("own_begin", .int b), ("own_minutes", .obj (k + 2)), ("own_is_ever", .bl e), ("own_by_rest", .obj (k + 3))]
section
variable (n k : Nat) (r : D) (b : Int) (e : Bool)
theorem mf_1 : putP "own_rules" (.obj n) [] = mf1 n := rfl
theorem mf_2 : putP "own_fields" (.obj (k + 1)) (mf1 n) = mf2 n k := by kernel_rfl
theorem mf_3 : putP "own_rest" r (mf2 n k) = mf3 n k r := by kernel_rfl
theorem mf_4 : putP "own_begin" (.int b) (mf3 n k r) = mf4 n k r b := by kernel_rfl
theorem mf_5 : putP "own_minutes" (.obj (k + 2)) (mf4 n k r b) = mf5 n k r b := by kernel_rfl
theorem mf_6 : putP "own_is_ever" (.bl e) (mf5 n k r b) = mf6 n k r b e := by kernel_rfl
theorem mf_7 : putP "own_by_rest" (.obj (k + 3)) (mf6 n k r b e) = mf7 n k r b e := by kernel_rfl
theorem l5_fields : List.lookup (β := D) ("own_fields" : Str) (mf5 n k r b) = some (.obj (k + 1)) := by kernel_rfl
theorem l5_rest : List.lookup (β := D) ("own_rest" : Str) (mf5 n k r b) = some r := by kernel_rfl
theorem l5_minutes : List.lookup (β := D) ("own_minutes" : Str) (mf5 n k r b) = some (.obj (k + 2)) := by kernel_rfl
theorem l6_ever : List.lookup (β := D) ("own_is_ever" : Str) (mf6 n k r b e) = some (.bl e) := by kernel_rfl
theorem l6_minutes : List.lookup (β := D) ("own_minutes" : Str) (mf6 n k r b e) = some (.obj (k + 2)) := by kernel_rfl
theorem l6_rest : List.lookup (β := D) ("own_rest" : Str) (mf6 n k r b e) = some r := by kernel_rfl
theorem l6_no : List.lookup (β := D) ("by_rest" : Str) (mf6 n k r b e) = none := by kernel_rfl
theorem l7_ever : List.lookup (β := D) ("own_is_ever" : Str) (mf7 n k r b e) = some (.bl e) := by kernel_rfl
theorem l7_begin : List.lookup (β := D) ("own_begin" : Str) (mf7 n k r b e) = some (.int b) := by kernel_rfl
theorem l7_fields : List.lookup (β := D) ("own_fields" : Str) (mf7 n k r b e) = some (.obj (k + 1)) := by kernel_rfl
theorem l7_rest : List.lookup (β := D) ("own_rest" : Str) (mf7 n k r b e) = some r := by kernel_rfl
theorem l7_no : List.lookup (β := D) ("first" : Str) (mf7 n k r b e) = none := by kernel_rfl
end
/-- the store before the rests are told apart -/
def stM (st : Sto) (a : O) : Sto := st ++ [a, .lst [], .lst (rgD 0 1440)]
theorem stM_0 (st : Sto) (a : O) (l : Sto) : (stM st a ++ l)[st.length]? = some a := by
  unfold stM
  rw [List.append_assoc]
  exact get_0 _ _ _
theorem stM_1 (st : Sto) (a : O) (l : Sto) : (stM st a ++ l)[st.length + 1]? = some (.lst []) := by
  unfold stM
  rw [List.append_assoc]
  exact get_1 _ _ _ _
theorem stM_2 (st : Sto) (a : O) (l : Sto) : (stM st a ++ l)[st.length + 2]? = some (.lst (rgD 0 1440)) := by
  unfold stM
  rw [List.append_assoc, List.getElem?_append_right (by omega)]
  rw [show st.length + 2 - st.length = 2 by omega]
  rfl
theorem stM_set (st : Sto) (a b : O) (l : Sto) : (stM st a ++ l).set st.length b = stM st b ++ l := by
  unfold stM
  (rw [List.append_assoc, List.append_assoc]); exact set_0 _ _ _ _
theorem stM_len (st : Sto) (a : O) : (stM st a).length = st.length + 3 := by simp [stM]
theorem by_rest_ev (n : Nat) (st : Sto) (r : D) (b : Int) (e : Bool) (hr : e = true → ∃ (L : Nat) (x : Int), r = rsD L x ∧ 0 < L) : ∃ kvs rest, f_Meeting__by_rest [.v (.obj st.length)] (stM st (.ins 2 (mf6 n st.length r b e))) = some (.v (.obj (st.length + 3)), stM st (.ins 2 (mf6 n st.length r b e)) ++ .dic kvs :: rest) := by
  have hS0 := fun l => stM_0 st (.ins 2 (mf6 n st.length r b e)) l
  have hS2 := fun l => stM_2 st (.ins 2 (mf6 n st.length r b e)) l
  have hSl := stM_len st (.ins 2 (mf6 n st.length r b e))
  generalize hS : stM st (.ins 2 (mf6 n st.length r b e)) = S at *
  have f1 := gFld_ap (f := "own_is_ever") (hS0 [.dic []]) (l6_ever _ _ _ _ _)
  have f2 := gFld_ap (f := "own_minutes") (hS0 [.dic []]) (l6_minutes _ _ _ _ _)
  cases e with
  | false =>
    refine ⟨[], [], ?_⟩
    simp [f_Meeting__by_rest, runFn_ap, m_Meeting__by_rest, f1, hSl]
  | true =>
    obtain ⟨L, x, rfl, hL⟩ := hr rfl
    have it := asIt_st (hS2 [.dic []])
    have hlen : (rgD 0 1440).length = 1440 := by simp [rgD]
    have hf := for_inv (ck := fun s => stAt (st.length + 2) s = some (rgD 0 1440)) (g := g1_Meeting__by_rest) (b := b1_Meeting__by_rest) (ds := rgD 0 1440) (env := [some (.v (.obj st.length)), some (.v (.obj (st.length + 3))), none, none]) (st := S ++ [.dic []])
      (fun i e s => i ≤ 1440 → (∃ y2 y3, e = [some (.v (.obj st.length)), some (.v (.obj (st.length + 3))), y2, y3]) ∧ ∃ kvs rest, s = S ++ .dic kvs :: rest ∧ kvs.length ≤ i ∧ ∀ kv ∈ kvs, ∃ j ds, kv.2 = .obj (st.length + 4 + j) ∧ rest[j]? = some (.lst ds) ∧ ds.length ≤ i)
      ?step ?ck (fun _ => ⟨⟨none, none, rfl⟩, [], [], rfl, by simp, by simp⟩)
    · obtain ⟨e, s, he, hI⟩ := hf
      obtain ⟨⟨y2, y3, rfl⟩, kvs, rest, rfl, _⟩ := hI (by rw [hlen]; exact Nat.le_refl _)
      refine ⟨kvs, rest, ?_⟩
      generalize rgD 0 1440 = RG at *
      simp [f_Meeting__by_rest, runFn_ap, m_Meeting__by_rest, f1, f2, hSl, it, he]
    case ck =>
      intro e s h
      obtain ⟨_, kvs, rest, rfl, _⟩ := h (by rw [hlen]; exact Nat.le_refl _)
      simp [stAt, hS2]
    case step =>
      rintro i d e s hd hI
      have hi : i < 1440 := by
        rcases Nat.lt_or_ge i 1440 with h | h
        · exact h
        · rw [List.getElem?_eq_none (by omega)] at hd
          cases hd
      obtain ⟨⟨y2, y3, rfl⟩, kvs, rest, rfl, hk, hv⟩ := hI (by omega)
      obtain ⟨mi, rfl⟩ : ∃ mi : Int, d = .int mi := by
        have := List.mem_of_getElem? hd
        obtain ⟨q, _, rfl⟩ := List.mem_map.mp this
        exact ⟨_, rfl⟩
      have q1 := gFld_ap (f := "own_rest") (hS0 (.dic kvs :: rest)) (l6_rest _ _ _ _ _)
      have q2 := gMod_ap (i := mi) (j := (L : Int)) (s := S ++ .dic kvs :: rest) (by omega)
      have q3 : (S ++ O.dic kvs :: rest)[st.length + 3]? = some (.dic kvs) := by rw [← hSl]; exact get_0 _ _ _
      have q4 := isDic_ap q3
      have q5 := getOr_ap (z := .l (.lst [])) (d := .int (mi.fmod L)) q3 toKey_i
      have hln : (S ++ O.dic kvs :: rest).length = st.length + 4 + rest.length := by
        rw [List.length_append, List.length_cons, hSl]
        omega
      -- the list that is laid
      obtain ⟨es, he, hel⟩ : ∃ es : List D, (bo (getOr (.v (.obj (st.length + 3))) (.v (.int (mi.fmod L))) (.l (.lst [])) (S ++ O.dic kvs :: rest)) fun x s => gAdd x (.l (.lst [.int mi])) s) = some (.l (.lst es), S ++ .dic kvs :: rest) ∧ es.length ≤ i + 1 := by
        rw [q5]
        cases q : dVal kvs (.inl (mi.fmod L)) with
        | none => exact ⟨[.int mi], by simp, by simp⟩
        | some w =>
          obtain ⟨kv, hkv, rfl⟩ := mem_dVal q
          obtain ⟨j, ds, hj, hds, hdl⟩ := hv kv hkv
          have hat : (S ++ O.dic kvs :: rest)[st.length + 4 + j]? = some (.lst ds) := by
            rw [List.getElem?_append_right (by omega), hSl, show st.length + 4 + j - (st.length + 3) = j + 1 by omega, List.getElem?_cons_succ]
            exact hds
          rw [hj]
          refine ⟨ds ++ [.int mi], ?_, by simp; omega⟩
          dsimp only
          rw [bo_some]
          exact gAdd_sl hat (by simp; omega)
      have q6 : (S ++ O.dic kvs :: rest ++ [O.lst es])[st.length + 3]? = some (.dic kvs) := by
        rw [List.append_assoc, ← hSl]
        exact get_0 _ _ _
      have q7 := setDic_ap (d := .int (mi.fmod L)) (w := .obj (st.length + 4 + rest.length)) q6 toKey_i (by omega)
      have q8 : (S ++ O.dic kvs :: rest ++ [O.lst es]).set (st.length + 3) (.dic (dPut kvs (.inl (mi.fmod L)) (.obj (st.length + 4 + rest.length)))) = S ++ .dic (dPut kvs (.inl (mi.fmod L)) (.obj (st.length + 4 + rest.length))) :: (rest ++ [.lst es]) := by
        rw [List.append_assoc, ← hSl]
        exact set_0 _ _ _ _
      rw [q8] at q7
      simp only [List.append_assoc, List.cons_append] at q7
      have hb : b1_Meeting__by_rest [some (.v (.obj st.length)), some (.v (.obj (st.length + 3))), some (.v (.int mi)), y3] (S ++ O.dic kvs :: rest) = some (.nx [some (.v (.obj st.length)), some (.v (.obj (st.length + 3))), some (.v (.int mi)), some (.v (.int (mi.fmod L)))], S ++ .dic (dPut kvs (.inl (mi.fmod L)) (.obj (st.length + 4 + rest.length))) :: (rest ++ [.lst es])) := by
        have e1 : (eOp gAdd (eGet2 (eVar 1) (eVar 3) (eLst aNil)) (eLst (aCons (eVar 2) aNil))) [some (.v (.obj st.length)), some (.v (.obj (st.length + 3))), some (.v (.int mi)), some (.v (.int (mi.fmod L)))] (S ++ O.dic kvs :: rest) = some (.l (.lst es), S ++ .dic kvs :: rest) := by
          rw [← he]
          cases hq : getOr (.v (.obj (st.length + 3))) (.v (.int (mi.fmod L))) (.l (.lst [])) (S ++ O.dic kvs :: rest) with
          | none => rw [hq] at he; cases he
          | some p =>
            obtain ⟨p1, p2⟩ := p
            simp [q4, hq]
        unfold b1_Meeting__by_rest
        rw [sSeq_ap]
        have e2 : (sSet 3 (eOp gMod (eVar 2) (eOp gIxD (eU (gFld "own_rest") (eVar 0)) (eC (.int 0))))) [some (.v (.obj st.length)), some (.v (.obj (st.length + 3))), some (.v (.int mi)), y3] (S ++ O.dic kvs :: rest) = some (.nx [some (.v (.obj st.length)), some (.v (.obj (st.length + 3))), some (.v (.int mi)), some (.v (.int (mi.fmod L)))], S ++ .dic kvs :: rest) := by
          unfold rsD at q1
          simp [q1, q2]
        rw [e2, bo_some, sq1_nx, sDPut_ap, e1, bo_some, alloc_l, bo_some, toD_v, bo_some, hln]
        simp [q7]
      refine ⟨by simp [stAt, hS2], _, _, _, _, by simp [g1_Meeting__by_rest] <;> exact ⟨rfl, rfl⟩, hb, fun _ => ⟨⟨_, _, rfl⟩, _, _, rfl, ?_, ?_⟩⟩
      · have := len_dPut (kvs := kvs) (k := (.inl (mi.fmod L) : L2.Key)) (d := .obj (st.length + 4 + rest.length))
        omega
      · intro kv hkv
        rcases mem_dPut hkv with h | h
        · obtain ⟨j, ds, h1, h2, h3⟩ := hv kv h
          exact ⟨j, ds, h1, by rw [List.getElem?_append_left (List.getElem?_eq_some_iff.mp h2).1]; exact h2, by omega⟩
        · exact ⟨rest.length, es, h, by rw [List.getElem?_append_right (Nat.le_refl _), Nat.sub_self]; rfl, hel⟩
end K91
namespace K91
open Mi
open PySem (Str)
/-- the job of a text, for comprehensions over names -/
def nmD (r : Ru) : D := .str r.name
theorem maxL_0 {ns : List Int} (h : ns ≠ []) (h0 : ∀ y ∈ ns, 0 ≤ y) : maxL (0 :: ns) = maxL ns := by
  have h1 := maxL_mem (ns := 0 :: ns) (by simp)
  have h2 := maxL_mem h
  have h3 := h1.2 (maxL ns) (by simp [h2.1])
  have h4 := h0 _ h2.1
  rcases List.mem_cons.mp h1.1 with e | e
  · omega
  · have := h2.2 _ e
    omega
theorem meeting_init_ev {n : Nat} {rs js : List Ru} {st : Sto} (h : RAt n rs st) (hn : (rs.map (·.name)).Nodup) (hj : ∀ r ∈ js, r ∈ rs ∧ 0 < r.n ∧ r.n ≤ 40 ∧ r.t ≤ 1000) (h0 : js ≠ []) (hl : js.length ≤ 4) :
    ∃ (d : D) (e : Bool) (l : Sto), f_Meeting____init__ [.v (.obj st.length), .v (.obj n), .v (.tup (js.map nmD))] (st ++ [.ins 2 []]) = some (.v .non, st ++ .ins 2 (mf7 n st.length d (bg (js.map rp)) e) :: .lst [] :: l) ∧
      ((d = .non ∧ e = false ∧ ∀ x, ¬ Cm (js.map rp) x) ∨ ∃ (L : Nat) (x : Int), d = rsD L x ∧ e = true ∧ 0 < L ∧ L ≤ 40 ^ js.length ∧ ∀ y, Cm (js.map rp) y ↔ (L : Int) ∣ y - x) := by
  have hA := h.keep (Keeps.app st [.ins 2 []])
  have hln : (st ++ [O.ins 2 []]).length = st.length + 1 := by simp
  -- the env
  generalize hX : D.tup (js.map nmD) = X at *
  have c1 : (sSet 3 (eComp [4] (mSeq (eVar 2)) g1_Meeting____init__ c1_Meeting____init__ e1_Meeting____init__)) [some (.v (.obj st.length)), some (.v (.obj n)), some (.v X), none, none, none, none, none, none] (st ++ [O.ins 2 []]) =
      some (.nx [some (.v (.obj st.length)), some (.v (.obj n)), some (.v X), some (.b (.lst (js.map ruD))), none, none, none, none, none], st ++ [O.ins 2 []]) := by
    have cc := comp_alpha (g := g1_Meeting____init__) (t := c1_Meeting____init__) (m := e1_Meeting____init__) (env := [some (.v (.obj st.length)), some (.v (.obj n)), some (.v X), none, none, none, none, none, none]) (st := st ++ [O.ins 2 []]) nmD ruD (xs := js) (acc := []) (by simp; omega) (fun r hr => by
      have ie := is_each_ev hA hn (hj r hr).1
      exact ⟨_, by simp [g1_Meeting____init__, nmD] <;> rfl, by simp [c1_Meeting____init__, nmD, ie], by simp [e1_Meeting____init__, nmD, ins_rule_of hA, rule_of_ev hA hn (hj r hr).1]⟩)
    rw [List.nil_append] at cc
    rw [← hX] at cc ⊢
    generalize js.map nmD = JN at *
    generalize js.map ruD = JR at *
    simp [wipeE, cc]
  generalize hE : ([some (.v (.obj st.length)), some (.v (.obj n)), some (.v X), some (.b (.lst (js.map ruD))), none, none, none, none, none] : Mi.Env) = E at *
  have hE0 : E[0]? = some (some (.v (.obj st.length))) := by rw [← hE]; rfl
  have hE1 : E[1]? = some (some (.v (.obj n))) := by rw [← hE]; rfl
  -- own_rules
  have k2 := fld_put (f := "own_rules") (i := 0) (env := E) (ma := eVar 1) (s := st ++ [O.ins 2 []]) (s1 := st ++ [O.ins 2 []]) (d := .obj n) (n := st.length) (c := 2) (fs := []) (by simp [hE1]) hE0 (get_0 _ _ _) (by decide)
  rw [set_0, mf_1] at k2
  have hA2 := h.keep (Keeps.app st [.ins 2 (mf1 n)])
  -- own_fields
  have k3 := fld_putA (f := "own_fields") (i := 0) (env := E) (ma := eComp [4] (mSeq (eVar 2)) g2_Meeting____init__ c2_Meeting____init__ e2_Meeting____init__) (s := st ++ [O.ins 2 (mf1 n)]) (s1 := st ++ [O.ins 2 (mf1 n)]) (r := .l (.lst [])) (n := st.length) (c := 2) (fs := mf1 n) (by
    have cc := comp_drop (g := g2_Meeting____init__) (t := c2_Meeting____init__) (m := e2_Meeting____init__) (env := E) (st := st ++ [O.ins 2 (mf1 n)]) (acc := []) (ds := js.map nmD) (fun d hd => by
      obtain ⟨r, hr, rfl⟩ := List.mem_map.mp hd
      have ie := is_each_ev hA2 hn (hj r hr).1
      rw [← hE]
      exact ⟨_, by simp [g2_Meeting____init__, nmD] <;> rfl, by simp [c2_Meeting____init__, nmD, ie]⟩)
    rw [← hE] at cc ⊢
    rw [← hX] at cc ⊢
    generalize js.map nmD = JN at *
    simp [wipeE, cc]) alloc_l hE0 (by rw [List.append_assoc]; exact get_0 _ _ _) (by simp [mf1])
  rw [List.append_assoc, show (st ++ [O.ins 2 (mf1 n)]).length = st.length + 1 by simp, show ([O.ins 2 (mf1 n)] ++ [O.lst []]) = [O.ins 2 (mf1 n), .lst []] from rfl, set_0, mf_2] at k3
  -- own_rest
  generalize hS3 : st ++ [O.ins 2 (mf2 n st.length), .lst []] = S3 at *
  obtain ⟨d, hrest, hd⟩ : ∃ d : D, f_all_together [.b (.lst ((js.map rp).map pD))] S3 = some (.v d, S3) ∧ ((d = .non ∧ ∀ x, ¬ Cm (js.map rp) x) ∨ ∃ (L : Nat) (x : Int), d = rsD L x ∧ 0 < L ∧ L ≤ 40 ^ js.length ∧ ∀ y, Cm (js.map rp) y ↔ (L : Int) ∣ y - x) := by
    have hjp : ∀ p ∈ js.map rp, 0 < p.1 ∧ p.1 ≤ 40 := fun p hp => by
      (obtain ⟨r, hr, rfl⟩ := List.mem_map.mp hp); exact ⟨(hj r hr).2.1, (hj r hr).2.2.1⟩
    rcases all_ev hjp (by rw [List.length_map]; exact hl) (X := .b (.lst ((js.map rp).map pD))) (.inr rfl) S3 with ⟨h1, h2⟩ | ⟨L, x, h1, h2, h3, _, _, h5⟩
    · exact ⟨.non, h1, .inl ⟨rfl, h2⟩⟩
    · exact ⟨_, h1, .inr ⟨L, x, rfl, h2, by rwa [List.length_map] at h3, h5⟩⟩
  have k4 := fld_put (f := "own_rest") (i := 0) (env := E) (ma := eCall 1 f_all_together (aCons (eComp [7] (mSeq (eVar 3)) g3_Meeting____init__ tTrue e3_Meeting____init__) aNil)) (s := S3) (s1 := S3) (d := d) (n := st.length) (c := 2) (fs := mf2 n st.length) (by
    have cc := comp_alpha (g := g3_Meeting____init__) (t := tTrue) (m := e3_Meeting____init__) (env := E) (st := S3) ruD (fun r => pD (rp r)) (xs := js) (acc := []) (by simp; omega) (fun r hr => by
      rw [← hE]
      exact ⟨_, by simp [g3_Meeting____init__] <;> rfl, by simp, by simp [e3_Meeting____init__, pD, rsD, rp]⟩)
    rw [List.nil_append, show js.map (fun r => pD (rp r)) = (js.map rp).map pD by rw [List.map_map]; rfl] at cc
    rw [← hE] at cc ⊢
    generalize (js.map rp).map pD = PP at *
    generalize js.map ruD = JR at *
    simp [wipeE, cc, hrest]) hE0 (by rw [← hS3]; exact get_0 _ _ _) (by simp [mf2])
  rw [← hS3, set_0, mf_3] at k4
  -- own_begin
  generalize hS4 : st ++ [O.ins 2 (mf3 n st.length d), .lst []] = S4 at *
  have k5 := fld_put (f := "own_begin") (i := 0) (env := E) (ma := eB bMax (aCons (eOp gAdd (eLst (aCons (eC (.int 0)) aNil)) (eComp [7] (mSeq (eVar 3)) g4_Meeting____init__ tTrue e4_Meeting____init__)) aNil)) (s := S4) (s1 := S4) (d := .int (bg (js.map rp))) (n := st.length) (c := 2) (fs := mf3 n st.length d) (by
    have cc := comp_alpha (g := g4_Meeting____init__) (t := tTrue) (m := e4_Meeting____init__) (env := E) (st := S4) ruD (fun r => .int (r.t : Int)) (xs := js) (acc := []) (by simp; omega) (fun r hr => by
      rw [← hE]
      exact ⟨_, by simp [g4_Meeting____init__] <;> rfl, by simp, by simp [e4_Meeting____init__]⟩)
    have hm := bMax_ll (ns := 0 :: js.map fun r => (r.t : Int)) (s := S4) (by simp)
    rw [maxL_0 (by simpa using h0) (by intro y hy; obtain ⟨r, _, rfl⟩ := List.mem_map.mp hy; omega)] at hm
    have eb : bg (js.map rp) = maxL (js.map fun r => (r.t : Int)) := by
      unfold bg
      rw [List.map_map]
      rfl
    rw [← eb] at hm
    have em : (0 :: js.map fun r => (r.t : Int)).map D.int = .int 0 :: js.map fun r => .int (r.t : Int) := by
      rw [List.map_cons, List.map_map]
      rfl
    rw [em] at hm
    have hll : (js.map fun r => D.int (r.t : Int)).length ≤ 4 := by rw [List.length_map]; exact hl
    rw [List.nil_append] at cc
    rw [← hE] at cc ⊢
    generalize (js.map fun r => D.int (r.t : Int)) = PP at *
    generalize js.map ruD = JR at *
    have ga := gAdd_ll (xs := [D.int 0]) (ys := PP) (s := S4) (by simp; omega)
    rw [List.singleton_append] at ga
    simp [wipeE, cc, ga, hm]) hE0 (by rw [← hS4]; exact get_0 _ _ _) (by simp [mf3])
  rw [← hS4, set_0, mf_4] at k5
  -- own_minutes
  have k6 := fld_putA (f := "own_minutes") (i := 0) (env := E) (ma := eLR1 (eC (.int 1440))) (s := st ++ [O.ins 2 (mf4 n st.length d (bg (js.map rp))), .lst []]) (s1 := st ++ [O.ins 2 (mf4 n st.length d (bg (js.map rp))), .lst []]) (r := .l (.lst (rgD 0 1440))) (n := st.length) (c := 2) (fs := mf4 n st.length d (bg (js.map rp))) (by
    have hr : rgIn 0 1440 = true := by decide
    simp [hr]) alloc_l hE0 (by rw [List.append_assoc]; exact get_0 _ _ _) (by simp [mf4])
  rw [List.append_assoc, show (st ++ [O.ins 2 (mf4 n st.length d (bg (js.map rp))), .lst []]).length = st.length + 2 by simp, show ([O.ins 2 (mf4 n st.length d (bg (js.map rp))), .lst []] ++ [O.lst (rgD 0 1440)]) = [O.ins 2 (mf4 n st.length d (bg (js.map rp))), .lst [], .lst (rgD 0 1440)] from rfl, set_0, mf_5] at k6
  generalize hB : bg (js.map rp) = B at *
  have hS5 : st ++ [O.ins 2 (mf5 n st.length d B), .lst [], .lst (rgD 0 1440)] = stM st (.ins 2 (mf5 n st.length d B)) ++ [] := by rw [List.append_nil]; rfl
  rw [hS5] at k6
  have g0 := stM_0 st (.ins 2 (mf5 n st.length d B)) []
  have g1 := stM_1 st (.ins 2 (mf5 n st.length d B)) []
  have g2 := stM_2 st (.ins 2 (mf5 n st.length d B)) []
  have gset := fun o => stM_set st (.ins 2 (mf5 n st.length d B)) o []
  generalize hS5' : stM st (.ins 2 (mf5 n st.length d B)) ++ [] = S5 at *
  have f1 := gFld_ap (f := "own_fields") g0 (l5_fields _ _ _ _)
  have f2 := gFld_ap (f := "own_rest") g0 (l5_rest _ _ _ _)
  have f3 := gFld_ap (f := "own_minutes") g0 (l5_minutes _ _ _ _)
  have hck : stAt (st.length + 1) S5 = some [] := by simp [stAt, g1]
  have it := asIt_st g1
  have c7 : (sFor [] (mSeq (eU (gFld "own_fields") (eVar 0))) g6_Meeting____init__ b1_Meeting____init__) E S5 = some (.nx E, S5) := by
    have hn := for_nil (ck := fun s => stAt (st.length + 1) s = some []) (g := g6_Meeting____init__) (b := b1_Meeting____init__) (env := E) (st := S5) hck
    simp [hE0, f1, it, hn]
  generalize hE8 : E.set 5 (some (.b (.lst []))) = E8 at *
  have hE80 : E8[0]? = some (some (.v (.obj st.length))) := by rw [← hE8, ← hE]; rfl
  have hE85 : E8[5]? = some (some (.b (.lst []))) := by rw [← hE8, ← hE]; rfl
  have c8 : (sSet 5 (eComp [4] (mSeq (eU (gFld "own_fields") (eVar 0))) g7_Meeting____init__ c4_Meeting____init__ e6_Meeting____init__)) E S5 = some (.nx E8, S5) := by
    have hn := fun env => comp_nil (ck := fun s => stAt (st.length + 1) s = some []) (g := g7_Meeting____init__) (t := c4_Meeting____init__) (m := e6_Meeting____init__) (env := env) (st := S5) (acc := []) hck
    have hEl : 5 < E.length := by rw [← hE]; simp
    rw [← hE8]
    simp [hE0, f1, it, hn, hEl]
  -- own_is_ever
  obtain ⟨e, hev, hd2⟩ : ∃ e : Bool, (eAnd (eOp gNotN (eU (gFld "own_rest") (eVar 0)) (eC .non)) (eAnd (eOp gNe (eU (gFld "own_minutes") (eVar 0)) (eLst aNil)) (eOp gEq (eVar 5) (eLst aNil)))) E8 S5 = some (.v (.bl e), S5) ∧
      ((d = .non ∧ e = false ∧ ∀ x, ¬ Cm (js.map rp) x) ∨ ∃ (L : Nat) (x : Int), d = rsD L x ∧ e = true ∧ 0 < L ∧ L ≤ 40 ^ js.length ∧ ∀ y, Cm (js.map rp) y ↔ (L : Int) ∣ y - x) := by
    rcases hd with ⟨rfl, hno⟩ | ⟨L, x, rfl, q1, q2, q3⟩
    · exact ⟨false, by simp [hE80, f2], .inl ⟨rfl, rfl, hno⟩⟩
    · have hp : Pds 0 S5 (rgD 0 1440) ((List.range (1440 - 0 : Int).toNat).map fun k => PySem.PyData.int (0 + (k : Nat))) := Pds.map (fun k => Pd.int _) _
      have z1 := gNe_se g2 hp (by omega)
      have z1' : (rgD 0 1440).isEmpty = false := by rfl
      rw [z1'] at z1
      have z2 := gEq_be (st := S5) (ds := []) Pds.nil (show 0 ≤ 8 by omega)
      have z3 : gNotN (.v (rsD L x)) (.v .non) S5 = some (.v (.bl true), S5) := rfl
      exact ⟨true, by simp [hE80, hE85, f2, f3, z1, z2, z3], .inr ⟨L, x, rfl, rfl, q1, q2, q3⟩⟩
  have k9 := fld_put (f := "own_is_ever") (i := 0) (env := E8) (s := S5) (s1 := S5) (d := .bl e) (n := st.length) (c := 2) (fs := mf5 n st.length d B) hev hE80 g0 (by simp [mf5])
  rw [gset, mf_6, List.append_nil] at k9
  -- own_by_rest
  obtain ⟨kvs, rest, hbr⟩ := by_rest_ev n st d B e (fun he => by
    rcases hd2 with ⟨_, e0, _⟩ | ⟨L, x, h1, _, h2, _⟩
    · rw [e0] at he
      cases he
    · exact ⟨L, x, h1, h2⟩)
  have im := insIs_ap (f := "by_rest") (s := stM st (.ins 2 (mf6 n st.length d B e))) (n := st.length) (c := 2) (fs := mf6 n st.length d B e) (by have := stM_0 st (.ins 2 (mf6 n st.length d B e)) []; rwa [List.append_nil] at this) (l6_no n st.length d B e)
  have k10 := fld_put (f := "own_by_rest") (i := 0) (env := E8) (ma := eMeth 2 "by_rest" 1 f_Meeting__by_rest (eVar 0) aNil) (s := stM st (.ins 2 (mf6 n st.length d B e))) (s1 := stM st (.ins 2 (mf6 n st.length d B e)) ++ .dic kvs :: rest) (d := .obj (st.length + 3)) (n := st.length) (c := 2) (fs := mf6 n st.length d B e) (by simp [hE80, im, hbr]) hE80 (stM_0 _ _ _) (by simp [mf6])
  rw [stM_set, mf_7] at k10
  refine ⟨d, e, .lst (rgD 0 1440) :: .dic kvs :: rest, ?_, hd2⟩
  have efin : stM st (.ins 2 (mf7 n st.length d B e)) ++ .dic kvs :: rest = st ++ .ins 2 (mf7 n st.length d B e) :: .lst [] :: .lst (rgD 0 1440) :: .dic kvs :: rest := by
    unfold stM
    rw [List.append_assoc]
    rfl
  rw [← efin, f_Meeting____init__, runFn_ap]
  show bo (m_Meeting____init__ [some (.v (.obj st.length)), some (.v (.obj n)), some (.v X), none, none, none, none, none, none] _) fn1 = _
  unfold m_Meeting____init__
  rw [sSeq_ap, c1, bo_some, sq1_nx, sSeq_ap, k2, bo_some, sq1_nx, sSeq_ap, k3, bo_some, sq1_nx, ← hS3, sSeq_ap, k4, bo_some, sq1_nx, ← hS4, sSeq_ap, k5, bo_some, sq1_nx, sSeq_ap, k6, bo_some, sq1_nx, sSeq_ap, c7, bo_some, sq1_nx, sSeq_ap, c8, bo_some, sq1_nx, sSeq_ap, k9, bo_some, sq1_nx, k10]
  rfl
end K91
namespace K91
open Mi
open PySem (Str)
section
variable {n : Nat} {rs js : List Ru} {st : Sto}
theorem bg_bound {js : List Pr} (h0 : js ≠ []) {M : Nat} (h : ∀ p ∈ js, p.2 ≤ M) : 0 ≤ bg js ∧ bg js ≤ M := by
  obtain ⟨p, hp, e⟩ := bg_mem h0
  have := h p hp
  omega
theorem meeting_ev (h : RAt n rs st) (hn : (rs.map (·.name)).Nodup) (hj : ∀ r ∈ js, r ∈ rs ∧ 0 < r.n ∧ r.n ≤ 40 ∧ r.t ≤ 1000) (h0 : js ≠ []) (hl : js.length ≤ 4) :
    ∃ st1, Keeps st st1 ∧ f_Meeting____init__ [.v (.obj st.length), .v (.obj n), .v (.tup (js.map nmD))] (st ++ [.ins 2 []]) = some (.v .non, st1) ∧ insIs 2 "first" (.v (.obj st.length)) st1 = some (.v (.obj st.length), st1) ∧
      ((f_Meeting__first [.v (.obj st.length), .v (.int 0)] st1 = some (.v .non, st1) ∧ ∀ x, ¬ Cm (js.map rp) x) ∨ ∃ x, f_Meeting__first [.v (.obj st.length), .v (.int 0)] st1 = some (.v (.int x), st1) ∧ Fst (js.map rp) x ∧ x ≤ 210379679) := by
  obtain ⟨d, e, l, hi, hd⟩ := meeting_init_ev h hn hj h0 hl
  have g0 := get_0 st (.ins 2 (mf7 n st.length d (bg (js.map rp)) e)) (.lst [] :: l)
  have g1 := get_1 st (.ins 2 (mf7 n st.length d (bg (js.map rp)) e)) (.lst []) l
  have hk := Keeps.app st (.ins 2 (mf7 n st.length d (bg (js.map rp)) e) :: .lst [] :: l)
  have hb := bg_bound (js := js.map rp) (by simpa using h0) (M := 1000) (fun p hp => by
    (obtain ⟨r, hr, rfl⟩ := List.mem_map.mp hp); exact (hj r hr).2.2.2)
  refine ⟨_, hk, ?_, insIs_ap g0 (l7_no _ _ _ _ _), ?_⟩
  · exact hi
  · generalize hS : st ++ .ins 2 (mf7 n st.length d (bg (js.map rp)) e) :: .lst [] :: l = S at *
    have f1 := gFld_ap (f := "own_begin") g0 (l7_begin _ _ _ _ _)
    have f2 := gFld_ap (f := "own_is_ever") g0 (l7_ever _ _ _ _ _)
    have f3 := gFld_ap (f := "own_fields") g0 (l7_fields _ _ _ _ _)
    have f4 := gFld_ap (f := "own_rest") g0 (l7_rest _ _ _ _ _)
    have z1 := gEq_se g1 Pds.nil (show 0 ≤ 7 by omega)
    rcases hd with ⟨rfl, rfl, hno⟩ | ⟨L, x, rfl, rfl, q1, q2, q3⟩
    · exact .inl ⟨by simp [f_Meeting__first, runFn_ap, m_Meeting__first, f1, f2], hno⟩
    · right
      have hF := fst_of (by simpa using h0) q1 q3
      have hm := fmod_nn (x - bg (js.map rp)) (show (0 : Int) < L by omega)
      have hL : (L : Int) ≤ 2560000 := by
        have := Nat.pow_le_pow_right (n := 40) (by decide) hl
        have : L ≤ 40 ^ 4 := Nat.le_trans q2 this
        omega
      have g2 := gMod_ap (i := x - bg (js.map rp)) (j := (L : Int)) (s := S) (by omega)
      have hmx : max 0 (bg (js.map rp)) = bg (js.map rp) := by omega
      have hlt : ¬ (210379679 : Int) < bg (js.map rp) := by omega
      have hle : bg (js.map rp) + (x - bg (js.map rp)).fmod L ≤ 210379679 := by omega
      refine ⟨_, ?_, hF, hle⟩
      unfold rsD at f4
      generalize bg (js.map rp) = B at *
      generalize (x - B).fmod L = R at *
      simp [f_Meeting__first, runFn_ap, m_Meeting__first, f1, f2, f3, f4, z1, hmx, hlt, g2, hle]
end
section
variable {n : Nat} {rs : List Ru} {r q : Ru} {st : Sto}
theorem check_two_ev (h : RAt n rs st) (hr : r ∈ rs) (hq : q ∈ rs) : f_check_two [.v (.obj n), .v (.str r.name), .v (.str q.name)] st = some (.v .non, st) := by
  simp [f_check_two, runFn_ap, m_check_two, check_job_ev h hr, check_job_ev h hq]
theorem why_ev (h : RAt n rs st) (hn : (rs.map (·.name)).Nodup) (hr : r ∈ rs) (hq : q ∈ rs) (h1 : 0 < r.n) (hz : ((r.t : Int) - q.t).fmod (Nat.gcd r.n q.n : Nat) ≠ 0) : f_why_apart [.v (.obj n), .v (.str r.name), .v (.str q.name)] st = some (.v (.str "rests"), st) := by
  have hg : 0 < Nat.gcd r.n q.n := Nat.gcd_pos_of_pos_left _ h1
  have cm := common_ev r.n q.n st
  have g1 := gMod_ap (i := (r.t : Int) - q.t) (j := (Nat.gcd r.n q.n : Nat)) (s := st) (by omega)
  have cc := comp_alpha (g := g1_why_apart) (t := c1_why_apart) (m := e1_why_apart) (env := [some (.v (.obj n)), some (.v (.str r.name)), some (.v (.str q.name)), none, none, none, none, none, none, none]) (st := st) nmD ruD (xs := [r, q]) (acc := []) (by simp) (fun z hz => by
    have hz2 : z ∈ rs := by
      simp at hz
      rcases hz with rfl | rfl
      · exact hr
      · exact hq
    exact ⟨_, by simp [g1_why_apart, nmD] <;> rfl, by simp [c1_why_apart, nmD, is_each_ev h hn hz2], by simp [e1_why_apart, nmD, ins_rule_of h, rule_of_ev h hn hz2]⟩)
  have cc : compL tr1 g1_why_apart c1_why_apart e1_why_apart [some (.v (.obj n)), some (.v (.str r.name)), some (.v (.str q.name)), none, none, none, none, none, none, none] [.str r.name, .str q.name] [] st = some ([ruD r, ruD q], st) := cc
  generalize ((Nat.gcd r.n q.n : Nat) : Int) = g at *
  simp [f_why_apart, runFn_ap, m_why_apart, wipeE, cc, cm, g1, hz]
theorem meet_ev (h : RAt n rs st) (hn : (rs.map (·.name)).Nodup) (hr : r ∈ rs) (hq : q ∈ rs) (h1 : 0 < r.n ∧ r.n ≤ 40) (h2 : 0 < q.n ∧ q.n ≤ 40) (t1 : r.t ≤ 1000) (t2 : q.t ≤ 1000) : ∃ st1, Keeps st st1 ∧
    ((f_meet [.v (.obj n), .v (.str r.name), .v (.str q.name)] st = some (.v (.tup [.str "apart", .str "rests"]), st1) ∧ ∀ x, ¬ Cm [rp r, rp q] x) ∨
    ∃ x, f_meet [.v (.obj n), .v (.str r.name), .v (.str q.name)] st = some (.v (.tup [.str "meet", .int x]), st1) ∧ Fst [rp r, rp q] x) := by
  obtain ⟨st1, hk, hm, hins, hf⟩ := meeting_ev (js := [r, q]) h hn (fun z hz => by
    simp at hz
    rcases hz with rfl | rfl
    · exact ⟨hr, h1.1, h1.2, t1⟩
    · exact ⟨hq, h2.1, h2.2, t2⟩) (by simp) (by simp)
  have hm : f_Meeting____init__ [.v (.obj st.length), .v (.obj n), .v (.tup [.str r.name, .str q.name])] (st ++ [.ins 2 []]) = _ := hm
  have hA := h.keep hk
  refine ⟨st1, hk, ?_⟩
  rcases hf with ⟨hf, hno⟩ | ⟨x, hf, hx, _⟩
  · left
    have hg : 0 < Nat.gcd r.n q.n := Nat.gcd_pos_of_pos_left _ h1.1
    have hz : ((r.t : Int) - q.t).fmod (Nat.gcd r.n q.n : Nat) ≠ 0 := fun e => by
      have e2 : ((q.t : Int) - r.t).fmod (Nat.gcd r.n q.n : Nat) = 0 := by
        rw [fmod0_dvd hg] at e ⊢
        have := Int.dvd_neg.mpr e
        rwa [show -((r.t : Int) - q.t) = q.t - r.t by omega] at this
      obtain ⟨L, x, _, _, _, _, _, d1, d2⟩ := put_some (a := r.n) (b := q.n) h1.1 (by omega) h2.1 (by omega) r.t q.t e2 []
      exact hno x (Cm_2.mpr ⟨d1, d2⟩)
    have hw := why_ev hA hn hr hq h1.1 hz
    exact ⟨by simp [f_meet, runFn_ap, m_meet, check_two_ev h hr hq, hm, hins, hf, hw], hno⟩
  · right
    exact ⟨x, by simp [f_meet, runFn_ap, m_meet, check_two_ev h hr hq, hm, hins, hf], hx⟩
end
end K91
namespace K91
open Mi
open PySem (Str)
theorem cut_from (ds : List D) (k : Nat) : cutD ds (some (k : Int)) none = ds.drop k := by
  unfold cutD
  rw [HT.sIx_none, HT.sIx_nat, List.take_of_length_le (by rw [List.length_drop]; exact Nat.le_refl _)]
  by_cases h : k ≤ ds.length
  · rw [Nat.min_eq_left h]
  · rw [Nat.min_eq_right (by omega), List.drop_eq_nil_of_le (Nat.le_refl _), List.drop_eq_nil_of_le (by omega)]
section
variable {n : Nat} {rs : List Ru}
theorem meet_in {st : Sto} (h : RAt n rs st) (hn : (rs.map (·.name)).Nodup) (hj : ∀ r ∈ rs, 0 < r.n ∧ r.n ≤ 40 ∧ r.t ≤ 1000) {i : Nat} (hi : i < rs.length) (X : R) (y5 : Option R) :
    Ends (fun e s => Keeps st s ∧ (∃ y, e = [some (.v (.obj n)), some X, none, some (.v (.int i)), some (.v (.str rs[i].name)), y, none]) ∧ ∀ j (hj : j < rs.length), i < j → ∃ x, Cm [rp rs[i], rp rs[j]] x) (fun r s => Keeps st s ∧ (∃ ds, r = .v (.tup (.str "two" :: ds))) ∧ ∀ x, ¬ Cm (rs.map rp) x)
      (forL tr1 g2_all_meet b1_all_meet ((rs.drop (i + 1)).map nmD) [some (.v (.obj n)), some X, none, some (.v (.int i)), some (.v (.str rs[i].name)), y5, none] st) := by
  have hlen : ((rs.drop (i + 1)).map nmD).length = rs.length - (i + 1) := by rw [List.length_map, List.length_drop]
  have hf := for_post (ck := tr1) (g := g2_all_meet) (b := b1_all_meet) (ds := (rs.drop (i + 1)).map nmD) (env := [some (.v (.obj n)), some X, none, some (.v (.int i)), some (.v (.str rs[i].name)), y5, none]) (st := st)
    (fun k e s => Keeps st s ∧ (∃ y, e = [some (.v (.obj n)), some X, none, some (.v (.int i)), some (.v (.str rs[i].name)), y, none]) ∧ ∀ j (hj : j < rs.length), i < j → j < i + 1 + k → ∃ x, Cm [rp rs[i], rp rs[j]] x)
    (fun r s => Keeps st s ∧ (∃ ds, r = .v (.tup (.str "two" :: ds))) ∧ ∀ x, ¬ Cm (rs.map rp) x)
    ?step (fun _ _ _ => trivial) ⟨Keeps.rfl' _, ⟨_, rfl⟩, fun j _ h1 h2 => by omega⟩
  · rcases hf with ⟨e, s, he, h1, h2, h3⟩ | h
    · exact .inl ⟨e, s, he, h1, h2, fun j hj h => h3 j hj h (by rw [hlen]; omega)⟩
    · exact .inr h
  case step =>
    rintro k d e s hd ⟨hk, ⟨y, rfl⟩, hI⟩
    have hkl : k < rs.length - (i + 1) := by
      rcases Nat.lt_or_ge k (rs.length - (i + 1)) with h | h
      · exact h
      · rw [List.getElem?_eq_none (by omega)] at hd
        cases hd
    have hjl : i + 1 + k < rs.length := by omega
    rw [List.getElem?_map, List.getElem?_drop, List.getElem?_eq_getElem hjl] at hd
    cases hd
    have hi2 := List.getElem_mem hi
    have hj2 := List.getElem_mem hjl
    have h1 := hj _ hi2
    have h2 := hj _ hj2
    have hcp : ∀ x, Cm (rs.map rp) x → Cm [rp rs[i], rp rs[i + 1 + k]] x := fun x hx => Cm_2.mpr ⟨hx _ (List.mem_map.mpr ⟨_, hi2, rfl⟩), hx _ (List.mem_map.mpr ⟨_, hj2, rfl⟩)⟩
    obtain ⟨s1, hk1, hm, hins, hf⟩ := meeting_ev (js := [rs[i], rs[i + 1 + k]]) (h.keep hk) hn (fun z hz => by
      simp only [List.mem_cons, List.not_mem_nil, or_false] at hz
      rcases hz with rfl | rfl
      · exact ⟨hi2, h1⟩
      · exact ⟨hj2, h2⟩) (by simp) (by simp)
    have hm : f_Meeting____init__ [.v (.obj s.length), .v (.obj n), .v (.tup [.str rs[i].name, .str rs[i + 1 + k].name])] (s ++ [.ins 2 []]) = _ := hm
    unfold nmD
    generalize hq : rs[i + 1 + k] = q at *
    rcases hf with ⟨hf, hno⟩ | ⟨x, hf, hx, _⟩
    · exact turn_r (s1 := s) (s2 := s1) trivial (r := .v (.tup [.str "two", .str rs[i].name, .str q.name])) (e := [some (.v (.obj n)), some X, none, some (.v (.int i)), some (.v (.str rs[i].name)), some (.v (.str q.name)), none]) (by simp [g2_all_meet]) (by simp [b1_all_meet, hm, hins, hf]) ⟨hk.trans hk1, ⟨_, rfl⟩, fun x hx => hno x (hcp x hx)⟩
    · exact turn_n (s1 := s) (s2 := s1) trivial (e := [some (.v (.obj n)), some X, none, some (.v (.int i)), some (.v (.str rs[i].name)), some (.v (.str q.name)), none]) (e2 := [some (.v (.obj n)), some X, none, some (.v (.int i)), some (.v (.str rs[i].name)), some (.v (.str q.name)), none]) (by simp [g2_all_meet]) (by simp [b1_all_meet, hm, hins, hf]) ⟨hk.trans hk1, ⟨_, rfl⟩, fun j' hj' g1 g2 => by
        by_cases e : j' = i + 1 + k
        · subst e
          rw [hq]
          exact ⟨x, hx.2.1⟩
        · exact hI j' hj' g1 (by omega)⟩
theorem unlike_ev (hn : (rs.map (·.name)).Nodup) (hl : rs.length ≤ 12) (st : Sto) : f_are_unlike [.v (.tup (rs.map nmD))] st = some (.v (.bl true), st) := by
  have e : rs.map nmD = (rs.map (·.name)).map D.str := by rw [List.map_map]; rfl
  have hs := gLenSet_ap (x := .v (.tup (rs.map nmD))) (s := st) (ys := rs.map (·.name)) (by rw [e]; rfl) hn (by rw [List.length_map]; omega)
  rw [List.length_map] at hs
  have hlen : (rs.map nmD).length = rs.length := List.length_map ..
  generalize rs.map nmD = ds at *
  simp [f_are_unlike, runFn_ap, m_are_unlike, hs, hlen]
theorem all_meet_ev {st : Sto} (h : RAt n rs st) (hn : (rs.map (·.name)).Nodup) (hj : ∀ r ∈ rs, 0 < r.n ∧ r.n < 40 ∧ r.t ≤ 1000) (hl : rs.length = 2 ∨ rs.length = 3) : ∃ st1, Keeps st st1 ∧
    ((∃ ds, f_all_meet [.v (.obj n), .v (.tup (rs.map nmD))] st = some (.v (.tup (.str "two" :: ds)), st1) ∧ ∀ x, ¬ Cm (rs.map rp) x) ∨
    ∃ x, f_all_meet [.v (.obj n), .v (.tup (rs.map nmD))] st = some (.v (.tup [.str "meet", .int x]), st1) ∧ Fst (rs.map rp) x) := by
  have hj2 : ∀ r ∈ rs, 0 < r.n ∧ r.n ≤ 40 ∧ r.t ≤ 1000 := fun r hr => ⟨(hj r hr).1, by have := (hj r hr).2.1; omega, (hj r hr).2.2⟩
  have h0 : rs ≠ [] := by
    intro e
    subst e
    simp at hl
  have cr := check_rules_ev h
  have un := unlike_ev hn (by omega) st
  obtain ⟨es, cc, ca⟩ := comp_bool (g := g1_all_meet) (m := e1_all_meet) (env := [some (.v (.obj n)), some (.v (.tup (rs.map nmD))), none, none, none, none, none]) (st := st) (ds := rs.map nmD) (fun _ => true) (by rw [List.length_map]; omega) (fun d hd => by
    obtain ⟨r, hr, rfl⟩ := List.mem_map.mp hd
    have i1 := gIn_ap (in_names hr st)
    exact ⟨_, by simp [g1_all_meet] <;> rfl, by simp [e1_all_meet, nmD, ins_prop h, jobs_ev h, i1]⟩)
  have hall : (rs.map nmD).all (fun _ => true) = true := by simp
  rw [hall] at ca
  have hlen : (enumD 0 (rs.map nmD)).length = rs.length := by rw [enumD_length, List.length_map]
  have hlm : (rs.map nmD).length = rs.length := List.length_map ..
  have hf := for_post (ck := tr1) (g := g3_all_meet) (b := b2_all_meet) (ds := enumD 0 (rs.map nmD)) (env := [some (.v (.obj n)), some (.v (.tup (rs.map nmD))), none, none, none, none, none]) (st := st)
    (fun i e s => Keeps st s ∧ (∃ y3 y4 y5, e = [some (.v (.obj n)), some (.v (.tup (rs.map nmD))), none, y3, y4, y5, none]) ∧ ∀ a b (ha : a < rs.length) (hb : b < rs.length), a < i → a < b → ∃ x, Cm [rp rs[a], rp rs[b]] x)
    (fun r s => Keeps st s ∧ (∃ ds, r = .v (.tup (.str "two" :: ds))) ∧ ∀ x, ¬ Cm (rs.map rp) x)
    ?step (fun _ _ _ => trivial) ⟨Keeps.rfl' _, ⟨_, _, _, rfl⟩, fun a b _ _ h => by omega⟩
  · have z1 : (1 : Int) < (rs.map nmD).length := by rw [hlm]; omega
    have z2 : ((rs.map nmD).length : Int) ≤ 6 := by rw [hlm]; omega
    have z3 : 1 < (rs.map nmD).length := by rw [hlm]; omega
    have z4 : (rs.map nmD).length ≤ 6 := by rw [hlm]; omega
    rcases hf with ⟨e, s, he, hk, ⟨y3, y4, y5, rfl⟩, h3⟩ | ⟨r, s, he, hk, ⟨ds, rfl⟩, hno⟩
    · obtain ⟨x, hx⟩ := pw_all (js := rs.map rp) (fun p hp => by
        (obtain ⟨r, hr, rfl⟩ := List.mem_map.mp hp); exact ⟨(hj r hr).1, (hj r hr).2.1⟩) (by rw [List.length_map]; exact hl) (fun a b ha hb hab => by
        rw [List.length_map] at ha hb
        rw [List.getElem_map, List.getElem_map]
        exact h3 a b ha hb (by rw [hlen]; exact ha) hab)
      obtain ⟨s1, hk1, hm, hins, hf⟩ := meeting_ev (js := rs) (h.keep hk) hn (fun z hz => ⟨hz, hj2 z hz⟩) h0 (by omega)
      refine ⟨s1, hk.trans hk1, .inr ?_⟩
      rcases hf with ⟨_, hno⟩ | ⟨w, hf, hw, _⟩
      · exact absurd hx (hno x)
      · refine ⟨w, ?_, hw⟩
        generalize rs.map nmD = ds at *
        simp [f_all_meet, runFn_ap, m_all_meet, cr, wipeE, z1, z2, z3, z4, cc, ca, un, he, hm, hins, hf]
    · refine ⟨s, hk, .inl ⟨ds, ?_, hno⟩⟩
      generalize rs.map nmD = dd at *
      simp [f_all_meet, runFn_ap, m_all_meet, cr, wipeE, z1, z2, z3, z4, cc, ca, un, he]
  case step =>
    rintro i d e s hd ⟨hk, ⟨y3, y4, y5, rfl⟩, hI⟩
    have hi : i < rs.length := by
      rcases Nat.lt_or_ge i rs.length with h | h
      · exact h
      · rw [List.getElem?_eq_none (by omega)] at hd
        cases hd
    obtain ⟨x, hx, rfl⟩ := enumD_inv hd
    rw [List.getElem?_map, List.getElem?_eq_getElem hi] at hx
    cases hx
    rw [Nat.zero_add]
    unfold nmD at *
    have hin := meet_in (h.keep hk) hn hj2 hi (.v (.tup (rs.map fun r => .str r.name))) y5
    unfold nmD at hin
    refine ⟨trivial, [some (.v (.obj n)), some (.v (.tup (rs.map fun r => .str r.name))), none, some (.v (.int i)), some (.v (.str rs[i].name)), y5, none], s, by simp [g3_all_meet], ?_⟩
    have hc : cutD (rs.map fun r => D.str r.name) (some ((i : Int) + 1)) none = (rs.drop (i + 1)).map fun r => D.str r.name := by
      have := cut_from (rs.map fun r => D.str r.name) (i + 1)
      rw [List.map_drop]
      exact this
    have hb : b2_all_meet [some (.v (.obj n)), some (.v (.tup (rs.map fun r => .str r.name))), none, some (.v (.int i)), some (.v (.str rs[i].name)), y5, none] s = forL tr1 g2_all_meet b1_all_meet ((rs.drop (i + 1)).map fun r => .str r.name) [some (.v (.obj n)), some (.v (.tup (rs.map fun r => .str r.name))), none, some (.v (.int i)), some (.v (.str rs[i].name)), y5, none] s := by
      rw [← hc]
      generalize (rs.map fun r => D.str r.name) = dd at *
      simp [b2_all_meet]
    rw [hb]
    rcases hin with ⟨e, s2, he, hk2, ⟨y, rfl⟩, h3⟩ | ⟨r, s2, he, hk2, h3, h4⟩
    · refine .inl ⟨_, _, he, hk.trans hk2, ⟨_, _, _, rfl⟩, fun a b ha hbl h1 h2 => ?_⟩
      by_cases e : a = i
      · subst e
        exact h3 b hbl h2
      · exact hI a b ha hbl (by omega) h2
    · exact .inr ⟨r, s2, he, hk.trans hk2, h3, h4⟩
end
end K91
namespace K91
open Mi
open PySem (Str)
/-! ### the draws -/
def PotAt (n B : Nat) (st : Sto) : Prop := ∃ a b c : Int, st[n]? = some (.lst [.int a, .int b, .int c]) ∧ 0 ≤ a ∧ 0 ≤ b ∧ b < 2305843009213693952 ∧ 0 ≤ c ∧ c ≤ B
theorem PotAt.up {n B B' : Nat} {st : Sto} (h : PotAt n B st) (hB : B ≤ B') : PotAt n B' st := by
  obtain ⟨a, b, c, h1, h2, h3, h4, h5, h6⟩ := h
  exact ⟨a, b, c, h1, h2, h3, h4, h5, by omega⟩
theorem PotAt.keep {n B : Nat} {st st' : Sto} (h : PotAt n B st) (k : Keeps st st') : PotAt n B st' := by
  obtain ⟨a, b, c, h1, h2⟩ := h
  exact ⟨a, b, c, k.at h1, h2⟩
theorem PotAt.lt {n B : Nat} {st : Sto} (h : PotAt n B st) : n < st.length := by
  obtain ⟨a, b, c, h1, _⟩ := h
  exact (List.getElem?_eq_some_iff.mp h1).1
theorem PotAt.put {n B m : Nat} {st : Sto} (h : PotAt n B st) (hm : m ≠ n) (o : O) : PotAt n B (st.set m o) := by
  obtain ⟨a, b, c, h1, h2⟩ := h
  exact ⟨a, b, c, by rw [List.getElem?_set_ne hm]; exact h1, h2⟩
theorem take_ev {n B : Nat} {st : Sto} {u : Int} (h : PotAt n B st) (hB : B ≤ 1000000) (h0 : 0 < u) (h1 : u < 1000000) :
    ∃ (r : Int) (o : O), f__law_take [.v (.obj n), .v (.int u)] st = some (.v (.int r), st.set n o) ∧ 0 ≤ r ∧ r < u ∧ PotAt n (B + 1) (st.set n o) := by
  obtain ⟨a, b, c, hp, ha, hb, hb2, hc, hcB⟩ := h
  have hlt : n < st.length := (List.getElem?_eq_some_iff.mp hp).1
  have hst : stAt n st = some [.int a, .int b, .int c] := by simp [stAt, hp]
  have hix : ∀ i, gIx (.v (.obj n)) (.v (.int i)) st = M.ofO ((L2.atI [D.int a, .int b, .int c] i).map .v) st := fun i => gIx_st hp
  by_cases hpos : 0 < a
  · refine ⟨a.fmod u, .lst [.int (a.fdiv u), .int b, .int c], ?_, ?_, ?_, a.fdiv u, b, c, ?_, ?_, hb, hb2, hc, by omega⟩
    · simp (disch := first | omega | (simp; done) | (simp; omega)) [f__law_take, runFn_ap, m__law_take, hix, hpos, gItem, bind_bo, lstNo, hst]
    · exact (fmod_nn a h0).1
    · exact (fmod_nn a h0).2
    · rw [List.getElem?_set_self hlt]
    · exact (fdiv_nn ha h0).1
  · obtain ⟨p, hp1, hp2, hp3⟩ : ∃ p : Int, L2.atI [D.int 2147483647, .int 2147483629, .int 2147483587, .int 2147483579, .int 2147483563] ((c + 1).fmod 5) = some (.int p) ∧ 0 < p ∧ p < 2147483648 := by
      have h5 := fmod_nn (c + 1) (show (0 : Int) < 5 by decide)
      generalize (c + 1).fmod 5 = k at h5
      have : k = 0 ∨ k = 1 ∨ k = 2 ∨ k = 3 ∨ k = 4 := by omega
      rcases this with rfl | rfl | rfl | rfl | rfl <;> exact ⟨_, rfl, by decide, by decide⟩
    have hq : 0 ≤ 100550 * (c + 1) * (c + 1) ∧ 100550 * (c + 1) * (c + 1) ≤ 1000000000000000000 := by
      have e1 : 0 ≤ (c + 1) * (c + 1) := Int.mul_nonneg (by omega) (by omega)
      have e2 : (c + 1) * (c + 1) ≤ 1000001 * 1000001 := Int.mul_le_mul (by omega) (by omega) (by omega) (by omega)
      rw [Int.mul_assoc]
      omega
    obtain ⟨m1, hm1⟩ : ∃ m1, ((b + 100550 * (c + 1) * (c + 1) + 2871) ^ 3).fmod p = m1 := ⟨_, rfl⟩
    have hm2 := fmod_nn ((b + 100550 * (c + 1) * (c + 1) + 2871) ^ 3) hp2
    rw [hm1] at hm2
    have hix2 : ∀ i, gIx (.v (.obj n)) (.v (.int i)) (st.set n (.lst [.int a, .int b, .int (c + 1)])) = M.ofO ((L2.atI [D.int a, .int b, .int (c + 1)] i).map .v) (st.set n (.lst [.int a, .int b, .int (c + 1)])) := fun i => gIx_st (List.getElem?_set_self hlt)
    refine ⟨(Int.fdiv ((m1 * (m1.fmod 16892 + 63 * (c + 1))).fmod 2305843009213693907) 128).fmod u, .lst [.int a, .int b, .int (c + 1)], ?_, (fmod_nn _ h0).1, (fmod_nn _ h0).2, a, b, c + 1, List.getElem?_set_self hlt, ha, hb, hb2, by omega, by omega⟩
    simp (disch := first | omega | (simp; done) | (simp; omega)) [f__law_take, runFn_ap, m__law_take, hix, hix2, hpos, gItem, bind_bo, lstNo, hst, hp1, hm1]
theorem of_ev {n B : Nat} {st : Sto} (h : PotAt n B st) (hB : B ≤ 1000000) : ∃ (e : Nat) (o : O), f__law_of [.v (.obj n), .b (.lst [.int 9, .int 30, .int 38])] st = some (.v (.int (e : Int)), st.set n o) ∧
    (e = 9 ∨ e = 30 ∨ e = 38) ∧ PotAt n (B + 1) (st.set n o) := by
  obtain ⟨r, o, hr, h0, h1, hP⟩ := take_ev (u := 3) h hB (by decide) (by decide)
  have : r = 0 ∨ r = 1 ∨ r = 2 := by omega
  rcases this with rfl | rfl | rfl
  · exact ⟨9, o, by simp [f__law_of, runFn_ap, m__law_of, hr], by omega, hP⟩
  · exact ⟨30, o, by simp [f__law_of, runFn_ap, m__law_of, hr], by omega, hP⟩
  · exact ⟨38, o, by simp [f__law_of, runFn_ap, m__law_of, hr], by omega, hP⟩
end K91
namespace K91
open Mi
open PySem (Str)
open TL (tl)
theorem erase_perm {α : Type} : ∀ (l : List α) (i : Nat) (h : i < l.length), (l[i] :: l.eraseIdx i).Perm l
  | x :: l, 0, _ => .refl _
  | x :: l, i + 1, h => by
    have h2 : i < l.length := by simpa using h
    exact (List.Perm.swap x l[i] (l.eraseIdx i)).trans ((erase_perm l i h2).cons x)
theorem some_ev {n B : Nat} {st : Sto} {pool : List Str} {k : Nat} (h : PotAt n B st) (hB : B ≤ 10000) (hn : pool.Nodup) (hp : pool.length ≤ 1000) (hk : k ≤ pool.length) :
    ∃ (ys : List Str) (st' : Sto), f__law_some [.v (.obj n), .b (.lst (pool.map .str)), .v (.int k)] st = some (.l (.lst (ys.map .str)), st') ∧ ys.length = k ∧ ys.Nodup ∧ (∀ y ∈ ys, y ∈ pool) ∧ PotAt n (B + k) st' := by
  have hnl := h.lt
  have hne : st.length ≠ n := by omega
  have rr := ra1_ap (s := st ++ [O.lst (pool.map .str)]) (k := (k : Int)) (by omega) (by omega)
  rw [Int.toNat_natCast] at rr
  have hlen : (rangeD 0 k).length = k := by simp [rangeD]
  have hf := for_inv (ck := tr1) (g := g1__law_some) (b := b1__law_some) (ds := rangeD 0 k) (env := [some (.v (.obj n)), some (.b (.lst (pool.map .str))), some (.v (.int k)), none, some (.v (.obj st.length)), some (.l (.lst []))]) (st := st ++ [O.lst (pool.map .str)])
    (fun i e s => i ≤ k → ∃ (left found : List Str) (y3 : Option R), e = [some (.v (.obj n)), some (.b (.lst (pool.map .str))), some (.v (.int k)), y3, some (.v (.obj st.length)), some (.l (.lst (found.map .str)))] ∧
      s[st.length]? = some (.lst (left.map .str)) ∧ found.length = i ∧ left.length + i = pool.length ∧ (found ++ left).Nodup ∧ (∀ y ∈ found ++ left, y ∈ pool) ∧ PotAt n (B + i) s)
    ?step (fun _ _ _ => trivial) (fun _ => ⟨pool, [], none, rfl, get_0 _ _ [], rfl, rfl, by simpa using hn, by simp, h.keep (Keeps.app _ _)⟩)
  · obtain ⟨e, s, he, hI⟩ := hf
    rw [hlen] at hI
    obtain ⟨left, found, y3, rfl, h1, h2, h3, h4, h5, h6⟩ := hI (Nat.le_refl _)
    refine ⟨found, s, ?_, h2, (List.nodup_append.mp h4).1, fun y hy => h5 y (by simp [hy]), h6⟩
    generalize rangeD 0 k = RR at *
    generalize pool.map D.str = PP at *
    simp [f__law_some, runFn_ap, m__law_some, rr, he]
  case step =>
    rintro i d e s hd hI
    have hi : i < k := by
      rcases Nat.lt_or_ge i k with h | h
      · exact h
      · rw [List.getElem?_eq_none (by omega)] at hd
        cases hd
    unfold rangeD at hd
    rw [List.getElem?_map, List.getElem?_range hi] at hd
    cases hd
    obtain ⟨left, found, y3, rfl, h1, h2, h3, h4, h5, h6⟩ := hI (by omega)
    have hbl := bLenD_st h1
    rw [List.length_map] at hbl
    obtain ⟨r, o, ht, r0, r1, hP⟩ := take_ev (u := (left.length : Int)) h6 (by omega) (by omega) (by omega)
    obtain ⟨j, rfl⟩ := Int.eq_ofNat_of_zero_le r0
    have hj : j < left.length := by omega
    have hs2 : (s.set n o)[st.length]? = some (.lst (left.map .str)) := by
      rw [List.getElem?_set_ne (by omega)]
      exact h1
    have hlt : st.length < (s.set n o).length := (List.getElem?_eq_some_iff.mp hs2).1
    have hpop := mut_pop (env := [some (.v (.obj n)), some (.b (.lst (pool.map .str))), some (.v (.int k)), some (.v (.int (0 + (i : Int)))), some (.v (.obj st.length)), some (.l (.lst (found.map .str)))]) (mo := eVar 4) (ms := aCons (eCall 2 f__law_take (aCons (eVar 0) (aCons (eB bLenD (aCons (eVar 4) aNil)) aNil))) aNil) (s := s) (s2 := s.set n o) (m := st.length) (i := j) (by simp) h1 (by simp [hbl, ht]) hs2 (by rw [List.length_map]; exact hj) (by rw [List.length_map]; omega)
    rw [List.getElem_map, map_eraseIdx'] at hpop
    have hap := fAppend_ap (ds := found.map D.str) (d := .str left[j]) (s := (s.set n o).set st.length (.lst ((left.eraseIdx j).map .str))) (by rw [List.length_map]; omega)
    have hmap : (found ++ [left[j]]).map D.str = found.map D.str ++ [.str left[j]] := by rw [List.map_append, List.map_singleton]
    have hperm : ((found ++ [left[j]]) ++ left.eraseIdx j).Perm (found ++ left) := by
      rw [List.append_assoc]
      exact (erase_perm left j hj).append_left found
    refine turn_nx (s1 := s) (s2 := (s.set n o).set st.length (.lst ((left.eraseIdx j).map .str))) trivial
      (e := [some (.v (.obj n)), some (.b (.lst (pool.map .str))), some (.v (.int k)), some (.v (.int (0 + (i : Int)))), some (.v (.obj st.length)), some (.l (.lst (found.map .str)))])
      (e2 := [some (.v (.obj n)), some (.b (.lst (pool.map .str))), some (.v (.int k)), some (.v (.int (0 + (i : Int)))), some (.v (.obj st.length)), some (.l (.lst ((found ++ [left[j]]).map .str)))]) (by simp [g1__law_some]) ?_ (fun _ => ⟨left.eraseIdx j, found ++ [left[j]], _, rfl, List.getElem?_set_self hlt, by simp [h2], by rw [List.length_eraseIdx_of_lt hj]; omega, hperm.nodup_iff.mpr h4, fun y hy => h5 y (hperm.mem_iff.mp hy), (hP.put hne _).up (by omega)⟩)
    rw [hmap]
    simp only [Int.zero_add] at hpop
    generalize found.map D.str = FF at *
    generalize pool.map D.str = PP at *
    simp [b1__law_some, hpop, hap]
end K91
namespace K91
open Mi
open PySem (Str)
open TL (tl)
def sgB (c : Nat) : Bool := (decide (97 ≤ c) && decide (c ≤ 122)) || (decide (48 ≤ c) && decide (c ≤ 57))
def hdB : List Nat → Bool
  | c :: _ => decide (97 ≤ c) && decide (c ≤ 122)
  | [] => false
def nmB (x : Str) : Bool := decide (1 ≤ x.length) && decide (x.length ≤ 8) && hdB (tl x) && (tl x).all sgB
theorem nm_of {x : Str} (h : nmB x = true) : Nm x := by
  simp only [nmB, Bool.and_eq_true, decide_eq_true_eq, List.all_eq_true] at h
  (obtain ⟨⟨⟨h1, h2⟩, h3⟩, h4⟩ := h); refine ⟨h1, h2, fun c r e => ?_, fun c hc => ?_⟩
  · rw [e] at h3
    simpa [hdB] using h3
  · have := h4 c hc
    simp only [sgB, Bool.or_eq_true, Bool.and_eq_true, decide_eq_true_eq] at this
    omega
def pool8 : List Str := ["a", "b", "c", "job", "takes", "each", "x9", "zzzzzzzz"]
def pool12 : List Str := (List.range 12).map fun k => "h" ++ numS k
theorem pool_nodup : (pool8 ++ pool12).Nodup := by decide +kernel
theorem pool_nm : (pool8 ++ pool12).all nmB = true := by decide +kernel
theorem alnum_tl : (Str.ofString "abcdefghijklmnopqrstuvwxyz0123456789").cps.toList = (List.range 36).map (fun k => if k < 26 then 97 + k else 22 + k) := by decide +kernel
/-- a word grows by a sign -/
theorem Nm.snoc {w : Str} (h : Nm w) (hl : w.length < 8) {c : Nat} (hc : 97 ≤ c ∧ c ≤ 122 ∨ 48 ≤ c ∧ c ≤ 57) : Nm (w ++ ⟨#[c]⟩) ∧ (w ++ ⟨#[c]⟩ : Str).length = w.length + 1 := by
  have ht : tl (w ++ ⟨#[c]⟩) = tl w ++ [c] := TL.tl_append _ _
  have hlen : (w ++ ⟨#[c]⟩ : Str).length = w.length + 1 := by rw [TL.len_tl, ht, List.length_append, ← TL.len_tl]; rfl
  refine ⟨⟨by omega, by omega, fun d r e => ?_, fun d hd => ?_⟩, hlen⟩
  · rw [ht] at e
    cases q : tl w with
    | nil =>
      have := h.l1
      rw [TL.len_tl, q] at this
      simp at this
    | cons x y =>
      rw [q] at e
      injection e with e1 e2
      rw [← e1]
      exact h.hd x y q
  · rw [ht] at hd
    rcases List.mem_append.mp hd with hd | hd
    · exact h.al d hd
    · rw [List.mem_singleton.mp hd]
      exact hc
theorem cut_last (ds : List D) : cutD ds none (some (-1)) = ds.dropLast := by
  unfold cutD
  rw [HT.sIx_none, List.drop_zero, Nat.sub_zero, List.dropLast_eq_take]
  congr 1
  show ((-1 : Int) + (ds.length : Int)).toNat = _
  omega
theorem in_list {m : Nat} {s : Sto} {ys : List Str} (h : s[m]? = some (.lst (ys.map .str))) (w : Str) : gInB (.v (.str w)) (.v (.obj m)) s = some (decide (w ∈ ys)) := by
  rw [inB_seq (dicAt_lst h) (asSeq_st h) rfl (by rw [List.all_eq_true]; intro d hd; obtain ⟨q, _, rfl⟩ := List.mem_map.mp hd; rfl)]
  congr 1
  (rw [Bool.eq_iff_iff, List.any_eq_true, decide_eq_true_eq]); constructor
  · rintro ⟨d, hd, e⟩
    (obtain ⟨q, hq, rfl⟩ := List.mem_map.mp hd); have e : q = w := by simpa [eqFlat] using e
    rwa [← e]
  · intro hw
    exact ⟨.str w, List.mem_map.mpr ⟨w, hw, rfl⟩, by simp [eqFlat]⟩
theorem word_loop {n B j L : Nat} {st : Sto} {ys : List D} (h : PotAt n B st) (hB : B ≤ 1000) (hj : st[j]? = some (.lst ys)) (hjn : j ≠ n) (hL : L < 8) {c : Nat} (hc : 97 ≤ c ∧ c ≤ 122) (x1 x2 x3 : Option R) :
    ∃ (w : Str) (x5 : Option R) (s : Sto), forL tr1 g2__law_names b1__law_names (rangeD 0 L) [some (.v (.obj n)), x1, x2, x3, some (.v (.str ⟨#[c]⟩)), none, none] st = some (.nx [some (.v (.obj n)), x1, x2, x3, some (.v (.str w)), x5, none], s) ∧
      Nm w ∧ PotAt n (B + L) s ∧ s[j]? = some (.lst ys) := by
  have hlen : (rangeD 0 L).length = L := by simp [rangeD]
  have hf := for_inv (ck := tr1) (g := g2__law_names) (b := b1__law_names) (ds := rangeD 0 L) (env := [some (.v (.obj n)), x1, x2, x3, some (.v (.str ⟨#[c]⟩)), none, none]) (st := st)
    (fun i e s => i ≤ L → ∃ (w : Str) (x5 : Option R), e = [some (.v (.obj n)), x1, x2, x3, some (.v (.str w)), x5, none] ∧ Nm w ∧ w.length = 1 + i ∧ PotAt n (B + i) s ∧ s[j]? = some (.lst ys))
    ?step (fun _ _ _ => trivial) (fun _ => ⟨⟨#[c]⟩, none, rfl, ⟨(Nat.le_refl 1 : 1 ≤ 1), (by decide : 1 ≤ 8), fun d r e => by
      injection e with e1 e2
      rw [← e1]
      exact hc, fun d hd => by
      have : d = c := by
        have : d ∈ [c] := hd
        simpa using this
      rw [this]
      exact .inl hc⟩, rfl, h, hj⟩)
  · obtain ⟨e, s, he, hI⟩ := hf
    rw [hlen] at hI
    obtain ⟨w, x5, rfl, h1, _, h3, h4⟩ := hI (Nat.le_refl _)
    exact ⟨w, x5, s, he, h1, h3, h4⟩
  case step =>
    rintro i d e s hd hI
    have hi : i < L := by
      rcases Nat.lt_or_ge i L with h | h
      · exact h
      · rw [List.getElem?_eq_none (by omega)] at hd
        cases hd
    unfold rangeD at hd
    rw [List.getElem?_map, List.getElem?_range hi] at hd
    cases hd
    obtain ⟨w, x5, rfl, h1, h2, h3, h4⟩ := hI (by omega)
    obtain ⟨r, o, ht, r0, r1, hP⟩ := take_ev (u := 36) h3 (by omega) (by decide) (by decide)
    obtain ⟨q, rfl⟩ := Int.eq_ofNat_of_zero_le r0
    have hq : q < 36 := by omega
    have hix := gIx_s (x := Str.ofString "abcdefghijklmnopqrstuvwxyz0123456789") (i := (q : Int)) (s := s.set n o) (by decide +kernel)
    rw [show tl (Str.ofString "abcdefghijklmnopqrstuvwxyz0123456789") = _ from alnum_tl, atI_nat, List.getElem?_map, List.getElem?_range hq] at hix
    have hcc : (97 ≤ (if q < 26 then 97 + q else 22 + q) ∧ (if q < 26 then 97 + q else 22 + q) ≤ 122) ∨ (48 ≤ (if q < 26 then 97 + q else 22 + q) ∧ (if q < 26 then 97 + q else 22 + q) ≤ 57) := by
      split <;> omega
    simp only [Option.map_some] at hix
    generalize (if q < 26 then 97 + q else 22 + q) = cc at *
    have hsn := h1.snoc (by omega) hcc
    have ga := gAdd_ss (p := w) (q := ⟨#[cc]⟩) (s := s.set n o) (by
      have e1 : (⟨#[cc]⟩ : Str).length = 1 := rfl
      have e2 := h1.l8
      omega)
    exact turn_nx (s1 := s) (s2 := s.set n o) trivial (e := [some (.v (.obj n)), x1, x2, x3, some (.v (.str w)), some (.v (.int (0 + (i : Int)))), none]) (e2 := [some (.v (.obj n)), x1, x2, x3, some (.v (.str (w ++ ⟨#[cc]⟩))), some (.v (.int (0 + (i : Int)))), none]) (by simp [g2__law_names]) (by simp [b1__law_names, ht, hix, ga]) (fun _ => ⟨_, _, rfl, hsn.1, by rw [hsn.2]; omega, hP.up (by omega), (List.getElem?_set_ne (fun e => hjn e.symm)).trans h4⟩)
theorem nodup_dropLast {l : List Str} (h : l.Nodup) : l.dropLast.Nodup := List.Nodup.sublist (List.dropLast_sublist l) h
theorem names_ev {n B k : Nat} {st : Sto} (h : PotAt n B st) (hB : B ≤ 500) (hk : k = 2 ∨ k = 3) : ∃ (ys : List Str) (j : Nat) (st' : Sto), f__law_names [.v (.obj n), .v (.int k)] st = some (.v (.obj j), st') ∧
    st'[j]? = some (.lst (ys.map .str)) ∧ ys.length = k ∧ ys.Nodup ∧ (∀ y ∈ ys, Nm y) ∧ PotAt n (B + 20) st' ∧ j ≠ n := by
  -- the pool
  have cc := comp_alpha (g := g1__law_names) (t := tTrue) (m := e1__law_names) (env := [some (.v (.obj n)), some (.v (.int k)), some (.b (.lst (pool8.map .str))), none, none, none, none]) (st := st) (fun i : Nat => D.int (0 + (i : Int))) (fun i : Nat => D.str ("h" ++ numS i)) (xs := List.range 12) (acc := []) (by simp) (fun i hi => by
    have hi := List.mem_range.mp hi
    have hb := bStr_num (n := i) (s := st) (by omega)
    have hl2 := numS_len (n := i) (k := 9) (by decide) (by omega)
    have ga := gAdd_ss (p := Str.ofString "h") (q := numS i) (s := st) (by
      have e1 : (Str.ofString "h").length = 1 := by decide +kernel
      omega)
    exact ⟨_, by simp [g1__law_names] <;> rfl, by simp, by simp [e1__law_names, hb, ga]⟩)
  rw [List.nil_append, show (List.range 12).map (fun i : Nat => D.int (0 + (i : Int))) = rangeD 0 12 from rfl, show (List.range 12).map (fun i : Nat => D.str ("h" ++ numS i)) = pool12.map .str by unfold pool12; rw [List.map_map]; rfl] at cc
  have rr := ra1_ap (s := st) (k := 12) (by decide) (by decide)
  rw [show (12 : Int).toNat = 12 from rfl] at rr
  obtain ⟨ys, s1, hs, l1, n1, m1, P1⟩ := some_ev (pool := pool8 ++ pool12) (k := k) h (by omega) pool_nodup (by decide) (by
    have e1 : (pool8 ++ pool12).length = 20 := by decide
    omega)
  rw [List.map_append] at hs
  have ga := gAdd_bl (xs := pool8.map D.str) (ys := pool12.map D.str) (s := st) (by decide)
  have hnm : ∀ y ∈ ys, Nm y := fun y hy => nm_of (List.all_eq_true.mp pool_nm y (m1 y hy))
  have ep : pool8.map D.str = [.str "a", .str "b", .str "c", .str "job", .str "takes", .str "each", .str "x9", .str "zzzzzzzz"] := rfl
  -- the store with the names
  have hj : (s1 ++ [O.lst (ys.map .str)])[s1.length]? = some (.lst (ys.map .str)) := get_0 _ _ _
  have hjn : s1.length ≠ n := by have := P1.lt; omega
  have P2 := P1.keep (Keeps.app s1 [O.lst (ys.map .str)])
  obtain ⟨r, o, ht, r0, r1, P3⟩ := take_ev (u := 5) P2 (by omega) (by decide) (by decide)
  have hj2 : ((s1 ++ [O.lst (ys.map .str)]).set n o)[s1.length]? = some (.lst (ys.map .str)) := by
    rw [List.getElem?_set_ne (by omega)]
    exact hj
  generalize hS2 : (s1 ++ [O.lst (ys.map .str)]).set n o = S2 at *
  -- up to the draw
  have h8 : (pool8.map D.str).length ≤ 16777216 := by simp [pool8]
  generalize hPP8 : pool8.map D.str = PP8 at *
  generalize hPP12 : pool12.map D.str = PP12 at *
  generalize rangeD 0 12 = R12 at *
  by_cases hr : r = 0
  · subst hr
    obtain ⟨r2, o2, ht2, a0, a1, P4⟩ := take_ev (u := 26) P3 (by omega) (by decide) (by decide)
    obtain ⟨q, rfl⟩ := Int.eq_ofNat_of_zero_le a0
    have hq : q < 26 := by omega
    have hix := gIx_s (x := Str.ofString "abcdefghijklmnopqrstuvwxyz") (i := (q : Int)) (s := S2.set n o2) (by decide +kernel)
    rw [show tl (Str.ofString "abcdefghijklmnopqrstuvwxyz") = _ from letters_tl, atI_nat, List.getElem?_map, List.getElem?_range hq] at hix
    simp only [Option.map_some] at hix
    obtain ⟨r3, o3, ht3, b0, b1, P5⟩ := take_ev (u := 8) P4 (by omega) (by decide) (by decide)
    obtain ⟨L, rfl⟩ := Int.eq_ofNat_of_zero_le b0
    have hj3 : ((S2.set n o2).set n o3)[s1.length]? = some (.lst (ys.map .str)) := by
      rw [List.getElem?_set_ne (by omega), List.getElem?_set_ne (by omega)]
      exact hj2
    generalize (S2.set n o2).set n o3 = S3 at *
    have rr2 := ra1_ap (s := S3) (k := (L : Int)) (by omega) (by omega)
    rw [Int.toNat_natCast] at rr2
    obtain ⟨w, x5, S4, hw, nw, P6, hj4⟩ := word_loop (L := L) (c := 97 + q) P5 (by omega) hj3 hjn (by omega) (by omega) (some (.v (.int k))) (some (.b (.lst PP8))) (some (.v (.obj s1.length)))
    have hin := gNotIn_ap (in_list hj4 w)
    generalize rangeD 0 L = RL at *
    by_cases hwy : w ∈ ys
    · rw [decide_eq_true hwy] at hin
      refine ⟨ys, s1.length, S4, ?_, hj4, l1, n1, hnm, P6.up (by omega), hjn⟩
      simp [f__law_names, runFn_ap, m__law_names, wipeE, ← ep, h8, rr, cc, ga, hs, ht, ht2, hix, ht3, rr2, hw, hin]
    · rw [decide_eq_false hwy] at hin
      have hsl := gSl_st (l := none) (h := some (-1)) hj4
      rw [cut_last, ← List.map_dropLast] at hsl
      have hl2 : (ys.dropLast.map D.str).length ≤ 2 := by
        rw [List.length_map, List.length_dropLast]
        omega
      have g2 := gAdd_ll (xs := ys.dropLast.map D.str) (ys := [.str w]) (s := S4) (by simp only [List.length_singleton]; omega)
      have hmap : (ys.dropLast ++ [w]).map D.str = ys.dropLast.map D.str ++ [.str w] := by rw [List.map_append, List.map_singleton]
      refine ⟨ys.dropLast ++ [w], S4.length, S4 ++ [.lst ((ys.dropLast ++ [w]).map .str)], ?_, get_0 _ _ _, by rw [List.length_append, List.length_dropLast, List.length_singleton]; omega, ?_, ?_, (P6.up (by omega)).keep (Keeps.app _ _), by have := P6.lt; omega⟩
      · rw [hmap]
        generalize ys.dropLast.map D.str = YD at *
        simp [f__law_names, runFn_ap, m__law_names, wipeE, ← ep, h8, rr, cc, ga, hs, ht, ht2, hix, ht3, rr2, hw, hin, hsl, g2]
      · rw [List.nodup_append]
        refine ⟨nodup_dropLast n1, by simp, fun a ha b hb e => ?_⟩
        rw [List.mem_singleton] at hb
        rw [e, hb] at ha
        exact hwy ((List.dropLast_sublist ys).subset ha)
      · intro y hy
        rcases List.mem_append.mp hy with hy | hy
        · exact hnm y ((List.dropLast_sublist ys).subset hy)
        · rw [List.mem_singleton.mp hy]
          exact nw
  · refine ⟨ys, s1.length, S2, ?_, hj2, l1, n1, hnm, P3.up (by omega), hjn⟩
    simp [f__law_names, runFn_ap, m__law_names, wipeE, ← ep, h8, rr, cc, ga, hs, ht, hr]
end K91
namespace K91
open Mi
open PySem (Str)
open TL (tl)
theorem line_eq (r : Ru) : (((((Str.ofString "job " ++ r.name) ++ Str.ofString " each ") ++ numS r.n) ++ Str.ofString " from ") ++ numS r.t) = lineOf r := by
  apply TL.ext_tl
  rw [lineOf, tl_joinT]
  have e1 : tl (Str.ofString "job ") = tl (Str.ofString "job") ++ tl (Str.ofString " ") := by decide +kernel
  have e2 : tl (Str.ofString " each ") = tl (Str.ofString " ") ++ (tl (Str.ofString "each") ++ tl (Str.ofString " ")) := by decide +kernel
  have e3 : tl (Str.ofString " from ") = tl (Str.ofString " ") ++ (tl (Str.ofString "from") ++ tl (Str.ofString " ")) := by decide +kernel
  simp only [TL.tl_append, e1, e2, e3, wds, List.map_cons, List.map_nil, TL.joinL, List.append_assoc]
theorem law_line_ev {r : Ru} (h : r.Ok) (st : Sto) : f__law_line [.v (.str r.name), .v (ruD r)] st = some (.v (.str (lineOf r)), st) := by
  have h1 := h.n2
  have h2 := h.t2
  have h3 := h.nm.l8
  have b1 := bStr_num (n := r.n) (s := st) (by omega)
  have b2 := bStr_num (n := r.t) (s := st) (by omega)
  have l1 := numS_len (n := r.n) (k := 9) (by decide) (by omega)
  have l2 := numS_len (n := r.t) (k := 9) (by decide) (by omega)
  have e1 : (Str.ofString "job ").length = 4 := by decide +kernel
  have e2 : (Str.ofString " each ").length = 6 := by decide +kernel
  have e3 : (Str.ofString " from ").length = 6 := by decide +kernel
  have la : ∀ x y : Str, (x ++ y : Str).length = x.length + y.length := fun x y => by
    rw [TL.len_tl, TL.tl_append, List.length_append, ← TL.len_tl, ← TL.len_tl]
  have a1 := gAdd_ss (p := Str.ofString "job ") (q := r.name) (s := st) (by omega)
  have a2 := gAdd_ss (p := Str.ofString "job " ++ r.name) (q := Str.ofString " each ") (s := st) (by simp only [la]; omega)
  have a3 := gAdd_ss (p := Str.ofString "job " ++ r.name ++ Str.ofString " each ") (q := numS r.n) (s := st) (by simp only [la]; omega)
  have a4 := gAdd_ss (p := Str.ofString "job " ++ r.name ++ Str.ofString " each " ++ numS r.n) (q := Str.ofString " from ") (s := st) (by simp only [la]; omega)
  have a5 := gAdd_ss (p := Str.ofString "job " ++ r.name ++ Str.ofString " each " ++ numS r.n ++ Str.ofString " from ") (q := numS r.t) (s := st) (by simp only [la]; omega)
  rw [line_eq] at a5
  simp [f__law_line, runFn_ap, m__law_line, eq_each, b1, b2, a1, a2, a3, a4, a5]
theorem zip_rs : ∀ (ys : List Str) (js : List Pr), ys.length = js.length → ∃ rs : List Ru, rs.map (·.name) = ys ∧ rs.map rp = js ∧ zipD (ys.map .str) (js.map pD) = rs.map fun r => .tup [.str r.name, pD (rp r)]
  | [], [], _ => ⟨[], rfl, rfl, rfl⟩
  | y :: ys, p :: js, h => by
    obtain ⟨rs, h1, h2, h3⟩ := zip_rs ys js (by simpa using h)
    refine ⟨⟨y, p.1, p.2⟩ :: rs, by rw [List.map_cons, h1], by rw [List.map_cons, h2]; rfl, ?_⟩
    show D.tup [.str y, pD p] :: zipD (ys.map .str) (js.map pD) = _
    rw [h3]
    rfl
theorem jobs_draw {n B j : Nat} {st : Sto} {ys : List D} (h : PotAt n B st) (hB : B ≤ 1000) (hj : st[j]? = some (.lst ys)) (hjn : j ≠ n) (hl : ys.length ≤ 3) (env : Mi.Env) (he : env[0]? = some (some (.v (.obj n)))) (hel : env.length = 19) :
    ∃ (js : List Pr) (st' : Sto), compL (fun s => stAt j s = some ys) g1__law_right tTrue e1__law_right env ys [] st = some (js.map pD, st') ∧ js.length = ys.length ∧ (∀ p ∈ js, 2 ≤ p.1 ∧ p.1 < 40 ∧ p.2 < 400) ∧ PotAt n (B + 3 * ys.length) st' ∧ st'[j]? = some (.lst ys) := by
  have hf := comp_inv (ck := fun s => stAt j s = some ys) (g := g1__law_right) (t := tTrue) (m := e1__law_right) (env := env) (st := st) (ds := ys)
    (fun i acc s => i ≤ ys.length → ∃ js : List Pr, acc = js.map pD ∧ js.length = i ∧ (∀ p ∈ js, 2 ≤ p.1 ∧ p.1 < 40 ∧ p.2 < 400) ∧ PotAt n (B + 3 * i) s ∧ s[j]? = some (.lst ys))
    ?step ?ck (fun _ => ⟨[], rfl, rfl, by simp, h, hj⟩)
  · obtain ⟨acc, s, hc, hI⟩ := hf
    obtain ⟨js, rfl, h1, h2, h3, h4⟩ := hI (Nat.le_refl _)
    exact ⟨js, s, hc, h1, h2, h3, h4⟩
  case ck =>
    intro acc s hI
    obtain ⟨_, _, _, _, _, h4⟩ := hI (Nat.le_refl _)
    simp [stAt, h4]
  case step =>
    intro i d acc s hd hI
    have hi : i < ys.length := (List.getElem?_eq_some_iff.mp hd).1
    obtain ⟨js, rfl, h1, h2, h3, h4⟩ := hI (by omega)
    obtain ⟨e, o1, q1, he3, P1⟩ := of_ev h3 (by omega)
    obtain ⟨r, o2, q2, r0, r1, P2⟩ := take_ev (u := (e : Int)) P1 (by omega) (by omega) (by omega)
    obtain ⟨t, o3, q3, t0, t1, P3⟩ := take_ev (u := 400) P2 (by omega) (by decide) (by decide)
    obtain ⟨r, rfl⟩ := Int.eq_ofNat_of_zero_le r0
    obtain ⟨t, rfl⟩ := Int.eq_ofNat_of_zero_le t0
    have h5 : (((s.set n o1).set n o2).set n o3)[j]? = some (.lst ys) := by
      rw [List.getElem?_set_ne (fun e => hjn e.symm), List.getElem?_set_ne (fun e => hjn e.symm), List.getElem?_set_ne (fun e => hjn e.symm)]
      exact h4
    have he1 : (env.set 13 (some (.v d)))[0]? = some (some (.v (.obj n))) := by
      rw [List.getElem?_set_ne (by decide)]
      exact he
    refine ⟨by simp [stAt, h4], by rw [List.length_map]; omega, env.set 13 (some (.v d)), s, s, by simp [g1__law_right, hel], .inr ⟨by simp, pD (2 + r, t), ((s.set n o1).set n o2).set n o3, ?_, fun _ => ⟨js ++ [(2 + r, t)], by rw [List.map_append, List.map_singleton], by simp [h1], ?_, P3.up (by omega), h5⟩⟩⟩
    · have ep : pD (2 + r, t) = .tup [.int (2 + (r : Int)), .int (t : Int)] := by
        unfold pD rsD
        simp
      rw [ep]
      generalize hE : env.set 13 (some (.v d)) = E at *
      generalize (s.set n o1) = S1 at *
      generalize (S1.set n o2) = S2 at *
      generalize (S2.set n o3) = S3 at *
      simp [e1__law_right, he1, q1, q2, q3]
    · intro p hp
      rcases List.mem_append.mp hp with hp | hp
      · exact h2 p hp
      · rw [List.mem_singleton.mp hp]
        refine ⟨?_, ?_, ?_⟩
        · show 2 ≤ 2 + r
          omega
        · show 2 + r < 40
          omega
        · show t < 400
          omega
end K91
namespace K91
open Mi
open PySem (Str)
noncomputable def Z1 : Mi.Env → M Fl := (sSet 1 (eCall 2 f__law_names (aCons (eVar 0) (aCons (eOp gAdd (eC (.int 2)) (eCall 2 f__law_take (aCons (eVar 0) (aCons (eC (.int 2)) aNil)))) aNil))))
noncomputable def Z2 : Mi.Env → M Fl := (sSet 2 (eComp [13] (mSeq (eVar 1)) g1__law_right tTrue e1__law_right))
noncomputable def Z3 : Mi.Env → M Fl := (sSet 3 (eMake 1 2 f_Rules____init__ (aCons (eStrM fJoin (eC (.str "\n")) (aCons (eComp [13, 18] (mZip (eVar 1) (eVar 2)) g2__law_right tTrue e2__law_right) aNil)) aNil)))
noncomputable def Z4 : Mi.Env → M Fl := (sAsg (gTp 2 (gCs (gTp 2 (gCs (gN 14) (gCs (gN 15) gNl))) (gCs (gTp 2 (gCs (gN 16) (gCs (gN 17) gNl))) gNl))) (eTup (aCons (eOp gIx (eVar 2) (eC (.int 0))) (aCons (eOp gIx (eVar 2) (eC (.int 1))) aNil))))
noncomputable def Z5 : Mi.Env → M Fl := (sPar [(9, .f), (10, .f)] (aCons (eCall 3 f_meet (aCons (eVar 3) (aCons (eOp gIx (eVar 1) (eC (.int 0))) (aCons (eOp gIx (eVar 1) (eC (.int 1))) aNil)))) (aCons (eTup (aCons (eOp gMod (eVar 15) (eVar 14)) (aCons (eOp gMod (eVar 17) (eVar 16)) aNil))) aNil)))
noncomputable def Z6 : Mi.Env → M Fl := (sSet 4 (eOp gIsN (eCall 2 f_clash (aCons (eTup (aCons (eTup (aCons (eVar 14) (aCons (eC (.int 1)) aNil))) (aCons (eTup (aCons (eVar 16) (aCons (eC (.int 1)) aNil))) aNil))) (aCons (eVar 10) aNil))) (eC .non)))
noncomputable def Z7 : Mi.Env → M Fl := (sIf (tOr2 (tBl (eOp gNe (eOp gEq (eVar 9) (eTup (aCons (eC (.str "apart")) (aCons (eC (.str "rests")) aNil)))) (eVar 4))) (tAnd2 (tNot1 (tTr (eVar 4))) (tBl (eOp gNe (eOp gIx (eVar 9) (eC (.int 1))) (eCall 2 f__law_first (aCons (eSl (eVar 2) (ePart none) (ePart (some (eC (.int 2))))) (aCons (eOp gAdd (eOp gMul (eVar 14) (eVar 16)) (eC (.int 1))) aNil))))))) (sRet (eC (.bl false))) sNil)
noncomputable def Z8 : Mi.Env → M Fl := (sSet 5 (eOp gIx (eCall 3 f_nearest (aCons (eVar 3) (aCons (eOp gIx (eVar 1) (eC (.int 0))) (aCons (eOp gIx (eVar 1) (eC (.int 1))) aNil)))) (eC (.int 0))))
noncomputable def Z9 : Mi.Env → M Fl := (sIf (tBl (eOp gEq (eOp gEq (eVar 5) (eC (.int 0))) (eVar 4))) (sRet (eC (.bl false))) sNil)
noncomputable def Z10 : Mi.Env → M Fl := (sIf (tAnd2 (tTr (eVar 4)) (tBl (eChain gLt gLe (eC (.int 0)) (eVar 5) (eB bMin (aCons (eVar 14) (aCons (eVar 16) aNil)))))) (sIf (tBl (eOp gNotN (eCall 2 f_clash (aCons (eTup (aCons (eTup (aCons (eVar 14) (aCons (eVar 5) aNil))) (aCons (eTup (aCons (eVar 16) (aCons (eVar 5) aNil))) aNil))) (aCons (eVar 10) aNil))) (eC .non))) (sRet (eC (.bl false))) sNil) sNil)
noncomputable def Z11 : Mi.Env → M Fl := (sSet 6 (eCall 1 f_solve (aCons (eB bTupD (aCons (eVar 2) aNil)) aNil)))
noncomputable def Z12 : Mi.Env → M Fl := (sSet 7 (eCall 2 f__law_first (aCons (eVar 2) (aCons (eOp gAdd (eC (.int 1)) (eOp gMul (eOp gMul (eVar 14) (eVar 16)) (eIf (tBl (eOp gGt (eB bLenD (aCons (eVar 2) aNil)) (eC (.int 2)))) (eOp gIx (eOp gIx (eVar 2) (eC (.int 2))) (eC (.int 0))) (eC (.int 1))))) aNil))))
noncomputable def Z13 : Mi.Env → M Fl := (sIf (tOr2 (tBl (eOp gNe (eOp gEq (eOp gIx (eVar 6) (eC (.int 0))) (eC (.str "all"))) (eOp gNotN (eVar 7) (eC .non)))) (tAnd2 (tBl (eOp gNotN (eVar 7) (eC .non))) (tBl (eOp gNe (eOp gMod (eOp gSub (eVar 7) (eOp gIx (eVar 6) (eC (.int 2)))) (eOp gIx (eVar 6) (eC (.int 1)))) (eC (.int 0)))))) (sRet (eC (.bl false))) sNil)
noncomputable def Z14 : Mi.Env → M Fl := (sIf (tAnd2 (tBl (eOp gGt (eB bLenD (aCons (eVar 2) aNil)) (eC (.int 1)))) (tBl (eOp gEq (eU gLenSet (eVar 1)) (eB bLenD (aCons (eVar 1) aNil))))) (sSeq (sSet 11 (eCall 2 f_all_meet (aCons (eVar 3) (aCons (eB bTupD (aCons (eVar 1) aNil)) aNil)))) (sSeq (sIf (tOr2 (tBl (eOp gNe (eOp gEq (eOp gIx (eVar 11) (eC (.int 0))) (eC (.str "meet"))) (eOp gNotN (eVar 7) (eC .non)))) (tAnd2 (tBl (eOp gNotN (eVar 7) (eC .non))) (tBl (eOp gNe (eVar 11) (eTup (aCons (eC (.str "meet")) (aCons (eVar 7) aNil))))))) (sRet (eC (.bl false))) sNil) (sSeq (sSet 12 (eIf (tBl (eOp gNotN (eVar 7) (eC .non))) (eVar 1) (eLst aNil))) (sIf (tNot1 (tTr (eB bAll (aCons (eComp [13] (mSeq (eVar 12)) g3__law_right tTrue e3__law_right) aNil)))) (sRet (eC (.bl false))) sNil)))) sNil)
noncomputable def Z15 : Mi.Env → M Fl := (sSet 8 (eCall 5 f_goes_down (aCons (eVar 3) (aCons (eOp gIx (eVar 1) (eC (.int 0))) (aCons (eVar 17) (aCons (eVar 16) (aCons (eC (.int 1)) aNil)))))))
noncomputable def Z16 : Mi.Env → M Fl := (sIf (tBl (eOp gNe (eOp gEq (eOp gIx (eVar 8) (eC (.int 0))) (eC (.str "never"))) (eVar 4))) (sRet (eC (.bl false))) sNil)
noncomputable def Z17 : Mi.Env → M Fl := (sRet (eOr (eOp gEq (eOp gIx (eVar 8) (eC (.int 0))) (eC (.str "never"))) (eOp gEq (eOp gIx (eVar 8) (eC (.int 1))) (eCall 2 f__law_first (aCons (eLst (aCons (eOp gIx (eVar 2) (eC (.int 0))) (aCons (eOp gIx (eVar 2) (eC (.int 1))) aNil))) (aCons (eOp gAdd (eOp gMul (eVar 14) (eVar 16)) (eC (.int 1))) aNil))))))
theorem Z_eq : m__law_right = sSeq Z1 (sSeq Z2 (sSeq Z3 (sSeq Z4 (sSeq Z5 (sSeq Z6 (sSeq Z7 (sSeq Z8 (sSeq Z9 (sSeq Z10 (sSeq Z11 (sSeq Z12 (sSeq Z13 (sSeq Z14 (sSeq Z15 (sSeq Z16 (Z17)))))))))))))))) := rfl
/-- the env of _law_right -/
def EV (P N J R' c le re du wo to sta bo' so : Option R) (a x b y : Nat) : Mi.Env := [P, N, J, R', c, le, re, du, wo, to, sta, bo', so, none, some (.v (.int a)), some (.v (.int x)), some (.v (.int b)), some (.v (.int y)), none]
theorem sm_apart : Sm (Str.ofString "apart") := sm_lit (by decide +kernel)
theorem sm_rests : Sm (Str.ofString "rests") := sm_lit (by decide +kernel)
theorem sm_meet : Sm (Str.ofString "meet") := sm_lit (by decide +kernel)
theorem sm_all : Sm (Str.ofString "all") := sm_lit (by decide +kernel)
theorem sm_two : Sm (Str.ofString "two") := sm_lit (by decide +kernel)
theorem sm_missed : Sm (Str.ofString "missed") := sm_lit (by decide +kernel)
theorem eq_ar (s : Sto) : gEq (.v (.tup [.str "apart", .str "rests"])) (.v (.tup [.str "apart", .str "rests"])) s = some (.v (.bl true), s) := by
  have h := Pds.tup (st := s) (Pds.cons (Pd.str sm_apart.ok) (Pds.cons (Pd.str sm_rests.ok) Pds.nil))
  rw [gEq_vv h h (by omega) (by omega), PySem.PyData.eqv]
  simp [PySem.PyData.eqvAll, Mi.eqv_str]
theorem eq_ma (x : Int) (s : Sto) : gEq (.v (.tup [.str "meet", .int x])) (.v (.tup [.str "apart", .str "rests"])) s = some (.v (.bl false), s) := by
  have h := Pds.tup (st := s) (Pds.cons (Pd.str sm_apart.ok) (Pds.cons (Pd.str sm_rests.ok) Pds.nil))
  have h2 := Pds.tup (st := s) (Pds.cons (Pd.str sm_meet.ok) (Pds.cons (Pd.int x) Pds.nil))
  rw [gEq_vv h2 h (by omega) (by omega), PySem.PyData.eqv]
  have e : decide (Str.ofString "meet" = Str.ofString "apart") = false := by decide +kernel
  simp [PySem.PyData.eqvAll, Mi.eqv_str, e]
theorem ne_mm (x y : Int) (s : Sto) : gNe (.v (.tup [.str "meet", .int x])) (.v (.tup [.str "meet", .int y])) s = some (.v (.bl (!decide (x = y))), s) := by
  have h1 := fun x => Pds.tup (st := s) (Pds.cons (Pd.str sm_meet.ok) (Pds.cons (Pd.int x) Pds.nil))
  rw [gNe_vv (h1 x) (h1 y) (by omega) (by omega), PySem.PyData.eqv]
  simp [PySem.PyData.eqvAll, Mi.eqv_str, Mi.eqv_int]
theorem gEq_bb (a b : Bool) (st : Sto) : gEq (.v (.bl a)) (.v (.bl b)) st = some (.v (.bl (a == b)), st) := by
  rw [gEq_vv (Pd.bl a) (Pd.bl b) (by omega) (by omega), PySem.PyData.eqv]
theorem eq_lit {a b : String} (ha : Sm (Str.ofString a)) (hb : Sm (Str.ofString b)) (h : Str.ofString a ≠ Str.ofString b) (s : Sto) : gEq (.v (.str (Str.ofString a))) (.v (.str (Str.ofString b))) s = some (.v (.bl false), s) := by
  rw [gEq_sm ha hb, decide_eq_false h]
theorem eq_same {a : String} (ha : Sm (Str.ofString a)) (s : Sto) : gEq (.v (.str (Str.ofString a))) (.v (.str (Str.ofString a))) s = some (.v (.bl true), s) := by
  rw [gEq_sm ha ha, decide_eq_true rfl]
/-- what holds of the store -/
structure Cx (n j : Nat) (rs : List Ru) (s : Sto) : Prop where
  A : RAt n rs s
  N : s[j]? = some (.lst (rs.map nmD))
theorem Cx.keep {n j : Nat} {rs : List Ru} {s s' : Sto} (h : Cx n j rs s) (k : Keeps s s') : Cx n j rs s' := ⟨h.A.keep k, k.at h.N⟩
structure Gd (rs : List Ru) : Prop where
  nd : (rs.map (·.name)).Nodup
  b : ∀ r ∈ rs, 2 ≤ r.n ∧ r.n < 40 ∧ r.t ≤ 1000
section
variable {n j : Nat} {r q : Ru} {tl : List Ru} {s : Sto} (h : Cx n j (r :: q :: tl) s) (g : Gd (r :: q :: tl))
include h
theorem nm0 : gIx (.v (.obj j)) (.v (.int 0)) s = some (.v (.str r.name), s) := by
  rw [gIx_st h.N]
  simp [nmD]
theorem nm1 : gIx (.v (.obj j)) (.v (.int 1)) s = some (.v (.str q.name), s) := by
  rw [gIx_st h.N]
  simp [nmD]
end
def JL (rs : List Ru) : List D := (rs.map rp).map pD
theorem Z4_ev {r q : Ru} {tl : List Ru} (P N R' : Option R) (s : Sto) : Z4 [P, N, some (.b (.lst (JL (r :: q :: tl)))), R', none, none, none, none, none, none, none, none, none, none, none, none, none, none, none] s =
    some (.nx (EV P N (some (.b (.lst (JL (r :: q :: tl))))) R' none none none none none none none none none r.n r.t q.n q.t), s) := by
  simp [Z4, EV, JL, pD, rsD, rp]
/-- clear: never together -/
def clr (r q : Ru) : Bool := !decide (((q.t : Int) - r.t).fmod (Nat.gcd r.n q.n : Nat) = 0)
theorem clr_t {r q : Ru} (h1 : 0 < r.n) (h2 : 0 < q.n) (hr : r.n < 40) (hq : q.n < 40) : (clr r q = true ↔ ∀ x, ¬ Cm [rp r, rp q] x) := by
  unfold clr
  rw [Bool.not_eq_true', decide_eq_false_iff_not]
  constructor
  · intro hz x hx
    exact no_both h1 hz (Cm_2.mp hx).1 (Cm_2.mp hx).2
  · intro hno hz
    obtain ⟨L, x, _, _, _, _, _, d1, d2⟩ := put_some (a := r.n) (b := q.n) h1 (by omega) h2 (by omega) r.t q.t hz []
    exact hno x (Cm_2.mpr ⟨d1, d2⟩)
theorem clr_cases {r q : Ru} (h1 : 0 < r.n) (h2 : 0 < q.n) (hr : r.n < 40) (hq : q.n < 40) : (clr r q = true ∧ ∀ x, ¬ Cm [rp r, rp q] x) ∨ (clr r q = false ∧ ∃ x, Cm [rp r, rp q] x) := by
  cases hc : clr r q
  · right
    refine ⟨rfl, Classical.byContradiction fun hno => ?_⟩
    have := (clr_t h1 h2 hr hq).mpr fun x hx => hno ⟨x, hx⟩
    rw [hc] at this
    cases this
  · exact .inl ⟨rfl, (clr_t h1 h2 hr hq).mp hc⟩
section
variable {n j : Nat} {r q : Ru} {tl : List Ru} {s : Sto} (h : Cx n j (r :: q :: tl) s) (g : Gd (r :: q :: tl)) (P J : Option R)
include h g
theorem Z5_ev : ∃ (told : D) (s1 : Sto), Z5 (EV P (some (.v (.obj j))) J (some (.v (.obj n))) none none none none none none none none none r.n r.t q.n q.t) s =
    some (.nx (EV P (some (.v (.obj j))) J (some (.v (.obj n))) none none none none none (some (.v told)) (some (.v (.tup [.int ((r.t : Int).fmod r.n), .int ((q.t : Int).fmod q.n)]))) none none r.n r.t q.n q.t), s1) ∧ Keeps s s1 ∧
    ((clr r q = true ∧ told = .tup [.str "apart", .str "rests"]) ∨ (clr r q = false ∧ ∃ x, told = .tup [.str "meet", .int x] ∧ Fst [rp r, rp q] x)) := by
  have b1 := g.b r (by simp)
  have b2 := g.b q (by simp)
  obtain ⟨s1, hk, hm⟩ := meet_ev (r := r) (q := q) h.A g.nd (by simp) (by simp) ⟨by omega, by omega⟩ ⟨by omega, by omega⟩ b1.2.2 b2.2.2
  have g1 := gMod_ap (i := (r.t : Int)) (j := (r.n : Int)) (s := s1) (by omega)
  have g2 := gMod_ap (i := (q.t : Int)) (j := (q.n : Int)) (s := s1) (by omega)
  generalize (r.t : Int).fmod r.n = x1 at *
  generalize (q.t : Int).fmod q.n = y1 at *
  rcases hm with ⟨hm, hno⟩ | ⟨x, hm, hx⟩
  · refine ⟨_, s1, by simp [Z5, EV, nm0 h, nm1 h, hm, g1, g2] <;> rfl, hk, .inl ⟨(clr_t (by omega) (by omega) b1.2.1 b2.2.1).mpr hno, rfl⟩⟩
  · refine ⟨_, s1, by simp [Z5, EV, nm0 h, nm1 h, hm, g1, g2] <;> rfl, hk, .inr ⟨?_, x, rfl, hx⟩⟩
    rcases clr_cases (r := r) (q := q) (by omega) (by omega) b1.2.1 b2.2.1 with ⟨_, hno⟩ | ⟨hc, _⟩
    · exact absurd hx.2.1 (hno x)
    · exact hc
end
end K91
namespace K91
open Mi
open PySem (Str)
theorem fmod_congr {u v : Int} {g : Nat} (hg : 0 < g) (h : (g : Int) ∣ u - v) : u.fmod g = v.fmod g := by
  rw [Int.fmod_eq_emod_of_nonneg _ (by omega), Int.fmod_eq_emod_of_nonneg _ (by omega)]
  exact Int.emod_eq_emod_iff_emod_sub_eq_zero.mpr (Int.emod_eq_zero_of_dvd h)
theorem fmod_neg {u : Int} {g : Nat} (hg : 0 < g) (h : u.fmod g ≠ 0) : (-u).fmod g = g - u.fmod g := by
  have h1 := fmod_nn u (show (0 : Int) < g by omega)
  have e : (-u).fmod g = ((g : Int) - u.fmod g).fmod g := fmod_congr hg (by
    rw [Int.fmod_def]
    exact ⟨-1 - u.fdiv g, by rw [Int.mul_sub]; omega⟩)
  rw [e, Int.fmod_eq_emod_of_nonneg _ (by omega), Int.emod_eq_of_lt (by omega) (by omega)]
section
variable {n j : Nat} {r q : Ru} {tl : List Ru} {s : Sto} (h : Cx n j (r :: q :: tl) s) (g : Gd (r :: q :: tl)) (P N J R' : Option R)
theorem rem_dvd (r q : Ru) : ((Nat.gcd r.n q.n : Nat) : Int) ∣ ((q.t : Int).fmod q.n - (r.t : Int).fmod r.n) - (q.t - r.t) := by
  have d1 := dvd_tr (Nat.gcd_dvd_right r.n q.n) (fmod_sub_dvd (q.t : Int) q.n)
  have d2 := dvd_tr (Nat.gcd_dvd_left r.n q.n) (fmod_sub_dvd (r.t : Int) r.n)
  have := Int.dvd_sub d2 d1
  generalize (q.t : Int).fmod q.n = A at *
  generalize (r.t : Int).fmod r.n = B at *
  rwa [show (r.t : Int) - B - (q.t - A) = A - B - (q.t - r.t) by omega] at this
include g
/-- the remainders, as first times of pieces -/
theorem rem_eq : (((q.t : Int).fmod q.n - (r.t : Int).fmod r.n).fmod (Nat.gcd r.n q.n : Nat) = ((q.t : Int) - r.t).fmod (Nat.gcd r.n q.n : Nat)) ∧
    (clr r q = true → ((r.t : Int).fmod r.n - (q.t : Int).fmod q.n).fmod (Nat.gcd r.n q.n : Nat) = (Nat.gcd r.n q.n : Nat) - ((q.t : Int) - r.t).fmod (Nat.gcd r.n q.n : Nat)) := by
  have b1 := g.b r (by simp)
  have hg : 0 < Nat.gcd r.n q.n := Nat.gcd_pos_of_pos_left _ (by omega)
  have e := fmod_congr hg (rem_dvd r q)
  refine ⟨e, fun hc => ?_⟩
  have hz : ((q.t : Int) - r.t).fmod (Nat.gcd r.n q.n : Nat) ≠ 0 := by
    unfold clr at hc
    simpa using hc
  have := fmod_neg hg (u := (q.t : Int).fmod q.n - (r.t : Int).fmod r.n) (by rw [e]; exact hz)
  rw [e] at this
  rw [← this]
  congr 1
  omega
theorem Z6_ev (told : Option R) (s : Sto) : Z6 (EV P N J R' none none none none none told (some (.v (.tup [.int ((r.t : Int).fmod r.n), .int ((q.t : Int).fmod q.n)]))) none none r.n r.t q.n q.t) s =
    some (.nx (EV P N J R' (some (.v (.bl (clr r q)))) none none none none told (some (.v (.tup [.int ((r.t : Int).fmod r.n), .int ((q.t : Int).fmod q.n)]))) none none r.n r.t q.n q.t), s) := by
  have b1 := g.b r (by simp)
  have b2 := g.b q (by simp)
  have hg : 0 < Nat.gcd r.n q.n := Nat.gcd_pos_of_pos_left _ (by omega)
  obtain ⟨e1, e2⟩ := rem_eq g
  have m1 := fmod_nn ((q.t : Int) - r.t) (show (0 : Int) < (Nat.gcd r.n q.n : Nat) by omega)
  have x1 := fmod_nn (r.t : Int) (show (0 : Int) < r.n by omega)
  have y1 := fmod_nn (q.t : Int) (show (0 : Int) < q.n by omega)
  cases hc : clr r q
  · have hz : ((q.t : Int) - r.t).fmod (Nat.gcd r.n q.n : Nat) = 0 := by
      unfold clr at hc
      simpa using hc
    rw [hz] at e1
    obtain ⟨v, hv⟩ := first_minute_ev (a := r.n) (b := q.n) ⟨by omega, by omega⟩ ⟨by omega, by omega⟩ x1 y1 e1 s
    have hcl := clash_some (a := r.n) (b := q.n) (l := 1) (st := s) ⟨by omega, by omega⟩ ⟨by omega, by omega⟩ ⟨by omega, by omega, by omega⟩ x1 y1 (by omega) hv
    generalize (r.t : Int).fmod r.n = X at *
    generalize (q.t : Int).fmod q.n = Y at *
    simp [Z6, EV, hcl]
  · have hz : ((q.t : Int) - r.t).fmod (Nat.gcd r.n q.n : Nat) ≠ 0 := by
      unfold clr at hc
      simpa using hc
    have e2 := e2 hc
    have hcl := clash_none (a := r.n) (b := q.n) (l := 1) ⟨by omega, by omega⟩ ⟨by omega, by omega⟩ ⟨by omega, by omega, by omega⟩ x1 y1 (by omega) (by omega) s
    generalize (r.t : Int).fmod r.n = X at *
    generalize (q.t : Int).fmod q.n = Y at *
    simp [Z6, EV, hcl]
/-- the first time of the first two -/
theorem first_two (s : Sto) (x : Int) (hx : Fst [rp r, rp q] x) : f__law_first [.b (.lst [pD (rp r), pD (rp q)]), .v (.int ((r.n : Int) * q.n + 1))] s = some (.v (.int x), s) := by
  have b1 := g.b r (by simp)
  have b2 := g.b q (by simp)
  have hmul : (r.n : Int) * q.n = ((r.n * q.n : Nat) : Int) := by simp
  have hle : r.n * q.n ≤ 1600 := Nat.mul_le_mul (show r.n ≤ 40 by omega) (show q.n ≤ 40 by omega)
  have hpos : 0 < r.n * q.n := Nat.mul_pos (by omega) (by omega)
  rcases first_far (js := [rp r, rp q]) (far := (r.n : Int) * q.n + 1) (by simp) (fun p hp => by
    simp only [List.mem_cons, List.not_mem_nil, or_false] at hp
    rcases hp with rfl | rfl
    · exact ⟨by show 0 < r.n; omega, by show r.n ≤ 40; omega, by show r.t ≤ 1000000; omega⟩
    · exact ⟨by show 0 < q.n; omega, by show q.n ≤ 40; omega, by show q.t ≤ 1000000; omega⟩) (by simp) (fun L y hL hiff => by
    have := round_le (P := r.n * q.n) hiff hpos (fun p hp => by
      simp only [List.mem_cons, List.not_mem_nil, or_false] at hp
      rcases hp with rfl | rfl
      · exact Nat.dvd_mul_right _ _
      · exact Nat.dvd_mul_left _ _) ⟨x, hx.2.1⟩
    rw [hmul]
    omega) (by rw [hmul]; omega) (by rw [hmul]; omega) s with ⟨_, hno⟩ | ⟨y, hy, hF⟩
  · exact absurd hx.2.1 (hno x)
  · rw [hx.unique hF]
    exact hy
theorem cut_2 (tl' : List D) (d e : D) : cutD (d :: e :: tl') none (some 2) = [d, e] := by
  unfold cutD
  rw [HT.sIx_none, List.drop_zero, Nat.sub_zero, show (some 2 : Option Int) = some ((2 : Nat) : Int) from rfl, HT.sIx_nat]
  rw [Nat.min_eq_left (by simp)]
  rfl
theorem Z7_ev (told : D) (sta : Option R) (s : Sto) (ht : (clr r q = true ∧ told = .tup [.str "apart", .str "rests"]) ∨ (clr r q = false ∧ ∃ x, told = .tup [.str "meet", .int x] ∧ Fst [rp r, rp q] x)) :
    Z7 (EV P N (some (.b (.lst (JL (r :: q :: tl))))) R' (some (.v (.bl (clr r q)))) none none none none (some (.v told)) sta none none r.n r.t q.n q.t) s =
    some (.nx (EV P N (some (.b (.lst (JL (r :: q :: tl))))) R' (some (.v (.bl (clr r q)))) none none none none (some (.v told)) sta none none r.n r.t q.n q.t), s) := by
  have b1 := g.b r (by simp)
  rcases ht with ⟨hc, rfl⟩ | ⟨hc, x, rfl, hx⟩
  · rw [hc]
    simp [Z7, EV, eq_ar]
  · rw [hc]
    have hf := first_two g s x hx
    have gm := gMul_nl (i := (q.n : Int)) (n := r.n) (s := s) (by omega)
    have hcut : cutD (JL (r :: q :: tl)) none (some 2) = [pD (rp r), pD (rp q)] := cut_2 g _ _ _
    generalize JL (r :: q :: tl) = JJ at *
    simp [Z7, EV, eq_ma, hcut, gm, hf]
end
end K91
namespace K91
open Mi
open PySem (Str)
/-- the least distance -/
def lst (r q : Ru) : Int := if 2 * ((q.t : Int) - r.t).fmod (Nat.gcd r.n q.n : Nat) ≤ (Nat.gcd r.n q.n : Nat) then ((q.t : Int) - r.t).fmod (Nat.gcd r.n q.n : Nat) else (Nat.gcd r.n q.n : Nat) - ((q.t : Int) - r.t).fmod (Nat.gcd r.n q.n : Nat)
section
variable {n j : Nat} {r q : Ru} {tl : List Ru} {s : Sto} (h : Cx n j (r :: q :: tl) s) (g : Gd (r :: q :: tl)) (P N J R' : Option R)
include g
theorem lst_0 : (lst r q = 0 ↔ clr r q = false) ∧ 0 ≤ lst r q ∧ (clr r q = true → lst r q ≤ ((q.t : Int) - r.t).fmod (Nat.gcd r.n q.n : Nat) ∧ lst r q ≤ (Nat.gcd r.n q.n : Nat) - ((q.t : Int) - r.t).fmod (Nat.gcd r.n q.n : Nat)) := by
  have b1 := g.b r (by simp)
  have hg : 0 < Nat.gcd r.n q.n := Nat.gcd_pos_of_pos_left _ (by omega)
  have m1 := fmod_nn ((q.t : Int) - r.t) (show (0 : Int) < (Nat.gcd r.n q.n : Nat) by omega)
  unfold lst clr
  generalize ((q.t : Int) - r.t).fmod (Nat.gcd r.n q.n : Nat) = m at *
  generalize ((Nat.gcd r.n q.n : Nat) : Int) = G at *
  refine ⟨?_, ?_, fun _ => ?_⟩
  · rw [Bool.not_eq_false', decide_eq_true_eq]
    split <;> omega
  · split <;> omega
  · split <;> omega
include h
theorem Z8_ev (told sta : Option R) : Z8 (EV P (some (.v (.obj j))) J (some (.v (.obj n))) (some (.v (.bl (clr r q)))) none none none none told sta none none r.n r.t q.n q.t) s =
    some (.nx (EV P (some (.v (.obj j))) J (some (.v (.obj n))) (some (.v (.bl (clr r q)))) (some (.v (.int (lst r q)))) none none none told sta none none r.n r.t q.n q.t), s) := by
  have b1 := g.b r (by simp)
  have b2 := g.b q (by simp)
  obtain ⟨ds, hne⟩ := nearest_ev (r := r) (q := q) (m := ((q.t : Int) - r.t).fmod (Nat.gcd r.n q.n : Nat)) h.A g.nd (by simp) (by simp) ⟨by omega, by omega⟩ ⟨by omega, by omega⟩ rfl
  rw [show (if 2 * ((q.t : Int) - r.t).fmod (Nat.gcd r.n q.n : Nat) ≤ (Nat.gcd r.n q.n : Nat) then ((q.t : Int) - r.t).fmod (Nat.gcd r.n q.n : Nat) else (Nat.gcd r.n q.n : Nat) - ((q.t : Int) - r.t).fmod (Nat.gcd r.n q.n : Nat)) = lst r q from rfl] at hne
  generalize lst r q = V at *
  simp [Z8, EV, nm0 h, nm1 h, hne]
omit h
theorem Z9_ev (told sta : Option R) (s : Sto) : Z9 (EV P N J R' (some (.v (.bl (clr r q)))) (some (.v (.int (lst r q)))) none none none told sta none none r.n r.t q.n q.t) s =
    some (.nx (EV P N J R' (some (.v (.bl (clr r q)))) (some (.v (.int (lst r q)))) none none none told sta none none r.n r.t q.n q.t), s) := by
  have h0 := (lst_0 g).1
  cases hc : clr r q
  · rw [hc] at h0
    have e : lst r q = 0 := h0.mpr rfl
    simp [Z9, EV, e, gEq_bb]
  · rw [hc] at h0
    have e : lst r q ≠ 0 := fun e => nomatch h0.mp e
    simp [Z9, EV, e, gEq_bb]
theorem Z10_ev (told : Option R) (s : Sto) : Z10 (EV P N J R' (some (.v (.bl (clr r q)))) (some (.v (.int (lst r q)))) none none none told (some (.v (.tup [.int ((r.t : Int).fmod r.n), .int ((q.t : Int).fmod q.n)]))) none none r.n r.t q.n q.t) s =
    some (.nx (EV P N J R' (some (.v (.bl (clr r q)))) (some (.v (.int (lst r q)))) none none none told (some (.v (.tup [.int ((r.t : Int).fmod r.n), .int ((q.t : Int).fmod q.n)]))) none none r.n r.t q.n q.t), s) := by
  have b1 := g.b r (by simp)
  have b2 := g.b q (by simp)
  obtain ⟨_, l0, l1⟩ := lst_0 g
  obtain ⟨e1, e2⟩ := rem_eq g
  have x1 := fmod_nn (r.t : Int) (show (0 : Int) < r.n by omega)
  have y1 := fmod_nn (q.t : Int) (show (0 : Int) < q.n by omega)
  cases hc : clr r q
  · simp [Z10, EV]
  · have l1 := l1 hc
    have e2 := e2 hc
    by_cases hp : 0 < lst r q
    · by_cases hm : lst r q ≤ min (r.n : Int) q.n
      · have hcl := clash_none (a := r.n) (b := q.n) (l := lst r q) ⟨by omega, by omega⟩ ⟨by omega, by omega⟩ ⟨by omega, by omega, by omega⟩ x1 y1 (by omega) (by omega) s
        generalize (r.t : Int).fmod r.n = X at *
        generalize (q.t : Int).fmod q.n = Y at *
        generalize lst r q = V at *
        have hm1 : V ≤ r.n := by omega
        have hm2 : V ≤ q.n := by omega
        simp [Z10, EV, hp, hm, hm1, hm2, hcl]
      · generalize lst r q = V at *
        have bm := bMin_2 (a := (r.n : Int)) (b := (q.n : Int)) (s := s)
        generalize min (r.n : Int) (q.n : Int) = mm at *
        simp [-bMin_2, Z10, EV, hp, hm, bm]
    · generalize lst r q = V at *
      simp [Z10, EV, hp]
end
end K91
namespace K91
open Mi
open PySem (Str)
/-- what is told of all the jobs -/
def Out (rs : List Ru) (re du : D) : Prop := (∃ ds, re = .tup (.str "two" :: ds) ∧ du = .non ∧ ∀ x, ¬ Cm (rs.map rp) x) ∨ ∃ (x y : Int) (L : Nat), re = .tup [.str "all", .int L, .int y] ∧ du = .int x ∧ Fst (rs.map rp) x ∧ 0 < L ∧ (L : Int) ∣ x - y
theorem rp_b {rs : List Ru} (g : Gd rs) : ∀ p ∈ rs.map rp, 0 < p.1 ∧ p.1 < 40 ∧ p.2 ≤ 1000 := fun p hp => by
  obtain ⟨r, hr, rfl⟩ := List.mem_map.mp hp
  have := g.b r hr
  exact ⟨by show 0 < r.n; omega, this.2.1, this.2.2⟩
theorem fst_le {js : List Pr} (h0 : js ≠ []) (hj : ∀ p ∈ js, 0 < p.1 ∧ p.1 < 40 ∧ p.2 ≤ 1000) (hl : js.length ≤ 4) {x : Int} (hx : Fst js x) : x ≤ 210379679 := by
  rcases all_ev (js := js) (fun p hp => ⟨(hj p hp).1, by have := (hj p hp).2.1; omega⟩) hl (.inl rfl) [] with ⟨_, hno⟩ | ⟨L, y, _, hL, hL2, _, _, hiff⟩
  · exact absurd hx.2.1 (hno x)
  · have := hx.unique (fst_of h0 hL hiff)
    have hm2 := fmod_nn (y - bg js) (show (0 : Int) < L by omega)
    have hb := bg_bound h0 (M := 1000) fun p hp => (hj p hp).2.2
    have h4 := Nat.pow_le_pow_right (n := 40) (by decide) hl
    have : L ≤ 40 ^ 4 := Nat.le_trans hL2 h4
    omega
section
variable {r q : Ru} {tl : List Ru} (g : Gd (r :: q :: tl)) (hl : tl.length ≤ 1) (P N R' : Option R)
include g hl
theorem Z12_ev (c le re told sta : Option R) (s : Sto) : ∃ du : D, Z12 (EV P N (some (.b (.lst (JL (r :: q :: tl))))) R' c le re none none told sta none none r.n r.t q.n q.t) s =
      some (.nx (EV P N (some (.b (.lst (JL (r :: q :: tl))))) R' c le re (some (.v du)) none told sta none none r.n r.t q.n q.t), s) ∧
    ((du = .non ∧ ∀ x, ¬ Cm ((r :: q :: tl).map rp) x) ∨ ∃ x, du = .int x ∧ Fst ((r :: q :: tl).map rp) x) := by
  have b1 := g.b r (by simp)
  have b2 := g.b q (by simp)
  have hj := rp_b g
  -- the third
  obtain ⟨t, ht1, ht2, hdv, hev⟩ : ∃ t : Nat, 1 ≤ t ∧ t ≤ 40 ∧ (∀ p ∈ (r :: q :: tl).map rp, p.1 ∣ r.n * q.n * t) ∧
      (eIf (tBl (eOp gGt (eB bLenD (aCons (eVar 2) aNil)) (eC (.int 2)))) (eOp gIx (eOp gIx (eVar 2) (eC (.int 2))) (eC (.int 0))) (eC (.int 1))) (EV P N (some (.b (.lst (JL (r :: q :: tl))))) R' c le re none none told sta none none r.n r.t q.n q.t) s = some (.v (.int t), s) := by
    match tl, hl with
    | [], _ =>
      refine ⟨1, by decide, by decide, fun p hp => ?_, by simp [EV, JL]⟩
      simp only [List.map_cons, List.map_nil, List.mem_cons, List.not_mem_nil, or_false] at hp
      rw [Nat.mul_one]
      rcases hp with rfl | rfl
      · exact Nat.dvd_mul_right _ _
      · exact Nat.dvd_mul_left _ _
    | [z], _ =>
      have b3 := g.b z (by simp)
      refine ⟨z.n, by omega, by omega, fun p hp => ?_, by simp [EV, JL, pD, rsD, rp]⟩
      simp only [List.map_cons, List.map_nil, List.mem_cons, List.not_mem_nil, or_false] at hp
      rcases hp with rfl | rfl | rfl
      · exact Nat.dvd_mul_right_of_dvd (Nat.dvd_mul_right _ _) _
      · exact Nat.dvd_mul_right_of_dvd (Nat.dvd_mul_left _ _) _
      · exact Nat.dvd_mul_left _ _
  have hle : r.n * q.n ≤ 1600 := Nat.mul_le_mul (show r.n ≤ 40 by omega) (show q.n ≤ 40 by omega)
  have hle2 : r.n * q.n * t ≤ 64000 := Nat.mul_le_mul hle ht2
  have hpos : 0 < r.n * q.n * t := Nat.mul_pos (Nat.mul_pos (by omega) (by omega)) (by omega)
  have gm := gMul_nl (i := (q.n : Int)) (n := r.n) (s := s) (by omega)
  have gm2 := gMul_nr (i := (r.n : Int) * q.n) (n := t) (s := s) (by omega)
  have em : (r.n : Int) * q.n * t = ((r.n * q.n * t : Nat) : Int) := by simp
  have hlen : ((r :: q :: tl).map rp).length ≤ 4 := by simp; omega
  have hF := first_far (js := (r :: q :: tl).map rp) (far := 1 + (r.n : Int) * q.n * t) (by simp) (fun p hp => ⟨(hj p hp).1, by have := (hj p hp).2.1; omega, by have := (hj p hp).2.2; omega⟩) hlen
  by_cases hc : ∃ x, Cm ((r :: q :: tl).map rp) x
  · have hF := hF (fun L y hL hiff => by
      have := round_le (P := r.n * q.n * t) hiff hpos hdv hc
      rw [em]
      omega) (by rw [em]; omega) (by rw [em]; omega) s
    rcases hF with ⟨_, hno⟩ | ⟨x, hf, hx⟩
    · obtain ⟨x, hx⟩ := hc
      exact absurd hx (hno x)
    · refine ⟨.int x, ?_, .inr ⟨x, rfl, hx⟩⟩
      have hf : f__law_first [.b (.lst (JL (r :: q :: tl))), .v (.int (1 + (r.n : Int) * q.n * t))] s = some (.v (.int x), s) := hf
      unfold EV at hev ⊢
      generalize JL (r :: q :: tl) = JJ at *
      unfold Z12
      generalize hei : (eIf (tBl (eOp gGt (eB bLenD (aCons (eVar 2) aNil)) (eC (.int 2)))) (eOp gIx (eOp gIx (eVar 2) (eC (.int 2))) (eC (.int 0))) (eC (.int 1))) = EI at *
      simp [hev, gm, gm2, hf]
  · have hF := hF (fun L y hL hiff => absurd ⟨y, (hiff y).mpr ⟨0, by omega⟩⟩ hc) (by rw [em]; omega) (by rw [em]; omega) s
    rcases hF with ⟨hf, hno⟩ | ⟨x, hf, hx⟩
    · refine ⟨.non, ?_, .inl ⟨rfl, hno⟩⟩
      have hf : f__law_first [.b (.lst (JL (r :: q :: tl))), .v (.int (1 + (r.n : Int) * q.n * t))] s = some (.v .non, s) := hf
      unfold EV at hev ⊢
      generalize JL (r :: q :: tl) = JJ at *
      unfold Z12
      generalize hei : (eIf (tBl (eOp gGt (eB bLenD (aCons (eVar 2) aNil)) (eC (.int 2)))) (eOp gIx (eOp gIx (eVar 2) (eC (.int 2))) (eC (.int 0))) (eC (.int 1))) = EI at *
      simp [hev, gm, gm2, hf]
    · exact absurd ⟨x, hx.2.1⟩ hc
theorem Z11_ev (c le told sta : Option R) (s : Sto) : ∃ re : D, Z11 (EV P N (some (.b (.lst (JL (r :: q :: tl))))) R' c le none none none told sta none none r.n r.t q.n q.t) s =
      some (.nx (EV P N (some (.b (.lst (JL (r :: q :: tl))))) R' c le (some (.v re)) none none told sta none none r.n r.t q.n q.t), s) ∧
    ((∃ ds, re = .tup (.str "two" :: ds) ∧ ∀ x, ¬ Cm ((r :: q :: tl).map rp) x) ∨ ∃ (y : Int) (L : Nat), re = .tup [.str "all", .int L, .int y] ∧ 0 < L ∧ ∀ x, Cm ((r :: q :: tl).map rp) x ↔ (L : Int) ∣ x - y) := by
  have hj := rp_b g
  have hs := solve_ev (js := (r :: q :: tl).map rp) (fun p hp => ⟨(hj p hp).1, (hj p hp).2.1, by have := (hj p hp).2.2; omega⟩) (by
    have e : ((r :: q :: tl).map rp).length = tl.length + 2 := by rw [List.length_map, List.length_cons, List.length_cons]
    omega) s
  rw [show ((r :: q :: tl).map rp).map pD = JL (r :: q :: tl) from rfl] at hs
  generalize JL (r :: q :: tl) = JJ at *
  rcases hs with ⟨ds, hs, hno⟩ | ⟨L, y, hs, h1, h2⟩
  · exact ⟨_, by simp [Z11, EV, hs] <;> rfl, .inl ⟨ds, rfl, hno⟩⟩
  · exact ⟨_, by simp [Z11, EV, hs] <;> rfl, .inr ⟨y, L, rfl, h1, h2⟩⟩
omit hl
theorem Z13_ev (J c le told sta : Option R) (re du : D) (s : Sto) (ho : Out (r :: q :: tl) re du) : Z13 (EV P N J R' c le (some (.v re)) (some (.v du)) none told sta none none r.n r.t q.n q.t) s =
      some (.nx (EV P N J R' c le (some (.v re)) (some (.v du)) none told sta none none r.n r.t q.n q.t), s) := by
  have e1 := eq_lit sm_two sm_all (by decide +kernel) s
  have e2 := eq_same sm_all s
  rcases ho with ⟨ds, rfl, rfl, _⟩ | ⟨x, y, L, rfl, rfl, _, hL, hd⟩
  · simp [Z13, EV, e1]
  · have g1 := gMod_ap (i := x - y) (j := (L : Int)) (s := s) (by omega)
    rw [(fmod0_dvd hL).mpr hd] at g1
    simp [Z13, EV, e2, g1]
end
end K91
namespace K91
open Mi
open PySem (Str)
section
variable {n j : Nat} {r q : Ru} {tl : List Ru} {s : Sto} (h : Cx n j (r :: q :: tl) s) (g : Gd (r :: q :: tl)) (hl : tl.length ≤ 1) (P : Option R)
include h g hl
theorem Z14_ev (c le told sta : Option R) (re du : D) (ho : Out (r :: q :: tl) re du) : ∃ (bo' so : Option R) (s1 : Sto), Z14 (EV P (some (.v (.obj j))) (some (.b (.lst (JL (r :: q :: tl))))) (some (.v (.obj n))) c le (some (.v re)) (some (.v du)) none told sta none none r.n r.t q.n q.t) s =
      some (.nx (EV P (some (.v (.obj j))) (some (.b (.lst (JL (r :: q :: tl))))) (some (.v (.obj n))) c le (some (.v re)) (some (.v du)) none told sta bo' so r.n r.t q.n q.t), s1) ∧ Keeps s s1 := by
  have hlJ : (JL (r :: q :: tl)).length = tl.length + 2 := by simp [JL]
  have hnl : ((r :: q :: tl).map nmD).length = tl.length + 2 := by simp
  have z1 : 1 < (JL (r :: q :: tl)).length := by omega
  have z1' : (1 : Int) < (JL (r :: q :: tl)).length := by omega
  have en : (r :: q :: tl).map nmD = ((r :: q :: tl).map (·.name)).map D.str := by rw [List.map_map]; rfl
  have hls := gLenSet_ap (x := .v (.obj j)) (s := s) (ys := (r :: q :: tl).map (·.name)) (by rw [← en]; exact asSeq_st h.N) g.nd (by rw [List.length_map, List.length_cons, List.length_cons]; omega)
  rw [List.length_map, List.length_cons, List.length_cons] at hls
  have hbl := bLenD_st h.N
  rw [hnl] at hbl
  rw [show tl.length + 1 + 1 = tl.length + 2 from rfl] at hls
  have htu := bTupD_st h.N
  obtain ⟨s1, hk, ham⟩ := all_meet_ev (rs := r :: q :: tl) h.A g.nd (fun z hz => by have := g.b z hz; exact ⟨by omega, this.2.1, this.2.2⟩) (by
    have e : (r :: q :: tl).length = tl.length + 2 := by rw [List.length_cons, List.length_cons]
    omega)
  have h1 := h.keep hk
  generalize hK : tl.length + 2 = K at hls hbl
  clear hK
  rcases ho with ⟨ds, rfl, rfl, hno⟩ | ⟨x, y, L, rfl, rfl, hx, hL, hd⟩
  · rcases ham with ⟨ds2, ham, _⟩ | ⟨x, ham, hx⟩
    · have e1 := eq_lit sm_two sm_meet (by decide +kernel) s1
      have cn := fun env => comp_nil (ck := tr1) (g := g3__law_right) (t := tTrue) (m := e3__law_right) (env := env) (st := s1) (acc := []) trivial
      have ba := bAll_l (bs := []) (s := s1)
      refine ⟨some (.v (.tup (.str "two" :: ds2))), some (.b (.lst [])), s1, ?_, hk⟩
      · generalize (r :: q :: tl).map nmD = NN at *
        generalize JL (r :: q :: tl) = JJ at *
        simp at ba
        simp [Z14, EV, z1, z1', hls, hbl, htu, ham, e1, wipeE, cn, ba]
    · exact absurd hx.2.1 (hno x)
  · rcases ham with ⟨ds2, ham, hno⟩ | ⟨x', ham, hx'⟩
    · exact absurd hx.2.1 (hno x)
    · rw [← hx.unique hx'] at ham
      have e1 := eq_same sm_meet s1
      have e2 := ne_mm x x s1
      rw [decide_eq_true rfl] at e2
      have hxl := fst_le (by simp) (rp_b g) (by simp; omega) hx
      have it := asIt_st h1.N
      have hck : (fun s => stAt j s = some ((r :: q :: tl).map nmD)) s1 := by
        show stAt j s1 = _
        simp only [stAt, h1.N]
      refine ⟨some (.v (.tup [.str "meet", .int x])), some (.v (.obj j)), s1, ?_, hk⟩
      · have cc := comp_alphaC (ck := fun s => stAt j s = some ((r :: q :: tl).map nmD)) (g := g3__law_right) (t := tTrue) (m := e3__law_right) (env := EV P (some (.v (.obj j))) (some (.b (.lst (JL (r :: q :: tl))))) (some (.v (.obj n))) c le (some (.v (.tup [.str "all", .int L, .int y]))) (some (.v (.int x))) none told sta (some (.v (.tup [.str "meet", .int x]))) (some (.v (.obj j))) r.n r.t q.n q.t) (st := s1) nmD (fun _ => D.bl true) hck (xs := r :: q :: tl) (acc := []) (by simp; omega) (fun z hz => by
          have hz1 := g.b z hz
          have hzt := hx.1 (rp z) (List.mem_map.mpr ⟨z, hz, rfl⟩)
          have hzd := hx.2.1 (rp z) (List.mem_map.mpr ⟨z, hz, rfl⟩)
          have ir := is_run_ev h1.A g.nd hz (by omega) hzt hzd hxl
          have nr := next_run_ev h1.A g.nd hz (by omega) (by omega) hzt hzd hxl
          exact ⟨_, by simp [g3__law_right, EV] <;> rfl, by simp, by simp [e3__law_right, nmD, EV, ir, nr]⟩)
        have ba := bAll_l (bs := (r :: q :: tl).map fun _ => true) (s := s1)
        have hall : ((r :: q :: tl).map fun _ => true).all id = true := by simp
        rw [hall, List.map_map] at ba
        rw [List.nil_append, show (r :: q :: tl).map (fun _ => D.bl true) = (r :: q :: tl).map (D.bl ∘ fun _ => true) from rfl] at cc
        generalize (r :: q :: tl).map (D.bl ∘ fun _ => true) = BB at *
        generalize (r :: q :: tl).map nmD = NN at *
        generalize JL (r :: q :: tl) = JJ at *
        unfold EV at cc
        simp [Z14, EV, z1, z1', hls, hbl, htu, ham, e1, e2, wipeE, it, cc, ba]
end
section
variable {n j : Nat} {r q : Ru} {tl : List Ru} {s : Sto} (h : Cx n j (r :: q :: tl) s) (g : Gd (r :: q :: tl)) (P : Option R)
include h g
theorem Z15_ev (J le re du told sta bo' so : Option R) : ∃ wo : D, (∀ (c : Option R), Z15 (EV P (some (.v (.obj j))) J (some (.v (.obj n))) c le re du none told sta bo' so r.n r.t q.n q.t) s =
      some (.nx (EV P (some (.v (.obj j))) J (some (.v (.obj n))) c le re du (some (.v wo)) told sta bo' so r.n r.t q.n q.t), s)) ∧
    ((clr r q = true ∧ ∃ ds, wo = .tup (.str "never" :: ds)) ∨ clr r q = false ∧ ∃ x, wo = .tup [.str "missed", .int x] ∧ Fst [rp r, rp q] x) := by
  have b1 := g.b r (by simp)
  have b2 := g.b q (by simp)
  have hd := down_ev (r := r) (q := rp q) h.A g.nd (by simp) ⟨by omega, by omega⟩ ⟨by show 1 < q.n; omega, by show q.n ≤ 40; omega⟩ b1.2.2 b2.2.2
  rw [show (rp q).2 = q.t from rfl, show (rp q).1 = q.n from rfl] at hd
  rcases hd with ⟨ds, hd, hno⟩ | ⟨x, hd, hx⟩
  · exact ⟨_, fun c => by simp [Z15, EV, nm0 h, hd] <;> rfl, .inl ⟨(clr_t (by omega) (by omega) b1.2.1 b2.2.1).mpr hno, ds, rfl⟩⟩
  · refine ⟨_, fun c => by simp [Z15, EV, nm0 h, hd] <;> rfl, .inr ⟨?_, x, rfl, hx⟩⟩
    rcases clr_cases (r := r) (q := q) (by omega) (by omega) b1.2.1 b2.2.1 with ⟨_, hno⟩ | ⟨hc, _⟩
    · exact absurd hx.2.1 (hno x)
    · exact hc
omit h
theorem Z16_ev (N J R' le re du told sta bo' so : Option R) (wo : D) (s : Sto) (hw : (clr r q = true ∧ ∃ ds, wo = .tup (.str "never" :: ds)) ∨ clr r q = false ∧ ∃ x, wo = .tup [.str "missed", .int x] ∧ Fst [rp r, rp q] x) :
    Z16 (EV P N J R' (some (.v (.bl (clr r q)))) le re du (some (.v wo)) told sta bo' so r.n r.t q.n q.t) s = some (.nx (EV P N J R' (some (.v (.bl (clr r q)))) le re du (some (.v wo)) told sta bo' so r.n r.t q.n q.t), s) := by
  have e1 := eq_same sm_never s
  have e2 := eq_lit sm_missed sm_never (by decide +kernel) s
  rcases hw with ⟨hc, ds, rfl⟩ | ⟨hc, x, rfl, hx⟩
  · rw [hc]
    simp [Z16, EV, e1]
  · rw [hc]
    simp [Z16, EV, e2]
theorem Z17_ev (N R' c le re du told sta bo' so : Option R) (wo : D) (s : Sto) (hw : (clr r q = true ∧ ∃ ds, wo = .tup (.str "never" :: ds)) ∨ clr r q = false ∧ ∃ x, wo = .tup [.str "missed", .int x] ∧ Fst [rp r, rp q] x) :
    Z17 (EV P N (some (.b (.lst (JL (r :: q :: tl))))) R' c le re du (some (.v wo)) told sta bo' so r.n r.t q.n q.t) s = some (.rt (.v (.bl true)), s) := by
  have b1 := g.b r (by simp)
  have e1 := eq_same sm_never s
  have e2 := eq_lit sm_missed sm_never (by decide +kernel) s
  rcases hw with ⟨hc, ds, rfl⟩ | ⟨hc, x, rfl, hx⟩
  · simp [Z17, EV, e1]
  · have hf := first_two g s x hx
    have gm := gMul_nl (i := (q.n : Int)) (n := r.n) (s := s) (by omega)
    simp [Z17, EV, e2, JL, gm, hf]
end
end K91
namespace K91
open Mi
open PySem (Str)
theorem tail_ev {n j n0 B : Nat} {r q : Ru} {tl : List Ru} {s : Sto} (h : Cx n j (r :: q :: tl) s) (g : Gd (r :: q :: tl)) (hl : tl.length ≤ 1) (hP : PotAt n0 B s) : ∃ s', (sSeq Z4 (sSeq Z5 (sSeq Z6 (sSeq Z7 (sSeq Z8 (sSeq Z9 (sSeq Z10 (sSeq Z11 (sSeq Z12 (sSeq Z13 (sSeq Z14 (sSeq Z15 (sSeq Z16 Z17)))))))))))))
    [some (.v (.obj n0)), some (.v (.obj j)), some (.b (.lst (JL (r :: q :: tl)))), some (.v (.obj n)), none, none, none, none, none, none, none, none, none, none, none, none, none, none, none] s = some (.rt (.v (.bl true)), s') ∧ PotAt n0 B s' := by
  have c4 := Z4_ev (r := r) (q := q) (tl := tl) (some (.v (.obj n0))) (some (.v (.obj j))) (some (.v (.obj n))) s
  obtain ⟨told, s1, c5, k1, ht⟩ := Z5_ev h g (some (.v (.obj n0))) (some (.b (.lst (JL (r :: q :: tl)))))
  have h1 := h.keep k1
  have c6 := Z6_ev g (some (.v (.obj n0))) (some (.v (.obj j))) (some (.b (.lst (JL (r :: q :: tl))))) (some (.v (.obj n))) (some (.v told)) s1
  have c7 := Z7_ev g (some (.v (.obj n0))) (some (.v (.obj j))) (some (.v (.obj n))) told (some (.v (.tup [.int ((r.t : Int).fmod r.n), .int ((q.t : Int).fmod q.n)]))) s1 ht
  have c8 := Z8_ev h1 g (some (.v (.obj n0))) (some (.b (.lst (JL (r :: q :: tl))))) (some (.v told)) (some (.v (.tup [.int ((r.t : Int).fmod r.n), .int ((q.t : Int).fmod q.n)])))
  have c9 := Z9_ev g (some (.v (.obj n0))) (some (.v (.obj j))) (some (.b (.lst (JL (r :: q :: tl))))) (some (.v (.obj n))) (some (.v told)) (some (.v (.tup [.int ((r.t : Int).fmod r.n), .int ((q.t : Int).fmod q.n)]))) s1
  have c10 := Z10_ev g (some (.v (.obj n0))) (some (.v (.obj j))) (some (.b (.lst (JL (r :: q :: tl))))) (some (.v (.obj n))) (some (.v told)) s1
  obtain ⟨re, c11, hre⟩ := Z11_ev g hl (some (.v (.obj n0))) (some (.v (.obj j))) (some (.v (.obj n))) (some (.v (.bl (clr r q)))) (some (.v (.int (lst r q)))) (some (.v told)) (some (.v (.tup [.int ((r.t : Int).fmod r.n), .int ((q.t : Int).fmod q.n)]))) s1
  obtain ⟨du, c12, hdu⟩ := Z12_ev g hl (some (.v (.obj n0))) (some (.v (.obj j))) (some (.v (.obj n))) (some (.v (.bl (clr r q)))) (some (.v (.int (lst r q)))) (some (.v re)) (some (.v told)) (some (.v (.tup [.int ((r.t : Int).fmod r.n), .int ((q.t : Int).fmod q.n)]))) s1
  have ho : Out (r :: q :: tl) re du := by
    rcases hre with ⟨ds, e1, hno⟩ | ⟨y, L, e1, hL, hiff⟩
    · rcases hdu with ⟨e2, _⟩ | ⟨x, _, hx⟩
      · exact .inl ⟨ds, e1, e2, hno⟩
      · exact absurd hx.2.1 (hno x)
    · rcases hdu with ⟨_, hno⟩ | ⟨x, e2, hx⟩
      · exact absurd ((hiff y).mpr ⟨0, by omega⟩) (hno y)
      · exact .inr ⟨x, y, L, e1, e2, hx, hL, (hiff x).mp hx.2.1⟩
  have c13 := Z13_ev g (some (.v (.obj n0))) (some (.v (.obj j))) (some (.v (.obj n))) (some (.b (.lst (JL (r :: q :: tl))))) (some (.v (.bl (clr r q)))) (some (.v (.int (lst r q)))) (some (.v told)) (some (.v (.tup [.int ((r.t : Int).fmod r.n), .int ((q.t : Int).fmod q.n)]))) re du s1 ho
  obtain ⟨bo', so, s2, c14, k2⟩ := Z14_ev h1 g hl (some (.v (.obj n0))) (some (.v (.bl (clr r q)))) (some (.v (.int (lst r q)))) (some (.v told)) (some (.v (.tup [.int ((r.t : Int).fmod r.n), .int ((q.t : Int).fmod q.n)]))) re du ho
  have h2 := h1.keep k2
  obtain ⟨wo, c15, hw⟩ := Z15_ev h2 g (some (.v (.obj n0))) (some (.b (.lst (JL (r :: q :: tl))))) (some (.v (.int (lst r q)))) (some (.v re)) (some (.v du)) (some (.v told)) (some (.v (.tup [.int ((r.t : Int).fmod r.n), .int ((q.t : Int).fmod q.n)]))) bo' so
  have c16 := Z16_ev g (some (.v (.obj n0))) (some (.v (.obj j))) (some (.b (.lst (JL (r :: q :: tl))))) (some (.v (.obj n))) (some (.v (.int (lst r q)))) (some (.v re)) (some (.v du)) (some (.v told)) (some (.v (.tup [.int ((r.t : Int).fmod r.n), .int ((q.t : Int).fmod q.n)]))) bo' so wo s2 hw
  have c17 := Z17_ev g (some (.v (.obj n0))) (some (.v (.obj j))) (some (.v (.obj n))) (some (.v (.bl (clr r q)))) (some (.v (.int (lst r q)))) (some (.v re)) (some (.v du)) (some (.v told)) (some (.v (.tup [.int ((r.t : Int).fmod r.n), .int ((q.t : Int).fmod q.n)]))) bo' so wo s2 hw
  refine ⟨s2, ?_, (hP.keep k1).keep k2⟩
  rw [sSeq_ap, c4, bo_some, sq1_nx, sSeq_ap, c5, bo_some, sq1_nx, sSeq_ap, c6, bo_some, sq1_nx, sSeq_ap, c7, bo_some, sq1_nx, sSeq_ap, c8, bo_some, sq1_nx, sSeq_ap, c9, bo_some, sq1_nx, sSeq_ap, c10, bo_some, sq1_nx, sSeq_ap, c11, bo_some, sq1_nx, sSeq_ap, c12, bo_some, sq1_nx, sSeq_ap, c13, bo_some, sq1_nx, sSeq_ap, c14, bo_some, sq1_nx, sSeq_ap, c15, bo_some, sq1_nx, sSeq_ap, c16, bo_some, sq1_nx, c17]
theorem two_more {rs : List Ru} (h : 2 ≤ rs.length) : ∃ r q tl, rs = r :: q :: tl := by
  match rs, h with
  | r :: q :: tl, _ => exact ⟨r, q, tl, rfl⟩
theorem right_ev {n0 B : Nat} {st : Sto} (h : PotAt n0 B st) (hB : B ≤ 300) : ∃ st', f__law_right [.v (.obj n0)] st = some (.v (.bl true), st') ∧ PotAt n0 (B + 40) st' := by
  obtain ⟨k0, o, t1, k00, k01, P1⟩ := take_ev (u := 2) h (by omega) (by decide) (by decide)
  obtain ⟨k1, rfl⟩ := Int.eq_ofNat_of_zero_le k00
  obtain ⟨ys, j, s2, t2, hj, hyl, hyn, hym, P2, hjn⟩ := names_ev (k := 2 + k1) P1 (by omega) (by omega)
  have t2 : f__law_names [.v (.obj n0), .v (.int (2 + (k1 : Int)))] (st.set n0 o) = some (.v (.obj j), s2) := by
    have e : (2 : Int) + (k1 : Int) = ((2 + k1 : Nat) : Int) := by omega
    rw [e]
    exact t2
  have c1 : Z1 [some (.v (.obj n0)), none, none, none, none, none, none, none, none, none, none, none, none, none, none, none, none, none, none] st = some (.nx [some (.v (.obj n0)), some (.v (.obj j)), none, none, none, none, none, none, none, none, none, none, none, none, none, none, none, none, none], s2) := by
    generalize (st.set n0 o) = S1 at *
    simp [Z1, t1, t2]
  obtain ⟨js, s3, t3, hjl, hjb, P3, hj3⟩ := jobs_draw P2 (by omega) hj hjn (by rw [List.length_map]; omega) [some (.v (.obj n0)), some (.v (.obj j)), none, none, none, none, none, none, none, none, none, none, none, none, none, none, none, none, none] rfl rfl
  have it2 := asIt_st hj
  have c2 : Z2 [some (.v (.obj n0)), some (.v (.obj j)), none, none, none, none, none, none, none, none, none, none, none, none, none, none, none, none, none] s2 = some (.nx [some (.v (.obj n0)), some (.v (.obj j)), some (.b (.lst (js.map pD))), none, none, none, none, none, none, none, none, none, none, none, none, none, none, none, none], s3) := by
    generalize ys.map D.str = YS at *
    generalize js.map pD = JJ at *
    simp [Z2, it2, wipeE, t3]
  rw [List.length_map] at hjl
  obtain ⟨rs, hr1, hr2, hr3⟩ := zip_rs ys js hjl.symm
  have hrl : rs.length = 2 + k1 := by rw [← hyl, ← hr1, List.length_map]
  have hok : ∀ r ∈ rs, r.Ok := fun r hr => by
    have h1 := hym r.name (by rw [← hr1]; exact List.mem_map.mpr ⟨r, hr, rfl⟩)
    have h2 := hjb (rp r) (by rw [← hr2]; exact List.mem_map.mpr ⟨r, hr, rfl⟩)
    have h3 : 2 ≤ r.n := h2.1
    have h4 : r.n < 40 := h2.2.1
    have h5 : r.t < 400 := h2.2.2
    exact ⟨h1, by omega, by omega, by omega⟩
  have hgd : Gd rs := ⟨by rw [hr1]; exact hyn, fun r hr => by
    have h2 := hjb (rp r) (by rw [← hr2]; exact List.mem_map.mpr ⟨r, hr, rfl⟩)
    have h3 : 2 ≤ r.n := h2.1
    have h4 : r.n < 40 := h2.2.1
    have h5 : r.t < 400 := h2.2.2
    exact ⟨h3, h4, by omega⟩⟩
  have h0 : rs ≠ [] := fun e => by
    rw [e] at hrl
    simp at hrl
    omega
  have hJL : js.map pD = JL rs := by rw [← hr2]; rfl
  have eN : ys.map D.str = rs.map nmD := by rw [← hr1, List.map_map]; rfl
  rw [hJL, eN] at hr3
  rw [hJL] at c2
  rw [eN] at hj3
  have it3 := asIt_st hj3
  -- the lines
  have hck : both (fun s => stAt j s = some (rs.map nmD)) tr1 s3 := ⟨by simp only [stAt, hj3], trivial⟩
  have cc := comp_alphaC (ck := both (fun s => stAt j s = some (rs.map nmD)) tr1) (g := g2__law_right) (t := tTrue) (m := e2__law_right) (env := [some (.v (.obj n0)), some (.v (.obj j)), some (.b (.lst (JL rs))), none, none, none, none, none, none, none, none, none, none, none, none, none, none, none, none]) (st := s3) (fun r => .tup [.str r.name, pD (rp r)]) (fun r => .str (lineOf r)) hck (xs := rs) (acc := []) (by simp; omega) (fun r hr => by
    have ll := law_line_ev (hok r hr) s3
    have ga : gAdd (.v (.tup [.str "each"])) (.v (pD (rp r))) s3 = some (.v (ruD r), s3) := by
      show gAdd (.v (.tup [.str "each"])) (.v (.tup [.int r.n, .int r.t])) s3 = _
      rw [gAdd_tt (by simp)]
      rfl
    exact ⟨_, by simp [g2__law_right] <;> rfl, by simp, by simp [e2__law_right, ga, ll]⟩)
  rw [List.nil_append, show rs.map (fun r => D.str (lineOf r)) = (rs.map lineOf).map .str by rw [List.map_map]; rfl, ← hr3] at cc
  have jt := join_text hok (by omega) s3
  have ri := rules_init_ev hok h0 hgd.nd (by omega) s3
  have c3 : Z3 [some (.v (.obj n0)), some (.v (.obj j)), some (.b (.lst (JL rs))), none, none, none, none, none, none, none, none, none, none, none, none, none, none, none, none] s3 = some (.nx [some (.v (.obj n0)), some (.v (.obj j)), some (.b (.lst (JL rs))), some (.v (.obj s3.length)), none, none, none, none, none, none, none, none, none, none, none, none, none, none, none], stX s3 (ruIns s3.length rs) rs) := by
    generalize rs.map nmD = NN at *
    generalize JL rs = JJ at *
    generalize (rs.map lineOf).map D.str = LL at *
    simp [Z3, it3, wipeE, cc, jt, ri]
  have k3 : Keeps s3 (stX s3 (ruIns s3.length rs) rs) := Keeps.app _ _
  have hcx : Cx s3.length j rs (stX s3 (ruIns s3.length rs) rs) := ⟨RAt.of s3 rs, k3.at hj3⟩
  have P4 := (P3.keep k3).up (B' := B + 40) (by rw [List.length_map, hyl]; omega)
  obtain ⟨r, q, tl, e⟩ := two_more (rs := rs) (by omega)
  have c1' := c1
  clear c1 t1 t2 t3 cc jt ri it2 it3 hck hr3 eN hJL hok
  subst e
  obtain ⟨s', hT, P5⟩ := tail_ev hcx hgd (by simp only [List.length_cons] at hrl; omega) P4
  refine ⟨s', ?_, P5⟩
  rw [f__law_right, runFn_ap]
  show bo (m__law_right [some (.v (.obj n0)), none, none, none, none, none, none, none, none, none, none, none, none, none, none, none, none, none, none] st) fn1 = _
  rw [Z_eq, sSeq_ap, c1', bo_some, sq1_nx, sSeq_ap, c2, bo_some, sq1_nx, sSeq_ap, c3, bo_some, sq1_nx, hT]
  rfl
end K91
namespace K91
open Mi
/-- the script's list -/
def IsScr (ns : List Int) (o : O) : Prop := o = .lst (ns.map .int) ∨ o = .cst (ns.map .int)
theorem scr_len {ns : List Int} {o : O} (h : IsScr ns o) (s : Sto) : bLenD [.b o] s = some (.v (.int ns.length), s) := by
  rcases h with rfl | rfl <;> simp
theorem scr_ix {ns : List Int} {o : O} (h : IsScr ns o) (i : Int) (s : Sto) : gIx (.b o) (.v (.int i)) s = M.ofO ((L2.atI (ns.map D.int) i).map .v) s := by
  rcases h with rfl | rfl <;> simp
theorem scr_sl {o : O} (h : IsScr [] o) (s : Sto) : gSl (.b o) none (some 1) s = some (.l (.lst []), s) := by
  rcases h with rfl | rfl <;> rfl
theorem sum_0 (s : Sto) : bSum [.l (.lst [])] s = some (.v (.int 0), s) := rfl
theorem cells_ev {ns : List Int} {o : O} (h : IsScr ns o) (hl : ns.length ≤ 63) (s : Sto) : f__law_cells [.b o, .v (.int 2)] s = some (.l (.lst (rgD 0 (max 1 (min 2 (ns.length : Int))))), s) := by
  have hr : rgIn 0 (max 1 (min 2 (ns.length : Int))) = true := by
    unfold rgIn
    (simp only [Bool.and_eq_true, decide_eq_true_eq]); omega
  simp [f__law_cells, runFn_ap, m__law_cells, scr_len h, hr]
theorem pow_big (s : Sto) : gPow (.v (.int 1000000000000000000000000000000000000000000000000000000000000)) (.v (.int 5)) s = some (.v (.int 1000000000000000000000000000000000000000000000000000000000000000000000000000000000000000000000000000000000000000000000000000000000000000000000000000000000000000000000000000000000000000000000000000000000000000000000000000000000000000000000000000000000000000000000000000000000000000000000000000000000000), s) := by
  have h : (PySem.Builtin.Int.intBits 1000000000000000000000000000000000000000000000000000000000000 : Int) * 5 ≤ 134217728 := by decide +kernel
  have e : gPow (.v (.int 1000000000000000000000000000000000000000000000000000000000000)) (.v (.int 5)) s = some (.v (.int (1000000000000000000000000000000000000000000000000000000000000 ^ Int.toNat 5)), s) := by
    show (if (decide ((0 : Int) ≤ 5) && decide ((PySem.Builtin.Int.intBits 1000000000000000000000000000000000000000000000000000000000000 : Int) * 5 ≤ 134217728)) = true then Pure.pure (R.v (.int (1000000000000000000000000000000000000000000000000000000000000 ^ Int.toNat 5))) else M.fail : M R) s = _
    rw [if_pos (by rw [decide_eq_true h]; rfl)]
    rfl
  rw [e, show (1000000000000000000000000000000000000000000000000000000000000 : Int) ^ Int.toNat 5 = 1000000000000000000000000000000000000000000000000000000000000000000000000000000000000000000000000000000000000000000000000000000000000000000000000000000000000000000000000000000000000000000000000000000000000000000000000000000000000000000000000000000000000000000000000000000000000000000000000000000000000 by decide +kernel]
theorem big_pos : (0 : Int) < 1000000000000000000000000000000000000000000000000000000000000000000000000000000000000000000000000000000000000000000000000000000000000000000000000000000000000000000000000000000000000000000000000000000000000000000000000000000000000000000000000000000000000000000000000000000000000000000000000000000000000 := by decide +kernel
theorem mod_big (i : Int) : ∃ v : Int, 0 ≤ v ∧ ∀ s, gMod (.v (.int i)) (.v (.int 1000000000000000000000000000000000000000000000000000000000000000000000000000000000000000000000000000000000000000000000000000000000000000000000000000000000000000000000000000000000000000000000000000000000000000000000000000000000000000000000000000000000000000000000000000000000000000000000000000000000000)) s = some (.v (.int v), s) :=
  ⟨_, (fmod_nn i big_pos).1, fun s => gMod_ap (Int.ne_of_gt big_pos)⟩
theorem ownBig (c v : Int) (hv : ∀ s, gMod (.v (.int c.natAbs)) (.v (.int 1000000000000000000000000000000000000000000000000000000000000000000000000000000000000000000000000000000000000000000000000000000000000000000000000000000000000000000000000000000000000000000000000000000000000000000000000000000000000000000000000000000000000000000000000000000000000000000000000000000000000)) s = some (.v (.int v), s)) (a0 a1 : Option R) (hb : (1000000000000000000 : Int) ≤ (c.natAbs : Int)) (s : Sto) :
   (sSet 3 (eOp gMul (eOp gMod (eB bIntS (aCons (eB bAbs (aCons (eVar 2) aNil)) aNil)) (eOp gPow (eOp gPow (eC (.int 10)) (eC (.int 60))) (eC (.int 5)))) (eB bIntS (aCons (eOp gGe (eB bAbs (aCons (eVar 2) aNil)) (eOp gPow (eC (.int 10)) (eC (.int 18)))) aNil)))) [a0, a1, some (.v (.int c)), none, none] s = some (.nx [a0, a1, some (.v (.int c)), some (.v (.int v)), none], s) := by
  simp (disch := first | omega | (simp <;> omega)) [↓pow_big, ↓hv, hb]
theorem ownSml (c v : Int) (hv : ∀ s, gMod (.v (.int c.natAbs)) (.v (.int 1000000000000000000000000000000000000000000000000000000000000000000000000000000000000000000000000000000000000000000000000000000000000000000000000000000000000000000000000000000000000000000000000000000000000000000000000000000000000000000000000000000000000000000000000000000000000000000000000000000000000)) s = some (.v (.int v), s)) (a0 a1 : Option R) (hb : ¬ (1000000000000000000 : Int) ≤ (c.natAbs : Int)) (s : Sto) :
   (sSet 3 (eOp gMul (eOp gMod (eB bIntS (aCons (eB bAbs (aCons (eVar 2) aNil)) aNil)) (eOp gPow (eOp gPow (eC (.int 10)) (eC (.int 60))) (eC (.int 5)))) (eB bIntS (aCons (eOp gGe (eB bAbs (aCons (eVar 2) aNil)) (eOp gPow (eC (.int 10)) (eC (.int 18)))) aNil)))) [a0, a1, some (.v (.int c)), none, none] s = some (.nx [a0, a1, some (.v (.int c)), some (.v (.int 0)), none], s) := by
  simp (disch := first | omega | (simp <;> omega)) [↓pow_big, ↓hv, hb]
theorem pot_ev {ns : List Int} {o : O} (h : IsScr ns o) (p : Nat) (s : Sto) (hp : p < ns.length ∨ ns = []) (hp2 : p < 2) : ∃ a b : Int, 0 ≤ a ∧ 0 ≤ b ∧ b < 2305843009213693952 ∧ f__law_pot [.b o, .v (.int p)] s = some (.l (.lst [.int a, .int b, .int 0]), s) := by
  obtain ⟨c, hc⟩ : ∃ c : Int, ∀ s, (eIf (tBl (eOp gLt (eVar 1) (eB bLenD (aCons (eVar 0) aNil)))) (eOp gIx (eVar 0) (eVar 1)) (eOp gAdd (eOp gAdd (eOp gMod (eB bSum (aCons (eSl (eVar 0) (ePart none) (ePart (some (eC (.int 1))))) aNil)) (eC (.int 1000003))) (eOp gMul (eC (.int 10539)) (eVar 1))) (eC (.int 7891))))
      [some (.b o), some (.v (.int p)), none, none, none] s = some (.v (.int c), s) := by
    by_cases hl : p < ns.length
    · refine ⟨ns[p], fun s => ?_⟩
      have e : L2.atI (ns.map D.int) (p : Int) = some (D.int ns[p]) := by
        rw [atI_nat, List.getElem?_map, List.getElem?_eq_getElem hl]
        rfl
      simp [scr_len h, scr_ix h, hl, e]
    · have hn : ns = [] := hp.resolve_left hl
      subst hn
      refine ⟨10539 * p + 7891, fun s => ?_⟩
      have hneg : ¬ (p : Int) < 0 := by omega
      simp (disch := first | omega | (simp <;> omega)) [scr_len h, scr_sl h, sum_0, hneg]
  have hpp : 0 ≤ (7909 : Int) * p * p ∧ (7909 : Int) * p * p ≤ 10000000 := by
    (have : p = 0 ∨ p = 1 := by omega); rcases this with rfl | rfl <;> decide
  generalize hpi : (p : Int) = P at *
  obtain ⟨sm, hsm⟩ : ∃ sm, c.fmod 2305843009213693951 = sm := ⟨_, rfl⟩
  have hs2 := fmod_nn c (show (0 : Int) < 2305843009213693951 by decide)
  rw [hsm] at hs2
  obtain ⟨w, hw⟩ : ∃ w, (sm * 80937 + 7909 * P * P + 2871).fmod 2305843009213693921 = w := ⟨_, rfl⟩
  have hw2 := fmod_nn (sm * 80937 + 7909 * P * P + 2871) (show (0 : Int) < 2305843009213693921 by decide)
  rw [hw] at hw2
  have hP1 : -18446744073709551616 < P := by omega
  have hP2 : P < 18446744073709551616 := by omega
  obtain ⟨v, hv2, hv⟩ := mod_big (c.natAbs : Int)
  by_cases hb : (1000000000000000000 : Int) ≤ (c.natAbs : Int)
  · have ho := fun a0 a1 => ownBig c v hv a0 a1 hb
    clear hv hb
    refine ⟨v, w, hv2, hw2.1, by omega, ?_⟩
    simp (disch := first | assumption | omega | (simp <;> omega)) [f__law_pot, runFn_ap, m__law_pot, ↓hc, ↓ho, hsm, hw]
  · have ho := fun a0 a1 => ownSml c v hv a0 a1 hb
    clear hv hb
    refine ⟨0, w, by omega, hw2.1, by omega, ?_⟩
    simp (disch := first | assumption | omega | (simp <;> omega)) [f__law_pot, runFn_ap, m__law_pot, ↓hc, ↓ho, hsm, hw]
theorem body_ev {ns : List Int} {o : O} (h : IsScr ns o) (p : Nat) (hp : p < ns.length ∨ ns = []) (hp2 : p < 2) (x1 x2 x3 : Option R) (s : Sto) : ∃ e s', b1_law [some (.b o), some (.v (.int p)), x2, x3] s = some (.nx (some (.b o) :: e), s') ∧ e.length = 3 := by
  obtain ⟨a, b, h1, h2, h3, hpot⟩ := pot_ev h p s hp hp2
  have P0 : PotAt s.length 0 (s ++ [.lst [.int a, .int b, .int 0]]) := ⟨a, b, 0, get_0 _ _ _, h1, h2, by omega, by omega, by omega⟩
  obtain ⟨s1, e1, P1⟩ := right_ev P0 (by omega)
  obtain ⟨s2, e2, P2⟩ := right_ev P1 (by omega)
  obtain ⟨s3, e3, P3⟩ := right_ev P2 (by omega)
  obtain ⟨s4, e4, P4⟩ := right_ev P3 (by omega)
  have hr : rangeD 0 4 = [.int 0, .int 1, .int 2, .int 3] := rfl
  generalize hS : s ++ [O.lst [.int a, .int b, .int 0]] = S at *
  have hc : compL tr1 g1_law tTrue e1_law [some (.b o), some (.v (.int p)), some (.v (.obj s.length)), none] (rangeD 0 4) [] S = some ([true, true, true, true].map .bl, s4) := by
    rw [hr, comp_yes (s1 := S) (s2 := S) (s3 := s1) (y := .bl true) trivial (by simp [g1_law]; rfl) (by simp) (by simp [e1_law, e1]) (by simp),
      comp_yes (s1 := s1) (s2 := s1) (s3 := s2) (y := .bl true) trivial (by simp [g1_law]; rfl) (by simp) (by simp [e1_law, e2]) (by simp),
      comp_yes (s1 := s2) (s2 := s2) (s3 := s3) (y := .bl true) trivial (by simp [g1_law]; rfl) (by simp) (by simp [e1_law, e3]) (by simp),
      comp_yes (s1 := s3) (s2 := s3) (s3 := s4) (y := .bl true) trivial (by simp [g1_law]; rfl) (by simp) (by simp [e1_law, e4]) (by simp), comp_nil trivial]
    rfl
  have ha := bAll_l (bs := [true, true, true, true]) (s := s4)
  refine ⟨_, s4, by simp [b1_law, hpot, hS, wipeE, hc, ha]; rfl, rfl⟩
theorem law_ok (ns : List Int) (hl : ns.length ≤ 63) (o : O) (ho : o = .lst (ns.map .int) ∨ o = .cst (ns.map .int)) : ∃ st', f_law [.b o] [] = some (.v (.bl true), st') := by
  have hc := cells_ev ho hl []
  have h0 : 0 < ns.length ∨ ns = [] := by
    cases ns with
    | nil => exact .inr rfl
    | cons => exact .inl (by simp)
  obtain ⟨e1, s1, b1, l1⟩ := body_ev ho 0 h0 (by decide) none none none []
  by_cases h2 : 2 ≤ ns.length
  · have hk : max 1 (min 2 (ns.length : Int)) = 2 := by omega
    rw [hk] at hc
    have hr : rgD 0 2 = [.int 0, .int 1] := rfl
    obtain ⟨y1, y2, y3, rfl⟩ : ∃ y1 y2 y3, e1 = [y1, y2, y3] := by
      match e1, l1 with
      | [a, b, c], _ => exact ⟨a, b, c, rfl⟩
    obtain ⟨e2, s2, b2, l2⟩ := body_ev ho 1 (.inl (by omega)) (by decide) y1 y2 y3 s1
    have hf := for_nx (ck := tr1) (g := g2_law) (env := [some (.b o), none, none, none]) (ds := [.int 1]) (d := .int 0) trivial (by simp [g2_law]; rfl) b1
    have hf2 := for_nx (ck := tr1) (g := g2_law) (env := [some (.b o), y1, y2, y3]) (ds := []) (d := .int 1) trivial (by simp [g2_law]; rfl) b2
    rw [for_nil trivial] at hf2
    rw [hf2] at hf
    exact ⟨s2, by simp [f_law, runFn_ap, m_law, hc, hr, hf]⟩
  · have hk : max 1 (min 2 (ns.length : Int)) = 1 := by omega
    rw [hk] at hc
    have hr : rgD 0 1 = [.int 0] := rfl
    have hf := for_nx (ck := tr1) (g := g2_law) (env := [some (.b o), none, none, none]) (ds := []) (d := .int 0) trivial (by simp [g2_law]; rfl) b1
    rw [for_nil trivial] at hf
    exact ⟨s1, by simp [f_law, runFn_ap, m_law, hc, hr, hf]⟩
end K91
set_option maxHeartbeats 0
/-! againandagain_k91_whole_rests_and_pieces: the head; printed. -/
namespace K91
open PySem PySem.Spec PyProof.Rows L2 Mi
def spLaw (K : PySem.W.Frag) : Sp := fun vs H Q _ => ∃ (a : Addr) (ns : List Int), vs = [.ref a] ∧ SqL K H a (ns.map L2.V.int) ∧ ns.length ≤ 63 ∧ ∀ H', Q (.bl true) H'
theorem law_sp {K : PySem.W.Frag} {vs : List L2.V} {H : Hp} {Q : VK} {E : XK} (h : spLaw K vs H Q E) : spF ⟨K, cl K⟩ 1 f_law vs H Q E := by
  obtain ⟨a, ns, rfl, hS, hl, k⟩ := h
  obtain ⟨o, ho, hB⟩ := seqB (G := ⟨K, cl K⟩) hS
  obtain ⟨st', e⟩ := law_ok ns hl o ho
  refine ⟨rfl, [], [.b o], [], .v (.bl true), st', .b hB .nil, RepS.nil, e, fun v α' H' _ _ hr => ?_⟩
  cases hr
  exact k H'
theorem facts {P : Program} {w : World} {K : PySem.W.Frag} {h : Heap} {mg : Str → Option Value} {f : Addr} (X : K.In h) (G : h.Ns mainGlobals mg) (hfa : mg ("law" : Str) = some (.ref f)) (c : SaysM fa fn K) :
    ∃ fd : FuncData, (∀ (s : Shared) (v : Value), BindsTo s fd ⟨[v], []⟩ [("script", v)]) ∧ ∀ base : Heap, K.In base → base.Ns mainGlobals mg → FnOk P w K mg base L2.CX0 8 f fd ["script"] (spLaw K) := by
  have T := txt X G c
  have e := hfa.symm.trans T.d_law.mg
  cases e
  obtain ⟨fd, F⟩ := T.d_law.ex
  have b := FunD.bindsA (ps := ["script"]) F fun _ _ _ _ _ _ us hl => match us, hl with | [_], _ => rfl
  refine ⟨fd, fun s v => b s [v] rfl, fun base _ _ => ?_⟩
  obtain ⟨fd2, F2, _, _, _, h2⟩ := ok_law (P := P) (w := w) (base := base) T
  obtain rfl : fd2 = fd := sameFn h2 (looked F)
  exact F2.imp fun vs H Q E h => law_sp h
end K91
open PySem PySem.W PySem.Calls PyProof.Rows
theorem PySem.Challenge.cw_againandagain_k91_whole_rests_and_pieces_holds : PySem.Challenge.rw_againandagain_k91_whole_rests_and_pieces.Holds := by
  w_on; o_law
  refine HandSHeadRun.head_any (r := OpenLaw.row PySem.Challenge.rw_againandagain_k91_whole_rests_and_pieces) (q := view (OpenLaw.row PySem.Challenge.rw_againandagain_k91_whole_rests_and_pieces).prog [126]) (H := K91.hkH) (ob := K91.obH) (M := 40000) (loose := K91.namesH) (d := HandSHeadRun.topDef (OpenLaw.row PySem.Challenge.rw_againandagain_k91_whole_rests_and_pieces).prog 126) (kwd := []) K91.obH_eq
    (by kernel_rfl) (fun s => by kernel_rfl) K91.runH (by kernel_rfl) (by kernel_rfl) (by kernel_rfl) (by rfl) (by first | assumption | decide +kernel) (by decide +kernel) ⟨rfl, rfl, rfl, rfl, rfl, by decide +kernel⟩ ?hw ?hc
  case hw => w_witness2
  case hc =>
    refine L2.walk_ofE (l := PySem.Challenge.rw_againandagain_k91_whole_rests_and_pieces) (n := 63) (k := 8) (x := "script") (CX := L2.CX0) rfl (by decide) (by kernel_rfl) ⟨rfl, by decide, by decide⟩ ?F (fun _ _ _ _ z => z)
    intro w mg fa h Y G hmg0
    obtain ⟨K, KX, c⟩ := Y
    have hmg : mg ("law" : PySem.Str) = some (.ref fa) := by
      have e : (HandSHeadRun.topDef (OpenLaw.row PySem.Challenge.rw_againandagain_k91_whole_rests_and_pieces).prog 126).name = ("law" : PySem.Str) := by kernel_rfl
      rw [← e]
      exact hmg0
    obtain ⟨fd, hb, hF⟩ := K91.facts (P := (PySem.Challenge.rw_againandagain_k91_whole_rests_and_pieces).prog) (w := w) KX G hmg c
    exact ⟨K, fd, K91.spLaw K, KX, hb, fun H a ns hl _ hS => ⟨a, ns, rfl, hS, hl, fun _ => rfl⟩, hF⟩
