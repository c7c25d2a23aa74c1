import PyProof.Rows.All
import Wide.All
import OpenK.AllK
import Wide.FinOn
import PyProof.EqAt
import PyProof.EqKinds
import PyProof.TupleCall
import KE.KStateDown
import KE.KeyNested
import KE.KDictCopyH
import KE.KDictKeyed
import KE.KDictWalk
import KE.SortData
import HandS.Base
import HandS.Call
import HandS.List
import HandS.Comp
import HandS.Ends
import HandS.Dict
import HandS.Iter
import HandS.Walk
import HandS.Zip
import HandS.Text
import HandS.Words
import HandS.WordsList
import HandS.WordsDict
import HandS.WordsExc
import HandS.Exc
import HandS.TryOnly
import HandS.TryMany
import HandS.ExcOwn
import HandS.ExcInit
import HandS.ExcField
import HandS.More
import HandS.Conv
import HandS.IsInst
import HandS.Lambda
import HandS.EndBits
import HandS.EndTab
import HandS.Defaults
import HandS.DictComp
import HandS.SortInts
import HandS.Codes
import HandS.Style
import HandS.Small
import HandS.RaiseMore
import HandS.Deep
import HandS.Wide
import HandS.HeadEnd
import HandS.HeadHook1
import HandS.HeadHook2
import HandS.HeadHook3
import HandS.HeadHook4
import HandS.HeadWalk
import HandS.Head0
import HandS.Head1
import HandS.Head2
import KE.GoesMore
import KE.GoesEnum
import PyProof.NeData
import HandS.TupAny
import PyProof.ReprRoads
import PyProof.ReprLen
import PySem.Challenge.RW_farfolder_k08_whole_what_bars_runs
set_option Elab.async false
set_option linter.all false
-- K8Base
set_option maxRecDepth 100000
set_option maxHeartbeats 4000000
namespace K8
open PySem PySem.Spec PyProof.Rows L2
/-! ### the text by places -/
def top (i : Nat) : Stmt := PySem.Challenge.pw_farfolder_k08_whole_what_bars_runs.main.body.getD i (.Pass ⟨0, 0, 0, 0⟩)
abbrev s_is_list : Stmt := top 4
abbrev s_is_integer : Stmt := top 5
abbrev s_is_number : Stmt := top 6
abbrev s_is_name : Stmt := top 7
abbrev s_is_word : Stmt := top 8
abbrev s_as_word : Stmt := top 9
abbrev s_are_names : Stmt := top 10
abbrev s_each_once : Stmt := top 11
abbrev s_is_stand : Stmt := top 20
abbrev s_kept_step : Stmt := top 21
abbrev s_checked_steps : Stmt := top 22
abbrev s_checked_stands : Stmt := top 23
abbrev s_checked_rules : Stmt := top 26
abbrev s_can_be_done : Stmt := top 27
abbrev s_steps_under : Stmt := top 28
abbrev s_stand_behind : Stmt := top 29
abbrev s_shortest_runs : Stmt := top 30
abbrev s_break_run : Stmt := top 32
abbrev s_keeps : Stmt := top 33
abbrev s_is_part : Stmt := top 35
abbrev s_in_order : Stmt := top 36
abbrev s_least_of : Stmt := top 37
abbrev s_joined : Stmt := top 38
abbrev s_barring : Stmt := top 39
abbrev s_least_barrings : Stmt := top 40
abbrev s_threats : Stmt := top 41
abbrev s_threat_run : Stmt := top 42
abbrev s_x_play : Stmt := top 44
abbrev s_x_led : Stmt := top 45
abbrev s_x_some : Stmt := top 46
abbrev s_x_made : Stmt := top 47
abbrev s_x_names : Stmt := top 48
abbrev s_x_all : Stmt := top 49
abbrev s_x_in : Stmt := top 50
abbrev s_x_least : Stmt := top 51
abbrev s_x_keeps : Stmt := top 52
abbrev s_x_threats : Stmt := top 53
abbrev s_x_bars : Stmt := top 54
abbrev s_z_start : Stmt := top 55
abbrev s_z_draw : Stmt := top 56
abbrev s_z_pick : Stmt := top 57
abbrev s_z_mixed : Stmt := top 58
abbrev s_z_same : Stmt := top 59
abbrev s_z_table : Stmt := top 60
abbrev s_z_next : Stmt := top 61
abbrev s_z_levels : Stmt := top 62
abbrev s_z_walk : Stmt := top 63
abbrev s_z_run : Stmt := top 64
abbrev s_z_loose : Stmt := top 65
abbrev s_z_met : Stmt := top 66
abbrev s_z_shortest : Stmt := top 67
abbrev s_z_threat_run_right : Stmt := top 68
abbrev s_z_barring_right : Stmt := top 69
abbrev s_law : Stmt := top 70
abbrev s_Play_init : Stmt := inClass (top 24) 0
abbrev s_Play_steps : Stmt := inClass (top 24) 1
abbrev s_Play_rules : Stmt := inClass (top 24) 3
abbrev s_Play_len : Stmt := inClass (top 24) 5
abbrev s_BadRules_init : Stmt := inClass (top 15) 0
abbrev s_BadWord_init : Stmt := inClass (top 18) 0
def dG (x : Str) (st : Stmt) : He.DefD := ⟨(x, none), x, x, defArgs st, defBody st, defScope st, [], []⟩
def dM (C m q : Str) (st : Stmt) : He.DefD := ⟨(C, some m), m, q, defArgs st, defBody st, defScope st, [], []⟩
def fn0 : List He.DefD := [dG "is_list" s_is_list, dG "is_integer" s_is_integer, dG "is_number" s_is_number, dG "is_name" s_is_name, dG "is_word" s_is_word, dG "as_word" s_as_word, dG "are_names" s_are_names, dG "each_once" s_each_once, dG "is_stand" s_is_stand, dG "kept_step" s_kept_step, dG "checked_steps" s_checked_steps, dG "checked_stands" s_checked_stands, dG "checked_rules" s_checked_rules, dG "can_be_done" s_can_be_done, dG "steps_under" s_steps_under, dG "stand_behind" s_stand_behind, dG "shortest_runs" s_shortest_runs, dG "break_run" s_break_run, dG "keeps" s_keeps, dG "is_part" s_is_part, dG "in_order" s_in_order, dG "least_of" s_least_of, dG "joined" s_joined, dG "barring" s_barring, dG "least_barrings" s_least_barrings, dG "threats" s_threats, dG "threat_run" s_threat_run, dG "_law_x_play" s_x_play, dG "_law_x_led" s_x_led, dG "_law_x_some" s_x_some]
def fn1 : List He.DefD := [dG "_law_x_made" s_x_made, dG "_law_x_names" s_x_names, dG "_law_x_all" s_x_all, dG "_law_x_in" s_x_in, dG "_law_x_least" s_x_least, dG "_law_x_keeps" s_x_keeps, dG "_law_x_threats" s_x_threats, dG "_law_x_bars" s_x_bars, dG "_law_start" s_z_start, dG "_law_draw" s_z_draw, dG "_law_pick" s_z_pick, dG "_law_mixed" s_z_mixed, dG "_law_same" s_z_same, dG "_law_table" s_z_table, dG "_law_next" s_z_next, dG "_law_levels" s_z_levels, dG "_law_walk" s_z_walk, dG "_law_run" s_z_run, dG "_law_loose" s_z_loose, dG "_law_met" s_z_met, dG "_law_shortest" s_z_shortest, dG "_law_threat_run_right" s_z_threat_run_right, dG "_law_barring_right" s_z_barring_right, dG "law" s_law, dM "Play" "__init__" "Play.__init__" s_Play_init, dM "Play" "steps" "Play.steps" s_Play_steps, dM "Play" "rules" "Play.rules" s_Play_rules, dM "Play" "__len__" "Play.__len__" s_Play_len, dM "BadRules" "__init__" "BadRules.__init__" s_BadRules_init, dM "BadWord" "__init__" "BadWord.__init__" s_BadWord_init]
def fn : List He.DefD := fn0 ++ fn1
def fa0 : List He.Fa := [.glo "is_list", .glo "is_integer", .glo "is_number", .glo "is_name", .glo "is_word", .glo "as_word", .glo "are_names", .glo "each_once", .glo "is_stand", .glo "kept_step", .glo "checked_steps", .glo "checked_stands", .glo "checked_rules", .glo "can_be_done", .glo "steps_under", .glo "stand_behind", .glo "shortest_runs", .glo "break_run", .glo "keeps", .glo "is_part", .glo "in_order", .glo "least_of", .glo "joined", .glo "barring", .glo "least_barrings", .glo "threats", .glo "threat_run", .glo "_law_x_play", .glo "_law_x_led", .glo "_law_x_some"]
def fa1 : List He.Fa := [.glo "_law_x_made", .glo "_law_x_names", .glo "_law_x_all", .glo "_law_x_in", .glo "_law_x_least", .glo "_law_x_keeps", .glo "_law_x_threats", .glo "_law_x_bars", .glo "_law_start", .glo "_law_draw", .glo "_law_pick", .glo "_law_mixed", .glo "_law_same", .glo "_law_table", .glo "_law_next", .glo "_law_levels", .glo "_law_walk", .glo "_law_run", .glo "_law_loose", .glo "_law_met", .glo "_law_shortest", .glo "_law_threat_run_right", .glo "_law_barring_right", .glo "law", .glo "Play", .glo "BadRules", .glo "BadWord", .str "SMALL" "abcdefghijklmnopqrstuvwxyz", .str "FIGURES" "0123456789", .free "isinstance"]
def fa2 : List He.Fa := [.free "list", .free "tuple", .free "int", .free "bool", .free "str", .free "dict", .free "len", .free "all", .free "any", .free "sorted", .free "range", .free "enumerate", .free "zip", .free "min", .free "repr", .cls "Play", .noat "Play" "own_table", .noat "Play" "own_bad", .meth "Play" "steps", .meth "Play" "rules", .meth "Play" "__len__", .mkr "Play"]
def fa : List He.Fa := fa0 ++ fa1 ++ fa2
def tf : List He.Defn := [("_law_barring_right", none), ("law", none)]
/-- an error's class: made by its own __init__ -/
def oexB (K : PySem.W.Frag) (C : Addr) : Bool := match K.lookup C with
  | some ⟨.type "type", _, .cls cd, sl⟩ => (match cd.mro, sl.toList with
    | .ref C' :: bm, [_, _, _, _, some (.builtin n), _] => C' == C && (n == "ValueError.__new__" && (!cd.hasDel && (cd.hasDict && PySem.HandSPX.refsVE bm)))
    | _, _ => false)
  | _ => false
def excB (K : PySem.W.Frag) (x f : Str) : Bool :=
  oexB K (He.ga K x) && (PySem.W.keepIn K (.ref (He.ga K x)) && (decide (PySem.W.subIn K (.ref (He.ga K x)) (.type "BaseException") = some true) && (decide (PySem.W.typeIn K (.ref (He.ga K x)) = some (.type "type")) &&
  (He.eqO (PySem.W.findIn K (.ref (He.ga K x)) "__setattr__") (some (some (.builtin "object.__setattr__"))) && (He.eqO (PySem.W.findIn K (.ref (He.ga K x)) f) (some none) &&
  (He.eqO (PySem.W.findIn K (.ref (He.ga K x)) "__init__") (some (some (.ref (He.ma K (He.ga K x) "__init__")))) && (decide (PySem.W.typeIn K (.ref (He.ma K (He.ga K x) "__init__")) = some (.type "function")) && xfB K (He.ga K x))))))))
def exB (K : PySem.W.Frag) : Bool := excB K "BadRules" "index" && (excB K "BadWord" "index" &&
  (decide (PySem.W.exmOne K (.ref (He.ga K "BadRules")) (.ref (He.ga K "BadRules")) = some true) && (decide (PySem.W.exmOne K (.ref (He.ga K "BadWord")) (.ref (He.ga K "BadWord")) = some true) &&
  decide (PySem.W.exmOne K (.ref (He.ga K "BadWord")) (.ref (He.ga K "BadRules")) = some false))))
/-! ### what the top has left, by names -/
structure Txt (K : PySem.W.Frag) (mg : Str → Option Value) : Prop where
  d : He.SaysD fa fn K
  ex : exB K = true
  at_ : ∃ h, K.In h ∧ h.Ns mainGlobals mg
section
variable {K : PySem.W.Frag} {mg : Str → Option Value}
theorem Txt.glo (T : Txt K mg) {x : Str} (h : (He.Fa.glo x).ok K = true) : mg x = some (.ref (He.ga K x)) := by
  obtain ⟨h', X, G⟩ := T.at_
  exact He.glo_ok X G h
theorem Txt.free (T : Txt K mg) {x : Str} (h : (He.Fa.free x).ok K = true) : mg x = none := by
  obtain ⟨h', X, G⟩ := T.at_
  exact He.free_ok X G h
theorem Txt.str (T : Txt K mg) {x z : Str} (h : (He.Fa.str x z).ok K = true) : ∃ t, mg x = some (.str z t) := by
  obtain ⟨h', X, G⟩ := T.at_
  exact He.str_ok X G h
theorem Txt.g_is_list (T : Txt K mg) : mg "is_list" = some (.ref (He.ga K "is_list")) := T.glo (T.d.fact 0 (f := .glo "is_list") rfl)
theorem Txt.g_is_integer (T : Txt K mg) : mg "is_integer" = some (.ref (He.ga K "is_integer")) := T.glo (T.d.fact 1 (f := .glo "is_integer") rfl)
theorem Txt.g_is_number (T : Txt K mg) : mg "is_number" = some (.ref (He.ga K "is_number")) := T.glo (T.d.fact 2 (f := .glo "is_number") rfl)
theorem Txt.g_is_name (T : Txt K mg) : mg "is_name" = some (.ref (He.ga K "is_name")) := T.glo (T.d.fact 3 (f := .glo "is_name") rfl)
theorem Txt.g_is_word (T : Txt K mg) : mg "is_word" = some (.ref (He.ga K "is_word")) := T.glo (T.d.fact 4 (f := .glo "is_word") rfl)
theorem Txt.g_as_word (T : Txt K mg) : mg "as_word" = some (.ref (He.ga K "as_word")) := T.glo (T.d.fact 5 (f := .glo "as_word") rfl)
theorem Txt.g_are_names (T : Txt K mg) : mg "are_names" = some (.ref (He.ga K "are_names")) := T.glo (T.d.fact 6 (f := .glo "are_names") rfl)
theorem Txt.g_each_once (T : Txt K mg) : mg "each_once" = some (.ref (He.ga K "each_once")) := T.glo (T.d.fact 7 (f := .glo "each_once") rfl)
theorem Txt.g_is_stand (T : Txt K mg) : mg "is_stand" = some (.ref (He.ga K "is_stand")) := T.glo (T.d.fact 8 (f := .glo "is_stand") rfl)
theorem Txt.g_kept_step (T : Txt K mg) : mg "kept_step" = some (.ref (He.ga K "kept_step")) := T.glo (T.d.fact 9 (f := .glo "kept_step") rfl)
theorem Txt.g_checked_steps (T : Txt K mg) : mg "checked_steps" = some (.ref (He.ga K "checked_steps")) := T.glo (T.d.fact 10 (f := .glo "checked_steps") rfl)
theorem Txt.g_checked_stands (T : Txt K mg) : mg "checked_stands" = some (.ref (He.ga K "checked_stands")) := T.glo (T.d.fact 11 (f := .glo "checked_stands") rfl)
theorem Txt.g_checked_rules (T : Txt K mg) : mg "checked_rules" = some (.ref (He.ga K "checked_rules")) := T.glo (T.d.fact 12 (f := .glo "checked_rules") rfl)
theorem Txt.g_can_be_done (T : Txt K mg) : mg "can_be_done" = some (.ref (He.ga K "can_be_done")) := T.glo (T.d.fact 13 (f := .glo "can_be_done") rfl)
theorem Txt.g_steps_under (T : Txt K mg) : mg "steps_under" = some (.ref (He.ga K "steps_under")) := T.glo (T.d.fact 14 (f := .glo "steps_under") rfl)
theorem Txt.g_stand_behind (T : Txt K mg) : mg "stand_behind" = some (.ref (He.ga K "stand_behind")) := T.glo (T.d.fact 15 (f := .glo "stand_behind") rfl)
theorem Txt.g_shortest_runs (T : Txt K mg) : mg "shortest_runs" = some (.ref (He.ga K "shortest_runs")) := T.glo (T.d.fact 16 (f := .glo "shortest_runs") rfl)
theorem Txt.g_break_run (T : Txt K mg) : mg "break_run" = some (.ref (He.ga K "break_run")) := T.glo (T.d.fact 17 (f := .glo "break_run") rfl)
theorem Txt.g_keeps (T : Txt K mg) : mg "keeps" = some (.ref (He.ga K "keeps")) := T.glo (T.d.fact 18 (f := .glo "keeps") rfl)
theorem Txt.g_is_part (T : Txt K mg) : mg "is_part" = some (.ref (He.ga K "is_part")) := T.glo (T.d.fact 19 (f := .glo "is_part") rfl)
theorem Txt.g_in_order (T : Txt K mg) : mg "in_order" = some (.ref (He.ga K "in_order")) := T.glo (T.d.fact 20 (f := .glo "in_order") rfl)
theorem Txt.g_least_of (T : Txt K mg) : mg "least_of" = some (.ref (He.ga K "least_of")) := T.glo (T.d.fact 21 (f := .glo "least_of") rfl)
theorem Txt.g_joined (T : Txt K mg) : mg "joined" = some (.ref (He.ga K "joined")) := T.glo (T.d.fact 22 (f := .glo "joined") rfl)
theorem Txt.g_barring (T : Txt K mg) : mg "barring" = some (.ref (He.ga K "barring")) := T.glo (T.d.fact 23 (f := .glo "barring") rfl)
theorem Txt.g_least_barrings (T : Txt K mg) : mg "least_barrings" = some (.ref (He.ga K "least_barrings")) := T.glo (T.d.fact 24 (f := .glo "least_barrings") rfl)
theorem Txt.g_threats (T : Txt K mg) : mg "threats" = some (.ref (He.ga K "threats")) := T.glo (T.d.fact 25 (f := .glo "threats") rfl)
theorem Txt.g_threat_run (T : Txt K mg) : mg "threat_run" = some (.ref (He.ga K "threat_run")) := T.glo (T.d.fact 26 (f := .glo "threat_run") rfl)
theorem Txt.g_x_play (T : Txt K mg) : mg "_law_x_play" = some (.ref (He.ga K "_law_x_play")) := T.glo (T.d.fact 27 (f := .glo "_law_x_play") rfl)
theorem Txt.g_x_led (T : Txt K mg) : mg "_law_x_led" = some (.ref (He.ga K "_law_x_led")) := T.glo (T.d.fact 28 (f := .glo "_law_x_led") rfl)
theorem Txt.g_x_some (T : Txt K mg) : mg "_law_x_some" = some (.ref (He.ga K "_law_x_some")) := T.glo (T.d.fact 29 (f := .glo "_law_x_some") rfl)
theorem Txt.g_x_made (T : Txt K mg) : mg "_law_x_made" = some (.ref (He.ga K "_law_x_made")) := T.glo (T.d.fact 30 (f := .glo "_law_x_made") rfl)
theorem Txt.g_x_names (T : Txt K mg) : mg "_law_x_names" = some (.ref (He.ga K "_law_x_names")) := T.glo (T.d.fact 31 (f := .glo "_law_x_names") rfl)
theorem Txt.g_x_all (T : Txt K mg) : mg "_law_x_all" = some (.ref (He.ga K "_law_x_all")) := T.glo (T.d.fact 32 (f := .glo "_law_x_all") rfl)
theorem Txt.g_x_in (T : Txt K mg) : mg "_law_x_in" = some (.ref (He.ga K "_law_x_in")) := T.glo (T.d.fact 33 (f := .glo "_law_x_in") rfl)
theorem Txt.g_x_least (T : Txt K mg) : mg "_law_x_least" = some (.ref (He.ga K "_law_x_least")) := T.glo (T.d.fact 34 (f := .glo "_law_x_least") rfl)
theorem Txt.g_x_keeps (T : Txt K mg) : mg "_law_x_keeps" = some (.ref (He.ga K "_law_x_keeps")) := T.glo (T.d.fact 35 (f := .glo "_law_x_keeps") rfl)
theorem Txt.g_x_threats (T : Txt K mg) : mg "_law_x_threats" = some (.ref (He.ga K "_law_x_threats")) := T.glo (T.d.fact 36 (f := .glo "_law_x_threats") rfl)
theorem Txt.g_x_bars (T : Txt K mg) : mg "_law_x_bars" = some (.ref (He.ga K "_law_x_bars")) := T.glo (T.d.fact 37 (f := .glo "_law_x_bars") rfl)
theorem Txt.g_z_start (T : Txt K mg) : mg "_law_start" = some (.ref (He.ga K "_law_start")) := T.glo (T.d.fact 38 (f := .glo "_law_start") rfl)
theorem Txt.g_z_draw (T : Txt K mg) : mg "_law_draw" = some (.ref (He.ga K "_law_draw")) := T.glo (T.d.fact 39 (f := .glo "_law_draw") rfl)
theorem Txt.g_z_pick (T : Txt K mg) : mg "_law_pick" = some (.ref (He.ga K "_law_pick")) := T.glo (T.d.fact 40 (f := .glo "_law_pick") rfl)
theorem Txt.g_z_mixed (T : Txt K mg) : mg "_law_mixed" = some (.ref (He.ga K "_law_mixed")) := T.glo (T.d.fact 41 (f := .glo "_law_mixed") rfl)
theorem Txt.g_z_same (T : Txt K mg) : mg "_law_same" = some (.ref (He.ga K "_law_same")) := T.glo (T.d.fact 42 (f := .glo "_law_same") rfl)
theorem Txt.g_z_table (T : Txt K mg) : mg "_law_table" = some (.ref (He.ga K "_law_table")) := T.glo (T.d.fact 43 (f := .glo "_law_table") rfl)
theorem Txt.g_z_next (T : Txt K mg) : mg "_law_next" = some (.ref (He.ga K "_law_next")) := T.glo (T.d.fact 44 (f := .glo "_law_next") rfl)
theorem Txt.g_z_levels (T : Txt K mg) : mg "_law_levels" = some (.ref (He.ga K "_law_levels")) := T.glo (T.d.fact 45 (f := .glo "_law_levels") rfl)
theorem Txt.g_z_walk (T : Txt K mg) : mg "_law_walk" = some (.ref (He.ga K "_law_walk")) := T.glo (T.d.fact 46 (f := .glo "_law_walk") rfl)
theorem Txt.g_z_run (T : Txt K mg) : mg "_law_run" = some (.ref (He.ga K "_law_run")) := T.glo (T.d.fact 47 (f := .glo "_law_run") rfl)
theorem Txt.g_z_loose (T : Txt K mg) : mg "_law_loose" = some (.ref (He.ga K "_law_loose")) := T.glo (T.d.fact 48 (f := .glo "_law_loose") rfl)
theorem Txt.g_z_met (T : Txt K mg) : mg "_law_met" = some (.ref (He.ga K "_law_met")) := T.glo (T.d.fact 49 (f := .glo "_law_met") rfl)
theorem Txt.g_z_shortest (T : Txt K mg) : mg "_law_shortest" = some (.ref (He.ga K "_law_shortest")) := T.glo (T.d.fact 50 (f := .glo "_law_shortest") rfl)
theorem Txt.g_z_threat_run_right (T : Txt K mg) : mg "_law_threat_run_right" = some (.ref (He.ga K "_law_threat_run_right")) := T.glo (T.d.fact 51 (f := .glo "_law_threat_run_right") rfl)
theorem Txt.g_z_barring_right (T : Txt K mg) : mg "_law_barring_right" = some (.ref (He.ga K "_law_barring_right")) := T.glo (T.d.fact 52 (f := .glo "_law_barring_right") rfl)
theorem Txt.g_law (T : Txt K mg) : mg "law" = some (.ref (He.ga K "law")) := T.glo (T.d.fact 53 (f := .glo "law") rfl)
theorem Txt.g_Play (T : Txt K mg) : mg "Play" = some (.ref (He.ga K "Play")) := T.glo (T.d.fact 54 (f := .glo "Play") rfl)
theorem Txt.g_BadRules (T : Txt K mg) : mg "BadRules" = some (.ref (He.ga K "BadRules")) := T.glo (T.d.fact 55 (f := .glo "BadRules") rfl)
theorem Txt.g_BadWord (T : Txt K mg) : mg "BadWord" = some (.ref (He.ga K "BadWord")) := T.glo (T.d.fact 56 (f := .glo "BadWord") rfl)
theorem Txt.c_SMALL (T : Txt K mg) : ∃ t, mg "SMALL" = some (.str "abcdefghijklmnopqrstuvwxyz" t) := T.str (T.d.fact 57 (f := .str "SMALL" "abcdefghijklmnopqrstuvwxyz") rfl)
theorem Txt.c_FIGURES (T : Txt K mg) : ∃ t, mg "FIGURES" = some (.str "0123456789" t) := T.str (T.d.fact 58 (f := .str "FIGURES" "0123456789") rfl)
theorem Txt.f_isinstance (T : Txt K mg) : mg "isinstance" = none := T.free (T.d.fact 59 (f := .free "isinstance") rfl)
theorem Txt.f_list (T : Txt K mg) : mg "list" = none := T.free (T.d.fact 60 (f := .free "list") rfl)
theorem Txt.f_tuple (T : Txt K mg) : mg "tuple" = none := T.free (T.d.fact 61 (f := .free "tuple") rfl)
theorem Txt.f_int (T : Txt K mg) : mg "int" = none := T.free (T.d.fact 62 (f := .free "int") rfl)
theorem Txt.f_bool (T : Txt K mg) : mg "bool" = none := T.free (T.d.fact 63 (f := .free "bool") rfl)
theorem Txt.f_str (T : Txt K mg) : mg "str" = none := T.free (T.d.fact 64 (f := .free "str") rfl)
theorem Txt.f_dict (T : Txt K mg) : mg "dict" = none := T.free (T.d.fact 65 (f := .free "dict") rfl)
theorem Txt.f_len (T : Txt K mg) : mg "len" = none := T.free (T.d.fact 66 (f := .free "len") rfl)
theorem Txt.f_all (T : Txt K mg) : mg "all" = none := T.free (T.d.fact 67 (f := .free "all") rfl)
theorem Txt.f_any (T : Txt K mg) : mg "any" = none := T.free (T.d.fact 68 (f := .free "any") rfl)
theorem Txt.f_sorted (T : Txt K mg) : mg "sorted" = none := T.free (T.d.fact 69 (f := .free "sorted") rfl)
theorem Txt.f_range (T : Txt K mg) : mg "range" = none := T.free (T.d.fact 70 (f := .free "range") rfl)
theorem Txt.f_enumerate (T : Txt K mg) : mg "enumerate" = none := T.free (T.d.fact 71 (f := .free "enumerate") rfl)
theorem Txt.f_zip (T : Txt K mg) : mg "zip" = none := T.free (T.d.fact 72 (f := .free "zip") rfl)
theorem Txt.f_min (T : Txt K mg) : mg "min" = none := T.free (T.d.fact 73 (f := .free "min") rfl)
theorem Txt.f_repr (T : Txt K mg) : mg "repr" = none := T.free (T.d.fact 74 (f := .free "repr") rfl)
theorem Txt.p_cl (T : Txt K mg) : Cls K (He.ga K "Play") := He.cls_ok (T.d.fact 75 (f := .cls "Play") rfl)
theorem Txt.p_nT (T : Txt K mg) : NoAttr K (He.ga K "Play") "own_table" := He.noat_ok (T.d.fact 76 (f := .noat "Play" "own_table") rfl)
theorem Txt.p_nB (T : Txt K mg) : NoAttr K (He.ga K "Play") "own_bad" := He.noat_ok (T.d.fact 77 (f := .noat "Play" "own_bad") rfl)
theorem Txt.p_ms (T : Txt K mg) : Meth K (He.ga K "Play") "steps" (He.ma K (He.ga K "Play") "steps") := He.meth_ok (T.d.fact 78 (f := .meth "Play" "steps") rfl)
theorem Txt.p_mr (T : Txt K mg) : Meth K (He.ga K "Play") "rules" (He.ma K (He.ga K "Play") "rules") := He.meth_ok (T.d.fact 79 (f := .meth "Play" "rules") rfl)
theorem Txt.p_ml (T : Txt K mg) : Meth K (He.ga K "Play") "__len__" (He.ma K (He.ga K "Play") "__len__") := He.meth_ok (T.d.fact 80 (f := .meth "Play" "__len__") rfl)
theorem Txt.p_mk (T : Txt K mg) : Mk K (He.ga K "Play") (He.ma K (He.ga K "Play") "__init__") := He.mkr_ok (T.d.fact 81 (f := .mkr "Play") rfl)
theorem Txt.F_is_list (T : Txt K mg) : ∃ fd, FunD K (dG "is_list" s_is_list).name (dG "is_list" s_is_list).qual (dG "is_list" s_is_list).params (dG "is_list" s_is_list).body (dG "is_list" s_is_list).scope [] [] (He.fAd K (dG "is_list" s_is_list).at_) fd := T.d.def_ 0 (d := dG "is_list" s_is_list) rfl
theorem Txt.F_is_integer (T : Txt K mg) : ∃ fd, FunD K (dG "is_integer" s_is_integer).name (dG "is_integer" s_is_integer).qual (dG "is_integer" s_is_integer).params (dG "is_integer" s_is_integer).body (dG "is_integer" s_is_integer).scope [] [] (He.fAd K (dG "is_integer" s_is_integer).at_) fd := T.d.def_ 1 (d := dG "is_integer" s_is_integer) rfl
theorem Txt.F_is_number (T : Txt K mg) : ∃ fd, FunD K (dG "is_number" s_is_number).name (dG "is_number" s_is_number).qual (dG "is_number" s_is_number).params (dG "is_number" s_is_number).body (dG "is_number" s_is_number).scope [] [] (He.fAd K (dG "is_number" s_is_number).at_) fd := T.d.def_ 2 (d := dG "is_number" s_is_number) rfl
theorem Txt.F_is_name (T : Txt K mg) : ∃ fd, FunD K (dG "is_name" s_is_name).name (dG "is_name" s_is_name).qual (dG "is_name" s_is_name).params (dG "is_name" s_is_name).body (dG "is_name" s_is_name).scope [] [] (He.fAd K (dG "is_name" s_is_name).at_) fd := T.d.def_ 3 (d := dG "is_name" s_is_name) rfl
theorem Txt.F_is_word (T : Txt K mg) : ∃ fd, FunD K (dG "is_word" s_is_word).name (dG "is_word" s_is_word).qual (dG "is_word" s_is_word).params (dG "is_word" s_is_word).body (dG "is_word" s_is_word).scope [] [] (He.fAd K (dG "is_word" s_is_word).at_) fd := T.d.def_ 4 (d := dG "is_word" s_is_word) rfl
theorem Txt.F_as_word (T : Txt K mg) : ∃ fd, FunD K (dG "as_word" s_as_word).name (dG "as_word" s_as_word).qual (dG "as_word" s_as_word).params (dG "as_word" s_as_word).body (dG "as_word" s_as_word).scope [] [] (He.fAd K (dG "as_word" s_as_word).at_) fd := T.d.def_ 5 (d := dG "as_word" s_as_word) rfl
theorem Txt.F_are_names (T : Txt K mg) : ∃ fd, FunD K (dG "are_names" s_are_names).name (dG "are_names" s_are_names).qual (dG "are_names" s_are_names).params (dG "are_names" s_are_names).body (dG "are_names" s_are_names).scope [] [] (He.fAd K (dG "are_names" s_are_names).at_) fd := T.d.def_ 6 (d := dG "are_names" s_are_names) rfl
theorem Txt.F_each_once (T : Txt K mg) : ∃ fd, FunD K (dG "each_once" s_each_once).name (dG "each_once" s_each_once).qual (dG "each_once" s_each_once).params (dG "each_once" s_each_once).body (dG "each_once" s_each_once).scope [] [] (He.fAd K (dG "each_once" s_each_once).at_) fd := T.d.def_ 7 (d := dG "each_once" s_each_once) rfl
theorem Txt.F_is_stand (T : Txt K mg) : ∃ fd, FunD K (dG "is_stand" s_is_stand).name (dG "is_stand" s_is_stand).qual (dG "is_stand" s_is_stand).params (dG "is_stand" s_is_stand).body (dG "is_stand" s_is_stand).scope [] [] (He.fAd K (dG "is_stand" s_is_stand).at_) fd := T.d.def_ 8 (d := dG "is_stand" s_is_stand) rfl
theorem Txt.F_kept_step (T : Txt K mg) : ∃ fd, FunD K (dG "kept_step" s_kept_step).name (dG "kept_step" s_kept_step).qual (dG "kept_step" s_kept_step).params (dG "kept_step" s_kept_step).body (dG "kept_step" s_kept_step).scope [] [] (He.fAd K (dG "kept_step" s_kept_step).at_) fd := T.d.def_ 9 (d := dG "kept_step" s_kept_step) rfl
theorem Txt.F_checked_steps (T : Txt K mg) : ∃ fd, FunD K (dG "checked_steps" s_checked_steps).name (dG "checked_steps" s_checked_steps).qual (dG "checked_steps" s_checked_steps).params (dG "checked_steps" s_checked_steps).body (dG "checked_steps" s_checked_steps).scope [] [] (He.fAd K (dG "checked_steps" s_checked_steps).at_) fd := T.d.def_ 10 (d := dG "checked_steps" s_checked_steps) rfl
theorem Txt.F_checked_stands (T : Txt K mg) : ∃ fd, FunD K (dG "checked_stands" s_checked_stands).name (dG "checked_stands" s_checked_stands).qual (dG "checked_stands" s_checked_stands).params (dG "checked_stands" s_checked_stands).body (dG "checked_stands" s_checked_stands).scope [] [] (He.fAd K (dG "checked_stands" s_checked_stands).at_) fd := T.d.def_ 11 (d := dG "checked_stands" s_checked_stands) rfl
theorem Txt.F_checked_rules (T : Txt K mg) : ∃ fd, FunD K (dG "checked_rules" s_checked_rules).name (dG "checked_rules" s_checked_rules).qual (dG "checked_rules" s_checked_rules).params (dG "checked_rules" s_checked_rules).body (dG "checked_rules" s_checked_rules).scope [] [] (He.fAd K (dG "checked_rules" s_checked_rules).at_) fd := T.d.def_ 12 (d := dG "checked_rules" s_checked_rules) rfl
theorem Txt.F_can_be_done (T : Txt K mg) : ∃ fd, FunD K (dG "can_be_done" s_can_be_done).name (dG "can_be_done" s_can_be_done).qual (dG "can_be_done" s_can_be_done).params (dG "can_be_done" s_can_be_done).body (dG "can_be_done" s_can_be_done).scope [] [] (He.fAd K (dG "can_be_done" s_can_be_done).at_) fd := T.d.def_ 13 (d := dG "can_be_done" s_can_be_done) rfl
theorem Txt.F_steps_under (T : Txt K mg) : ∃ fd, FunD K (dG "steps_under" s_steps_under).name (dG "steps_under" s_steps_under).qual (dG "steps_under" s_steps_under).params (dG "steps_under" s_steps_under).body (dG "steps_under" s_steps_under).scope [] [] (He.fAd K (dG "steps_under" s_steps_under).at_) fd := T.d.def_ 14 (d := dG "steps_under" s_steps_under) rfl
theorem Txt.F_stand_behind (T : Txt K mg) : ∃ fd, FunD K (dG "stand_behind" s_stand_behind).name (dG "stand_behind" s_stand_behind).qual (dG "stand_behind" s_stand_behind).params (dG "stand_behind" s_stand_behind).body (dG "stand_behind" s_stand_behind).scope [] [] (He.fAd K (dG "stand_behind" s_stand_behind).at_) fd := T.d.def_ 15 (d := dG "stand_behind" s_stand_behind) rfl
theorem Txt.F_shortest_runs (T : Txt K mg) : ∃ fd, FunD K (dG "shortest_runs" s_shortest_runs).name (dG "shortest_runs" s_shortest_runs).qual (dG "shortest_runs" s_shortest_runs).params (dG "shortest_runs" s_shortest_runs).body (dG "shortest_runs" s_shortest_runs).scope [] [] (He.fAd K (dG "shortest_runs" s_shortest_runs).at_) fd := T.d.def_ 16 (d := dG "shortest_runs" s_shortest_runs) rfl
theorem Txt.F_break_run (T : Txt K mg) : ∃ fd, FunD K (dG "break_run" s_break_run).name (dG "break_run" s_break_run).qual (dG "break_run" s_break_run).params (dG "break_run" s_break_run).body (dG "break_run" s_break_run).scope [] [] (He.fAd K (dG "break_run" s_break_run).at_) fd := T.d.def_ 17 (d := dG "break_run" s_break_run) rfl
theorem Txt.F_keeps (T : Txt K mg) : ∃ fd, FunD K (dG "keeps" s_keeps).name (dG "keeps" s_keeps).qual (dG "keeps" s_keeps).params (dG "keeps" s_keeps).body (dG "keeps" s_keeps).scope [] [] (He.fAd K (dG "keeps" s_keeps).at_) fd := T.d.def_ 18 (d := dG "keeps" s_keeps) rfl
theorem Txt.F_is_part (T : Txt K mg) : ∃ fd, FunD K (dG "is_part" s_is_part).name (dG "is_part" s_is_part).qual (dG "is_part" s_is_part).params (dG "is_part" s_is_part).body (dG "is_part" s_is_part).scope [] [] (He.fAd K (dG "is_part" s_is_part).at_) fd := T.d.def_ 19 (d := dG "is_part" s_is_part) rfl
theorem Txt.F_in_order (T : Txt K mg) : ∃ fd, FunD K (dG "in_order" s_in_order).name (dG "in_order" s_in_order).qual (dG "in_order" s_in_order).params (dG "in_order" s_in_order).body (dG "in_order" s_in_order).scope [] [] (He.fAd K (dG "in_order" s_in_order).at_) fd := T.d.def_ 20 (d := dG "in_order" s_in_order) rfl
theorem Txt.F_least_of (T : Txt K mg) : ∃ fd, FunD K (dG "least_of" s_least_of).name (dG "least_of" s_least_of).qual (dG "least_of" s_least_of).params (dG "least_of" s_least_of).body (dG "least_of" s_least_of).scope [] [] (He.fAd K (dG "least_of" s_least_of).at_) fd := T.d.def_ 21 (d := dG "least_of" s_least_of) rfl
theorem Txt.F_joined (T : Txt K mg) : ∃ fd, FunD K (dG "joined" s_joined).name (dG "joined" s_joined).qual (dG "joined" s_joined).params (dG "joined" s_joined).body (dG "joined" s_joined).scope [] [] (He.fAd K (dG "joined" s_joined).at_) fd := T.d.def_ 22 (d := dG "joined" s_joined) rfl
theorem Txt.F_barring (T : Txt K mg) : ∃ fd, FunD K (dG "barring" s_barring).name (dG "barring" s_barring).qual (dG "barring" s_barring).params (dG "barring" s_barring).body (dG "barring" s_barring).scope [] [] (He.fAd K (dG "barring" s_barring).at_) fd := T.d.def_ 23 (d := dG "barring" s_barring) rfl
theorem Txt.F_least_barrings (T : Txt K mg) : ∃ fd, FunD K (dG "least_barrings" s_least_barrings).name (dG "least_barrings" s_least_barrings).qual (dG "least_barrings" s_least_barrings).params (dG "least_barrings" s_least_barrings).body (dG "least_barrings" s_least_barrings).scope [] [] (He.fAd K (dG "least_barrings" s_least_barrings).at_) fd := T.d.def_ 24 (d := dG "least_barrings" s_least_barrings) rfl
theorem Txt.F_threats (T : Txt K mg) : ∃ fd, FunD K (dG "threats" s_threats).name (dG "threats" s_threats).qual (dG "threats" s_threats).params (dG "threats" s_threats).body (dG "threats" s_threats).scope [] [] (He.fAd K (dG "threats" s_threats).at_) fd := T.d.def_ 25 (d := dG "threats" s_threats) rfl
theorem Txt.F_threat_run (T : Txt K mg) : ∃ fd, FunD K (dG "threat_run" s_threat_run).name (dG "threat_run" s_threat_run).qual (dG "threat_run" s_threat_run).params (dG "threat_run" s_threat_run).body (dG "threat_run" s_threat_run).scope [] [] (He.fAd K (dG "threat_run" s_threat_run).at_) fd := T.d.def_ 26 (d := dG "threat_run" s_threat_run) rfl
theorem Txt.F_x_play (T : Txt K mg) : ∃ fd, FunD K (dG "_law_x_play" s_x_play).name (dG "_law_x_play" s_x_play).qual (dG "_law_x_play" s_x_play).params (dG "_law_x_play" s_x_play).body (dG "_law_x_play" s_x_play).scope [] [] (He.fAd K (dG "_law_x_play" s_x_play).at_) fd := T.d.def_ 27 (d := dG "_law_x_play" s_x_play) rfl
theorem Txt.F_x_led (T : Txt K mg) : ∃ fd, FunD K (dG "_law_x_led" s_x_led).name (dG "_law_x_led" s_x_led).qual (dG "_law_x_led" s_x_led).params (dG "_law_x_led" s_x_led).body (dG "_law_x_led" s_x_led).scope [] [] (He.fAd K (dG "_law_x_led" s_x_led).at_) fd := T.d.def_ 28 (d := dG "_law_x_led" s_x_led) rfl
theorem Txt.F_x_some (T : Txt K mg) : ∃ fd, FunD K (dG "_law_x_some" s_x_some).name (dG "_law_x_some" s_x_some).qual (dG "_law_x_some" s_x_some).params (dG "_law_x_some" s_x_some).body (dG "_law_x_some" s_x_some).scope [] [] (He.fAd K (dG "_law_x_some" s_x_some).at_) fd := T.d.def_ 29 (d := dG "_law_x_some" s_x_some) rfl
theorem Txt.F_x_made (T : Txt K mg) : ∃ fd, FunD K (dG "_law_x_made" s_x_made).name (dG "_law_x_made" s_x_made).qual (dG "_law_x_made" s_x_made).params (dG "_law_x_made" s_x_made).body (dG "_law_x_made" s_x_made).scope [] [] (He.fAd K (dG "_law_x_made" s_x_made).at_) fd := T.d.def_ 30 (d := dG "_law_x_made" s_x_made) rfl
theorem Txt.F_x_names (T : Txt K mg) : ∃ fd, FunD K (dG "_law_x_names" s_x_names).name (dG "_law_x_names" s_x_names).qual (dG "_law_x_names" s_x_names).params (dG "_law_x_names" s_x_names).body (dG "_law_x_names" s_x_names).scope [] [] (He.fAd K (dG "_law_x_names" s_x_names).at_) fd := T.d.def_ 31 (d := dG "_law_x_names" s_x_names) rfl
theorem Txt.F_x_all (T : Txt K mg) : ∃ fd, FunD K (dG "_law_x_all" s_x_all).name (dG "_law_x_all" s_x_all).qual (dG "_law_x_all" s_x_all).params (dG "_law_x_all" s_x_all).body (dG "_law_x_all" s_x_all).scope [] [] (He.fAd K (dG "_law_x_all" s_x_all).at_) fd := T.d.def_ 32 (d := dG "_law_x_all" s_x_all) rfl
theorem Txt.F_x_in (T : Txt K mg) : ∃ fd, FunD K (dG "_law_x_in" s_x_in).name (dG "_law_x_in" s_x_in).qual (dG "_law_x_in" s_x_in).params (dG "_law_x_in" s_x_in).body (dG "_law_x_in" s_x_in).scope [] [] (He.fAd K (dG "_law_x_in" s_x_in).at_) fd := T.d.def_ 33 (d := dG "_law_x_in" s_x_in) rfl
theorem Txt.F_x_least (T : Txt K mg) : ∃ fd, FunD K (dG "_law_x_least" s_x_least).name (dG "_law_x_least" s_x_least).qual (dG "_law_x_least" s_x_least).params (dG "_law_x_least" s_x_least).body (dG "_law_x_least" s_x_least).scope [] [] (He.fAd K (dG "_law_x_least" s_x_least).at_) fd := T.d.def_ 34 (d := dG "_law_x_least" s_x_least) rfl
theorem Txt.F_x_keeps (T : Txt K mg) : ∃ fd, FunD K (dG "_law_x_keeps" s_x_keeps).name (dG "_law_x_keeps" s_x_keeps).qual (dG "_law_x_keeps" s_x_keeps).params (dG "_law_x_keeps" s_x_keeps).body (dG "_law_x_keeps" s_x_keeps).scope [] [] (He.fAd K (dG "_law_x_keeps" s_x_keeps).at_) fd := T.d.def_ 35 (d := dG "_law_x_keeps" s_x_keeps) rfl
theorem Txt.F_x_threats (T : Txt K mg) : ∃ fd, FunD K (dG "_law_x_threats" s_x_threats).name (dG "_law_x_threats" s_x_threats).qual (dG "_law_x_threats" s_x_threats).params (dG "_law_x_threats" s_x_threats).body (dG "_law_x_threats" s_x_threats).scope [] [] (He.fAd K (dG "_law_x_threats" s_x_threats).at_) fd := T.d.def_ 36 (d := dG "_law_x_threats" s_x_threats) rfl
theorem Txt.F_x_bars (T : Txt K mg) : ∃ fd, FunD K (dG "_law_x_bars" s_x_bars).name (dG "_law_x_bars" s_x_bars).qual (dG "_law_x_bars" s_x_bars).params (dG "_law_x_bars" s_x_bars).body (dG "_law_x_bars" s_x_bars).scope [] [] (He.fAd K (dG "_law_x_bars" s_x_bars).at_) fd := T.d.def_ 37 (d := dG "_law_x_bars" s_x_bars) rfl
theorem Txt.F_z_start (T : Txt K mg) : ∃ fd, FunD K (dG "_law_start" s_z_start).name (dG "_law_start" s_z_start).qual (dG "_law_start" s_z_start).params (dG "_law_start" s_z_start).body (dG "_law_start" s_z_start).scope [] [] (He.fAd K (dG "_law_start" s_z_start).at_) fd := T.d.def_ 38 (d := dG "_law_start" s_z_start) rfl
theorem Txt.F_z_draw (T : Txt K mg) : ∃ fd, FunD K (dG "_law_draw" s_z_draw).name (dG "_law_draw" s_z_draw).qual (dG "_law_draw" s_z_draw).params (dG "_law_draw" s_z_draw).body (dG "_law_draw" s_z_draw).scope [] [] (He.fAd K (dG "_law_draw" s_z_draw).at_) fd := T.d.def_ 39 (d := dG "_law_draw" s_z_draw) rfl
theorem Txt.F_z_pick (T : Txt K mg) : ∃ fd, FunD K (dG "_law_pick" s_z_pick).name (dG "_law_pick" s_z_pick).qual (dG "_law_pick" s_z_pick).params (dG "_law_pick" s_z_pick).body (dG "_law_pick" s_z_pick).scope [] [] (He.fAd K (dG "_law_pick" s_z_pick).at_) fd := T.d.def_ 40 (d := dG "_law_pick" s_z_pick) rfl
theorem Txt.F_z_mixed (T : Txt K mg) : ∃ fd, FunD K (dG "_law_mixed" s_z_mixed).name (dG "_law_mixed" s_z_mixed).qual (dG "_law_mixed" s_z_mixed).params (dG "_law_mixed" s_z_mixed).body (dG "_law_mixed" s_z_mixed).scope [] [] (He.fAd K (dG "_law_mixed" s_z_mixed).at_) fd := T.d.def_ 41 (d := dG "_law_mixed" s_z_mixed) rfl
theorem Txt.F_z_same (T : Txt K mg) : ∃ fd, FunD K (dG "_law_same" s_z_same).name (dG "_law_same" s_z_same).qual (dG "_law_same" s_z_same).params (dG "_law_same" s_z_same).body (dG "_law_same" s_z_same).scope [] [] (He.fAd K (dG "_law_same" s_z_same).at_) fd := T.d.def_ 42 (d := dG "_law_same" s_z_same) rfl
theorem Txt.F_z_table (T : Txt K mg) : ∃ fd, FunD K (dG "_law_table" s_z_table).name (dG "_law_table" s_z_table).qual (dG "_law_table" s_z_table).params (dG "_law_table" s_z_table).body (dG "_law_table" s_z_table).scope [] [] (He.fAd K (dG "_law_table" s_z_table).at_) fd := T.d.def_ 43 (d := dG "_law_table" s_z_table) rfl
theorem Txt.F_z_next (T : Txt K mg) : ∃ fd, FunD K (dG "_law_next" s_z_next).name (dG "_law_next" s_z_next).qual (dG "_law_next" s_z_next).params (dG "_law_next" s_z_next).body (dG "_law_next" s_z_next).scope [] [] (He.fAd K (dG "_law_next" s_z_next).at_) fd := T.d.def_ 44 (d := dG "_law_next" s_z_next) rfl
theorem Txt.F_z_levels (T : Txt K mg) : ∃ fd, FunD K (dG "_law_levels" s_z_levels).name (dG "_law_levels" s_z_levels).qual (dG "_law_levels" s_z_levels).params (dG "_law_levels" s_z_levels).body (dG "_law_levels" s_z_levels).scope [] [] (He.fAd K (dG "_law_levels" s_z_levels).at_) fd := T.d.def_ 45 (d := dG "_law_levels" s_z_levels) rfl
theorem Txt.F_z_walk (T : Txt K mg) : ∃ fd, FunD K (dG "_law_walk" s_z_walk).name (dG "_law_walk" s_z_walk).qual (dG "_law_walk" s_z_walk).params (dG "_law_walk" s_z_walk).body (dG "_law_walk" s_z_walk).scope [] [] (He.fAd K (dG "_law_walk" s_z_walk).at_) fd := T.d.def_ 46 (d := dG "_law_walk" s_z_walk) rfl
theorem Txt.F_z_run (T : Txt K mg) : ∃ fd, FunD K (dG "_law_run" s_z_run).name (dG "_law_run" s_z_run).qual (dG "_law_run" s_z_run).params (dG "_law_run" s_z_run).body (dG "_law_run" s_z_run).scope [] [] (He.fAd K (dG "_law_run" s_z_run).at_) fd := T.d.def_ 47 (d := dG "_law_run" s_z_run) rfl
theorem Txt.F_z_loose (T : Txt K mg) : ∃ fd, FunD K (dG "_law_loose" s_z_loose).name (dG "_law_loose" s_z_loose).qual (dG "_law_loose" s_z_loose).params (dG "_law_loose" s_z_loose).body (dG "_law_loose" s_z_loose).scope [] [] (He.fAd K (dG "_law_loose" s_z_loose).at_) fd := T.d.def_ 48 (d := dG "_law_loose" s_z_loose) rfl
theorem Txt.F_z_met (T : Txt K mg) : ∃ fd, FunD K (dG "_law_met" s_z_met).name (dG "_law_met" s_z_met).qual (dG "_law_met" s_z_met).params (dG "_law_met" s_z_met).body (dG "_law_met" s_z_met).scope [] [] (He.fAd K (dG "_law_met" s_z_met).at_) fd := T.d.def_ 49 (d := dG "_law_met" s_z_met) rfl
theorem Txt.F_z_shortest (T : Txt K mg) : ∃ fd, FunD K (dG "_law_shortest" s_z_shortest).name (dG "_law_shortest" s_z_shortest).qual (dG "_law_shortest" s_z_shortest).params (dG "_law_shortest" s_z_shortest).body (dG "_law_shortest" s_z_shortest).scope [] [] (He.fAd K (dG "_law_shortest" s_z_shortest).at_) fd := T.d.def_ 50 (d := dG "_law_shortest" s_z_shortest) rfl
theorem Txt.F_z_threat_run_right (T : Txt K mg) : ∃ fd, FunD K (dG "_law_threat_run_right" s_z_threat_run_right).name (dG "_law_threat_run_right" s_z_threat_run_right).qual (dG "_law_threat_run_right" s_z_threat_run_right).params (dG "_law_threat_run_right" s_z_threat_run_right).body (dG "_law_threat_run_right" s_z_threat_run_right).scope [] [] (He.fAd K (dG "_law_threat_run_right" s_z_threat_run_right).at_) fd := T.d.def_ 51 (d := dG "_law_threat_run_right" s_z_threat_run_right) rfl
theorem Txt.F_z_barring_right (T : Txt K mg) : ∃ fd, FunD K (dG "_law_barring_right" s_z_barring_right).name (dG "_law_barring_right" s_z_barring_right).qual (dG "_law_barring_right" s_z_barring_right).params (dG "_law_barring_right" s_z_barring_right).body (dG "_law_barring_right" s_z_barring_right).scope [] [] (He.fAd K (dG "_law_barring_right" s_z_barring_right).at_) fd := T.d.def_ 52 (d := dG "_law_barring_right" s_z_barring_right) rfl
theorem Txt.F_law (T : Txt K mg) : ∃ fd, FunD K (dG "law" s_law).name (dG "law" s_law).qual (dG "law" s_law).params (dG "law" s_law).body (dG "law" s_law).scope [] [] (He.fAd K (dG "law" s_law).at_) fd := T.d.def_ 53 (d := dG "law" s_law) rfl
theorem Txt.F_Play_init (T : Txt K mg) : ∃ fd, FunD K (dM "Play" "__init__" "Play.__init__" s_Play_init).name (dM "Play" "__init__" "Play.__init__" s_Play_init).qual (dM "Play" "__init__" "Play.__init__" s_Play_init).params (dM "Play" "__init__" "Play.__init__" s_Play_init).body (dM "Play" "__init__" "Play.__init__" s_Play_init).scope [] [] (He.fAd K (dM "Play" "__init__" "Play.__init__" s_Play_init).at_) fd := T.d.def_ 54 (d := dM "Play" "__init__" "Play.__init__" s_Play_init) rfl
theorem Txt.F_Play_steps (T : Txt K mg) : ∃ fd, FunD K (dM "Play" "steps" "Play.steps" s_Play_steps).name (dM "Play" "steps" "Play.steps" s_Play_steps).qual (dM "Play" "steps" "Play.steps" s_Play_steps).params (dM "Play" "steps" "Play.steps" s_Play_steps).body (dM "Play" "steps" "Play.steps" s_Play_steps).scope [] [] (He.fAd K (dM "Play" "steps" "Play.steps" s_Play_steps).at_) fd := T.d.def_ 55 (d := dM "Play" "steps" "Play.steps" s_Play_steps) rfl
theorem Txt.F_Play_rules (T : Txt K mg) : ∃ fd, FunD K (dM "Play" "rules" "Play.rules" s_Play_rules).name (dM "Play" "rules" "Play.rules" s_Play_rules).qual (dM "Play" "rules" "Play.rules" s_Play_rules).params (dM "Play" "rules" "Play.rules" s_Play_rules).body (dM "Play" "rules" "Play.rules" s_Play_rules).scope [] [] (He.fAd K (dM "Play" "rules" "Play.rules" s_Play_rules).at_) fd := T.d.def_ 56 (d := dM "Play" "rules" "Play.rules" s_Play_rules) rfl
theorem Txt.F_Play_len (T : Txt K mg) : ∃ fd, FunD K (dM "Play" "__len__" "Play.__len__" s_Play_len).name (dM "Play" "__len__" "Play.__len__" s_Play_len).qual (dM "Play" "__len__" "Play.__len__" s_Play_len).params (dM "Play" "__len__" "Play.__len__" s_Play_len).body (dM "Play" "__len__" "Play.__len__" s_Play_len).scope [] [] (He.fAd K (dM "Play" "__len__" "Play.__len__" s_Play_len).at_) fd := T.d.def_ 57 (d := dM "Play" "__len__" "Play.__len__" s_Play_len) rfl
theorem Txt.F_BadRules_init (T : Txt K mg) : ∃ fd, FunD K (dM "BadRules" "__init__" "BadRules.__init__" s_BadRules_init).name (dM "BadRules" "__init__" "BadRules.__init__" s_BadRules_init).qual (dM "BadRules" "__init__" "BadRules.__init__" s_BadRules_init).params (dM "BadRules" "__init__" "BadRules.__init__" s_BadRules_init).body (dM "BadRules" "__init__" "BadRules.__init__" s_BadRules_init).scope [] [] (He.fAd K (dM "BadRules" "__init__" "BadRules.__init__" s_BadRules_init).at_) fd := T.d.def_ 58 (d := dM "BadRules" "__init__" "BadRules.__init__" s_BadRules_init) rfl
theorem Txt.F_BadWord_init (T : Txt K mg) : ∃ fd, FunD K (dM "BadWord" "__init__" "BadWord.__init__" s_BadWord_init).name (dM "BadWord" "__init__" "BadWord.__init__" s_BadWord_init).qual (dM "BadWord" "__init__" "BadWord.__init__" s_BadWord_init).params (dM "BadWord" "__init__" "BadWord.__init__" s_BadWord_init).body (dM "BadWord" "__init__" "BadWord.__init__" s_BadWord_init).scope [] [] (He.fAd K (dM "BadWord" "__init__" "BadWord.__init__" s_BadWord_init).at_) fd := T.d.def_ 59 (d := dM "BadWord" "__init__" "BadWord.__init__" s_BadWord_init) rfl
end
end K8
-- K8Head
set_option maxRecDepth 100000
set_option maxHeartbeats 0
namespace K8
open PySem PySem.Spec PyProof.Rows L2
/-! ### the head's run -/
def nm0 : List PySem.Str := ["_wall", "SMALL", "FIGURES", "is_list", "is_integer", "is_number", "is_name", "is_word", "as_word", "are_names", "each_once", "FarError", "BadMany", "BadRules", "BadStand", "BadStep", "BadWord", "is_stand", "kept_step", "checked_steps", "checked_stands", "Play", "checked_rules", "can_be_done", "steps_under", "stand_behind", "shortest_runs", "break_run", "keeps", "is_part"]
def nm1 : List PySem.Str := ["in_order", "least_of", "joined", "barring", "least_barrings", "threats", "threat_run", "_law_x_play", "_law_x_led", "_law_x_some", "_law_x_made", "_law_x_names", "_law_x_all", "_law_x_in", "_law_x_least", "_law_x_keeps", "_law_x_threats", "_law_x_bars", "_law_start", "_law_draw", "_law_pick", "_law_mixed", "_law_same", "_law_table", "_law_next", "_law_levels", "_law_walk", "_law_run", "_law_loose", "_law_met"]
def nm2 : List PySem.Str := ["_law_shortest", "_law_threat_run_right", "_law_barring_right"]
abbrev nms : List PySem.Str := nm0 ++ nm1 ++ nm2
abbrev R : PySem.W.OpenRow := PySem.W.OpenLaw.row PySem.Challenge.rw_farfolder_k08_whole_what_bars_runs
/-- the two defs with lambdas have tables of their own -/
def exB2 (K : PySem.W.Frag) : Bool := exB K && !decide ((He.cT K ("_law_barring_right", none)).2 = (He.cT K ("law", none)).2)
abbrev hk : PySem.W.Hook := He.hookX 6 fa fn [] tf exB2
def ob (s : PySem.W.SharedT) : He.AlX := He.obsX 6 fa fn [] tf exB2 (HandSHeadRun.getT s)
theorem ob_eq (s : PySem.W.SharedT) : ob s = hk.obs s.abs := He.obsX_eq (HandSHeadRun.getT_eq s)
theorem run (w : World) : HandSHeadRun.RunEq R (PySem.W.view R.prog [70]) hk ob 4000 nms w := by
  intro os
  kernel_rfl
end K8
-- K8Call
set_option maxRecDepth 100000
set_option maxHeartbeats 4000000
namespace K8
open PySem PySem.Spec PyProof.Rows L2
/-! ### calls of the text's defs -/
/-- a def that may be called by its name; CX: what it may let out -/
structure Cl (P : Program) (w : World) (K : PySem.W.Frag) (mg : Str → Option Value) (base : Heap) (CX : CXT) (k : Nat) (x : Str) (sp : Sp) : Prop where
  ex : ∃ (f : Addr) (fd : FuncData) (ps : List Str), FnOk P w K mg base CX k f fd ps sp ∧ mg x = some (.ref f) ∧ PySem.W.keepIn K (.ref f) = true ∧ Binds K fd ps []
theorem Cl.imp {P : Program} {w : World} {K : PySem.W.Frag} {mg : Str → Option Value} {base : Heap} {CX : CXT} {k j : Nat} {x : Str} {sp sp' : Sp} (c : Cl P w K mg base CX k x sp) (hk : k ≤ j) (h : ∀ vs H Q E, sp' vs H Q E → sp vs H Q E) :
    Cl P w K mg base CX j x sp' := by
  obtain ⟨f, fd, ps, F, m, kp, b⟩ := c.ex
  exact ⟨f, fd, ps, (F.mono hk).imp h, m, kp, b⟩
/-- a raising def where nothing is raised -/
theorem passE0 {X : Cx} : Passes (L2.CX X.prog X.w) X E0 := passL
section
variable {X : Cx} {CX : CXT} {k j : Nat} {x : Str} {sp : Sp} {E : XK} {p pos : Pos} {e : Expr} {es : List Expr} {t : TA}
theorem pe_cl (c : Cl X.prog X.w X.K X.mg X.base CX k x sp) (hr : Room j X.A) (hk : k ≤ j) (hx : Passes CX X E) (ha : PA X (e :: es) t) (hg : Gl X x := by rfl)
    (hdb : (x == ("__debug__" : Str)) = false := by decide) (he : starEach (e :: es) X.env = (false, eval e X.env) :: starEach es X.env := by rfl) (hpl : (backTo pos (starEach es X.env)).any (·.1) = false := by rfl) :
    PE X (.Call (.Name x p) (e :: es) [] pos) (tCall sp [] E t) := by
  obtain ⟨f, fd, ps, F, m, kp, b⟩ := c.ex
  exact pe_call F (hr.mono hk) hg m kp b .nil hx ha hdb he hpl
/-- in a try -/
theorem pe_clS {W : WX} (c : Cl X.prog X.w X.K X.mg X.base (L2.CX X.prog X.w) k x sp) (hr : Room j X.A) (hk : k ≤ j) (tk : Takes X W) (ha : PA X (e :: es) t) (hg : Gl X x := by rfl)
    (hdb : (x == ("__debug__" : Str)) = false := by decide) (he : starEach (e :: es) X.env = (false, eval e X.env) :: starEach es X.env := by rfl) (hpl : (backTo pos (starEach es X.env)).any (·.1) = false := by rfl) :
    PE X (.Call (.Name x p) (e :: es) [] pos) (tCallS sp (WE W) t) := by
  obtain ⟨f, fd, ps, F, m, kp, b⟩ := c.ex
  exact pe_callS F (hr.mono hk) hg m kp b (fun σ => passAt tk σ) ha hdb he hpl
end
section
variable {P : Program} {w : World} {K : PySem.W.Frag} {mg : Str → Option Value} {base : Heap} {x : Str} {st : Stmt} {N ps : List Str} {k : Nat} {sp : Sp}
/-- a global def's promise by its body: nothing is let out -/
theorem cl0 (F : ∃ fd, FunD K (dG x st).name (dG x st).qual (dG x st).params (dG x st).body (dG x st).scope [] [] (He.fAd K (dG x st).at_) fd) (g : mg x = some (.ref (He.ga K x))) (S : FnScope N ps (defScope st)) (len : ∀ vs H Q E, sp vs H Q E → vs.length = ps.length)
    (hb : ∀ (kV doc pm : Value) (an : Option Addr) (cdv ct : Value) (us : List Value), us.length = ps.length → bindArgs (PySem.W.fnOf x x (defArgs st) (defBody st) (defScope st) .none kV doc pm an cdv ct) ⟨us, []⟩ = pure (ps.zip us))
    (hbody : ∀ (cdv : Value) (A : Around) (outer : List Env) (s : Shared) (H : Hp) (vs : List V) (Q : VK) (E : XK), Room k (A.deeper (envOfC x (defScope st) s.heap.objs.size (He.ga K x) cdv)) → sp vs H Q E →
      ∃ t, PSs (cxOf CX0 P w K mg base N x (defScope st) (He.ga K x) cdv A outer s H E).nox (defBody st) t ∧ t { nx := fun _ H' => Q .non H', rt := Q } (start N vs) H) : Cl P w K mg base CX0 (k + 1) x sp := by
  obtain ⟨fd, F⟩ := F
  refine ⟨He.ga K x, fd, ps, F.ok S len fun cdv A outer s H vs Q E hr h => ?_, g, F.kp, F.bindsN hb⟩
  obtain ⟨t, h1, h2⟩ := hbody cdv A outer s H vs Q E hr h
  exact ⟨t, h1.nox, h2⟩
/-- .. errors may leave -/
theorem clX (F : ∃ fd, FunD K (dG x st).name (dG x st).qual (dG x st).params (dG x st).body (dG x st).scope [] [] (He.fAd K (dG x st).at_) fd) (g : mg x = some (.ref (He.ga K x))) (S : FnScope N ps (defScope st)) (len : ∀ vs H Q E, sp vs H Q E → vs.length = ps.length)
    (hb : ∀ (kV doc pm : Value) (an : Option Addr) (cdv ct : Value) (us : List Value), us.length = ps.length → bindArgs (PySem.W.fnOf x x (defArgs st) (defBody st) (defScope st) .none kV doc pm an cdv ct) ⟨us, []⟩ = pure (ps.zip us))
    (hbody : ∀ (cdv : Value) (A : Around) (outer : List Env) (s : Shared) (H : Hp) (vs : List V) (Q : VK) (E : XK), Room k (A.deeper (envOfC x (defScope st) s.heap.objs.size (He.ga K x) cdv)) → sp vs H Q E →
      ∃ t, PSs (cxOf (L2.CX P w) P w K mg base N x (defScope st) (He.ga K x) cdv A outer s H E) (defBody st) t ∧ t { nx := fun _ H' => Q .non H', rt := Q } (start N vs) H) : Cl P w K mg base (L2.CX P w) (k + 1) x sp := by
  obtain ⟨fd, F⟩ := F
  exact ⟨He.ga K x, fd, ps, F.ok S len hbody, g, F.kp, F.bindsN hb⟩
end
end K8
-- K8Find
set_option maxRecDepth 100000
set_option maxHeartbeats 4000000
/-! dicts whose keys are words: whole numbers, texts and tuples of these beside one another -/
namespace K8
open PySem PySem.Spec PyProof.Rows
/-- the value is the key, of a depth that a look-up takes -/
def KeyAt (h : Heap) (k : NestedKey) (v : Value) : Prop := NestedIs h k v ∧ k.depth ≤ 8
theorem KeyAt.inj {h : Heap} {k k' : NestedKey} {v : Value} (a : KeyAt h k v) (b : KeyAt h k' v) : k = k' := NestedIs.inj _ _ _ a.1 b.1
/-- an entry: the key, its value, what is kept by it -/
abbrev En := NestedKey × Value × Value
def enOf (w : World) (x : En) : DictEntry := ⟨x.1.hash w, x.2.1, x.2.2⟩
structure Ens (w : World) (h : Heap) (es : Array DictEntry) (xs : List En) : Prop where
  eq : es.toList = xs.map (enOf w)
  key : ∀ x ∈ xs, KeyAt h x.1 x.2.1
  nd : (xs.map (·.1)).Nodup
section
variable {w : World} {h : Heap} {es : Array DictEntry} {xs : List En}
theorem Ens.at_ (E : Ens w h es xs) (j : Nat) : es[j]? = (xs[j]?).map (enOf w) := by
  rw [← Array.getElem?_toList, E.eq, List.getElem?_map]
theorem Ens.size (E : Ens w h es xs) : es.size = xs.length := by
  rw [← Array.length_toList, E.eq, List.length_map]
theorem Ens.one (E : Ens w h es xs) {i j : Nat} {k : NestedKey} {p q : Value × Value} (hi : xs[i]? = some (k, p)) (hj : xs[j]? = some (k, q)) : i = j := by
  have hi' : (xs.map (·.1))[i]? = some k := by rw [List.getElem?_map, hi]; rfl
  have hj' : (xs.map (·.1))[j]? = some k := by rw [List.getElem?_map, hj]; rfl
  exact (List.getElem?_inj (List.getElem?_eq_some_iff.mp hi').1 E.nd).mp (hi'.trans hj'.symm)
end
section
variable {prog : Program} {w : World} {A : Around} {E : Value → Shared → Prop} {s : Shared} {d : Addr} {o : Obj} {es : Array DictEntry} {ep : Nat} {xs : List En} {k : NestedKey} {key : Value}
theorem room_min {x y : NestedKey} {n : Nat} (hu : n + 8 < cLine) (hx : x.depth ≤ 8) : n + min x.depth y.depth < cLine := by
  have := Nat.min_le_left x.depth y.depth
  omega
/-- == of a stored key and the asked one -/
theorem keys_eq {k' : NestedKey} {u v : Value} {Q : Bool → Shared → Prop} (hu : A.units + 8 < cLine) (hk' : KeyAt s.heap k' u) (hk : KeyAt s.heap k v) (h : Q (decide (k' = k)) s) : wpAny (model prog w) A (eqBool u v) Q E s :=
  eqAt_key k' k A s u v hk'.1 hk.1 (room_min hu hk'.2) prog w E Q (by rw [← NestedKey.decide_eq]; exact h)
theorem tells_no {stored : List Value} {Q : Bool → Shared → Prop} (hk : KeyAt s.heap k key) (hst : ∀ v ∈ stored, ∃ k', KeyAt s.heap k' v) (h : Q false s) : wpAny (model prog w) A (tableMayTell key stored) Q E s := by
  unfold tableMayTell
  split
  · exact wpAny_pure h
  · refine wpAny_bind (quiet_key k key 8 s hk.1 hk.2 A E _ ?_)
    simp only [Bool.not_true, Bool.false_eq_true, if_false]
    refine wpAny_bind ?_
    refine wpAny_forIn_list _ (fun rest r t => t = s ∧ r = (none, ()) ∧ ∀ v ∈ rest, ∃ k', KeyAt s.heap k' v) _ ?_ ?_ _ _ ⟨rfl, rfl, hst⟩
    · rintro x rest r t ⟨rfl, rfl, hr⟩
      obtain ⟨k', hb⟩ := hr x List.mem_cons_self
      refine wpAny_bind (quiet_key k' x 8 _ hb.1 hb.2 A E _ ?_)
      simp only [Bool.not_true, Bool.false_eq_true, if_false]
      exact wpAny_pure ⟨rfl, rfl, fun v hv => hr v (List.mem_cons_of_mem _ hv)⟩
    · rintro r t ⟨rfl, rfl, _⟩
      exact wpAny_pure h
/-- the places that bear the asked hash -/
abbrev plc (w : World) (es : Array DictEntry) (k : NestedKey) (i : Nat) : List Nat := (List.range' i (es.size - i)).filter fun j => (es[j]?.map (·.hash)) == some (k.hash w)
theorem place_of (En : Ens w s.heap es xs) {j : Nat} {p : Value × Value} (hj : xs[j]? = some (k, p)) : ((es[j]?.map (·.hash)) == some (k.hash w)) = true := by
  rw [En.at_ j, hj]
  simp [enOf]
/-- what is known ahead of place i -/
abbrev NoAhead (xs : List En) (k : NestedKey) (i : Nat) : Prop := ∀ (j : Nat) (p : Value × Value), j < i → xs[j]? ≠ some (k, p)
theorem no_step (En : Ens w s.heap es xs) {i x : Nat} {k' : NestedKey} {q : Value × Value} (hno : NoAhead xs k i) (hskip : ∀ j, i ≤ j → j < x → ((es[j]?.map (·.hash)) == some (k.hash w)) = false) (hx : xs[x]? = some (k', q)) (hne : ¬ k' = k) : NoAhead xs k (x + 1) := by
  intro j p hjx hj
  rcases Nat.lt_or_ge j i with a | a
  · exact hno j p a hj
  · rcases Nat.lt_or_ge j x with b | b
    · have z := hskip j a b
      rw [place_of En hj] at z
      exact absurd z (by decide)
    · obtain rfl : j = x := by omega
      rw [hx] at hj
      cases hj
      exact hne rfl
theorem no_skip (En : Ens w s.heap es xs) {i x : Nat} (hno : NoAhead xs k i) (hskip : ∀ j, i ≤ j → j < x → ((es[j]?.map (·.hash)) == some (k.hash w)) = false) : NoAhead xs k x := by
  intro j p hjx hj
  rcases Nat.lt_or_ge j i with a | a
  · exact hno j p a hj
  · have z := hskip j a hjx
    rw [place_of En hj] at z
    exact absurd z (by decide)
theorem no_end (En : Ens w s.heap es xs) {i : Nat} (hno : NoAhead xs k i) (hr : plc w es k i = []) : ∀ (j : Nat) (p : Value × Value), xs[j]? ≠ some (k, p) := by
  intro j p hj
  have hl : j < es.size := by
    rw [En.size]
    exact (List.getElem?_eq_some_iff.mp hj).1
  refine no_skip (x := es.size) En hno (fun m h1 h2 => ?_) j p hl hj
  have z := List.filter_eq_nil_iff.mp hr m (List.mem_range'_1.mpr ⟨h1, by omega⟩)
  simpa using z
theorem plc_cons {i x : Nat} {rest : List Nat} (hr : x :: rest = plc w es k i) (hi : i ≤ es.size) : i ≤ x ∧ x < es.size ∧ (∀ j, i ≤ j → j < x → ((es[j]?.map (·.hash)) == some (k.hash w)) = false) ∧ rest = plc w es k (x + 1) := by
  obtain ⟨h1, h2, _, h4, h5⟩ := filter_range'_cons _ _ _ _ _ hr.symm
  have hx : x < es.size := by omega
  refine ⟨h1, hx, h4, ?_⟩
  rw [h5]
  congr 2
  omega
theorem en_at (En : Ens w s.heap es xs) {x : Nat} (hx : x < es.size) : ∃ k' u v, xs[x]? = some (k', u, v) ∧ KeyAt s.heap k' u ∧ es[x]? = some ⟨k'.hash w, u, v⟩ := by
  have hl : x < xs.length := by rw [← En.size]; exact hx
  obtain ⟨⟨k', u, v⟩, e⟩ : ∃ y, xs[x]? = some y := ⟨xs[x], List.getElem?_eq_getElem hl⟩
  exact ⟨k', u, v, e, En.key _ (List.mem_of_getElem? e), by rw [En.at_ x, e]; rfl⟩
/-- the walk where all that is asked is carried by value -/
theorem walk_plain {Q : Option Nat → Shared → Prop} (hu : A.units + 8 < cLine) (hk : KeyAt s.heap k key) (ho : s.heap.get? d = some o) (hd : o.data = .dict es ep) (En : Ens w s.heap es xs) (hnone : (∀ (j : Nat) (p : Value × Value), xs[j]? ≠ some (k, p)) → Q none s)
    (hsome : ∀ (j : Nat) (p : Value × Value), xs[j]? = some (k, p) → Q (some j) s) : wpAny (model prog w) A (dictWalkPlain d key (k.hash w) es (placesWithHash es.size (fun i => es[i]?.map (·.hash)) (k.hash w))) Q E s := by
  unfold dictWalkPlain
  refine wpAny_bind ?_
  refine wpAny_forIn_list _ (fun rest b t => t = s ∧ b = (none, ()) ∧ ∃ i, rest = plc w es k i ∧ i ≤ es.size ∧ NoAhead xs k i) _ ?_ ?_ _ _
    ⟨rfl, rfl, 0, by rw [placesWithHash, List.range_eq_range']; rfl, Nat.zero_le _, fun j p z => absurd z (Nat.not_lt_zero _)⟩
  · rintro x rest b t ⟨rfl, rfl, i, hr, hi, hno⟩
    obtain ⟨hix, hx, hskip, hrest⟩ := plc_cons hr hi
    obtain ⟨k', u, v, ex, hku, hex⟩ := en_at En hx
    rw [hex]
    dsimp only
    by_cases hh : (k'.hash w == k.hash w) = true
    · rw [if_pos hh]
      refine wpAny_bind (wpAny_dictEpoch ho hd (wpAny_bind (keys_eq hu hku hk (wpAny_bind (wpAny_dictEpoch ho hd ?_)))))
      show wpAny _ _ (if (ep != ep) = true then _ else _) _ E _
      rw [if_neg (by simp)]
      by_cases hkk : k' = k
      · subst hkk
        rw [decide_eq_true rfl]
        exact wpAny_bind (wpAny_rule (wpAny_pure (wpAny_pure (hsome x _ ex))))
      · rw [decide_eq_false hkk]
        exact wpAny_bind (wpAny_rule (wpAny_pure ⟨rfl, rfl, x + 1, hrest, hx, no_step En hno hskip ex hkk⟩))
    · rw [if_neg hh]
      refine wpAny_pure ⟨rfl, rfl, x + 1, hrest, hx, no_step En hno hskip ex fun z => ?_⟩
      rw [z] at hh
      simp at hh
  · rintro b t ⟨rfl, rfl, i, hr, hi, hno⟩
    exact wpAny_pure (hnone (no_end En hno hr.symm))
theorem found_text {Q : Option Nat → Shared → Prop} {x : Str} {t : Tok} (hu : A.units + 8 < cLine) (hk : KeyAt s.heap k (.str x t)) (ho : s.heap.get? d = some o) (hd : o.data = .dict es ep) (En : Ens w s.heap es xs) (hall : (es.all fun e => isExactStrKey e.key) = true)
    (hnone : (∀ (j : Nat) (p : Value × Value), xs[j]? ≠ some (k, p)) → Q none s) (hsome : ∀ (j : Nat) (p : Value × Value), xs[j]? = some (k, p) → Q (some j) s) : wpAny (model prog w) A (foundByValue d (.str x t) es x) Q E s := by
  have hkx : k = .text x := hk.inj ⟨.text x t, Nat.zero_le _⟩
  unfold foundByValue
  cases hf : es.findIdx? (fun e => e.key.isStr x) with
  | none =>
    refine wpAny_pure (hnone fun j p hj => ?_)
    have e1 := Array.findIdx?_eq_none_iff.mp hf
    have hej : es[j]? = some (enOf w (k, p)) := by rw [En.at_ j, hj]; rfl
    have z := e1 _ (Array.mem_of_getElem? hej)
    have hkp := En.key _ (List.mem_of_getElem? hj)
    obtain ⟨u, v⟩ := p
    have hkp : KeyAt s.heap k u := hkp
    rw [hkx] at hkp
    obtain ⟨hkp, _⟩ := hkp
    cases hkp with
    | text _ t' =>
      have z : (Value.str x t').isStr x = false := by simpa [enOf] using z
      simp [Value.isStr] at z
  | some i =>
    obtain ⟨hlt, hi, _⟩ := Array.findIdx?_eq_some_iff_getElem.mp hf
    obtain ⟨k', u, v, ex, hku, hex⟩ := en_at En hlt
    have hei : es[i] = ⟨k'.hash w, u, v⟩ := by
      rw [Array.getElem?_eq_getElem hlt] at hex
      exact Option.some.inj hex
    rw [hei] at hi
    have hkk : k' = k := by
      rw [hkx]
      obtain ⟨a, b⟩ := hku
      cases a with
      | text y t' =>
        have : y = x := by simpa [Value.isStr] using hi
        rw [this]
      | none => simp [Value.isStr] at hi
      | bool _ => simp [Value.isStr] at hi
      | int _ _ => simp [Value.isStr] at hi
      | tup _ _ _ _ => simp [Value.isStr] at hi
    subst hkk
    simp only [hex]
    refine wpAny_bind (wpAny_dictEpoch ho hd (wpAny_bind (keys_eq hu hku hk (wpAny_bind (wpAny_dictEpoch ho hd ?_)))))
    show wpAny _ _ (if (ep != ep) = true then _ else _) _ E _
    rw [if_neg (by simp), decide_eq_true rfl]
    exact wpAny_bind (wpAny_rule (wpAny_pure (hsome i _ ex)))
/-- the hit so far -/
def HitAt (xs : List En) (k : NestedKey) (i : Nat) (hit : Option Nat) : Prop := (hit = none ∧ NoAhead xs k i) ∨ ∃ j p, hit = some j ∧ j < i ∧ xs[j]? = some (k, p)
theorem wp_if {α : Type} {M : Model} {c : Prop} [Decidable c] {t u : Sem α} {Q : α → Shared → Prop} (h1 : c → wpAny M A t Q E s) (h2 : ¬ c → wpAny M A u Q E s) : wpAny M A (if c then t else u) Q E s := by
  by_cases h : c
  · rw [if_pos h]; exact h1 h
  · rw [if_neg h]; exact h2 h
theorem find_w {Q : Option Nat → Shared → Prop} (hu : A.units + 8 < cLine) (hk : KeyAt s.heap k key) (ho : s.heap.get? d = some o) (hd : o.data = .dict es ep) (En : Ens w s.heap es xs) (hnone : (∀ (j : Nat) (p : Value × Value), xs[j]? ≠ some (k, p)) → Q none s)
    (hsome : ∀ (j : Nat) (p : Value × Value), xs[j]? = some (k, p) → Q (some j) s) : wpAny (model prog w) A (dictFind d key (k.hash w)) Q E s := by
  have hst : ∀ v ∈ (placesWithHash es.size (fun i => es[i]?.map (·.hash)) (k.hash w)).filterMap (fun i => es[i]?.map (·.key)), ∃ k', KeyAt s.heap k' v := by
    intro v hv
    obtain ⟨i, _, hi⟩ := List.mem_filterMap.mp hv
    cases hei : es[i]? with
    | none => rw [hei] at hi; cases hi
    | some e =>
      rw [hei] at hi
      obtain rfl : e.key = v := by simpa using hi
      have hlt : i < es.size := (Array.getElem?_eq_some_iff.mp hei).1
      obtain ⟨k', u, v, _, hku, hex⟩ := en_at En hlt
      rw [hex] at hei
      cases hei
      exact ⟨k', hku⟩
  have hany : ∀ a, key = .ref a → ¬ (es.any fun e => e.key == key && e.hash != k.hash w) = true := by
    intro a _
    rw [← Array.any_toList, List.any_eq_true]
    rintro ⟨e, hin, hc⟩
    rw [En.eq] at hin
    obtain ⟨x, hx, rfl⟩ := List.mem_map.mp hin
    simp only [enOf, Bool.and_eq_true, beq_iff_eq, bne_iff_ne, ne_eq] at hc
    have hkx := En.key x hx
    rw [hc.1] at hkx
    exact hc.2 (by rw [hkx.inj hk])
  have key_case : (∃ x t, key = .str x t) ∨ (key = .none ∨ (∃ b, key = .bool b) ∨ ∃ i t, key = .int i t) ∨ ∃ a, key = .ref a := by
    obtain ⟨hk1, _⟩ := hk
    cases hk1 with
    | text x t => exact .inl ⟨x, t, rfl⟩
    | none => exact .inr (.inl (.inl rfl))
    | bool _ => exact .inr (.inl (.inr (.inl ⟨_, rfl⟩)))
    | int _ _ => exact .inr (.inl (.inr (.inr ⟨_, _, rfl⟩)))
    | tup _ _ _ _ => exact .inr (.inr ⟨_, rfl⟩)
  have pl := walk_plain (E := E) (prog := prog) (Q := Q) hu hk ho hd En hnone hsome
  unfold dictFind
  try with_reducible refine wpAny_holding ?_
  refine wpAny_bind (wpAny_dictEntries ho hd ?_)
  dsimp only
  rcases key_case with ⟨x, t, rfl⟩ | (rfl | ⟨b, rfl⟩ | ⟨i, t, rfl⟩) | ⟨a, rfl⟩
  all_goals dsimp only
  all_goals first
    | refine wp_if (fun hall => found_text hu hk ho hd En hall hnone hsome) (fun _ => wp_if (fun _ => pl) (fun _ => ?_))
    | refine wp_if (fun _ => pl) (fun _ => wp_if (fun h => absurd h (hany _ rfl)) (fun _ => ?_))
    | refine wp_if (fun _ => pl) (fun _ => ?_)
  all_goals refine wp_if (fun _ => wpAny_bind (wpAny_pure ?_)) (fun _ => wpAny_bind (tells_no hk hst ?_))
  all_goals
    rw [if_neg (by simp)]
    refine wpAny_bind ?_
    refine wpAny_forIn_list _ (fun rest b t => t = s ∧ ∃ i hit, b = (none, hit) ∧ rest = plc w es k i ∧ i ≤ es.size ∧ HitAt xs k i hit) _ ?_ ?_ _ _
      ⟨rfl, 0, none, rfl, by rw [placesWithHash, List.range_eq_range']; rfl, Nat.zero_le _, .inl ⟨rfl, fun j p z => absurd z (Nat.not_lt_zero _)⟩⟩
    · rintro x rest b t ⟨rfl, i, hit, rfl, hr, hi, hH⟩
      obtain ⟨hix, hx, hskip, hrest⟩ := plc_cons hr hi
      obtain ⟨k', u, v, ex, hku, hex⟩ := en_at En hx
      have stay : ¬ k' = k → HitAt xs k (x + 1) hit := fun hne => by
        rcases hH with ⟨h0, hno⟩ | ⟨j, p, h1, hj, hjp⟩
        · exact .inl ⟨h0, no_step En hno hskip ex hne⟩
        · exact .inr ⟨j, p, h1, by omega, hjp⟩
      rw [hex]
      dsimp only
      by_cases hh : (k'.hash w == k.hash w) = true
      · rw [if_pos hh]
        refine wpAny_bind (wpAny_dictEpoch ho hd (wpAny_bind (keys_eq hu hku hk (wpAny_bind (wpAny_dictEpoch ho hd ?_)))))
        show wpAny _ _ (if (ep != ep) = true then _ else _) _ E _
        rw [if_neg (by simp)]
        by_cases hkk : k' = k
        · subst hkk
          rw [decide_eq_true rfl]
          rcases hH with ⟨rfl, _⟩ | ⟨j, p, _, hj, hjp⟩
          · first | rw [if_pos rfl] | skip
            simp only [Option.isSome_none, Bool.false_eq_true, if_false]
            refine wpAny_bind (wpAny_rule ?_)
            split
            · exact wpAny_pure (wpAny_pure (hsome x _ ex))
            · exact wpAny_pure ⟨rfl, x + 1, some x, rfl, hrest, hx, .inr ⟨x, _, rfl, Nat.lt_succ_self x, ex⟩⟩
          · exact absurd (En.one hjp ex) (by omega)
        · rw [decide_eq_false hkk]
          simp only [Bool.false_eq_true, if_false]
          refine wpAny_bind (wpAny_rule ?_)
          first | rw [if_neg (by simp)] | skip
          first
            | exact wpAny_pure ⟨rfl, x + 1, hit, rfl, hrest, hx, stay hkk⟩
            | exact wpAny_bind (wpAny_pure (wpAny_pure ⟨rfl, x + 1, hit, rfl, hrest, hx, stay hkk⟩))
      · rw [if_neg hh]
        refine wpAny_pure ⟨rfl, x + 1, hit, rfl, hrest, hx, stay fun z => ?_⟩
        rw [z] at hh
        simp at hh
    · rintro b t ⟨rfl, i, hit, rfl, hr, hi, hH⟩
      rcases hH with ⟨rfl, hno⟩ | ⟨j, p, rfl, _, hjp⟩
      · exact wpAny_pure (hnone (no_end En hno hr.symm))
      · exact wpAny_pure (hsome j p hjp)
/-- what stands at a key -/
def enAt (xs : List En) (k : NestedKey) : Option Value := (xs.find? fun x => decide (x.1 = k)).map (·.2.2)
theorem enAt_some (hn : (xs.map (·.1)).Nodup) {j : Nat} {p : Value × Value} (h : xs[j]? = some (k, p)) : enAt xs k = some p.2 := by
  unfold enAt
  induction xs generalizing j with
  | nil => simp at h
  | cons x r ih =>
    rw [List.map_cons, List.nodup_cons] at hn
    cases j with
    | zero =>
      simp only [List.getElem?_cons_zero, Option.some.injEq] at h
      subst h
      simp
    | succ j =>
      simp only [List.getElem?_cons_succ] at h
      have m : k ∈ r.map (·.1) := List.mem_map.mpr ⟨(k, p), List.mem_of_getElem? h, rfl⟩
      have ne : ¬ x.1 = k := fun e => hn.1 (e ▸ m)
      rw [List.find?_cons_of_neg (by simpa using ne)]
      exact ih hn.2 h
theorem enAt_none (h : ∀ (j : Nat) (p : Value × Value), xs[j]? ≠ some (k, p)) : enAt xs k = none := by
  unfold enAt
  have : (xs.find? fun x => decide (x.1 = k)) = none := by
    rw [List.find?_eq_none]
    intro x hx hk
    obtain ⟨j, hj⟩ := List.mem_iff_getElem?.mp hx
    have e : x.1 = k := of_decide_eq_true hk
    exact h j x.2 (by rw [hj, ← e])
  rw [this]
  rfl
theorem get_w {Q : Option Value → Shared → Prop} (hu : A.units + 8 < cLine) (hk : KeyAt s.heap k key) (ho : s.heap.get? d = some o) (hd : o.data = .dict es ep) (En : Ens w s.heap es xs) (h : ∀ tk, Q (enAt xs k) { s with toks := tk }) : wpAny (model prog w) A (dictGet d key) Q E s := by
  unfold dictGet
  try with_reducible refine wpAny_holding ?_
  refine wpAny_bind (pyHash_key k key A s _ hk.1 (by have := hk.2; omega) (wpAny_bind (find_w (s := { s with toks := s.toks + k.draws }) hu hk ho hd En (fun hno => ?_) fun j p hj => ?_)))
  · have q := h (s.toks + k.draws)
    rw [enAt_none hno] at q
    exact wpAny_pure q
  · have q := h (s.toks + k.draws)
    rw [enAt_some En.nd hj] at q
    refine wpAny_bind (wpAny_dictEntries (s := { s with toks := s.toks + k.draws }) ho hd ?_)
    rw [En.at_ j, hj]
    exact wpAny_pure q
/-- an entry more -/
theorem set_w {v : Value} {Q : Unit → Shared → Prop} (hu : A.units + 8 < cLine) (hk : KeyAt s.heap k key) (ho : s.heap.get? d = some o) (hc : o.ExactDict) (hd : o.data = .dict es ep) (En : Ens w s.heap es xs) (hno : enAt xs k = none) (hz : xs.length ≤ sizeLine)
    (h : ∀ h' o' es' ep' tk, h'.get? d = some o' → o'.ExactDict → o'.data = .dict es' ep' → es'.toList = (xs ++ [(k, key, v)]).map (enOf w) → Heap.SameBut d s.heap h' → Q () { s with heap := h', toks := tk }) : wpAny (model prog w) A (dictSet d key v) Q E s := by
  unfold dictSet
  try with_reducible refine wpAny_holding ?_
  refine wpAny_bind (pyHash_key k key A s _ hk.1 (by have := hk.2; omega) ?_)
  unfold dictSetHashed
  try with_reducible refine wpAny_holding ?_
  refine wpAny_bind (find_w (s := { s with toks := s.toks + k.draws }) hu hk ho hd En (fun _ => ?_) fun j p hj => ?_)
  · refine wpAny_bind (wpAny_rule (wpAny_updateDictKeys (hz := by have e := En.size; omega) (s := { s with toks := s.toks + k.draws }) ho hd
      (h _ _ _ (ep + 1) _ (Heap.get?_update_self _ ho (Obj.isFreed_of_dict (Obj.data_mapDictKeys hd _))) (hc.mapDictKeys _) (Obj.data_mapDictKeys hd _) ?_ (Heap.SameBut.update ..))))
    simp [En.eq, enOf]
  · rw [enAt_some En.nd hj] at hno
    cases hno
end
end K8
-- K8Data
set_option maxRecDepth 100000
set_option maxHeartbeats 4000000
namespace K8
open PySem PySem.Spec PyProof.Rows L2
/-! ### the ground: what is told of the heap, apart from what is being changed -/
/-- M: what may be changed; H0, G0: heap and ground at the start; G, H: now -/
structure Gr (M : Addr → Prop) (H0 G0 G H : Hp) : Prop where
  up : Same G0 G
  sub : Same G H
  old : ∀ b o, H0 b = some o → ¬ M b → H b = some o
  new : ∀ b, H0 b ≠ none ∨ M b → G0 b = none → G b = none
abbrev NoM : Addr → Prop := fun _ => False
section
variable {M : Addr → Prop} {H0 G0 G H G' H' : Hp} {l : Addr} {o u : HO}
theorem Gr.start (h : Same G H) : Gr M H G G H := ⟨Same.refl _, h, fun _ _ e _ => e, fun _ _ e => e⟩
theorem Gr.trans (a : Gr M H0 G0 G H) (b : Gr M H G G' H') : Gr M H0 G0 G' H' where
  up := a.up.trans b.up
  sub := b.sub
  old := fun c o e n => b.old c o (a.old c o e n) n
  new := fun c h e => b.new c (by
    by_cases m : M c
    · exact .inr m
    · rcases h with h | h
      · cases q : H0 c with
        | none => exact absurd q h
        | some o => exact .inl (by rw [a.old c o q m]; exact fun z => nomatch z)
      · exact absurd h m) (a.new c h e)
theorem Gr.lift (a : Gr NoM H0 G0 G H) (hM : ∀ b, M b → H0 b ≠ none) : Gr M H0 G0 G H :=
  ⟨a.up, a.sub, fun b o e _ => a.old b o e (fun z => z), fun b h e => a.new b (.inl (h.elim id (hM b))) e⟩
theorem Gr.same (a : Gr NoM H0 G0 G H) : Same H0 H := fun b o e => a.old b o e (fun z => z)
theorem nn {b : Addr} (h : H b = some o) : H b ≠ none := by rw [h]; exact fun z => nomatch z
theorem ne_sn {a b : Addr} (h : G a = some o) (h' : G b = none) : a ≠ b := fun e => by
  rw [e, h'] at h
  cases h
theorem _root_.L2.Same.back (s : Same G H) (h : H l = none) : G l = none := s.free h
/-- a new object of one's own: not in the ground -/
theorem Gr.mine (a : Gr M H0 G0 G H) (h : H l = none) : Gr M H0 G0 G (upd H l o) :=
  ⟨a.up, fun b u e => by rw [upd_ne (ne_of_none (a.sub b u e) h)]; exact a.sub b u e, fun b u e n => by rw [upd_ne (ne_of_none (a.old b u e n) h)]; exact a.old b u e n, a.new⟩
/-- .. that is changed -/
theorem Gr.chg (a : Gr M H0 G0 G H) (h0 : H0 l = none ∨ M l) (hg : G l = none) : Gr M H0 G0 G (upd H l o) :=
  ⟨a.up, fun b u e => by rw [upd_ne (ne_sn e hg)]; exact a.sub b u e, fun b u e n => by
    have : b ≠ l := fun z => by
      subst z
      rcases h0 with h0 | h0
      · rw [h0] at e; cases e
      · exact n h0
    rw [upd_ne this]; exact a.old b u e n, a.new⟩
/-- one's own object goes to the ground -/
theorem Gr.give (a : Gr M H0 G0 G H) (h0 : H0 l = none) (hm : ¬ M l) (hg : G l = none) (hl : H l = some o) : Gr M H0 G0 (upd G l o) H :=
  ⟨fun b u e => by rw [upd_ne (ne_sn (a.up b u e) hg)]; exact a.up b u e, fun b u e => by
    by_cases z : b = l
    · subst z; rw [upd_same] at e; cases e; exact hl
    · rw [upd_ne z] at e; exact a.sub b u e, a.old, fun b hb e => by
    have : b ≠ l := fun z => by
      rw [z] at hb
      rcases hb with hb | hb
      · exact hb h0
      · exact hm hb
    rw [upd_ne this]; exact a.new b hb e⟩
/-- a new object, into the ground at once -/
theorem Gr.newG (a : Gr M H0 G0 G H) (h : H l = none) (hm : ¬ M l) (h0 : H0 l = none) : Gr M H0 G0 (upd G l o) (upd H l o) :=
  (a.mine h).give h0 hm (a.sub.free h) upd_same
theorem Gr.free0 (a : Gr NoM H0 G0 G H) (h : H l = none) : H0 l = none := a.same.free h
theorem Gr.freeM (a : Gr M H0 G0 G H) (h : H l = none) (hm : ¬ M l) : H0 l = none := by
  cases q : H0 l with
  | none => rfl
  | some o => rw [a.old l o q hm] at h; cases h
theorem Gr.newN (a : Gr NoM H0 G0 G H) (h : H l = none) : Gr NoM H0 G0 (upd G l o) (upd H l o) := a.newG h (fun z => z) (a.free0 h)
/-- what is one's own stays so behind a call -/
theorem Gr.keep (a : Gr NoM H G G' H') (h : H l = some o) : H' l = some o := a.same l o h
theorem Gr.out (a : Gr M H G G' H') (h : H l = some o) (hg : G l = none) : G' l = none := a.new l (.inl (nn h)) hg
end
theorem _root_.L2.Same.upd_none {G : Hp} {l : Addr} {o : HO} (h : G l = none) : Same G (upd G l o) := fun b u e => by
  rw [upd_ne (ne_sn e h)]; exact e
theorem _root_.L2.Same.mut {G H : Hp} {l : Addr} {o : HO} (s : Same G H) (h : G l = none) : Same G (upd H l o) := fun b u e => by
  rw [upd_ne (ne_sn e h)]; exact s b u e
theorem _root_.L2.Same.to_upd {G H : Hp} {l : Addr} {o : HO} (s : Same G H) (h : H l = none) : Same G (upd H l o) := s.trans (Same.upd_none h)
/-! ### sequences -/
/-- lists and tuples stand -/
structure SameS (K : PySem.W.Frag) (G H : Hp) : Prop where
  l : ∀ a xs, SqL K G a xs → SqL K H a xs
  t : ∀ a xs, SqT K G a xs → SqT K H a xs
theorem rd_same {G H : Hp} {a : Addr} {u : HO} (s : Same G H) (h : Rd G a u) : Rd H a u := by
  rcases h with h | ⟨o, h⟩
  · exact .inl (s _ _ h)
  · exact .inr ⟨o, s _ _ h⟩
theorem _root_.L2.Same.sq {K : PySem.W.Frag} {G H : Hp} (s : Same G H) : SameS K G H where
  l := fun _ _ h => s.seq h
  t := fun _ _ h => h.elim (fun h => .inl (rd_same s h)) .inr
theorem _root_.L2.Same.tp {K : PySem.W.Frag} {G H : Hp} {a : Addr} {xs : List V} (s : Same G H) (h : SqT K G a xs) : SqT K H a xs := (s.sq (K := K)).t _ _ h
theorem SameS.trans {K : PySem.W.Frag} {G H J : Hp} (a : SameS K G H) (b : SameS K H J) : SameS K G J := ⟨fun x xs h => b.l x xs (a.l x xs h), fun x xs h => b.t x xs (a.t x xs h)⟩
/-- locked, unlocked: an object that is no list and no tuple -/
def noSeq : HO → Prop
  | .lst _ => False
  | .tup _ => False
  | .frz _ u => noSeq u
  | _ => True
theorem rd_upd {G : Hp} {d a : Addr} {o u v : HO} (hd : G d = some o) (ho : noSeq o) (hv : ∀ w, Rd (fun b => if b = a then some o else none) a w → noSeq w) (hu : ¬ noSeq u) (h : Rd G a u) : Rd (upd G d v) a u := by
  have : a ≠ d := fun e => by
    subst e
    rcases h with h | ⟨ob, h⟩
    · rw [hd] at h; cases h; exact hu ho
    · rw [hd] at h; cases h; exact hu ho
  rcases h with h | ⟨ob, h⟩
  · exact .inl (by rw [upd_ne this]; exact h)
  · exact .inr ⟨ob, by rw [upd_ne this]; exact h⟩
theorem sameS_upd {K : PySem.W.Frag} {G : Hp} {d : Addr} {o v : HO} (hd : G d = some o) (ho : noSeq o) : SameS K G (upd G d v) where
  l := fun a xs h => h.elim (fun h => .inl (by
    have : a ≠ d := fun e => by
      subst e
      rcases h with h | ⟨ob, h⟩ <;> (rw [hd] at h; cases h; exact ho)
    rcases h with h | ⟨ob, h⟩
    · exact .inl (by rw [upd_ne this]; exact h)
    · exact .inr ⟨ob, by rw [upd_ne this]; exact h⟩)) .inr
  t := fun a xs h => h.elim (fun h => .inl (by
    have : a ≠ d := fun e => by
      subst e
      rcases h with h | ⟨ob, h⟩ <;> (rw [hd] at h; cases h; exact ho)
    rcases h with h | ⟨ob, h⟩
    · exact .inl (by rw [upd_ne this]; exact h)
    · exact .inr ⟨ob, by rw [upd_ne this]; exact h⟩)) .inr
mutual
theorem dp_sameS {K : PySem.W.Frag} {G H : Hp} (s : SameS K G H) : ∀ (d : PyData) (v : V), Dp K G v d → Dp K H v d
  | .none, _, h => by cases h; exact .non
  | .bool b, _, h => by cases h; exact .bl b
  | .int i, _, h => by cases h; exact .int i
  | .str x, _, h => by cases h; exact .str x
  | .list ds, _, h => by cases h with | lst a b => exact .lst (s.l _ _ a) (dpA_sameS s ds _ b)
  | .tuple ds, _, h => by cases h with | tup a b => exact .tup (s.t _ _ a) (dpA_sameS s ds _ b)
  | .dict _, _, h => by cases h
theorem dpA_sameS {K : PySem.W.Frag} {G H : Hp} (s : SameS K G H) : ∀ (ds : List PyData) (vs : List V), DpAll K G vs ds → DpAll K H vs ds
  | [], _, h => by cases h; exact .nil
  | d :: ds, _, h => by cases h with | cons a b => exact .cons (dp_sameS s d _ a) (dpA_sameS s ds _ b)
end
theorem dp_mono {K : PySem.W.Frag} {G H : Hp} (s : Same G H) {d : PyData} {v : V} (h : Dp K G v d) : Dp K H v d := dp_sameS s.sq d v h
theorem dpA_mono {K : PySem.W.Frag} {G H : Hp} (s : Same G H) {d : List PyData} {v : List V} (h : DpAll K G v d) : DpAll K H v d := dpA_sameS s.sq d v h
/-- data, lists and tuples told alike -/
inductive D where
  | lf (v : V)
  | sq (l : List D)
def flatD : V → Bool
  | .non => true
  | .bl _ => true
  | .int _ => true
  | .str _ => true
  | _ => false
mutual
inductive Dq (K : PySem.W.Frag) (H : Hp) : V → D → Prop
  | lf {v : V} : flatD v = true → Dq K H v (.lf v)
  | dct {a : Addr} {kvs : List (Key × V)} : H a = some (.dK kvs) → Dq K H (.ref a) (.lf (.ref a))
  | lst {a : Addr} {xs : List V} {ds : List D} : SqL K H a xs → DqAll K H xs ds → Dq K H (.ref a) (.sq ds)
  | tup {a : Addr} {xs : List V} {ds : List D} : SqT K H a xs → DqAll K H xs ds → Dq K H (.ref a) (.sq ds)
inductive DqAll (K : PySem.W.Frag) (H : Hp) : List V → List D → Prop
  | nil : DqAll K H [] []
  | cons {v : V} {vs : List V} {d : D} {ds : List D} : Dq K H v d → DqAll K H vs ds → DqAll K H (v :: vs) (d :: ds)
end
mutual
theorem Dq.mono {K : PySem.W.Frag} {G H : Hp} (s : Same G H) : ∀ (d : D) (v : V), Dq K G v d → Dq K H v d
  | .lf u, _, h => by
    cases h with
    | lf a => exact .lf a
    | dct a => exact .dct (s _ _ a)
  | .sq ds, _, h => by
    cases h with
    | lst a b => exact .lst (s.seq a) (DqAll.mono s ds _ b)
    | tup a b => exact .tup (s.tp a) (DqAll.mono s ds _ b)
theorem DqAll.mono {K : PySem.W.Frag} {G H : Hp} (s : Same G H) : ∀ (ds : List D) (vs : List V), DqAll K G vs ds → DqAll K H vs ds
  | [], _, h => by cases h; exact .nil
  | d :: ds, _, h => by cases h with | cons a b => exact .cons (Dq.mono s d _ a) (DqAll.mono s ds _ b)
end
theorem DqAll.length {K : PySem.W.Frag} {H : Hp} : ∀ {vs : List V} {ds : List D}, DqAll K H vs ds → vs.length = ds.length
  | _, _, .nil => rfl
  | _, _, .cons _ t => congrArg Nat.succ (DqAll.length t)
theorem DqAll.get {K : PySem.W.Frag} {H : Hp} : ∀ {vs : List V} {ds : List D} {i : Nat} {v : V}, DqAll K H vs ds → vs[i]? = some v → ∃ d, ds[i]? = some d ∧ Dq K H v d
  | _, _, _, _, .nil, h => by simp at h
  | _, _, 0, _, .cons a _, h => by simp at h; subst h; exact ⟨_, rfl, a⟩
  | _, _, i + 1, v, .cons _ t, h => by
    obtain ⟨d, h1, h2⟩ := DqAll.get (i := i) (v := v) t (by simpa using h)
    exact ⟨d, by simpa using h1, h2⟩
theorem dpA_length {K : PySem.W.Frag} {H : Hp} : ∀ {vs : List V} {ds : List PyData}, DpAll K H vs ds → vs.length = ds.length
  | _, _, .nil => rfl
  | _, _, .cons _ t => congrArg Nat.succ (dpA_length t)
theorem dpA_get {K : PySem.W.Frag} {H : Hp} : ∀ {vs : List V} {ds : List PyData} {i : Nat} {v : V}, DpAll K H vs ds → vs[i]? = some v → ∃ d, ds[i]? = some d ∧ Dp K H v d
  | _, _, _, _, .nil, h => by simp at h
  | _, _, 0, _, .cons a _, h => by simp at h; subst h; exact ⟨_, rfl, a⟩
  | _, _, i + 1, v, .cons _ t, h => by
    obtain ⟨d, h1, h2⟩ := dpA_get (i := i) (v := v) t (by simpa using h)
    exact ⟨d, by simpa using h1, h2⟩
theorem dpA_snoc {K : PySem.W.Frag} {H : Hp} {v : V} {d : PyData} (h : Dp K H v d) : ∀ {vs : List V} {ds : List PyData}, DpAll K H vs ds → DpAll K H (vs ++ [v]) (ds ++ [d])
  | _, _, .nil => .cons h .nil
  | _, _, .cons a t => .cons a (dpA_snoc h t)
theorem DqAll.snoc {K : PySem.W.Frag} {H : Hp} {v : V} {d : D} (h : Dq K H v d) : ∀ {vs : List V} {ds : List D}, DqAll K H vs ds → DqAll K H (vs ++ [v]) (ds ++ [d])
  | _, _, .nil => .cons h .nil
  | _, _, .cons a t => .cons a (DqAll.snoc h t)
/-! ### types of values -/
theorem tyx_l {K : PySem.W.Frag} {H : Hp} {a : Addr} {xs : List V} (h : SqL K H a xs) : TyX K H (.ref a) (.type "list") := by
  rcases h with (h | ⟨o, h⟩) | ⟨o, its, n, hk, hc, _⟩
  · exact .base (.lst h)
  · exact .base (.frz h)
  · exact .kList hk hc
theorem tyx_t {K : PySem.W.Frag} {H : Hp} {a : Addr} {xs : List V} (h : SqT K H a xs) : TyX K H (.ref a) (.type "tuple") := by
  rcases h with (h | ⟨o, h⟩) | ⟨o, its, n, hk, hc, _⟩
  · exact .base (.tup h)
  · exact .fTuple h
  · exact .kTuple hk hc
def flatTy : V → String
  | .non => "NoneType"
  | .bl _ => "bool"
  | .int _ => "int"
  | _ => "str"
theorem tyx_f {K : PySem.W.Frag} {H : Hp} {v : V} (h : flatD v = true) : TyX K H v (.type (flatTy v)) := by
  cases v with
  | non => exact .base .non
  | bl b => exact .base (.bl b)
  | int i => exact .base (.int i)
  | str x => exact .base (.str x)
  | _ => cases h
def isSq : D → Bool
  | .sq _ => true
  | _ => false
/-- what isinstance sees of data -/
theorem Dq.ty {K : PySem.W.Frag} {H : Hp} {v : V} {d : D} (h : Dq K H v d) : ∃ t : String, TyX K H v (.type t) ∧ (isSq d = true ∧ (t = "list" ∨ t = "tuple") ∨ isSq d = false ∧ (t = "NoneType" ∧ v = .non ∨ t = "bool" ∧ (∃ b, v = .bl b) ∨ t = "int" ∧ (∃ i, v = .int i) ∨ t = "str" ∧ (∃ x, v = .str x) ∨ t = "dict" ∧ ∃ a, v = .ref a)) := by
  cases h with
  | lf a =>
    refine ⟨_, tyx_f a, .inr ⟨rfl, ?_⟩⟩
    cases v with
    | non => exact .inl ⟨rfl, rfl⟩
    | bl b => exact .inr (.inl ⟨rfl, _, rfl⟩)
    | int i => exact .inr (.inr (.inl ⟨rfl, _, rfl⟩))
    | str x => exact .inr (.inr (.inr (.inl ⟨rfl, _, rfl⟩)))
    | _ => cases a
  | dct a => exact ⟨_, .base (.dK a), .inr ⟨rfl, .inr (.inr (.inr (.inr ⟨rfl, _, rfl⟩)))⟩⟩
  | lst a _ => exact ⟨_, tyx_l a, .inl ⟨rfl, .inl rfl⟩⟩
  | tup a _ => exact ⟨_, tyx_t a, .inl ⟨rfl, .inr rfl⟩⟩
/-! ### lists or tuples walked -/
def Sq (K : PySem.W.Frag) (H : Hp) (a : Addr) (xs : List V) : Prop := SqL K H a xs ∨ SqT K H a xs
theorem _root_.L2.Same.q {K : PySem.W.Frag} {G H : Hp} {a : Addr} {xs : List V} (s : Same G H) (h : Sq K G a xs) : Sq K H a xs := h.elim (fun h => .inl (s.seq h)) fun h => .inr (s.tp h)
theorem SameS.q {K : PySem.W.Frag} {G H : Hp} {a : Addr} {xs : List V} (s : SameS K G H) (h : Sq K G a xs) : Sq K H a xs := h.elim (fun h => .inl (s.l _ _ h)) fun h => .inr (s.t _ _ h)
def Itq (K : PySem.W.Frag) (a : Addr) (b : Bool) : It := if b then Itl K a else Itt K a
def iSq (K : PySem.W.Frag) (tl : TE) : TI := fun σ H R => tl σ H fun x H1 => ∃ a, x = .ref a ∧ ((∃ xs, SqL K H1 a xs) ∧ R (Itl K a) H1 ∨ (∃ xs, SqT K H1 a xs) ∧ R (Itt K a) H1)
theorem pi_sq {X : Cx} {tg l : Expr} {tl : TE} (hl : PE X l tl) : PI X tg l (iSq X.K tl) := by
  refine ⟨fun pins s σ H R I h => ?_⟩
  refine thn (hl.run pins s σ H _ I h) fun v s1 ⟨x, H1, I1, r1, q1⟩ => ?_
  obtain ⟨a, e, q⟩ := q1
  subst e
  cases r1
  rcases q with ⟨⟨xs, hq⟩, q⟩ | ⟨⟨xs, hq⟩, q⟩
  · obtain ⟨its, rv, p, hz⟩ := I1.list hq
    refine wpAny_pyIter_list p.isList ⟨s1.heap.objs.size, [s1.heap.objs.size], _, _, H1, rfl, I1.kept (t' := s1.toks) fun b o e => Heap.get?_push_of_some _ e, turn_list a _, ⟨_, Heap.get?_push_size _ rfl, rfl, rfl⟩, fun b hb => ?_, q⟩
    obtain rfl : b = s1.heap.objs.size := by simpa using hb
    exact I1.fpOk (Nat.le_refl _) (I1.hok.fresh (Nat.le_refl _))
  · obtain ⟨its, rv, p, hz⟩ := I1.tuple hq
    refine wpAny_pyIter_tuple (show s1.heap.IsTuple a its.toArray from p) ⟨s1.heap.objs.size, [s1.heap.objs.size], _, _, H1, rfl, I1.kept (t' := s1.toks) fun b o e => Heap.get?_push_of_some _ e, turn_tuple a _, ⟨_, Heap.get?_push_size _ rfl, rfl, rfl⟩, fun b hb => ?_, q⟩
    obtain rfl : b = s1.heap.objs.size := by simpa using hb
    exact I1.fpOk (Nat.le_refl _) (I1.hok.fresh (Nat.le_refl _))
theorem Dq.seq {K : PySem.W.Frag} {H : Hp} {v : V} {l : List D} (h : Dq K H v (.sq l)) : ∃ a xs, v = .ref a ∧ Sq K H a xs ∧ DqAll K H xs l := by
  cases h with
  | lst a b => exact ⟨_, _, rfl, .inl a, b⟩
  | tup a b => exact ⟨_, _, rfl, .inr a, b⟩
/-! ### list comprehensions that change nothing of what stands -/
/-- what one turn asks -/
def LcTurn (M : Addr → Prop) (g : TG) (tt : TT) (te : TE) (vs : List Nat) (σ : L2.St) (R : Nat → List V → Hp → Prop) (i : Nat) (x : V) (acc : List V) (G H : Hp) : Prop :=
  ∀ (Ky : VK) (Kn : Hp → Prop), (∀ y H4 G', Gr M H G G' H4 → R (i + 1) (acc ++ [y]) G' → Ky y H4) → (∀ H3 G', Gr M H G G' H3 → R (i + 1) acc G' → Kn H3) →
    g x (wipe σ vs) H fun σ2 H2 => wipe σ2 vs = wipe σ vs ∧ tt σ2 H2 fun b H3 => if b = true then te σ2 H3 Ky else Kn H3
section
variable {K : PySem.W.Frag} {M : Addr → Prop} {a : Addr} {xs : List V} {g : TG} {tt : TT} {te : TE} {vs : List Nat} {σ : L2.St} {H1 G1 : Hp} {D : Addr} {Qd : Hp → Prop}
/-- the invariant -/
def LcInv (M : Addr → Prop) (H1 G1 : Hp) (D : Addr) (R : Nat → List V → Hp → Prop) (i : Nat) (H : Hp) : Prop :=
  ∃ acc G, Gr M H1 G1 G H ∧ H D = some (.lst acc) ∧ G D = none ∧ acc.length ≤ i ∧ R i acc G
theorem lcInv_start {R : Nat → List V → Hp → Prop} (hD : H1 D = none) (s : Same G1 H1) (r : R 0 [] G1) : LcInv M H1 G1 D R 0 (upd H1 D (.lst [])) :=
  ⟨[], G1, (Gr.start s).mine hD, upd_same, s.free hD, Nat.le_refl _, r⟩
theorem lcInv_turn {R : Nat → List V → Hp → Prop} {i : Nat} {x : V} {H : Hp} (hD : H1 D = none) (hm : ¬ M D) (hz : i < sizeLine)
    (hs : ∀ acc G, Gr M H1 G1 G H → acc.length ≤ i → R i acc G → LcTurn M g tt te vs σ R i x acc G H) (p : LcInv M H1 G1 D R i H) :
    g x (wipe σ vs) H fun σ2 H2 => wipe σ2 vs = wipe σ vs ∧ tt σ2 H2 fun b H3 => if b = true then te σ2 H3 fun y H4 => ∃ acc, H4 D = some (.lst acc) ∧ acc.length < sizeLine ∧ LcInv M H1 G1 D R (i + 1) (upd H4 D (.lst (acc ++ [y]))) else LcInv M H1 G1 D R (i + 1) H3 := by
  obtain ⟨acc, G, gr, hd, hg, hl, r⟩ := p
  refine hs acc G gr hl r _ _ (fun y H4 G' gr' r' => ?_) (fun H3 G' gr' r' => ?_)
  · refine ⟨acc, gr'.old D _ hd hm, Nat.lt_of_le_of_lt hl hz, acc ++ [y], G', (gr.trans gr').chg (.inl hD) (gr'.out hd hg), upd_same, gr'.out hd hg, ?_, r'⟩
    rw [List.length_append]
    exact Nat.succ_le_succ hl
  · exact ⟨acc, G', gr.trans gr', gr'.old D _ hd hm, gr'.out hd hg, Nat.le_succ_of_le hl, r'⟩
/-- the end: the new list is in the ground -/
theorem lcInv_end {R : Nat → List V → Hp → Prop} {H : Hp} {i : Nat} (hD : H1 D = none) (hm : ¬ M D) (p : LcInv M H1 G1 D R i H)
    (hd : ∀ acc G, Gr M H1 G1 (upd G D (.lst acc)) H → G D = none → acc.length ≤ i → R i acc G → Qd H) : Qd H := by
  obtain ⟨acc, G, gr, h, hg, hl, r⟩ := p
  exact hd acc G (gr.give hD hm hg h) hg hl r
theorem lc_gl (R : Nat → List V → Hp → Prop) (hD : H1 D = none) (hm : ¬ M D) (s : Same G1 H1) (src : SqL K G1 a xs) (hz : xs.length ≤ sizeLine) (r0 : R 0 [] G1)
    (hs : ∀ i x acc G H, xs[i]? = some x → Gr M H1 G1 G H → acc.length ≤ i → R i acc G → LcTurn M g tt te vs σ R i x acc G H)
    (hd : ∀ acc G H, Gr M H1 G1 (upd G D (.lst acc)) H → G D = none → acc.length ≤ xs.length → R xs.length acc G → Qd H) :
    ∃ W : Nat → Nat → Hp → Prop, (∃ m, W 0 m (upd H1 D (.lst []))) ∧ ∀ i m H, W i m H →
      ((Itl K a).stop i H ∧ Qd H) ∨ ((Itl K a).go i H ∧ ∃ Nx : Hp → Prop, (∀ H', Nx H' → ∃ m', m' < m ∧ W (i + 1) m' H') ∧ ∀ x H', (Itl K a).yld i H x H' → g x (wipe σ vs) H' fun σ2 H2 => wipe σ2 vs = wipe σ vs ∧ tt σ2 H2 fun b H3 =>
        if b = true then te σ2 H3 fun y H4 => ∃ acc, H4 D = some (.lst acc) ∧ acc.length < sizeLine ∧ Nx (upd H4 D (.lst (acc ++ [y]))) else Nx H3) :=
  lc_list (LcInv M H1 G1 D R) (lcInv_start hD s r0) (fun i H _ ⟨_, _, gr, _⟩ => (gr.up.trans gr.sub).seq src)
    (fun i x H hx p => lcInv_turn hD hm (Nat.lt_of_lt_of_le (List.getElem?_eq_some_iff.mp hx).1 hz) (fun acc G gr hl r => hs i x acc G H hx gr hl r) p)
    (fun H p => lcInv_end hD hm p fun acc G gr hg hl r => hd acc G H gr hg hl r)
theorem lc_gt (R : Nat → List V → Hp → Prop) (hD : H1 D = none) (hm : ¬ M D) (s : Same G1 H1) (src : SqT K G1 a xs) (hz : xs.length ≤ sizeLine) (r0 : R 0 [] G1)
    (hs : ∀ i x acc G H, xs[i]? = some x → Gr M H1 G1 G H → acc.length ≤ i → R i acc G → LcTurn M g tt te vs σ R i x acc G H)
    (hd : ∀ acc G H, Gr M H1 G1 (upd G D (.lst acc)) H → G D = none → acc.length ≤ xs.length → R xs.length acc G → Qd H) :
    ∃ W : Nat → Nat → Hp → Prop, (∃ m, W 0 m (upd H1 D (.lst []))) ∧ ∀ i m H, W i m H →
      ((Itt K a).stop i H ∧ Qd H) ∨ ((Itt K a).go i H ∧ ∃ Nx : Hp → Prop, (∀ H', Nx H' → ∃ m', m' < m ∧ W (i + 1) m' H') ∧ ∀ x H', (Itt K a).yld i H x H' → g x (wipe σ vs) H' fun σ2 H2 => wipe σ2 vs = wipe σ vs ∧ tt σ2 H2 fun b H3 =>
        if b = true then te σ2 H3 fun y H4 => ∃ acc, H4 D = some (.lst acc) ∧ acc.length < sizeLine ∧ Nx (upd H4 D (.lst (acc ++ [y]))) else Nx H3) :=
  lc_tup (LcInv M H1 G1 D R) (lcInv_start hD s r0) (fun i H _ ⟨_, _, gr, _⟩ => (gr.up.trans gr.sub).tp src)
    (fun i x H hx p => lcInv_turn hD hm (Nat.lt_of_lt_of_le (List.getElem?_eq_some_iff.mp hx).1 hz) (fun acc G gr hl r => hs i x acc G H hx gr hl r) p)
    (fun H p => lcInv_end hD hm p fun acc G gr hg hl r => hd acc G H gr hg hl r)
theorem lc_gr {lo : Int} {n : Nat} (R : Nat → List V → Hp → Prop) (hD : H1 D = none) (hm : ¬ M D) (s : Same G1 H1) (hz : n ≤ sizeLine) (r0 : R 0 [] G1)
    (hs : ∀ i acc G H, i < n → Gr M H1 G1 G H → acc.length ≤ i → R i acc G → LcTurn M g tt te vs σ R i (.int (lo + i)) acc G H)
    (hd : ∀ acc G H, Gr M H1 G1 (upd G D (.lst acc)) H → G D = none → acc.length ≤ n → R n acc G → Qd H) :
    ∃ W : Nat → Nat → Hp → Prop, (∃ m, W 0 m (upd H1 D (.lst []))) ∧ ∀ i m H, W i m H →
      ((Itr lo n).stop i H ∧ Qd H) ∨ ((Itr lo n).go i H ∧ ∃ Nx : Hp → Prop, (∀ H', Nx H' → ∃ m', m' < m ∧ W (i + 1) m' H') ∧ ∀ x H', (Itr lo n).yld i H x H' → g x (wipe σ vs) H' fun σ2 H2 => wipe σ2 vs = wipe σ vs ∧ tt σ2 H2 fun b H3 =>
        if b = true then te σ2 H3 fun y H4 => ∃ acc, H4 D = some (.lst acc) ∧ acc.length < sizeLine ∧ Nx (upd H4 D (.lst (acc ++ [y]))) else Nx H3) :=
  lc_range (LcInv M H1 G1 D R) (lcInv_start hD s r0)
    (fun i H hi p => lcInv_turn hD hm (Nat.lt_of_lt_of_le hi hz) (fun acc G gr hl r => hs i acc G H hi gr hl r) p)
    (fun H p => lcInv_end hD hm p fun acc G gr hg hl r => hd acc G H gr hg hl r)
/-- over anything that is walked and gives no new pairs -/
theorem lc_w {J : It} {n : Nat} {Gd : Hp → Prop} {Y : Nat → Hp → V → Hp → Prop} (wk : Walk J n Gd Y) (hY : ∀ i H x H', Y i H x H' → H' = H) (R : Nat → List V → Hp → Prop) (hD : H1 D = none) (hm : ¬ M D) (s : Same G1 H1) (hGd : ∀ G H, Gr M H1 G1 G H → Gd H) (hz : n ≤ sizeLine) (r0 : R 0 [] G1)
    (hs : ∀ i x acc G H, i < n → Y i H x H → Gr M H1 G1 G H → acc.length ≤ i → R i acc G → LcTurn M g tt te vs σ R i x acc G H)
    (hd : ∀ acc G H, Gr M H1 G1 (upd G D (.lst acc)) H → G D = none → acc.length ≤ n → R n acc G → Qd H) :
    ∃ W : Nat → Nat → Hp → Prop, (∃ m, W 0 m (upd H1 D (.lst []))) ∧ ∀ i m H, W i m H →
      (J.stop i H ∧ Qd H) ∨ (J.go i H ∧ ∃ Nx : Hp → Prop, (∀ H', Nx H' → ∃ m', m' < m ∧ W (i + 1) m' H') ∧ ∀ x H', J.yld i H x H' → g x (wipe σ vs) H' fun σ2 H2 => wipe σ2 vs = wipe σ vs ∧ tt σ2 H2 fun b H3 =>
        if b = true then te σ2 H3 fun y H4 => ∃ acc, H4 D = some (.lst acc) ∧ acc.length < sizeLine ∧ Nx (upd H4 D (.lst (acc ++ [y]))) else Nx H3) :=
  lc_it wk (LcInv M H1 G1 D R) (lcInv_start hD s r0) (fun i H _ ⟨_, G, gr, _⟩ => hGd G H gr)
    (fun i x H H' hi p y => by
      obtain rfl := hY i H x H' y
      exact lcInv_turn hD hm (Nat.lt_of_lt_of_le hi hz) (fun acc G gr hl r => hs i x acc G _ hi y gr hl r) p)
    (fun H p => lcInv_end hD hm p fun acc G gr hg hl r => hd acc G H gr hg hl r)
/-- the whole reading of a comprehension over a list or a tuple -/
theorem lc_any {tl : TE} {Q : VK} {H : Hp} (v : V) (G1 : Hp) (R : Nat → List V → Hp → Prop) (hv : ∀ R', (R' v H) → tl σ H R') (ha : v = .ref a) (hm : ∀ b, H b = none → ¬ M b) (s : Same G1 H) (src : Sq K G1 a xs) (hz : xs.length ≤ sizeLine) (r0 : R 0 [] G1)
    (hs : ∀ D, H D = none → ∀ i x acc G H', xs[i]? = some x → Gr M H G1 G H' → acc.length ≤ i → R i acc G → LcTurn M g tt te vs σ R i x acc G H')
    (hd : ∀ D acc G H', H D = none → Gr M H G1 (upd G D (.lst acc)) H' → G D = none → acc.length ≤ xs.length → R xs.length acc G → Q (.ref D) H') : tLc (iSq K tl) g tt te vs σ H Q := by
  refine hv _ ⟨a, ha, ?_⟩
  rcases src with src | src
  · exact .inl ⟨⟨xs, s.seq src⟩, fun D hD => lc_gl R hD (hm D hD) s src hz r0 (hs D hD) (fun acc G H' => hd D acc G H' hD)⟩
  · exact .inr ⟨⟨xs, s.tp src⟩, fun D hD => lc_gt R hD (hm D hD) s src hz r0 (hs D hD) (fun acc G H' => hd D acc G H' hD)⟩
end
end K8
-- K8WDict
set_option maxRecDepth 100000
set_option maxHeartbeats 4000000
namespace K8
open PySem PySem.Spec PyProof.Rows L2
/-! ### a dict keyed by words, tracked -/
/-- the key, the value that stands as the key, the value -/
abbrev WE := NestedKey × V × V
def relE (w : World) (x : WE) (e : DictEntry) : Prop := e.hash = x.1.hash w ∧ RelV x.2.1 e.key ∧ RelV x.2.2 e.val
/-- at a: a dict of these -/
def wdO (w : World) (a : Addr) (kvs : List WE) (ep : Nat) : HO := .ext fun h => ∃ es, h.DictRaw a es ep ∧ Paired (relE w) kvs es.toList
theorem wd_ok {P : Program} {w : World} {H : Hp} {h : Heap} {a : Addr} {es : Array DictEntry} {ep : Nat} {kvs : List WE} (d : h.DictRaw a es ep) (p : Paired (relE w) kvs es.toList) : ObjOk P w H h a (wdO w a kvs ep) :=
  ⟨⟨es, d, p⟩, let ⟨o, ho, _⟩ := d; ⟨o, ho⟩, fun h1 h2 ⟨e1, d1, p1⟩ k => ⟨e1, d1.at fun o e => k o e, p1⟩⟩
structure WD (K : PySem.W.Frag) (w : World) (H : Hp) (a : Addr) (kvs : List WE) (ep : Nat) : Prop where
  rd : Rd H a (wdO w a kvs ep)
  key : ∀ x ∈ kvs, Dp K H x.2.1 x.1.data ∧ x.1.depth ≤ 8
  nd : (kvs.map (·.1)).Nodup
  sm : (a == sysModules) = false
  sz : kvs.length ≤ 100000
theorem WD.same {K : PySem.W.Frag} {w : World} {G H : Hp} {a : Addr} {kvs : List WE} {ep : Nat} (d : WD K w G a kvs ep) (s : Same G H) : WD K w H a kvs ep where
  rd := rd_same s d.rd
  key := fun x m => ⟨dp_mono s (d.key x m).1, (d.key x m).2⟩
  nd := d.nd
  sm := d.sm
  sz := d.sz
/-- the value at a key -/
def wV (kvs : List WE) (k : NestedKey) : Option V := (kvs.find? fun x => decide (x.1 = k)).map (·.2.2)
mutual
theorem nest_of {X : Cx} {pins : List (Addr × Obj)} {σ : L2.St} {H : Hp} {s : Shared} (I : Inv X pins σ H s) : ∀ (k : NestedKey) (v : V) (u : Value), Dp X.K H v k.data → RelV v u → NestedIs s.heap k u
  | .none, _, _, h, r => by
    cases h
    cases r
    exact .none
  | .num i, v, _, h, r => by
    have h : Dp X.K H v (.int i) := h
    cases h
    obtain ⟨t, rfl⟩ := r
    exact .int i t
  | .text x, v, _, h, r => by
    have h : Dp X.K H v (.str x) := h
    cases h
    obtain ⟨t, rfl⟩ := r
    exact .text x t
  | .tup ks, v, _, h, r => by
    have h : Dp X.K H v (.tuple (NestedKey.datas ks)) := by
      have z : (NestedKey.tup ks).data = .tuple (NestedKey.datas ks) := by rw [NestedKey.data]
      rw [← z]; exact h
    cases h with
    | tup hs ha =>
      cases r
      obtain ⟨its, rv, ⟨o, ho, hc, n, hd⟩, _⟩ := I.tuple hs
      exact .tup ho hc hd (nests_of I ks _ _ ha (by simpa using rv))
theorem nests_of {X : Cx} {pins : List (Addr × Obj)} {σ : L2.St} {H : Hp} {s : Shared} (I : Inv X pins σ H s) : ∀ (ks : List NestedKey) (vs : List V) (us : List Value), DpAll X.K H vs (NestedKey.datas ks) → Vals vs us → NestedAll s.heap ks us
  | [], vs, _, h, r => by
    have h : DpAll X.K H vs [] := h
    cases h
    cases r
    exact .nil
  | k :: ks, vs, _, h, r => by
    have h : DpAll X.K H vs (k.data :: NestedKey.datas ks) := by
      have z : NestedKey.datas (k :: ks) = k.data :: NestedKey.datas ks := by rw [NestedKey.datas]
      rw [← z]; exact h
    cases h with
    | cons h1 h2 =>
      cases r with
      | cons r1 r2 => exact .cons (nest_of I k _ _ h1 r1) (nests_of I ks _ _ h2 r2)
end
section
variable {X : Cx} {pins : List (Addr × Obj)} {σ : L2.St} {H : Hp} {s : Shared} {a : Addr} {kvs : List WE} {A : Around} {E : Value → Shared → Prop}
theorem key_at (I : Inv X pins σ H s) {k : NestedKey} {v : V} {u : Value} (h : Dp X.K H v k.data) (hd : k.depth ≤ 8) (r : RelV v u) : KeyAt s.heap k u := ⟨nest_of I k v u h r, hd⟩
/-- the entries as the machine has them -/
theorem ens_of (I : Inv X pins σ H s) : ∀ {kvs : List WE} {es : List DictEntry}, Paired (relE X.w) kvs es → (∀ x ∈ kvs, Dp X.K H x.2.1 x.1.data ∧ x.1.depth ≤ 8) →
    ∃ xs : List En, es = xs.map (enOf X.w) ∧ xs.map (·.1) = kvs.map (·.1) ∧ (∀ x ∈ xs, KeyAt s.heap x.1 x.2.1) ∧ (∀ k, RelO (wV kvs k) (enAt xs k))
  | [], _, .nil, _ => ⟨[], rfl, rfl, fun _ h => (nomatch h), fun k => True.intro⟩
  | x :: r, e :: t, .cons h p, hk => by
    obtain ⟨xs, h1, h2, h3, h4⟩ := ens_of I p fun y m => hk y (List.mem_cons_of_mem _ m)
    obtain ⟨hx1, hx2⟩ := hk x List.mem_cons_self
    obtain ⟨eh, ek, ev⟩ := h
    refine ⟨(x.1, e.key, e.val) :: xs, ?_, by rw [List.map_cons, List.map_cons, h2], fun y m => ?_, fun k => ?_⟩
    · rw [List.map_cons, h1]
      obtain ⟨e1, e2, e3⟩ := e
      have eh : e1 = x.1.hash X.w := eh
      rw [eh]; rfl
    · rcases List.mem_cons.mp m with rfl | m
      · exact key_at I hx1 hx2 ek
      · exact h3 y m
    · unfold wV enAt
      by_cases e : x.1 = k
      · rw [List.find?_cons_of_pos (by simpa using e), List.find?_cons_of_pos (by simpa using e)]
        exact ev
      · rw [List.find?_cons_of_neg (by simpa using e), List.find?_cons_of_neg (by simpa using e)]
        exact h4 k
theorem wd_obj {ep : Nat} (I : Inv X pins σ H s) (d : WD X.K X.w H a kvs ep) : ∃ es xs, s.heap.DictRaw a es ep ∧ Paired (relE X.w) kvs es.toList ∧ Ens X.w s.heap es xs ∧ (∀ k, RelO (wV kvs k) (enAt xs k)) ∧ xs.length = kvs.length := by
  obtain ⟨⟨es, dr, p⟩, _, _⟩ := (show ObjOk X.prog X.w H s.heap a (.ext fun h => ∃ es, h.DictRaw a es ep ∧ Paired (relE X.w) kvs es.toList) from d.rd.ok I.hok)
  obtain ⟨xs, h1, h2, h3, h4⟩ := ens_of I p d.key
  refine ⟨es, xs, dr, p, ⟨h1, h3, by rw [h2]; exact d.nd⟩, h4, ?_⟩
  have := congrArg List.length h2
  rwa [List.length_map, List.length_map] at this
theorem wd_contains {ep : Nat} {k : NestedKey} {v : V} {u : Value} {Q : Bool → Shared → Prop} (hu : A.units + 9 < cLine) (I : Inv X pins σ H s) (d : WD X.K X.w H a kvs ep) (hk : Dp X.K H v k.data) (h8 : k.depth ≤ 8) (r : RelV v u) (h : ∀ s', Inv X pins σ H s' → Q (wV kvs k).isSome s') :
    wpAny (model X.prog X.w) A (contains (.ref a) u) Q E s := by
  obtain ⟨es, xs, ⟨o, ho, hc, hd⟩, _, En, hv, _⟩ := wd_obj I d
  have hT : s.TypeIs (.ref a) "dict" := ⟨o, ho, hc.1⟩
  have ka := key_at I hk h8 r
  refine wpAny_contains_slot hT PySem.F.slot_dict_contains ?_
  refine call_meetsIn PySem.F.slot_dict_contains hT PySem.F.entry_dict_contains (PySem.F.args_dict_contains_2 _ _) (S := fun A' R s' => A' = A ∧ s' = s ∧ ∀ tk, R (.ok (.ret (.bool (enAt xs k).isSome))) { s with toks := tk }) (MeetsIn.of_wp fun A' R s' hS => ?_) ⟨rfl, rfl, fun tk => wpAny_truthy_bool (by rw [← (hv k).isSome_eq]; exact h _ (I.tok tk))⟩
  obtain ⟨rfl, rfl, hq⟩ := hS
  show wpAny _ _ (dictGet a u >>= _) _ _ _
  refine wpAny_bind (get_w (by show A'.units + 1 + 8 < cLine; omega) ka ho hd En fun tk => ?_)
  have hq := hq tk
  cases hf : enAt xs k with
  | some p =>
    rw [hf] at hq
    show wpAny _ _ (ret (.bool true)) _ _ _
    exact wpAny_pure ⟨_, rfl, hq⟩
  | none =>
    rw [hf] at hq
    show wpAny _ _ (Builtin.Dict.pendingKey? a u >>= _) _ _ _
    exact wpAny_bind (wpAny_pendingKey_other d.sm (wpAny_pure ⟨_, rfl, hq⟩))
theorem wd_getItem {ep : Nat} {k : NestedKey} {v z : V} {u : Value} {Q : Value → Shared → Prop} (hu : A.units + 9 < cLine) (I : Inv X pins σ H s) (d : WD X.K X.w H a kvs ep) (hk : Dp X.K H v k.data) (h8 : k.depth ≤ 8) (r : RelV v u) (hz : wV kvs k = some z) (h : ∀ u' s', Inv X pins σ H s' → RelV z u' → Q u' s') :
    wpAny (model X.prog X.w) A (getItem (.ref a) u) Q E s := by
  obtain ⟨es, xs, ⟨o, ho, hc, hd⟩, _, En, hv, _⟩ := wd_obj I d
  have hT : s.TypeIs (.ref a) "dict" := ⟨o, ho, hc.1⟩
  have ka := key_at I hk h8 r
  obtain ⟨u', hu', ru⟩ := RelO.some_of (v := z) (o := enAt xs k) (by rw [← hz]; exact hv k)
  unfold getItem
  try with_reducible refine wpAny_holding ?_
  refine wpAny_bind (wpAny_sequenceKey hT (by decide) ?_)
  refine wpAny_bind (wpAny_callSpecial?_slot (name := Str.ofString "__getitem__") hT slot_dict_getitem (wpAny_call_entry slot_dict_getitem hT entry_dict_getitem ?_ (args_dict_getitem _ _)))
  show wpAny _ _ (dictGet a u >>= _) _ _ s
  refine wpAny_bind (get_w (by show A.units + 1 + 8 < cLine; omega) ka ho hd En fun tk => ?_)
  rw [hu']
  exact wpAny_pure ⟨u', rfl, wpAny_pure (h u' _ (I.tok tk) ru)⟩
theorem rel_app {w : World} {x : WE} {e : DictEntry} (h : relE w x e) : ∀ {kvs : List WE} {es : List DictEntry}, Paired (relE w) kvs es → Paired (relE w) (kvs ++ [x]) (es ++ [e])
  | _, _, .nil => .cons h .nil
  | _, _, .cons a t => .cons a (rel_app h t)
theorem wd_set {ep : Nat} {k : NestedKey} {v z : V} {u r : Value} {Q : Unit → Shared → Prop} (hu : A.units + 8 < cLine) (I : Inv X pins σ H s) (hH : H a = some (wdO X.w a kvs ep)) (d : WD X.K X.w H a kvs ep) (hk : Dp X.K H v k.data) (h8 : k.depth ≤ 8) (rv : RelV v u) (rz : RelV z r) (hz : wV kvs k = none)
    (h : ∀ ep' s', Inv X pins σ (upd H a (wdO X.w a (kvs ++ [(k, v, z)]) ep')) s' → Q () s') : wpAny (model X.prog X.w) A (dictSet a u r) Q E s := by
  obtain ⟨es, xs, ⟨o, ho, hc, hd⟩, p, En, hv, hl⟩ := wd_obj I d
  have ka := key_at I hk h8 rv
  have hn : enAt xs k = none := RelO.none_of (by rw [← hz]; exact hv k)
  have sz := d.sz
  refine set_w hu ka ho hc hd En hn (by rw [hl]; exact Nat.le_trans sz (by decide)) fun h' o' es' ep' tk ho' hc' hd' he sb => h ep' _ ?_
  refine d_write I (by rw [hH]; exact True.intro) sb ⟨o', ho'⟩ (wd_ok ⟨o', ho', hc', hd'⟩ ?_)
  rw [he, List.map_append, ← En.eq]
  exact rel_app ⟨rfl, rv, rz⟩ p
theorem wd_setItem {ep : Nat} {k : NestedKey} {v z : V} {u r : Value} {Q : Unit → Shared → Prop} (hu : A.units + 9 < cLine) (I : Inv X pins σ H s) (hH : H a = some (wdO X.w a kvs ep)) (d : WD X.K X.w H a kvs ep) (hk : Dp X.K H v k.data) (h8 : k.depth ≤ 8) (rv : RelV v u) (rz : RelV z r) (hz : wV kvs k = none)
    (h : ∀ ep' s', Inv X pins σ (upd H a (wdO X.w a (kvs ++ [(k, v, z)]) ep')) s' → Q () s') : wpAny (model X.prog X.w) A (setItem (.ref a) u r) Q E s := by
  obtain ⟨es, xs, ⟨o, ho, hc, hd⟩, _⟩ := wd_obj I d
  have hT : s.TypeIs (.ref a) "dict" := ⟨o, ho, hc.1⟩
  unfold setItem
  try with_reducible refine wpAny_holding ?_
  refine wpAny_bind (wpAny_sequenceKey hT (by decide) ?_)
  refine wpAny_bind (wpAny_callSpecial?_slot (name := Str.ofString "__setitem__") hT slot_dict_setitem (wpAny_call_entry slot_dict_setitem hT entry_dict_setitem ?_ (args_dict_setitem _ _ _)))
  show wpAny _ _ (Builtin.Dict.notOrdered "__setitem__" ⟨[.ref a, u, r], []⟩ >>= _) _ _ s
  refine wpAny_bind (wpAny_notOrdered_dict hT ?_)
  show wpAny _ _ (dictSet a u r >>= _) _ _ s
  exact wpAny_bind (wd_set (by show A.units + 1 + 8 < cLine; omega) I hH d hk h8 rv rz hz fun ep' s' I' => wpAny_pure ⟨.none, rfl, wpAny_pure (h ep' s' I')⟩)
end
/-- behind a write -/
theorem WD.put {K : PySem.W.Frag} {w : World} {G H : Hp} {a : Addr} {kvs : List WE} {ep ep' : Nat} {k : NestedKey} {v z : V} (d : WD K w G a kvs ep) (s : SameS K G H) (hH : H a = some (wdO w a (kvs ++ [(k, v, z)]) ep')) (hk : Dp K G v k.data) (h8 : k.depth ≤ 8) (hz : wV kvs k = none) (hs : kvs.length < 100000) :
    WD K w H a (kvs ++ [(k, v, z)]) ep' where
  rd := .inl hH
  key := fun x m => by
    rcases List.mem_append.mp m with m | m
    · exact ⟨dp_sameS s _ _ (d.key x m).1, (d.key x m).2⟩
    · obtain rfl := List.mem_singleton.mp m
      exact ⟨dp_sameS s _ _ hk, h8⟩
  nd := by
    rw [List.map_append, List.nodup_append]
    refine ⟨d.nd, by simp, fun x hx y hy e => ?_⟩
    have hy : y = k := by simpa using hy
    obtain ⟨q, hq, rfl⟩ := List.mem_map.mp hx
    have : kvs.find? (fun x => decide (x.1 = k)) ≠ none := by
      rw [Ne, List.find?_eq_none]
      intro z
      exact z q hq (by rw [e, hy]; exact decide_eq_true rfl)
    unfold wV at hz
    cases hf : kvs.find? fun x => decide (x.1 = k) with
    | none => exact this hf
    | some p => rw [hf] at hz; cases hz
  sm := d.sm
  sz := by rw [List.length_append]; exact hs
/-! ### rules -/
def rInW (K : PySem.W.Frag) (w : World) (neg : Bool) : R2 := fun x y H Q => ∃ a kvs ep k, y = .ref a ∧ WD K w H a kvs ep ∧ Dp K H x k.data ∧ k.depth ≤ 8 ∧ Q (.bl (if neg then !(wV kvs k).isSome else (wV kvs k).isSome)) H
section
variable {X : Cx}
theorem op_in_w (hu : X.A.units + 9 < cLine) : OpR X (compareOp .In) (rInW X.K X.w false) := by
  intro pins s σ H x y v u Q I rx ry ⟨a, kvs, ep, k, e, d, hk, h8, q⟩
  subst e
  cases ry
  show wpAny _ _ ((do return Value.bool (← contains (.ref a) v)) : Sem Value) _ _ s
  exact wpAny_bind (wd_contains hu I d hk h8 rx fun s' I' => wpAny_pure ⟨.bl _, H, I', rfl, q⟩)
theorem op_notIn_w (hu : X.A.units + 9 < cLine) : OpR X (compareOp .NotIn) (rInW X.K X.w true) := by
  intro pins s σ H x y v u Q I rx ry ⟨a, kvs, ep, k, e, d, hk, h8, q⟩
  subst e
  cases ry
  show wpAny _ _ ((do return Value.bool (!(← contains (.ref a) v))) : Sem Value) _ _ s
  exact wpAny_bind (wd_contains hu I d hk h8 rx fun s' I' => wpAny_pure ⟨.bl _, H, I', rfl, q⟩)
/-- d[k] -/
def tWGet (K : PySem.W.Frag) (w : World) (td ty : TE) : TE := fun σ H Q => td σ H fun x H1 => ty σ H1 fun y H2 => ∃ a kvs ep k v, x = .ref a ∧ WD K w H2 a kvs ep ∧ Dp K H2 y k.data ∧ k.depth ≤ 8 ∧ wV kvs k = some v ∧ Q v H2
theorem wd_type {pins : List (Addr × Obj)} {σ : L2.St} {H : Hp} {s : Shared} {a : Addr} {kvs : List WE} {ep : Nat} (I : Inv X pins σ H s) (d : WD X.K X.w H a kvs ep) : s.TypeIs (.ref a) "dict" := by
  obtain ⟨es, xs, ⟨o, ho, hc, hd⟩, _⟩ := wd_obj I d
  exact ⟨o, ho, hc.1⟩
theorem pe_wget {o i : Expr} {td ty : TE} {pos : Pos} (hu : X.A.units + 9 < cLine) (ho : PE X o td) (hi : PE X i ty) (hs : NoSl i) : PE X (.Subscript o i pos) (tWGet X.K X.w td ty) := by
  refine ⟨fun pins s σ H Q I h => ?_⟩
  refine subD_of PySem.F.slot_dict_getitem.lookup hs (thn (ho.run pins s σ H _ I h) fun u s1 ⟨x, H1, I1, rx, q1⟩ => thn (hi.run pins s1 σ H1 _ I1 q1) fun iv s2 ⟨y, H2, I2, ry, a, kvs, ep, k, v, ex, d, hk, h8, hz, q2⟩ => ?_)
  subst ex
  obtain rfl : u = Value.ref a := rx
  exact ⟨wd_type I2 d, wd_getItem hu I2 d hk h8 ry hz fun w' s3 I3 rw' => ⟨v, H2, I3, rw', q2⟩⟩
def sWPut (K : PySem.W.Frag) (w : World) (td ty tv : TE) : TS := fun D σ H => tv σ H fun v H1 => td σ H1 fun x H2 => ty σ H2 fun y H3 => ∃ a kvs ep k, x = .ref a ∧ H3 a = some (wdO w a kvs ep) ∧ WD K w H3 a kvs ep ∧ Dp K H3 y k.data ∧ k.depth ≤ 8 ∧ wV kvs k = none ∧
  ∀ ep', D.nx σ (upd H3 a (wdO w a (kvs ++ [(k, y, v)]) ep'))
theorem ps_wput {o i value : Expr} {td ty tv : TE} {pos pos' : Pos} (hu : X.A.units + 9 < cLine) (ho : PE X o td) (hi : PE X i ty) (hv : PE X value tv) (hs : swapsWith value (some (.Subscript o i pos')) pos.line X.env = pure false) :
    PS X (.Assign [.Subscript o i pos'] value pos) (sWPut X.K X.w td ty tv) := by
  refine ⟨fun pins s σ H D I h => ?_⟩
  refine wpAny_Assign_Subscript (thn (hv.run pins s σ H _ I h) fun r s1 ⟨v, H1, I1, rv, q1⟩ => thn (ho.run pins s1 σ H1 _ I1 q1) fun u s2 ⟨x, H2, I2, rx, q2⟩ => thn (hi.run pins s2 σ H2 _ I2 q2) fun iv s3 ⟨y, H3, I3, ry, a, kvs, ep, k, ex, hH, d, hk, h8, hz, q3⟩ => ?_) hs
  subst ex
  obtain rfl : u = Value.ref a := rx
  exact wd_setItem hu I3 hH d hk h8 ry rv hz fun ep' s4 I4 => ⟨σ, _, I4, q3 ep'⟩
theorem raw_new (h : Heap) : (h.push { cls := .type "dict", data := .dict #[] }).DictRaw h.objs.size #[] 0 := ⟨_, Heap.get?_push_size _ rfl, ⟨rfl, rfl, rfl⟩, rfl⟩
def tDNewW (w : World) : TE := fun _ H Q => ∀ p, H p = none → (p == sysModules) = false → Q (.ref p) (upd H p (wdO w p [] 0))
theorem pe_dnewW {pos : Pos} : PE X (.Dict [] [] pos) (tDNewW X.w) := ⟨fun pins s σ H Q I h =>
  wpAny_Dict_empty ⟨.ref s.heap.objs.size, _, I.laid (a := s.heap.objs.size) (o := wdO X.w s.heap.objs.size [] 0) (t' := s.toks) (fun _ _ q => Heap.get?_push_of_some _ q) (Nat.le_refl _) (wd_ok (raw_new s.heap) .nil), rfl, h _ (I.hok.fresh (Nat.le_refl _)) (beq_eq_false_iff_ne.mpr (Ne.symm (Nat.ne_of_lt I.big)))⟩⟩
end
theorem WD.new {K : PySem.W.Frag} {w : World} {H : Hp} {p : Addr} (e : (p == sysModules) = false) : WD K w (upd H p (wdO w p [] 0)) p [] 0 := ⟨.inl upd_same, fun _ m => (nomatch m), List.nodup_nil, e, Nat.zero_le _⟩
/-! ### for k in d -/
def Itw (w : World) (d : Addr) (kvs : List WE) (ep : Nat) : It :=
  ⟨fun i H => Rd H d (wdO w d kvs ep) ∧ i < kvs.length, fun i H x H' => H' = H ∧ ∃ k v, kvs[i]? = some (k, x, v), fun i H => Rd H d (wdO w d kvs ep) ∧ kvs.length ≤ i⟩
theorem rd_raw {X : Cx} {pins : List (Addr × Obj)} {σ : L2.St} {H : Hp} {s : Shared} {d : Addr} {kvs : List WE} {ep : Nat} (I : Inv X pins σ H s) (r : Rd H d (wdO X.w d kvs ep)) : ∃ es, s.heap.DictRaw d es ep ∧ Paired (relE X.w) kvs es.toList := by
  obtain ⟨h, _, _⟩ := (show ObjOk X.prog X.w H s.heap d (.ext fun h => ∃ es, h.DictRaw d es ep ∧ Paired (relE X.w) kvs es.toList) from r.ok I.hok)
  exact h
theorem rel_get {w : World} {kvs : List WE} {es : Array DictEntry} (p : Paired (relE w) kvs es.toList) {i : Nat} {x : WE} (h : kvs[i]? = some x) : ∃ e, es[i]? = some e ∧ relE w x e := by
  obtain ⟨e, h1, h2⟩ := paired_get p h
  exact ⟨e, by rw [← Array.getElem?_toList]; exact h1, h2⟩
theorem rel_size {w : World} {kvs : List WE} {es : Array DictEntry} (p : Paired (relE w) kvs es.toList) : es.size = kvs.length := by
  rw [Paired.length p, Array.length_toList]
theorem turn_w {P : Program} {w : World} {K : PySem.W.Frag} {tg : Expr} {d : Addr} {kvs : List WE} {ep : Nat} (it : Addr) : Turn P w K tg (Itw w d kvs ep) [it] it (fun i h => h.IsKeyIter it d i kvs.length ep) where
  mem := by simp
  obj := fun i h st b hb => by
    have e : b = it := by simpa using hb
    subst e
    obtain ⟨oi, e, c, dd⟩ := st
    exact ⟨oi, e, fun v z => by rw [dd] at z; cases z⟩
  keep := fun i h h' st k => st.at fun oi e => k it (by simp) oi e
  item := by
    intro X hP hw hK hc i pins s σ H E I hf st hg
    subst hP hw hK
    obtain ⟨hd, hi⟩ := hg
    obtain ⟨f0, f1, f2, f3, f4, f5⟩ := hf it (by simp)
    obtain ⟨es, ⟨o, ho, hx, hdt⟩, p⟩ := rd_raw I hd
    obtain ⟨⟨k, x, v⟩, hkv⟩ : ∃ q, kvs[i]? = some q := ⟨kvs[i], List.getElem?_eq_getElem hi⟩
    obtain ⟨en, hen, r1, r2, r3⟩ := rel_get p hkv
    refine next_key_item st ho hdt (rel_size p) hen fun h' st' sb => ?_
    have I1 : Inv X pins σ H { s with heap := h' } := I.turned (t' := s.toks) (fun b ob hb e => (sb.2 b hb).trans e) f0 f1 f3 f4 f5
    obtain ⟨oi, e, c, dd⟩ := id st'
    exact ⟨en.key, rfl, go_of (s := { s with heap := h' }) e c dd (by decide) ⟨x, H, I1, r2, ⟨rfl, k, v, hkv⟩, st', fun b hb => (hf b hb).1⟩⟩
  done := by
    intro X hP hw hK hc i pins s σ H E I hf st hg
    subst hP hw hK
    obtain ⟨hd, hi⟩ := hg
    obtain ⟨f0, f1, f2, f3, f4, f5⟩ := hf it (by simp)
    obtain ⟨es, ⟨o, ho, hx, hdt⟩, p⟩ := rd_raw I hd
    exact next_key_end (I.ok.hd hc) st ho hdt (rel_size p) hi fun h' eb => ⟨rfl, I.turned (t' := s.toks) (fun b ob hb e => eb b ob hb e) f0 f1 f3 f4 f5⟩
  self := fun A i s Q E st h => wpAny_pyIter_keyiter st h
def iKeysW (w : World) (td : TE) : TI := fun σ H R => td σ H fun x H1 => ∃ d kvs ep, x = .ref d ∧ (d == sysModules) = false ∧ Rd H1 d (wdO w d kvs ep) ∧ R (Itw w d kvs ep) H1
theorem pi_keysW {X : Cx} {tg e : Expr} {td : TE} (he : PE X e td) : PI X tg e (iKeysW X.w td) := by
  refine ⟨fun pins s σ H R I h => ?_⟩
  refine thn (he.run pins s σ H _ I h) fun u s1 ⟨x, H1, I1, rx, d, kvs, ep, ex, hs, hd, q⟩ => ?_
  subst ex
  obtain rfl : u = Value.ref d := rx
  obtain ⟨es, ⟨o, ho, hx, hdt⟩, p⟩ := rd_raw I1 hd
  refine iter_keys hs ho hx hdt (pi_one (tk := s1.toks) I1 _ (turn_w _) ⟨_, Heap.get?_push_size _ rfl, rfl, ?_⟩ q)
  rw [rel_size p]
  rfl
/-- walked -/
theorem walk_w {w : World} {d : Addr} {kvs : List WE} {ep : Nat} : Walk (Itw w d kvs ep) kvs.length (fun H => Rd H d (wdO w d kvs ep)) (fun i H x H' => H' = H ∧ ∃ k v, kvs[i]? = some (k, x, v)) :=
  ⟨fun i H hi g => ⟨g, hi⟩, fun H g => ⟨g, Nat.le_refl _⟩, fun i H x H' hi g y => y⟩
/-! ### d.values(), list(d.values()), list(d) -/
def vwO (p d : Addr) : HO := .ext fun h => h.IsValuesView p d
def tVals (w : World) (td : TE) : TE := fun σ H Q => td σ H fun x H1 => ∃ d kvs ep, x = .ref d ∧ (d == sysModules) = false ∧ Rd H1 d (wdO w d kvs ep) ∧ ∀ p, H1 p = none → Q (.ref p) (upd H1 p (vwO p d))
section
variable {X : Cx}
theorem pe_valsW {e : Expr} {td : TE} {apos cpos : Pos} (he : PE X e td) (hbase : attributeBase e "values" X.env (eval e X.env) = eval e X.env := by rfl) (hline : (apos.endLine == cpos.line) = true := by rfl) :
    PE X (.Call (.Attribute e "values" apos) [] [] cpos) (tVals X.w td) := by
  refine ⟨fun pins s σ H Q I h => ?_⟩
  refine wpAny_Call_method0_late hbase hline (thn (he.run pins s σ H _ I h) fun v s1 ⟨x, H1, I1, rx, d, kvs, ep, ex, hs, hd, q⟩ => ?_)
  subst ex
  obtain rfl : v = Value.ref d := rx
  obtain ⟨es, dr, p⟩ := rd_raw I1 hd
  obtain ⟨o, ho, hc, hdt⟩ := id dr
  refine ⟨"dict", "dict.values", F.plainAttrs_dict, F.slot_dict_values, F.type_dict_values, ⟨o, ho, hc.1⟩, fun b e => ?_, Calls.callWith_builtin rfl (PySem.evalArgs_none ?_)⟩
  · cases e
    exact ⟨o, ho, hc.2.1⟩
  · refine call_meetsIn F.slot_dict_values ⟨o, ho, hc.1⟩ F.entry_dict_values (F.args_dict_values_1 _) (meets_dict_values_raw d hs) ⟨⟨es, ep, dr⟩, ?_⟩
    refine ⟨.ref s1.heap.objs.size, _, I1.laid (a := s1.heap.objs.size) (o := vwO s1.heap.objs.size d) (t' := s1.toks) (fun _ _ q => Heap.get?_push_of_some _ q) (Nat.le_refl _) ?_, rfl, q _ (I1.hok.fresh (Nat.le_refl _))⟩
    exact ⟨⟨_, Heap.get?_push_size _ rfl, rfl, rfl⟩, ⟨_, Heap.get?_push_size _ rfl⟩, fun h1 h2 ⟨o, ho, r⟩ k => ⟨o, k o ho, r⟩⟩
def rListVw (w : World) : List V → Hp → VK → Prop := fun xs H Q => ∃ p d kvs ep, xs = [V.ref p] ∧ H p = some (vwO p d) ∧ Rd H d (wdO w d kvs ep) ∧ kvs.length ≤ 100000 ∧ ∀ q, H q = none → Q (.ref q) (upd H q (.lst (kvs.map fun x => x.2.2)))
def rListWD (w : World) : List V → Hp → VK → Prop := fun xs H Q => ∃ d kvs ep, xs = [V.ref d] ∧ (d == sysModules) = false ∧ Rd H d (wdO w d kvs ep) ∧ kvs.length ≤ 100000 ∧ ∀ q, H q = none → Q (.ref q) (upd H q (.lst (kvs.map fun x => x.2.1)))
theorem call_list_vw (hc : X.calm = true) : CallR X (.type "list") (rListVw X.w) := by
  intro pins s σ H xs us Q I r ⟨p, d, kvs, ep, e, hp, hd, hn, q⟩
  subst e
  obtain ⟨u, rfl, rx⟩ := r.one
  cases rx
  obtain ⟨es, dr, pr⟩ := rd_raw I hd
  obtain ⟨vw, _, _⟩ := (show ObjOk X.prog X.w H s.heap p (.ext fun h => h.IsValuesView p d) from I.hok p _ hp)
  refine PySem.W.kdl_call PySem.KdlSrc.rawValues (I.ok.hd hc) ⟨vw, dr⟩ (by rw [rel_size pr]; exact Nat.le_trans hn (by decide)) fun h' tk acc' c' hkeep hS hacc => ?_
  refine ⟨.ref s.heap.objs.size, upd H s.heap.objs.size (.lst (kvs.map fun x => x.2.2)), I.laid hkeep (Nat.le_refl _) (show ObjOk X.prog X.w _ _ _ (.lst (kvs.map fun x => x.2.2)) from ⟨?_, acc'.toList, c', ?_, ?_⟩), rfl, q _ (I.hok.fresh (Nat.le_refl _))⟩
  · rw [List.length_map]; exact Nat.le_trans hn (by decide)
  · have el : acc'.toList.length = acc'.size := by simp
    refine vals_of_at (by rw [List.length_map, el, hacc.1, rel_size pr]) fun j x w h1 h2 => ?_
    obtain ⟨hi, hw⟩ := hacc.2 j w (by rw [← Array.getElem?_toList]; exact h2)
    rw [List.getElem?_map, Option.map_eq_some_iff] at h1
    obtain ⟨y, hy, rfl⟩ := h1
    obtain ⟨e, he, _, _, r3⟩ := rel_get pr hy
    rw [Array.getElem?_eq_getElem hi] at he
    cases he
    rw [hw]
    exact r3
  · rw [Array.toArray_toList]; exact hS
theorem call_list_wd (hc : X.calm = true) : CallR X (.type "list") (rListWD X.w) := by
  intro pins s σ H xs us Q I r ⟨d, kvs, ep, e, hs, hd, hn, q⟩
  subst e
  obtain ⟨u, rfl, rx⟩ := r.one
  cases rx
  obtain ⟨es, dr, pr⟩ := rd_raw I hd
  refine PySem.W.kdl_call (PySem.KdlSrc.rawDict hs) (I.ok.hd hc) dr (by rw [rel_size pr]; exact Nat.le_trans hn (by decide)) fun h' tk acc' c' hkeep hS hacc => ?_
  refine ⟨.ref s.heap.objs.size, upd H s.heap.objs.size (.lst (kvs.map fun x => x.2.1)), I.laid hkeep (Nat.le_refl _) (show ObjOk X.prog X.w _ _ _ (.lst (kvs.map fun x => x.2.1)) from ⟨?_, acc'.toList, c', ?_, ?_⟩), rfl, q _ (I.hok.fresh (Nat.le_refl _))⟩
  · rw [List.length_map]; exact Nat.le_trans hn (by decide)
  · have el : acc'.toList.length = acc'.size := by simp
    refine vals_of_at (by rw [List.length_map, el, hacc.1, rel_size pr]) fun j x w h1 h2 => ?_
    obtain ⟨hi, hw⟩ := hacc.2 j w (by rw [← Array.getElem?_toList]; exact h2)
    rw [List.getElem?_map, Option.map_eq_some_iff] at h1
    obtain ⟨y, hy, rfl⟩ := h1
    obtain ⟨e, he, _, r2, _⟩ := rel_get pr hy
    rw [Array.getElem?_eq_getElem hi] at he
    cases he
    rw [hw]
    exact r2
  · rw [Array.toArray_toList]; exact hS
end
end K8
-- K8WComp
set_option maxRecDepth 100000
set_option maxHeartbeats 4000000
namespace K8
open PySem PySem.Spec PyProof.Rows L2
/-! ### dict comprehensions that make a dict keyed by words -/
/-- D the new dict -/
def tDcW (K : PySem.W.Frag) (w : World) (wi : TI) (g : TG) (tt : TT) (tk tv : TE) (vs : List Nat) : TE := fun σ H Q => wi σ H fun J H1 => ∀ D, H1 D = none → (D == sysModules) = false →
  ∃ W : Nat → Nat → Hp → Prop, (∃ m, W 0 m (upd H1 D (wdO w D [] 0))) ∧ ∀ i m H, W i m H → (J.stop i H ∧ Q (.ref D) H) ∨ (J.go i H ∧ ∃ Nx : Hp → Prop, (∀ H', Nx H' → ∃ m', m' < m ∧ W (i + 1) m' H') ∧
    ∀ x H', J.yld i H x H' → g x (wipe σ vs) H' fun σ2 H2 => wipe σ2 vs = wipe σ vs ∧ tt σ2 H2 fun b H3 =>
      if b = true then tk σ2 H3 fun y H4 => tv σ2 H4 fun z H5 => ∃ kvs ep k, H5 D = some (wdO w D kvs ep) ∧ WD K w H5 D kvs ep ∧ Dp K H5 y k.data ∧ k.depth ≤ 8 ∧ wV kvs k = none ∧ kvs.length < 100000 ∧ ∀ ep', Nx (upd H5 D (wdO w D (kvs ++ [(k, y, z)]) ep')) else Nx H3)
section
variable {X : Cx}
theorem dcw_core {pins : List (Addr × Obj)} {s : Shared} {σ : L2.St} {H : Hp} {Q : VK} {kx vx tg iter : Expr} {ifs : List Expr} {scp : Scope} {ow : List (Str × Nat)} {ps ps' : Pos} {wi : TI} {g : TG} {tt : TT} {tk tv : TE} {use : Option (Value → Sem Unit)} {Qf : Value → Shared → Prop}
    (hu : X.A.units + 8 < cLine) (hc : X.calm = true) (hnd : X.N.Nodup) (I : Inv X pins σ H s) (hi : PI X tg iter wi) (bok : BlkOk X.N X.env.scope scp ow)
    (hg : ∀ (s : Shared) (H : Hp) (C : Addr) (cz : List (Str × Addr)) (fq : List Addr), PG (X.blk s H scp (compEnvC scp cz C X.env) fq) tg g) (ht : ∀ (s : Shared) (H : Hp) (C : Addr) (cz : List (Str × Addr)) (fq : List Addr), PTs (X.blk s H scp (compEnvC scp cz C X.env) fq) ifs tt)
    (hk : ∀ (s : Shared) (H : Hp) (C : Addr) (cz : List (Str × Addr)) (fq : List Addr), PE (X.blk s H scp (compEnvC scp cz C X.env) fq) kx tk)
    (he : ∀ (s : Shared) (H : Hp) (C : Addr) (cz : List (Str × Addr)) (fq : List Addr), PE (X.blk s H scp (compEnvC scp cz C X.env) fq) vx tv) (hs : ∀ x, foldedSetIterable iter X.env x = pure x)
    (h : tDcW X.K X.w wi g tt tk tv (ow.map (·.2)) σ H Q)
    (hRR : ∀ D C s' m H', Inv X pins σ H' s' → Q (.ref D) H' → s'.heap.Ns C m → FpOk X pins H' C → compPost (model X.prog X.w) X.A X.xe use Qf (.ref D) C (.ok .next) s') :
    wpAny (model X.prog X.w) X.A (comprehension (.DictComp kx vx [⟨tg, iter, ifs, 0⟩] scp ps) scp X.env ps' newDict false (eval iter X.env) use) Qf X.xe s := by
  have hfr : ∀ y ∈ scp.names, y.2 = .free → ∃ c, X.env.cells.lookup y.1 = some c := fun y hy e => by
    rcases bok.free y hy e with k | k
    · exact I.ok.has _ (.inl k)
    · exact I.ok.has _ (.inr k)
  refine wpAny_comprehension_free (use := use) rfl hs (closure_ok hfr) bok.kind (fun y hy e => by rw [bok.uniq y hy, e])
    (thn (hi.run pins s σ H _ I h) fun xv zk1 hx => thn hx fun itv zk2 h2 => ?_)
  obtain ⟨it, fq, tm, J, Gk2, e, Jk2, T, tt2, f2, q⟩ := h2
  subst e
  refine wpAny_newObj_type (newEnv_comp ?_)
  generalize hD : zk2.heap.objs.size = D
  have hDn : Gk2 D = none := Jk2.hok.fresh (Nat.le_of_eq hD)
  obtain ⟨W, ⟨m0, w0⟩, turn⟩ := q D hDn (by rw [← hD]; exact beq_eq_false_iff_ne.mpr (Ne.symm (Nat.ne_of_lt Jk2.big)))
  -- the new list
  generalize hz3 : ({ zk2 with heap := zk2.heap.push { cls := .type "dict", data := .dict #[] } } : Shared) = zk3
  have Jk3 : Inv X pins σ (upd Gk2 D (wdO X.w D [] 0)) zk3 := by
    rw [← hz3]
    refine Jk2.laid (t' := zk2.toks) (fun b o e => Heap.get?_push_of_some _ e) (Nat.le_of_eq hD) ?_
    rw [← hD]
    exact wd_ok (raw_new zk2.heap) .nil
  have h3 : zk3.heap = zk2.heap.push { cls := .type "dict", data := .dict #[] } := by rw [← hz3]
  have zs : ∀ b ∈ fq, b < zk2.heap.objs.size := fun b hb => by
    obtain ⟨o, e, _⟩ := T.obj _ _ tt2 b hb
    exact Heap.lt_size e
  have f3 : ∀ b ∈ fq, FpOk X pins (upd Gk2 D (wdO X.w D [] 0)) b ∧ b < zk3.heap.objs.size := fun b hb => by
    have hlt := zs b hb
    refine ⟨⟨?_, (f2 b hb).2⟩, by rw [h3, Heap.size_push]; exact Nat.lt_succ_of_lt hlt⟩
    rw [upd_ne (by rw [← hD]; exact Nat.ne_of_lt hlt)]
    exact (f2 b hb).1
  have tt3 : tm 0 zk3.heap := T.keep _ _ _ tt2 fun b _ o e => by rw [h3]; exact Heap.get?_push_of_some _ e
  have Jk4 := block_start Jk3 bok hnd f3
  have pg := hg zk3 (upd Gk2 D (wdO X.w D [] 0)) zk3.heap.objs.size (cellsFrom (zk3.heap.objs.size + 1) scp.names (cloFrom X.env.cells scp.names [])) fq
  have pt := ht zk3 (upd Gk2 D (wdO X.w D [] 0)) zk3.heap.objs.size (cellsFrom (zk3.heap.objs.size + 1) scp.names (cloFrom X.env.cells scp.names [])) fq
  have pk := hk zk3 (upd Gk2 D (wdO X.w D [] 0)) zk3.heap.objs.size (cellsFrom (zk3.heap.objs.size + 1) scp.names (cloFrom X.env.cells scp.names [])) fq
  have pe := he zk3 (upd Gk2 D (wdO X.w D [] 0)) zk3.heap.objs.size (cellsFrom (zk3.heap.objs.size + 1) scp.names (cloFrom X.env.cells scp.names [])) fq
  show codeAny _ _ (.compStart (.DictComp kx vx [⟨tg, iter, ifs, 0⟩] scp ps) 0 (.ref it) (.ref D) (compEnvC scp (cellsFrom (zk3.heap.objs.size + 1) scp.names (cloFrom X.env.cells scp.names [])) zk3.heap.objs.size X.env)) (compPost (model X.prog X.w) X.A X.xe use Qf (.ref D) zk3.heap.objs.size) { zk3 with heap := pushCells (zk3.heap.push { cls := .type "dict", data := .dict #[] }) scp.names }
  have nfp : ∀ b ∈ fq, (upd Gk2 D (wdO X.w D [] 0)) b = none := fun b hb => (f3 b hb).1.1
  generalize hce : compEnvC scp (cellsFrom (zk3.heap.objs.size + 1) scp.names (cloFrom X.env.cells scp.names [])) zk3.heap.objs.size X.env = cv at Jk4 pg pt pk pe ⊢
  have cL : cv.locals = zk3.heap.objs.size := by subst hce; rfl
  generalize hH3 : upd Gk2 D (wdO X.w D [] 0) = Gk3 at Jk3 Jk4 pg pt pk pe w0 nfp f3
  generalize hz4 : ({ zk3 with heap := pushCells (zk3.heap.push { cls := .type "dict", data := .dict #[] }) scp.names } : Shared) = zk4 at Jk4 ⊢
  have tt4 : tm 0 zk4.heap := T.keep _ _ _ tt3 fun b _ o e => by rw [← hz4]; exact pushCells_keeps _ _ _ _ (Heap.get?_push_of_some _ e)
  have stt : ∀ {σ' : L2.St} {H' : Hp} {s' : Shared}, Inv (X.blk zk3 Gk3 scp cv fq) [] σ' H' s' → (∀ b ∈ fq, H' b = none) → ∀ b ∈ fq, FpOk (X.blk zk3 Gk3 scp cv fq) [] H' b := fun {σ' H' s'} I' hn b hb =>
    ⟨hn b hb, (I'.ok.exf b hb).1, I'.ok.exfs b hb, .inl hb, fun x c e => (I'.ok.exf b hb).2 x c e, fun p hp => absurd (show p ∈ ([] : List (Addr × Obj)) ++ [] from hp) (by simp)⟩
  have loop : codeAny (model X.prog X.w) X.A (.compLoop (.DictComp kx vx [⟨tg, iter, ifs, 0⟩] scp ps) 0 (.ref it) (.ref D) cv) (compPost (model X.prog X.w) X.A X.xe use Qf (.ref D) zk3.heap.objs.size) zk4 := by
    refine compLoop_anyD (fun n s' => ∃ i H', Inv (X.blk zk3 Gk3 scp cv fq) [] (wipe σ (ow.map (·.2))) H' s' ∧ tm i s'.heap ∧ (∀ b ∈ fq, H' b = none) ∧ W i n H') ?_ m0 ⟨0, Gk3, Jk4, tt4, nfp, w0⟩
    rintro n zk5 ⟨i, Gk5, Jk5, tt5, n5, w5⟩
    rcases turn i n Gk5 w5 with ⟨stop, qq⟩ | ⟨go, Nx, hNx, step⟩
    · have td := T.done (X.blk zk3 Gk3 scp cv fq) rfl rfl rfl hc i [] zk5 _ Gk5 (fun _ _ => False) Jk5 (stt Jk5 n5) tt5 stop
      refine thnF td fun r zk6 ⟨hr, Jk6⟩ => ?_
      subst hr
      -- back in the def's context
      have Jk7 : Inv X pins σ Gk5 zk6 := Jk3.call' (ch := fq) Jk6.os Jk6.base Jk6.hok Jk6.bare fun b hb => ⟨(f3 b hb).1.2.2.2.1, (f3 b hb).1.2.1, (f3 b hb).1.2.2.2.2.1, (f3 b hb).1.2.2.2.2.2⟩
      have nC : Gk5 zk3.heap.objs.size = none := by
        have z : Gk5 cv.locals = none := Jk6.free
        rw [cL] at z
        exact z
      obtain ⟨m, hn, _⟩ := Jk6.loc
      have hn : zk6.heap.Ns cv.locals m := hn
      rw [cL] at hn
      exact hRR D zk3.heap.objs.size zk6 m Gk5 Jk7 qq hn (Jk3.fpOk (Nat.le_refl _) nC)
    · have ti := T.item (X.blk zk3 Gk3 scp cv fq) rfl rfl rfl hc i [] zk5 _ Gk5 (fun _ _ => False) Jk5 (stt Jk5 n5) tt5 go
      refine thnF ti fun r zk6 ⟨u, hr, h6⟩ => ?_
      subst hr
      refine thnF h6 fun _ zk7 ⟨x, Gk7, Jk7, ek7, y7, tt7, n7⟩ => ?_
      have Jk7' := Jk7.pinned (stt Jk7 n7) (T.obj _ _ tt7)
      refine thnF (pg.run _ zk7 _ Gk7 x u _ Jk7' ek7 (step x Gk7 y7)) fun _ zk8 ⟨ρ8, Gk8, Jk8, hw8, o8⟩ => ?_
      refine thnF (pt.run _ zk8 ρ8 Gk8 _ Jk8 o8) fun b zk9 ⟨Gk9, Jk9, o9⟩ => ?_
      -- the turn's end
      have fen : ∀ {s' : Shared} {H' : Hp}, Inv (X.blk zk3 Gk3 scp cv fq) ([] ++ pinsAt fq zk7.heap) ρ8 H' s' → Nx H' → ∃ m, m < n ∧ ∃ i H', Inv (X.blk zk3 Gk3 scp cv fq) [] (wipe σ (ow.map (·.2))) H' s' ∧ tm i s'.heap ∧ (∀ b ∈ fq, H' b = none) ∧ W i m H' := fun {s' H'} I' nx => by
        obtain ⟨m', hm, w'⟩ := hNx H' nx
        have pin' : ∀ b ∈ fq, ∀ o, zk7.heap.get? b = some o → s'.heap.get? b = some o ∧ H' b = none := fun b hb o e =>
          let z := I'.pin (b, o) (List.mem_append_right _ (List.mem_append_right _ (mem_pinsAt hb e)))
          ⟨z.1, z.2.1⟩
        have hl : (wipe σ (ow.map (·.2))).length = ρ8.length := by rw [← hw8, wipe_length]
        refine ⟨m', hm, i + 1, H', (I'.unpinned (pins := [])).weak hl (fun j v e => ?_), T.keep _ _ _ tt7 fun b hb o e => (pin' b hb o e).1, fun b hb => ?_, w'⟩
        · rw [← hw8] at e
          exact (wipe_some e).1
        · obtain ⟨o, e, _⟩ := T.obj _ _ tt7 b hb
          exact (pin' b hb o e).2
      cases b with
      | false =>
        simp only [Bool.false_eq_true, if_false] at o9 ⊢
        exact fen Jk9 o9
      | true =>
        simp only [if_true] at o9 ⊢
        refine thnF (pk.run _ zk9 ρ8 Gk9 _ Jk9 o9) fun z zk10 ⟨yk, Gk10, Jk10, ek10, o10⟩ => ?_
        refine thnF (pe.run _ zk10 ρ8 Gk10 _ Jk10 o10) fun z2 zk11 ⟨yv, Gk11, Jk11, ek11, kvs, ep, k, hD11, wd11, hk11, h8, hn11, hz11, nx⟩ => ?_
        exact wd_set (X := X.blk zk3 Gk3 scp cv fq) hu Jk11 hD11 wd11 hk11 h8 ek10 ek11 hn11 fun ep' zk12 Jk12 => fen Jk12 (nx ep')
  exact codeAny_compStart_dict loop (T.self X.A 0 _ _ _ tt4 loop)
/-- as a value -/
theorem pe_dcw {kx vx tg iter : Expr} {ifs : List Expr} {scp : Scope} {ow : List (Str × Nat)} {ps : Pos} {wi : TI} {g : TG} {tt : TT} {tk tv : TE} (hu : X.A.units + 8 < cLine) (hc : X.calm = true) (hnd : X.N.Nodup) (hi : PI X tg iter wi) (bok : BlkOk X.N X.env.scope scp ow)
    (hg : ∀ (s : Shared) (H : Hp) (C : Addr) (cz : List (Str × Addr)) (fq : List Addr), PG (X.blk s H scp (compEnvC scp cz C X.env) fq) tg g) (ht : ∀ (s : Shared) (H : Hp) (C : Addr) (cz : List (Str × Addr)) (fq : List Addr), PTs (X.blk s H scp (compEnvC scp cz C X.env) fq) ifs tt)
    (hk : ∀ (s : Shared) (H : Hp) (C : Addr) (cz : List (Str × Addr)) (fq : List Addr), PE (X.blk s H scp (compEnvC scp cz C X.env) fq) kx tk)
    (he : ∀ (s : Shared) (H : Hp) (C : Addr) (cz : List (Str × Addr)) (fq : List Addr), PE (X.blk s H scp (compEnvC scp cz C X.env) fq) vx tv) (hs : ∀ x, foldedSetIterable iter X.env x = pure x := by intro _; rfl) :
    PE X (.DictComp kx vx [⟨tg, iter, ifs, 0⟩] scp ps) (tDcW X.K X.w wi g tt tk tv (ow.map (·.2))) := by
  refine ⟨fun pins s σ H Q I h => ?_⟩
  rw [arm_eval_DictComp]
  refine dcw_core hu hc hnd I hi bok hg ht hk he hs h fun D C s' m H' I' q hn f => ⟨m, hn, fun h'' sb => ?_⟩
  obtain ⟨f0, f1, f2, f3, f4, f5⟩ := f
  exact ⟨.ref D, H', I'.turned (t' := s'.toks) (fun b o hb e => (sb.2 b hb).trans e) f0 f1 f3 f4 f5, rfl, q⟩
end
/-- what one turn asks -/
def DwTurn (M : Addr → Prop) (K : PySem.W.Frag) (g : TG) (tt : TT) (tk tv : TE) (vs : List Nat) (σ : L2.St) (R : Nat → List WE → Hp → Prop) (i : Nat) (x : V) (kvs : List WE) (G H : Hp) : Prop :=
  ∀ (Ky : V → V → Hp → Prop) (Kn : Hp → Prop), (∀ y z k H5 G', Gr M H G G' H5 → Dp K G' y k.data → k.depth ≤ 8 → wV kvs k = none → R (i + 1) (kvs ++ [(k, y, z)]) G' → Ky y z H5) → (∀ H3 G', Gr M H G G' H3 → R (i + 1) kvs G' → Kn H3) →
    g x (wipe σ vs) H fun σ2 H2 => wipe σ2 vs = wipe σ vs ∧ tt σ2 H2 fun b H3 => if b = true then tk σ2 H3 fun y H4 => tv σ2 H4 fun z H5 => Ky y z H5 else Kn H3
section
variable {K : PySem.W.Frag} {w : World} {M : Addr → Prop} {g : TG} {tt : TT} {tk tv : TE} {vs : List Nat} {σ : L2.St} {H1 G1 : Hp} {D : Addr} {Qd : Hp → Prop}
def WdK (K : PySem.W.Frag) (G : Hp) (kvs : List WE) (i : Nat) : Prop := (∀ x ∈ kvs, Dp K G x.2.1 x.1.data ∧ x.1.depth ≤ 8) ∧ (kvs.map (·.1)).Nodup ∧ kvs.length ≤ i
def DwInv (M : Addr → Prop) (K : PySem.W.Frag) (w : World) (H1 G1 : Hp) (D : Addr) (R : Nat → List WE → Hp → Prop) (i : Nat) (H : Hp) : Prop :=
  ∃ kvs ep G, Gr M H1 G1 G H ∧ H D = some (wdO w D kvs ep) ∧ G D = none ∧ WdK K G kvs i ∧ R i kvs G
theorem wV_none {kvs : List WE} {k : NestedKey} (h : wV kvs k = none) : ∀ x ∈ kvs, x.1 ≠ k := fun q hq e => by
  have : kvs.find? (fun x => decide (x.1 = k)) ≠ none := by
    rw [Ne, List.find?_eq_none]
    intro z
    exact z q hq (by rw [e]; exact decide_eq_true rfl)
  unfold wV at h
  cases hf : kvs.find? fun x => decide (x.1 = k) with
  | none => exact this hf
  | some p => rw [hf] at h; cases h
theorem wV_none_of {kvs : List WE} {k : NestedKey} (h : ∀ x ∈ kvs, x.1 ≠ k) : wV kvs k = none := by
  unfold wV
  rw [List.find?_eq_none.mpr fun x hx => by rw [decide_eq_false (h x hx)]; exact Bool.false_ne_true]
  rfl
theorem WdK.snoc {G G' : Hp} {kvs : List WE} {i : Nat} {k : NestedKey} {y z : V} (d : WdK K G kvs i) (s : Same G G') (hk : Dp K G' y k.data) (h8 : k.depth ≤ 8) (hn : wV kvs k = none) : WdK K G' (kvs ++ [(k, y, z)]) (i + 1) := by
  obtain ⟨a, b, c⟩ := d
  refine ⟨fun x m => ?_, ?_, by rw [List.length_append]; exact Nat.succ_le_succ c⟩
  · rcases List.mem_append.mp m with m | m
    · exact ⟨dp_mono s (a x m).1, (a x m).2⟩
    · obtain rfl := List.mem_singleton.mp m
      exact ⟨hk, h8⟩
  · rw [List.map_append, List.nodup_append]
    refine ⟨b, by simp, fun x hx y' hy e => ?_⟩
    have hy : y' = k := by simpa using hy
    obtain ⟨q, hq, rfl⟩ := List.mem_map.mp hx
    exact wV_none hn q hq (e.trans hy)
theorem dw_it {J : It} {n : Nat} {Gd : Hp → Prop} {Y : Nat → Hp → V → Hp → Prop} (wk : Walk J n Gd Y) (hY : ∀ i H x H', Y i H x H' → H' = H) (R : Nat → List WE → Hp → Prop) (hD : H1 D = none) (hm : ¬ M D) (hsm : (D == sysModules) = false) (s : Same G1 H1) (hGd : ∀ G H, Gr M H1 G1 G H → Gd H) (hz : n ≤ 100000) (r0 : R 0 [] G1)
    (hs : ∀ i x kvs G H, i < n → Y i H x H → Gr M H1 G1 G H → R i kvs G → DwTurn M K g tt tk tv vs σ R i x kvs G H)
    (hd : ∀ kvs ep G H, Gr M H1 G1 (upd G D (wdO w D kvs ep)) H → G D = none → WD K w (upd G D (wdO w D kvs ep)) D kvs ep → R n kvs G → Qd H) :
    ∃ W : Nat → Nat → Hp → Prop, (∃ m, W 0 m (upd H1 D (wdO w D [] 0))) ∧ ∀ i m H, W i m H → (J.stop i H ∧ Qd H) ∨ (J.go i H ∧ ∃ Nx : Hp → Prop, (∀ H', Nx H' → ∃ m', m' < m ∧ W (i + 1) m' H') ∧
      ∀ x H', J.yld i H x H' → g x (wipe σ vs) H' fun σ2 H2 => wipe σ2 vs = wipe σ vs ∧ tt σ2 H2 fun b H3 =>
        if b = true then tk σ2 H3 fun y H4 => tv σ2 H4 fun z H5 => ∃ kvs ep k, H5 D = some (wdO w D kvs ep) ∧ WD K w H5 D kvs ep ∧ Dp K H5 y k.data ∧ k.depth ≤ 8 ∧ wV kvs k = none ∧ kvs.length < 100000 ∧ ∀ ep', Nx (upd H5 D (wdO w D (kvs ++ [(k, y, z)]) ep')) else Nx H3) := by
  refine ⟨fun i m H => m = n - i ∧ i ≤ n ∧ DwInv M K w H1 G1 D R i H, ⟨n, by simp, Nat.zero_le _, [], 0, G1, (Gr.start s).mine hD, upd_same, s.free hD, ⟨fun _ m => (nomatch m), List.nodup_nil, Nat.zero_le _⟩, r0⟩, ?_⟩
  rintro i m H ⟨rfl, hi, kvs, ep, G, gr, hHD, hGD, wk1, r⟩
  have gd := hGd G H gr
  by_cases hlt : i < n
  · refine .inr ⟨wk.goes i H hlt gd, DwInv M K w H1 G1 D R (i + 1), fun H' p' => ⟨n - (i + 1), by omega, rfl, hlt, p'⟩, fun x H' y => ?_⟩
    have y := wk.yields i H x H' hlt gd y
    obtain rfl := hY i H x H' y
    refine hs i x kvs G H' hlt y gr r _ _ (fun y z k H5 G' g5 dp h8 hn r5 => ?_) (fun H3 G' g3 r3 => ?_)
    · have hH5 := g5.old D _ hHD hm
      have hG5 := g5.out hHD hGD
      have l1 := wk1.2.2
      refine ⟨kvs, ep, k, hH5, ⟨.inl hH5, fun x m => ⟨dp_mono (g5.up.trans g5.sub) (wk1.1 x m).1, (wk1.1 x m).2⟩, wk1.2.1, hsm, by omega⟩, dp_mono g5.sub dp, h8, hn, by omega, fun ep' => ?_⟩
      exact ⟨_, ep', G', (gr.trans g5).chg (.inl hD) hG5, upd_same, hG5, wk1.snoc g5.up dp h8 hn, r5⟩
    · exact ⟨kvs, ep, G', gr.trans g3, g3.old D _ hHD hm, g3.out hHD hGD, ⟨fun x m => ⟨dp_mono g3.up (wk1.1 x m).1, (wk1.1 x m).2⟩, wk1.2.1, Nat.le_succ_of_le wk1.2.2⟩, r3⟩
  · have e : i = n := by omega
    subst e
    refine .inl ⟨wk.stops H gd, hd kvs ep G H (gr.give hD hm hGD hHD) hGD ?_ r⟩
    exact ⟨.inl upd_same, fun x m => ⟨dp_mono (Same.upd_none hGD) (wk1.1 x m).1, (wk1.1 x m).2⟩, wk1.2.1, hsm, Nat.le_trans wk1.2.2 hz⟩
end
end K8
-- K8Names
set_option maxRecDepth 100000
set_option maxHeartbeats 4000000
namespace K8
open PySem PySem.Spec PyProof.Rows L2
theorem Gr.of {G H H' : Hp} (s : Same G H) (t : Same H H') : Gr NoM H G G H' := ⟨Same.refl _, s.trans t, fun b o e _ => t b o e, fun _ _ e => e⟩
theorem ite_y {b : Bool} {A B : Prop} (e : b = true) (h : A) : if b = true then A else B := by
  rw [if_pos e]
  exact h
theorem ite_n {b : Bool} {A B : Prop} (e : b = false) (h : B) : if b = true then A else B := by
  rw [if_neg (by rw [e]; decide)]
  exact h
/-- a comprehension's turn without tests -/
theorem y_te {σ : L2.St} {H : Hp} {te : TE} {Ky : VK} {Kn : Hp → Prop} (h : te σ H Ky) : tYes σ H (fun b H3 => if b = true then te σ H3 Ky else Kn H3) := by
  show (if true = true then te σ H Ky else Kn H)
  rw [if_pos rfl]
  exact h
theorem cb1 {r : List V → Hp → VK → Prop} {te : TE} {σ : L2.St} {H : Hp} {Q : VK} (h : te σ H fun x H1 => r [x] H1 Q) : tCB r (tCons te tNil) σ H Q := h
theorem ite_b {b : Bool} {A B : Prop} (h1 : b = true → A) (h2 : b = false → B) : if b = true then A else B := by
  cases b with
  | true => exact iteT (h1 rfl)
  | false => exact iteF (h2 rfl)
section
variable {P : Program} {w : World} {K : PySem.W.Frag} {mg : Str → Option Value} {base : Heap} {CX : CXT} {x : Str} {st : Stmt}
/-- a def that is not called -/
theorem cl_never (F : ∃ fd, FunD K (dG x st).name (dG x st).qual (dG x st).params (dG x st).body (dG x st).scope [] [] (He.fAd K (dG x st).at_) fd) (g : mg x = some (.ref (He.ga K x))) {ps : List Str}
    (hb : ∀ (kV doc pm : Value) (an : Option Addr) (cdv ct : Value) (us : List Value), us.length = ps.length → bindArgs (PySem.W.fnOf x x (defArgs st) (defBody st) (defScope st) .none kV doc pm an cdv ct) ⟨us, []⟩ = pure (ps.zip us)) :
    Cl P w K mg base CX 0 x (fun _ _ _ _ => False) := by
  obtain ⟨fd, F⟩ := F
  exact ⟨He.ga K x, fd, ps, ⟨fun _ _ _ _ h => h.elim, fun _ _ _ _ _ _ _ _ _ _ _ _ _ h => h.elim⟩, g, F.kp, F.bindsN hb⟩
end
/-! ### is_list, is_integer, is_number -/
def spD (K : PySem.W.Frag) (f : D → Bool) : Sp := fun vs H Q _ => ∃ v d, vs = [v] ∧ Dq K H v d ∧ ∀ H', Same H H' → Q (.bl (f d)) H'
def isInt : D → Bool
  | .lf (.int _) => true
  | _ => false
def isNum : D → Bool
  | .lf (.int i) => decide (0 ≤ i)
  | _ => false
def isBl : D → Bool
  | .lf (.bl _) => true
  | _ => false
def isStr : D → Bool
  | .lf (.str _) => true
  | _ => false
theorem sc_is_list : FnScope ["thing"] ["thing"] (defScope s_is_list) := ⟨rfl, rfl, rfl, by decide +kernel, rfl, by decide +kernel, by decide +kernel⟩
theorem sc_is_integer : FnScope ["thing"] ["thing"] (defScope s_is_integer) := ⟨rfl, rfl, rfl, by decide +kernel, rfl, by decide +kernel, by decide +kernel⟩
theorem sc_is_number : FnScope ["thing"] ["thing"] (defScope s_is_number) := ⟨rfl, rfl, rfl, by decide +kernel, rfl, by decide +kernel, by decide +kernel⟩
section
variable {P : Program} {w : World} {K : PySem.W.Frag} {mg : Str → Option Value} {base : Heap}
theorem kit_lt {t : String} (h : t = "list" ∨ t = "tuple") : PySem.W.kitAny K (.type t) [.type "list", .type "tuple"] = some true := by
  rcases h with rfl | rfl
  · exact kitAny_cons (kit_ty (b := "list") (r := true) (by decide +kernel)) (fun z => nomatch z) (fun _ => rfl)
  · exact kitAny_cons (kit_ty (b := "list") (r := false) (by decide +kernel)) (fun _ => kitAny_cons (kit_ty (b := "tuple") (r := true) (by decide +kernel)) (fun z => nomatch z) (fun _ => rfl)) (fun z => nomatch z)
theorem kit_no {t : String} (h : t = "NoneType" ∨ t = "bool" ∨ t = "int" ∨ t = "str" ∨ t = "dict") : PySem.W.kitAny K (.type t) [.type "list", .type "tuple"] = some false := by
  rcases h with rfl | rfl | rfl | rfl | rfl <;>
    exact kitAny_cons (kit_ty (b := "list") (r := false) (by decide +kernel)) (fun _ => kitAny_cons (kit_ty (b := "tuple") (r := false) (by decide +kernel)) (fun _ => kitAny_nil) (fun z => nomatch z)) (fun z => nomatch z)
/-- isinstance(x, (list, tuple)) -/
theorem isi_lt {H : Hp} {v : V} {d : D} (h : Dq K H v d) : ∃ t : Value, TyX K H v t ∧ PySem.W.kitAny K t [.type "list", .type "tuple"] = some (isSq d) := by
  obtain ⟨t, ty, q⟩ := h.ty
  refine ⟨_, ty, ?_⟩
  rcases q with ⟨e, q⟩ | ⟨e, q⟩
  · rw [e]; exact kit_lt q
  · rw [e]
    refine kit_no ?_
    rcases q with q | q | q | q | q
    · exact .inl q.1
    · exact .inr (.inl q.1)
    · exact .inr (.inr (.inl q.1))
    · exact .inr (.inr (.inr (.inl q.1)))
    · exact .inr (.inr (.inr (.inr q.1)))
/-- isinstance(x, C), C = int, bool, str, dict -/
theorem isi_one {H : Hp} {v : V} {d : D} {C : String} {f : D → Bool} (h : Dq K H v d) (h1 : kitB "NoneType" C = some (f (.lf .non))) (h2 : ∀ b, kitB "bool" C = some (f (.lf (.bl b)))) (h3 : ∀ i, kitB "int" C = some (f (.lf (.int i)))) (h4 : ∀ x, kitB "str" C = some (f (.lf (.str x))))
    (h5 : ∀ a, kitB "dict" C = some (f (.lf (.ref a)))) (h6 : ∀ l, kitB "list" C = some (f (.sq l))) (h7 : ∀ l, kitB "tuple" C = some (f (.sq l))) : ∃ t : Value, TyX K H v t ∧ PySem.W.kitOne K t (.type C) = some (f d) := by
  cases h with
  | lf a =>
    cases v with
    | non => exact ⟨_, .base .non, kit_ty h1⟩
    | bl b => exact ⟨_, .base (.bl b), kit_ty (h2 b)⟩
    | int i => exact ⟨_, .base (.int i), kit_ty (h3 i)⟩
    | str x => exact ⟨_, .base (.str x), kit_ty (h4 x)⟩
    | _ => cases a
  | dct a => exact ⟨_, .base (.dK a), kit_ty (h5 _)⟩
  | lst a _ => exact ⟨_, tyx_l a, kit_ty (h6 _)⟩
  | tup a _ => exact ⟨_, tyx_t a, kit_ty (h7 _)⟩
theorem isi_int {H : Hp} {v : V} {d : D} (h : Dq K H v d) : ∃ t : Value, TyX K H v t ∧ PySem.W.kitOne K t (.type "int") = some (isInt d || isBl d) :=
  isi_one (f := fun d => isInt d || isBl d) h (by decide +kernel) (fun b => by show _ = some true; decide +kernel) (fun i => by show _ = some true; decide +kernel) (fun x => by show _ = some false; decide +kernel) (fun a => by show _ = some false; decide +kernel) (fun l => by show _ = some false; decide +kernel) (fun l => by show _ = some false; decide +kernel)
theorem isi_bool {H : Hp} {v : V} {d : D} (h : Dq K H v d) : ∃ t : Value, TyX K H v t ∧ PySem.W.kitOne K t (.type "bool") = some (isBl d) :=
  isi_one (f := isBl) h (by decide +kernel) (fun b => by show _ = some true; decide +kernel) (fun i => by show _ = some false; decide +kernel) (fun x => by show _ = some false; decide +kernel) (fun a => by show _ = some false; decide +kernel) (fun l => by show _ = some false; decide +kernel) (fun l => by show _ = some false; decide +kernel)
theorem isi_str {H : Hp} {v : V} {d : D} (h : Dq K H v d) : ∃ t : Value, TyX K H v t ∧ PySem.W.kitOne K t (.type "str") = some (isStr d) :=
  isi_one (f := isStr) h (by decide +kernel) (fun b => by show _ = some false; decide +kernel) (fun i => by show _ = some false; decide +kernel) (fun x => by show _ = some true; decide +kernel) (fun a => by show _ = some false; decide +kernel) (fun l => by show _ = some false; decide +kernel) (fun l => by show _ = some false; decide +kernel)
theorem ok_is_list (T : Txt K mg) : Cl P w K mg base CX0 1 "is_list" (spD K isSq) := by
  refine cl0 (T.F_is_list) T.g_is_list sc_is_list (fun vs H Q E h => ?_) (fun _ _ _ _ _ _ us hl => match us, hl with | [_], _ => rfl) (fun cdv A outer s H vs Q E hr h => ?_)
  · obtain ⟨v, d, rfl, _⟩ := h
    rfl
  · obtain ⟨v, d, rfl, hd, k⟩ := h
    refine ⟨_, (pss_one (ps_ret (pe_callB call_isiT (by rfl) T.f_isinstance (by decide +kernel) (pa_cons (pv 0) (pa_cons (pe_tup (pa_cons (pe_bltn (v := .ty "list") (u := .type "list") (by rfl) T.f_list (by decide +kernel) rfl) (pa_cons (pe_bltn (v := .ty "tuple") (u := .type "tuple") (by rfl) T.f_tuple (by decide +kernel) rfl) pa_nil))) pa_nil))))), ?_⟩
    refine ⟨_, rfl, by show 2 ≤ sizeLine; decide, fun p np => ?_⟩
    obtain ⟨t, ty, e⟩ := isi_lt (Dq.mono (Same.upd_none np) d v hd)
    exact ⟨v, p, _, t, _, _, rfl, upd_same, .cons (.ty "list") (.cons (.ty "tuple") .nil), ty, e, k _ (Same.upd_none np)⟩
theorem ok_is_integer (T : Txt K mg) : Cl P w K mg base CX0 1 "is_integer" (spD K isInt) := by
  refine cl0 (T.F_is_integer) T.g_is_integer sc_is_integer (fun vs H Q E h => ?_) (fun _ _ _ _ _ _ us hl => match us, hl with | [_], _ => rfl) (fun cdv A outer s H vs Q E hr h => ?_)
  · obtain ⟨v, d, rfl, _⟩ := h
    rfl
  · obtain ⟨v, d, rfl, hd, k⟩ := h
    refine ⟨_, (pss_one (ps_ret (pe_and (pe_callB call_isi (by rfl) T.f_isinstance (by decide +kernel) (pa_cons (pv 0) (pa_cons (pe_bltn (v := .ty "int") (u := .type "int") (by rfl) T.f_int (by decide +kernel) rfl) pa_nil))) (pe_one (pe_not (pe_callB call_isi (by rfl) T.f_isinstance (by decide +kernel) (pa_cons (pv 0) (pa_cons (pe_bltn (v := .ty "bool") (u := .type "bool") (by rfl) T.f_bool (by decide +kernel) rfl) pa_nil)))))))), ?_⟩
    obtain ⟨t, ty, e⟩ := isi_int hd
    obtain ⟨t2, ty2, e2⟩ := isi_bool hd
    refine ⟨_, rfl, v, _, t, _, _, rfl, .ty "int", ty, e, _, rfl, ?_⟩
    refine ite_b (fun hb => ?_) (fun hb => ?_)
    · refine ⟨_, rfl, v, _, t2, _, _, rfl, .ty "bool", ty2, e2, _, rfl, ?_⟩
      have e3 : isInt d = !isBl d := by
        cases d with
        | sq l => cases hb
        | lf v => cases v <;> first | rfl | cases hb
      have q := k H (Same.refl H)
      rw [e3] at q
      exact q
    · have q := k H (Same.refl H)
      rw [(Bool.or_eq_false_iff.mp hb).1] at q
      exact q
theorem ok_is_number (T : Txt K mg) : Cl P w K mg base CX0 2 "is_number" (spD K isNum) := by
  refine cl0 (T.F_is_number) T.g_is_number sc_is_number (fun vs H Q E h => ?_) (fun _ _ _ _ _ _ us hl => match us, hl with | [_], _ => rfl) (fun cdv A outer s H vs Q E hr h => ?_)
  · obtain ⟨v, d, rfl, _⟩ := h
    rfl
  · obtain ⟨v, d, rfl, hd, k⟩ := h
    refine ⟨_, (pss_one (ps_ret (pe_and (pe_cl (ok_is_integer T) hr (by decide) pass0 (pa_cons (pv 0) pa_nil)) (pe_one (pe_cmpR op_ge (pv 0) pe_int (nomark _)))))), ?_⟩
    refine ⟨_, rfl, v, d, rfl, hd, fun H1 s1 => ⟨_, rfl, ?_⟩⟩
    have q := k H1 s1
    cases hd with
    | lf a =>
      cases v with
      | int i => exact iteT ⟨_, rfl, i, 0, rfl, rfl, q⟩
      | _ => exact iteF q
    | _ => exact iteF q
/-! ### is_name -/
def smallS : Str := "abcdefghijklmnopqrstuvwxyz"
def figS : Str := "0123456789"
def isSmall (c : Nat) : Bool := decide (c ∈ smallS.cps.toList)
def isFig (c : Nat) : Bool := decide (c ∈ figS.cps.toList)
def nameB (x : Str) : Bool := decide (1 ≤ x.cps.size) && (decide (x.cps.size ≤ 12) && ((match x.cps.toList with
  | [] => false
  | c :: _ => isSmall c) && x.cps.toList.all fun c => isSmall c || isFig c))
def isName : D → Bool
  | .lf (.str x) => nameB x
  | _ => false
theorem sc_is_name : FnScope ["thing", "sign"] ["thing"] (defScope s_is_name) := ⟨rfl, rfl, rfl, by decide +kernel, rfl, by decide +kernel, by decide +kernel⟩
theorem all_snoc {α β : Type} {l : List α} {i : Nat} {x : α} {f : α → β} (h : l[i]? = some x) : (l.take (i + 1)).map f = (l.take i).map f ++ [f x] := by
  rw [List.take_succ, h]
  simp
def spName (K : PySem.W.Frag) : Sp := fun vs H Q _ => ∃ v d, vs = [v] ∧ Dq K H v d ∧ (∀ x, v = .str x → x.cps.size ≤ 1000) ∧ ∀ H', Same H H' → Q (.bl (isName d)) H'
theorem ok_is_name (T : Txt K mg) : Cl P w K mg base CX0 1 "is_name" (spName K) := by
  refine cl0 (T.F_is_name) T.g_is_name sc_is_name (fun vs H Q E h => ?_) (fun _ _ _ _ _ _ us hl => match us, hl with | [_], _ => rfl) (fun cdv A outer s H vs Q E hr h => ?_)
  · obtain ⟨v, d, rfl, _⟩ := h
    rfl
  · obtain ⟨v, d, rfl, hd, short, k⟩ := h
    obtain ⟨tS, gSm⟩ := T.c_SMALL
    obtain ⟨tF, gFi⟩ := T.c_FIGURES
    refine ⟨_, (pss_cons (ps_if (PW.pt (pw_or (pt_not (pt_val (pe_callB call_isi (by rfl) T.f_isinstance (by decide +kernel) (pa_cons (pv 0) (pa_cons (pe_bltn (v := .ty "str") (u := .type "str") (by rfl) T.f_str (by decide +kernel) rfl) pa_nil))))) (pw_or (pt_not (pt_chain op_le op_le pe_int (pe_callB call_len_str (by rfl) T.f_len (by decide +kernel) (pa_cons (pv 0) pa_nil)) pe_int)) (pw_or1 (pt_cmpR op_notIn_sign (pe_ix ix_str (pv 0) pe_int (fun _ _ => rfl)) (pe_glob (v := .str smallS) (by rfl) gSm ⟨_, rfl⟩) (by rfl))))))
        (pss_one (ps_ret pe_bl))
        pss_nil)
      (pss_one (ps_ret (pe_callB (cr_all rfl) (by rfl) T.f_all (by decide +kernel) (pa_cons (pe_lc (own := [("sign", 1)]) rfl sc_is_name.nd (pi_str (pv 0)) (blkOk_by (by kernel_rfl)) (fun _ _ _ _ _ => (pg_name (i := 1) sc_is_name.nd rfl (by first | exact Or.inl rfl | exact Or.inr rfl))) (fun _ _ _ _ _ => pts_nil) (fun _ _ _ _ _ => (pe_or (pe_cmpR op_in_sign (pv 1) (pe_glob (v := .str smallS) (by rfl) gSm ⟨_, rfl⟩) (by rfl)) (pe_one (pe_cmpR op_in_sign (pv 1) (pe_glob (v := .str figS) (by rfl) gFi ⟨_, rfl⟩) (by rfl)))))) pa_nil))))), ?_⟩
    obtain ⟨t, ty, e⟩ := isi_str hd
    refine ⟨_, rfl, v, _, t, _, _, rfl, .ty "str", ty, e, _, rfl, ?_⟩
    have q := k H (Same.refl H)
    refine ite_b (fun hb => ?_) (fun hb => ?_)
    · -- no text
      refine iteT ?_
      have : isName d = false := by
        cases d with
        | sq l => rfl
        | lf v => cases v <;> first | rfl | cases hb
      rw [this] at q
      exact q
    · obtain ⟨x, rfl, rfl⟩ : ∃ x, d = .lf (.str x) ∧ v = .str x := by
        cases hd with
        | lf a => cases v <;> first | (exact ⟨_, rfl, rfl⟩) | cases hb
        | _ => cases hb
      have hx := short x rfl
      have q : Q (.bl (nameB x)) H := q
      have hsz : x.length ≤ sizeLine := Nat.le_trans hx (by decide)
      have qf : nameB x = false → Q (.bl false) H := fun z => z ▸ q
      refine ⟨_, rfl, x, rfl, hsz, _, _, rfl, rfl, _, rfl, ?_⟩
      refine ite_b (fun c1 => ?_) (fun c1 => ?_)
      · have c1' : 1 ≤ x.cps.size := by
          have := of_decide_eq_true c1
          have : (1 : Int) ≤ ((x.cps.size : Nat) : Int) := this
          omega
        refine ⟨_, _, rfl, rfl, _, rfl, ?_⟩
        refine ite_b (fun c2 => ?_) (fun c2 => ?_)
        · refine iteT (qf ?_)
          have c2' : ¬ x.cps.size ≤ 12 := by
            intro z
            have : decide (((x.length : Nat) : Int) ≤ 12) = true := decide_eq_true (by show ((x.cps.size : Nat) : Int) ≤ 12; omega)
            rw [this] at c2
            cases c2
          unfold nameB
          rw [decide_eq_false c2', Bool.false_and, Bool.and_false]
        · obtain ⟨c, r, ec⟩ : ∃ c r, x.cps.toList = c :: r := by
            cases e : x.cps.toList with
            | nil =>
              have : x.cps.size = 0 := by rw [← Array.length_toList, e]; rfl
              omega
            | cons c r => exact ⟨c, r, rfl⟩
          have c2' : x.cps.size ≤ 12 := by
            have : decide (((x.length : Nat) : Int) ≤ 12) = true := by simpa using c2
            have := of_decide_eq_true this
            have : ((x.cps.size : Nat) : Int) ≤ 12 := this
            omega
          refine ⟨_, rfl, x, 0, c, rfl, rfl, hsz, ?_, c, smallS, rfl, rfl, _, rfl, ?_⟩
          · rw [ec]; exact atI_nat (xs := c :: r) (j := 0) (v := c) rfl
          have en : nameB x = (isSmall c && x.cps.toList.all fun c => isSmall c || isFig c) := by
            unfold nameB
            rw [decide_eq_true c1', decide_eq_true c2', Bool.true_and, Bool.true_and, ec]
          refine ite_b (fun c3 => ?_) (fun c3 => ?_)
          · refine qf ?_
            have : isSmall c = false := by
              have c3 : (!isSmall c) = true := c3
              simpa using c3
            rw [en, this, Bool.false_and]
          · have c3' : isSmall c = true := by
              have c3 : (!isSmall c) = false := c3
              simpa using c3
            rw [c3', Bool.true_and] at en
            refine ⟨_, rfl, x, rfl, fun D hD => lc_w (M := NoM) (G1 := H) walk_str (fun i H x H' y => y.1) (fun i acc _ => acc = (x.cps.toList.take i).map fun c => V.bl (isSmall c || isFig c)) hD (fun z => z) (Same.refl H) (fun _ _ _ => True.intro) (Nat.le_trans hx (by decide)) rfl ?_ ?_⟩
            · rintro i v acc G H' hi ⟨_, c, hc, rfl⟩ gr hl rfl
              intro Ky Kn ky kn
              refine ⟨rfl, y_te ?_⟩
              have hc' : x.cps.toList[i]? = some c := by rw [Array.getElem?_toList]; exact hc
              have fin : ∀ b, b = (isSmall c || isFig c) → Ky (.bl b) H' := fun b eb => ky _ H' G (Gr.start gr.sub) (by rw [eb]; exact (all_snoc (f := fun c => V.bl (isSmall c || isFig c)) hc').symm)
              refine ⟨_, rfl, c, smallS, rfl, rfl, _, rfl, ?_⟩
              refine ite_b (fun c4 => ?_) (fun c4 => ?_)
              · exact fin true (by have : isSmall c = true := c4; rw [this]; rfl)
              · refine ⟨_, rfl, c, figS, rfl, rfl, fin _ ?_⟩
                have : isSmall c = false := c4
                rw [this]; rfl
            · rintro acc G H' gr hg hl rfl
              refine ⟨D, (x.cps.toList.map fun c => isSmall c || isFig c), rfl, SqL.of ?_, ?_⟩
              · rw [gr.sub D _ upd_same, ← Array.length_toList, List.take_length, List.map_map]; rfl
              · have := k H' gr.same
                have e5 : isName (.lf (.str x)) = (x.cps.toList.map fun c => isSmall c || isFig c).all id := by
                  show nameB x = _
                  rw [en, List.all_map]; rfl
                rw [e5] at this
                exact this
      · refine ⟨_, rfl, iteT (qf ?_)⟩
        have c1' : ¬ 1 ≤ x.cps.size := by
          intro z
          have : decide ((1 : Int) ≤ ((x.length : Nat) : Int)) = true := decide_eq_true (by show (1 : Int) ≤ ((x.cps.size : Nat) : Int); omega)
          rw [this] at c1
          cases c1
        unfold nameB
        rw [decide_eq_false c1', Bool.false_and]
end
end K8
-- K8Lay
set_option maxRecDepth 100000
set_option maxHeartbeats 4000000
namespace K8
open PySem PySem.Spec PyProof.Rows L2
/-! ### unpacking a list -/
section
variable {prog : Program} {w : World} {A : Around} {E : Value → Shared → Prop} {s : Shared}
theorem pull_list {it l : Addr} {zs : Array Value} (ap : l ≠ it) : ∀ (n i : Nat) (s : Shared) (Q : List Value → Shared → Prop), s.heap.IsListIter it l i → s.heap.IsList l zs → i + n ≤ zs.size →
    (∀ h', h'.IsListIter it l (i + n) → Heap.SameBut it s.heap h' → Q ((zs.toList.drop i).take n) { s with heap := h' }) → wpAny (model prog w) A (draw (.ref it) n) Q E s
  | 0, i, s, Q, a, _, _, k => by
    show wpAny _ _ (pure []) Q E s
    exact wpAny_pure (by simpa using k s.heap a (Heap.SameBut.refl ..))
  | n + 1, i, s, Q, a, b, hle, k => by
    have hlt : i < zs.size := by omega
    show wpAny _ _ (pyNext (.ref it) >>= _) Q E s
    refine wpAny_bind (wpAny_pyNext_list_item a b (x := zs[i]) (by simp [hlt]) fun h1 a1 sb1 => ?_)
    refine wpAny_bind (wpAny_holding (pull_list ap n (i + 1) _ _ a1 (b.extBut sb1.extBut ap) (by omega) fun h2 a2 sb2 => wpAny_pure ?_))
    have e : zs.toList.drop i = zs[i] :: zs.toList.drop (i + 1) := by simp [List.drop_eq_getElem_cons, hlt]
    have q := k h2 (by rw [show i + (n + 1) = i + 1 + n by omega]; exact a2) (sb1.trans sb2)
    rw [e, List.take_succ_cons] at q
    exact q
theorem items_of_list {t : Addr} {zs : Array Value} {Q : List Value → Shared → Prop} (hh : A.handled = none) (b : s.heap.IsList t zs)
    (k : ∀ h', Heap.ExtBut s.heap.objs.size s.heap h' → Q zs.toList { s with heap := h' }) : wpAny (model prog w) A (unpackItems (.ref t) zs.size none) Q E s := by
  have ap : t ≠ s.heap.objs.size := by obtain ⟨o, ho, _⟩ := b; exact Nat.ne_of_lt (Heap.lt_size ho)
  unfold unpackItems
  refine wpAny_bind ?_
  unfold notIterableAtAll
  refine wpAny_bind (wpAny_specialOf b.typeIs PySem.slot_list_iter.lookup ?_)
  refine wpAny_pure ?_
  simp only [Bool.false_eq_true, if_false]
  refine wpAny_bind (wpAny_holding (wpAny_pyIter_list b ?_))
  refine wpAny_bind (wpAny_holding (pull_list ap zs.size 0 _ _ ⟨_, Heap.get?_push_size _ rfl, rfl, rfl⟩ (b.push _) (by omega) fun h1 a1 sb1 => ?_))
  have e : List.take zs.size (List.drop 0 zs.toList) = zs.toList := by
    rw [List.drop_zero]; exact List.take_of_length_le (by simp)
  rw [e, if_neg (by simp)]
  have b1 : h1.IsList t zs := (b.push _).extBut sb1.extBut ap
  refine wpAny_bind (wpAny_holding (wpAny_pyNext_list_end hh a1 b1 (by simp) fun h2 x2 => ?_))
  simp only [Option.isSome_none, Bool.false_eq_true, if_false]
  exact wpAny_pure (k h2 fun c o hc q => x2 c o hc (sb1.extBut c o hc (Heap.get?_push_of_some _ q)))
theorem asg_tup_list {env : Env} {elts : List Expr} {kk} {pos : Pos} {t : Addr} {zs : Array Value} {Q : Unit → Shared → Prop} (hh : A.handled = none) (b : s.heap.IsList t zs) (hn : (assignEach elts env).length = zs.size) (hst : (assignEach elts env).findIdx? (·.1) = none)
    (k : ∀ h', Heap.ExtBut s.heap.objs.size s.heap h' → wpAny (model prog w) A (assignInOrder ((assignEach elts env).map (·.2)) zs.toList) Q E { s with heap := h' }) : wpAny (model prog w) A (assign (.Tuple elts kk pos) env (.ref t)) Q E s := by
  rw [PyProof.Rows.assign_Tuple]
  refine wpAny_bind (wpAny_standAt ?_)
  unfold unpack
  rw [hn, hst]
  exact wpAny_bind (wpAny_holding (items_of_list hh b k))
end
def gSeq (K : PySem.W.Frag) (n : Nat) (t : TGs) : TG := fun v σ H Q => ∃ a xs, v = .ref a ∧ Sq K H a xs ∧ xs.length = n ∧ t xs σ H Q
theorem pg_seq {X : Cx} {es : List Expr} {k : Nat} {pos : Pos} {t : TGs} {n : Nat} (hc : X.calm = true) (h : PGs X es t) (hn : (assignEach es X.env).length = n := by rfl) (hst : (assignEach es X.env).findIdx? (·.1) = none := by rfl) : PG X (.Tuple es k pos) (gSeq X.K n t) := by
  refine ⟨fun pins s σ H v u Q I r hw => ?_⟩
  obtain ⟨a, xs, e1, hq, hl, hw⟩ := hw
  subst e1
  rcases hq with hq | hq
  · cases r
    obtain ⟨its, rv, p, hz⟩ := I.list hq
    refine asg_tup_list (I.ok.hd hc) p.isList (by simp [hn, ← hl, rv.length]) hst fun h' hx => ?_
    have J : Inv X pins σ H { s with heap := h' } := I.kept (t' := s.toks) fun b o e => hx b o (Nat.ne_of_lt (Heap.lt_size e)) e
    exact h.run pins _ σ H _ _ Q J (by simpa using rv) hw
  · exact (pg_tup (n := n) hc h hn hst).run pins s σ H _ u Q I r ⟨a, xs, rfl, hq, hl, hw⟩
/-! ### sorted texts of a list or a tuple -/
section
variable {prog : Program} {w : World} {A : Around} {E : Value → Shared → Prop} {s : Shared}
theorem gather_tup {l : Addr} {vs : List Value} {Q : List Value → Shared → Prop} (hl : IsTup s.heap l vs.toArray)
    (h : Q vs { s with heap := (s.heap.push (seqObj "list" #[] 0)).update s.heap.objs.size (Obj.mapSeq (· ++ vs.toArray)) }) (hz : vs.length ≤ sizeLine) : wpAny (model prog w) A (collect (.ref l)) Q E s := by
  obtain ⟨o, ho, hc, n, hd⟩ := id hl
  unfold collect
  refine wpAny_bind (wpAny_runValue (codeAny_builtin entry_proto_collect' ?_))
  show wpAny _ _ (do again (.builtin "list.__iadd__" ⟨[← newList [], .ref l], []⟩)) _ _ s
  refine wpAny_bind (wpAny_newList (wpAny_pure ⟨Code.quiet_builtin _ (by decide +kernel), codeAny_builtin entry_list_iadd' ?_⟩))
  show wpAny _ _ (Builtin.List.listExtendWith (.ref s.heap.objs.size) (.ref l) (.ref s.heap.objs.size)) _ _ { s with heap := s.heap.push (seqObj "list" #[] 0) }
  unfold Builtin.List.listExtendWith
  have q := Heap.get?_push_of_some (seqObj "list" #[] 0) ho
  refine wpAny_bind (wpAny_typeOf (T := "tuple") ⟨o, q, hc⟩ ?_)
  have ht : (Value.type "tuple" == Value.type "tuple") = true := by rfl
  rw [if_pos (by rw [ht]; simp)]
  refine wpAny_bind (listItems_at q hd ?_)
  refine wpAny_bind (listItems_at (xs := #[]) (n := 0) (Heap.get?_push_size _ rfl) rfl ?_)
  rw [if_neg (by simp)]
  refine wpAny_bind (listUpdate_at (xs := #[]) (n := 0) (Heap.get?_push_size _ rfl) rfl ?_ (Nat.zero_le _) (by show (#[] ++ vs.toArray).size ≤ sizeLine + 1; simp only [Array.size_append, List.size_toArray, List.length_nil]; omega))
  refine wpAny_pure ?_
  show wpAny (model prog w) A (load s.heap.objs.size >>= fun o => match o.data with
      | .seq xs _ => pure xs.toList
      | _ => unsupported "internal:collect") Q E { s with heap := (s.heap.push (seqObj "list" #[] 0)).update s.heap.objs.size (Obj.mapSeq (· ++ vs.toArray)) }
  refine wpAny_bind (wpAny_load (get?_update_seq (Heap.get?_push_size _ rfl) _) ?_)
  show wpAny _ _ (pure ((#[] : Array Value) ++ vs.toArray).toList) Q E _
  rw [show ((#[] : Array Value) ++ vs.toArray).toList = vs by simp]
  exact wpAny_pure h
theorem ordered_tup {l : Addr} {vs : List Value} {ss : List Str} {Q : Value → Shared → Prop} (hl : IsTup s.heap l vs.toArray) (hS : StrsAre vs ss) (h64 : vs.length < 64)
    (h : ∀ (out : Array Value) (ss' : List Str), StrsAre out.toList ss' → ss'.Perm ss → sortedS ss' = true → Q (.ref (s.heap.objs.size + 1)) { s with heap := sortedAll s.heap vs out }) : wpAny (model prog w) A (call (.builtin "sorted") [.ref l]) Q E s := by
  refine Calls.call_function_entry kind_sorted plain_sorted entry_sorted (args_sorted1 _) ?_
  unfold Builtin.«sorted»
  refine wpAny_bind (m := checkCount "sorted" 1 1 _) (wpAny_pure ?_)
  refine wpAny_bind (gather_tup hl ?_ (Nat.le_trans (Nat.le_of_lt h64) (by decide)))
  refine wpAny_bind (wpAny_newList ?_)
  have zz : ((s.heap.push (seqObj "list" #[] 0)).update s.heap.objs.size (Obj.mapSeq (· ++ vs.toArray))).objs.size = s.heap.objs.size + 1 := by rw [Heap.size_update, size_push']
  have oo : (((s.heap.push (seqObj "list" #[] 0)).update s.heap.objs.size (Obj.mapSeq (· ++ vs.toArray))).push (seqObj "list" vs.toArray 0)).get? (s.heap.objs.size + 1) = some (seqObj "list" vs.toArray 0) := by rw [← zz]; exact Heap.get?_push_size _ rfl
  show wpAny _ _ _ _ _ { s with heap := ((s.heap.push (seqObj "list" #[] 0)).update s.heap.objs.size (Obj.mapSeq (· ++ vs.toArray))).push (seqObj "list" vs.toArray 0) }
  rw [zz]
  refine wpAny_bind (wpAny_holding (wpAny_call_entry slot_list_sort ⟨_, oo, rfl⟩ entry_list_sort (list_sort_treeK strKind_oneLt oo hS.keysOf (fun v₁ v₂ rest e => keyKind_strs (by rw [← e]; exact hS)) h64 fun st' a1 a2 => ⟨_, rfl, ?_⟩) (args_list_sort _)))
  obtain ⟨ss', h1, h2, h3⟩ := sorted_out_str hS a1 a2
  exact wpAny_pure ⟨_, rfl, h _ ss' h1 h2 h3⟩
end
def rSortQ (K : PySem.W.Frag) : List V → Hp → VK → Prop := fun vs H Q => ∃ (a : Addr) (xs : List Str), vs = [V.ref a] ∧ Sq K H a (xs.map V.str) ∧ xs.length < 64 ∧ ∀ (ys : List Str) (p : Addr), ys.Perm xs → sortedS ys = true → H p = none → Q (.ref p) (upd H p (.lst (ys.map V.str)))
theorem cr_sortQ {X : Cx} : CallR X (.builtin "sorted") (rSortQ X.K) := by
  intro pins s σ H vs us Q I r ⟨a, xs, e, hs, h64, q⟩
  subst e
  rcases hs with hs | hs
  · exact cr_sortedS pins s σ H _ us Q I r ⟨a, xs, rfl, hs, h64, q⟩
  · obtain ⟨its, rv, hl, _⟩ := I.tuple hs
    rw [Vals.ref1 r]
    have hlen0 := rv.length
    rw [List.length_map] at hlen0
    refine ordered_tup hl rv.strs (by rw [← hlen0]; exact h64) fun out ys h1 h2 h3 => ?_
    obtain ⟨ep, he'⟩ := PyProof.Rows.sortedAll_at s.heap its out
    have hlen : (ys.map V.str).length ≤ sizeLine := by rw [List.length_map, h2.length_eq]; exact small64 h64
    exact ⟨.ref _, upd H (s.heap.objs.size + 1) (.lst (ys.map V.str)), I.laid (t' := s.toks) (fun _ _ => PyProof.Rows.sortedAll_old) (Nat.le_succ _) ⟨hlen, out.toList, ep, vals_of_strs h1, he'⟩, rfl, q ys _ h2 h3 (I.hok.fresh (Nat.le_succ _))⟩
/-! ### enumerate of a list or a tuple -/
theorem begins_tup (t : Addr) (zs : Array Value) : Begins (.ref t) { cls := .type "tuple_iterator", data := .fields #[.ref t, .int 0 0] } (fun h => h.IsTuple t zs) where
  iter := fun prog w A E s Q h q => wpAny_pyIter_tuple h q
  keeps := fun h h' a k => a.at fun o e => k t o e
  free := rfl
set_option maxHeartbeats 4000000 in
theorem enum_of {v : Value} {o : Obj} {C : Heap → Prop} (B : Begins v o C) :
    Meets (Builtin.«enumerate.__new__» ⟨[.type "enumerate", v], []⟩) (fun _ R s => C s.heap ∧
      R (.ok (.ret (.ref (s.heap.push o).objs.size))) { s with heap := (s.heap.push o).push { cls := .type "enumerate", data := .fields #[.none, .bool false, .ref s.heap.objs.size, rawInt 0, .none, .none] } }) :=
  .of_wp fun prog w A R s h => by
    obtain ⟨hp, g, d, tk, os⟩ := s; obtain ⟨c0, h⟩ := h
    have hsub := sub_enumerate
    have qq : ∀ {A' : Around} {E : Value → Shared → Prop} {Q : Value → Shared → Prop}, Q (.ref hp.objs.size) ⟨hp.push o, g, d, tk, os⟩ → wpAny (model prog w) A' (pyIter v) Q E ⟨hp, g, d, tk, os⟩ :=
      fun q => B.iter prog w _ _ ⟨hp, g, d, tk, os⟩ _ c0 q
    wp_walk using qq
    refine wpAny_stack_any fun st => wpAny_pure ?_
    split
    · rename_i c _ _ _ _ _
      cases (c == Value.type "enumerate") <;> (wp_walk using qq; exact ⟨_, rfl, h⟩)
    · wp_walk using qq
      exact ⟨_, rfl, h⟩
theorem enum_start {prog : Program} {w : World} {A : Around} {E : Value → Shared → Prop} {s : Shared} {v : Value} {o : Obj} {C : Heap → Prop} {Q : Value → Shared → Prop} (B : Begins v o C) (c0 : C s.heap)
    (h : ∀ h', IsEnum h' (s.heap.objs.size + 1) s.heap.objs.size 0 .none → h'.get? s.heap.objs.size = some o → h'.objs.size = s.heap.objs.size + 2 → (∀ b o, s.heap.get? b = some o → h'.get? b = some o) → Q (.ref (s.heap.objs.size + 1)) { s with heap := h' }) :
    wpAny (model prog w) A (call (.type "enumerate") [v]) Q E s := by
  refine callType_new F.called_enumerate (by decide) (F.typeCall_enumerate_1 _) (F.newCall_enumerate_1 _) (fun obj => F.args_object_init_2 obj _) F.entry_enumerate_new (enum_of B) ⟨c0, ?_⟩
  have zz : (s.heap.push o).objs.size = s.heap.objs.size + 1 := Heap.size_push ..
  show _ ∧ _
  rw [zz]
  have he : IsEnum ((s.heap.push o).push { cls := .type "enumerate", data := .fields #[.none, .bool false, .ref s.heap.objs.size, rawInt 0, .none, .none] }) (s.heap.objs.size + 1) s.heap.objs.size 0 .none := by
    have x := Heap.get?_push_size (s.heap.push o) (o := { cls := .type "enumerate", data := .fields #[.none, .bool false, .ref s.heap.objs.size, rawInt 0, .none, .none] }) rfl
    rw [zz] at x; exact x
  exact ⟨⟨_, he, rfl⟩, h _ he (Heap.get?_push_of_some _ (Heap.get?_push_size _ B.free)) (by rw [Heap.size_push, zz]) fun b o x => Heap.get?_push_of_some _ (Heap.get?_push_of_some _ x)⟩
/-- the tuple at a, each item in a new pair -/
def IteT (K : PySem.W.Frag) (a : Addr) : It :=
  ⟨fun i H => ∃ (xs : List V) (x : V), SqT K H a xs ∧ xs[i]? = some x, fun i H v H' => ∃ T x, v = .ref T ∧ H T = none ∧ H' = upd H T (.tup [.int (i : Nat), x]) ∧ ∀ xs, SqT K H a xs → xs[i]? = some x, fun i H => ∃ xs : List V, SqT K H a xs ∧ xs.length ≤ i⟩
theorem turn_enumT {P : Program} {w : World} {K : PySem.W.Frag} {elts : List Expr} {kk : Nat} {tpos : Pos} (a e it : Addr) :
    Turn P w K (.Tuple elts kk tpos) (IteT K a) [e, it] e (fun i h => (∃ old, IsEnum h e it ((i : Nat) : Int) old) ∧ h.IsTupleIter it a i ∧ e ≠ it) where
  mem := by simp
  obj := fun i h st b hb => by
    obtain ⟨⟨old, he⟩, ⟨o, ho, hc, hd⟩, _⟩ := st
    have z : b = e ∨ b = it := by simpa using hb
    rcases z with rfl | rfl
    · exact ⟨_, he, fun v q => nomatch q⟩
    · exact ⟨o, ho, fun v q => by rw [hd] at q; cases q⟩
  keep := fun i h h' st k => by
    obtain ⟨⟨old, he⟩, hi, hne⟩ := st
    exact ⟨⟨old, k e (by simp) _ he⟩, hi.at fun o q => k it (by simp) o q, hne⟩
  item := by
    intro X hP hw hK hc i pins s σ H E I hf st hg
    subst hP hw hK
    obtain ⟨⟨old, he⟩, hit, hne⟩ := st
    obtain ⟨xs, x, hq, hx⟩ := hg
    obtain ⟨its, rv, p, hz⟩ := I.tuple hq
    obtain ⟨u, hu, ru⟩ := rv.get hx
    have hel : e < s.heap.objs.size := Heap.lt_size he
    have hil : it < s.heap.objs.size := by obtain ⟨_, q, _⟩ := hit; exact Heap.lt_size q
    have pt : s.heap.IsTuple a its.toArray := p
    have hal : a ≠ it := fun z => by
      subst z
      obtain ⟨o1, q1, c1, _⟩ := hit
      obtain ⟨o2, q2, c2, _⟩ := pt
      rw [q1] at q2; cases q2
      exact absurd (c1.symm.trans c2) (by decide)
    have hae : e ∉ [it, a] := by
      intro m
      have z : e = it ∨ e = a := by simpa using m
      rcases z with z | z
      · exact hne z
      · subst z
        obtain ⟨o2, q2, c2, _⟩ := pt
        have he' : s.heap.get? e = some _ := he
        rw [he'] at q2; cases q2
        exact absurd (show Value.type "enumerate" = Value.type "tuple" from c2) (by decide)
    have hlt : i < its.toArray.size := by
      have := (List.getElem?_eq_some_iff.mp hx).1
      have := rv.length
      simp; omega
    refine wpAny_pyNext_enum_itemD (Draws.tuple (A := X.A.in1) (I.ok.hd hc) it a hal its.toArray) he ⟨hit, pt⟩ hlt hne hae fun y h' tk hy ho st' hT hsz hk => ?_
    obtain rfl : y = u := by
      have hu' : its.toArray[i]? = some u := by simpa using hu
      rw [hu'] at hy; cases hy; rfl
    refine ⟨_, rfl, wpAny_letOwnedTupleGo_enum (s := { s with heap := h', toks := tk + 1 }) ho fun h'' he' sb => ?_⟩
    have hT2 : h''.get? s.heap.objs.size = some { cls := .type "tuple", data := .seq #[.int i tk, y] } := (sb.2 _ (Nat.ne_of_gt hel)).trans hT
    have new : ObjOk X.prog X.w (upd H s.heap.objs.size (.tup [.int (i : Nat), x])) h'' s.heap.objs.size (.tup [.int (i : Nat), x]) :=
      ⟨by show 2 ≤ sizeLine; decide, [.int i tk, y], .cons ⟨_, rfl⟩ (.cons ru .nil), ⟨_, hT2, rfl, _, rfl⟩⟩
    have J : Inv X pins σ (upd H s.heap.objs.size (.tup [.int (i : Nat), x])) { s with heap := h'', toks := tk + 1 } :=
      I.turnedNew (ch := [e, it]) (fun b ob hb q => (sb.2 b (fun z => hb (by simp [z]))).trans (hk b ob (fun z => hb (by simp [z])) (fun z => hb (by simp [z])) q)) hf (Nat.le_refl _) new
    refine ⟨.ref s.heap.objs.size, _, J, rfl, ⟨_, x, rfl, I.hok.fresh (Nat.le_refl _), rfl, fun ys hy => ?_⟩, ⟨⟨y, ?_⟩, st'.1.at fun o q => (sb.2 it (Ne.symm hne)).trans q, hne⟩, fun b hb => ?_⟩
    · rw [I.tuple_inj hy hq]; exact hx
    · have e1 : ((i + 1 : Nat) : Int) = (i : Int) + 1 := by omega
      rw [e1]; exact he'
    · have hb' : b < s.heap.objs.size := by
        have z : b = e ∨ b = it := by simpa using hb
        rcases z with rfl | rfl
        · exact hel
        · exact hil
      rw [upd_ne (Nat.ne_of_lt hb')]
      exact (hf b hb).1
  done := by
    intro X hP hw hK hc i pins s σ H E I hf st hg
    subst hP hw hK
    obtain ⟨⟨old, he⟩, hit, hne⟩ := st
    obtain ⟨xs, hq, hx⟩ := hg
    obtain ⟨its, rv, p, hz⟩ := I.tuple hq
    obtain ⟨f0, f1, f2, f3, f4, f5⟩ := hf it (by simp)
    have hl := rv.length
    have pt : s.heap.IsTuple a its.toArray := p
    have hTy : s.TypeIs (.ref e) "enumerate" := ⟨_, he, rfl⟩
    unfold pyNext
    refine wpAny_bind (wpAny_attempt (wpAny_callSpecial?_slot (name := Str.ofString "__next__") hTy F.slot_enumerate_next (wpAny_call_entry F.slot_enumerate_next hTy F.entry_enumerate_next ?_ (F.args_enumerate_next_1 _))))
    show wpAny _ _ (field (.ref e) 2 >>= _) _ _ _
    refine wpAny_bind (wpAny_field he rfl (x := .ref it) rfl ?_)
    refine wpAny_bind (wpAny_nextOf_tuple_end (I.ok.hd hc) hit pt (by simp; omega) fun h' x eb hx' => ?_)
    obtain ⟨o, ho, hcx⟩ := hx'
    refine wpAny_bind (wpAny_isInstance (T := "StopIteration") (b := true) ⟨o, ho, hcx⟩ isSubtype_stop ?_)
    exact wpAny_pure ⟨rfl, I.turned (t' := s.toks) (fun b o hb q => eb b o hb q) f0 f1 f3 f4 f5⟩
  self := fun A i s Q E st h => let ⟨⟨_, he⟩, _⟩ := st; wpAny_pyIter_enum he h
def iEnumQ (K : PySem.W.Frag) (ta : TA) : TI := fun σ H R => ta σ H fun vs H1 => ∃ a, vs = [.ref a] ∧ ((∃ xs, SqL K H1 a xs) ∧ R (Ite K a) H1 ∨ (∃ xs, SqT K H1 a xs) ∧ R (IteT K a) H1)
theorem pi_enumQ {X : Cx} {e : Expr} {ta : TA} {p pos tpos : Pos} {elts : List Expr} {kk : Nat} (hg : Gl X "enumerate") (hm : X.mg "enumerate" = none) (ha : PA X [e] ta) (hs : starEach [e] X.env = [(false, eval e X.env)] := by rfl) :
    PI X (.Tuple elts kk tpos) (.Call (.Name "enumerate" p) [e] [] pos) (iEnumQ X.K ta) := by
  refine ⟨fun pins s σ H R I h => ?_⟩
  refine Call_ (ld_blt I hg hm boot_enumerate (PyProof.Rows.callWith_type1 (thn (ha.run pos pins s σ H _ I h) fun us t1 ⟨vs, G1, J1, r1, q1⟩ => ?_) hs rfl))
  obtain ⟨a, ex, q⟩ := q1
  subst ex
  obtain ⟨u, rfl, rx⟩ := r1.one
  cases rx
  have nw : ∀ b, b = t1.heap.objs.size + 1 ∨ b = t1.heap.objs.size → t1.heap.objs.size ≤ b := fun b z => by
    rcases z with z | z
    · rw [z]; exact Nat.le_add_right _ _
    · rw [z]; exact Nat.le_refl _
  rcases q with ⟨⟨xs, hq⟩, q⟩ | ⟨⟨xs, hq⟩, q⟩
  · obtain ⟨its, rv, p', hz⟩ := J1.list hq
    refine call_enumerate_list p'.isList fun h' he hit hsz hk => wpAny_pyIter_enum he ?_
    refine ⟨t1.heap.objs.size + 1, [t1.heap.objs.size + 1, t1.heap.objs.size], _, _, G1, rfl, J1.kept (t' := t1.toks) hk, turn_enum a (t1.heap.objs.size + 1) t1.heap.objs.size, ⟨⟨.none, he⟩, hit, Nat.succ_ne_self _⟩, fun b hb => ?_, q⟩
    have hle := nw b (by simpa using hb)
    exact J1.fpOk hle (J1.hok.fresh hle)
  · obtain ⟨its, rv, p', hz⟩ := J1.tuple hq
    refine enum_start (begins_tup a its.toArray) p' fun h' he hit hsz hk => wpAny_pyIter_enum he ?_
    refine ⟨t1.heap.objs.size + 1, [t1.heap.objs.size + 1, t1.heap.objs.size], _, _, G1, rfl, J1.kept (t' := t1.toks) hk, turn_enumT a (t1.heap.objs.size + 1) t1.heap.objs.size, ⟨⟨.none, he⟩, ⟨_, hit, rfl, rfl⟩, Nat.succ_ne_self _⟩, fun b hb => ?_, q⟩
    have hle := nw b (by simpa using hb)
    exact J1.fpOk hle (J1.hok.fresh hle)
end K8
-- K8Sets
/-! Sets as strictly rising lists; the least of some sets; all sets of some names, level by level. Plain Lean. -/
set_option autoImplicit false
namespace K8
/-- a strict order of names -/
structure SOrd (α : Type) where
  lt : α → α → Prop
  irr : ∀ a, ¬ lt a a
  tr : ∀ {a b c : α}, lt a b → lt b c → lt a c
  tri : ∀ a b, lt a b ∨ a = b ∨ lt b a
section
variable {α : Type}
def Sub (a b : List α) : Prop := ∀ x, x ∈ a → x ∈ b
theorem Sub.refl (a : List α) : Sub a a := fun _ h => h
theorem Sub.trans {a b c : List α} (h : Sub a b) (k : Sub b c) : Sub a c := fun x m => k x (h x m)
/-! ### counting -/
theorem mem_split' {x : α} : ∀ {l : List α}, x ∈ l → ∃ l1 l2, l = l1 ++ x :: l2
  | y :: r, h => by
    rcases List.mem_cons.mp h with e | h
    · subst e; exact ⟨[], r, rfl⟩
    · obtain ⟨l1, l2, e⟩ := mem_split' h
      exact ⟨y :: l1, l2, by rw [e]; rfl⟩
theorem nodup_len : ∀ {a b : List α}, a.Nodup → Sub a b → a.length ≤ b.length
  | [], _, _, _ => Nat.zero_le _
  | x :: r, b, hn, hs => by
    obtain ⟨hx, hr⟩ := List.nodup_cons.mp hn
    obtain ⟨l1, l2, rfl⟩ := mem_split' (hs x List.mem_cons_self)
    have h2 : Sub r (l1 ++ l2) := fun y hy => by
      rcases List.mem_append.mp (hs y (List.mem_cons_of_mem _ hy)) with h | h
      · exact List.mem_append.mpr (.inl h)
      · rcases List.mem_cons.mp h with e | h
        · subst e; exact absurd hy hx
        · exact List.mem_append.mpr (.inr h)
    have ih := nodup_len hr h2
    simp only [List.length_append, List.length_cons] at ih ⊢
    omega
/-- as many unlike things, all of the other's: the other has no more -/
theorem nodup_full {a b : List α} (hn : a.Nodup) (hs : Sub a b) (hl : b.length ≤ a.length) : Sub b a := by
  intro y hy
  refine Classical.byContradiction fun hno => ?_
  obtain ⟨l1, l2, rfl⟩ := mem_split' hy
  have h2 : Sub a (l1 ++ l2) := fun z hz => by
    rcases List.mem_append.mp (hs z hz) with h | h
    · exact List.mem_append.mpr (.inl h)
    · rcases List.mem_cons.mp h with e | h
      · subst e; exact absurd hz hno
      · exact List.mem_append.mpr (.inr h)
  have ih := nodup_len hn h2
  simp only [List.length_append, List.length_cons] at ih hl
  omega
/-! ### strictly rising lists -/
variable (O : SOrd α)
abbrev Srt (l : List α) : Prop := l.Pairwise O.lt
variable {O}
theorem Srt.nodup {l : List α} (h : Srt O l) : l.Nodup := h.imp fun {a b} q e => by subst e; exact O.irr _ q
theorem srt_ext : ∀ {a b : List α}, Srt O a → Srt O b → (∀ x, x ∈ a ↔ x ∈ b) → a = b
  | [], [], _, _, _ => rfl
  | [], y :: r, _, _, h => absurd ((h y).mpr List.mem_cons_self) List.not_mem_nil
  | x :: r, [], _, _, h => absurd ((h x).mp List.mem_cons_self) List.not_mem_nil
  | x :: r, y :: t, hx, hy, h => by
    obtain ⟨x1, x2⟩ := List.pairwise_cons.mp hx
    obtain ⟨y1, y2⟩ := List.pairwise_cons.mp hy
    have e : x = y := by
      rcases List.mem_cons.mp ((h x).mp List.mem_cons_self) with e | m
      · exact e
      · rcases List.mem_cons.mp ((h y).mpr List.mem_cons_self) with e | n
        · exact e.symm
        · exact absurd (O.tr (x1 y n) (y1 x m)) (O.irr _)
    subst e
    rw [srt_ext x2 y2 fun z => ⟨fun m => ?_, fun m => ?_⟩]
    · rcases List.mem_cons.mp ((h z).mp (List.mem_cons_of_mem _ m)) with e | n
      · subst e; exact absurd (x1 _ m) (O.irr _)
      · exact n
    · rcases List.mem_cons.mp ((h z).mpr (List.mem_cons_of_mem _ m)) with e | n
      · subst e; exact absurd (y1 _ m) (O.irr _)
      · exact n
theorem srt_sub_eq {a b : List α} (ha : Srt O a) (hb : Srt O b) (h : Sub a b) (k : Sub b a) : a = b := srt_ext ha hb fun x => ⟨h x, k x⟩
/-- a proper part has fewer -/
theorem srt_proper {a b : List α} (ha : Srt O a) (hb : Srt O b) (h : Sub a b) (ne : a ≠ b) : a.length < b.length := by
  have h1 := nodup_len ha.nodup h
  rcases Nat.lt_or_ge a.length b.length with q | q
  · exact q
  · exact absurd (srt_sub_eq ha hb h (nodup_full ha.nodup h q)) ne
/-! ### the order of choices -/
variable (O)
def lexLt : List α → List α → Prop
  | [], [] => False
  | [], _ :: _ => True
  | _ :: _, [] => False
  | a :: r, b :: t => O.lt a b ∨ (a = b ∧ lexLt r t)
def slt (a b : List α) : Prop := a.length < b.length ∨ (a.length = b.length ∧ lexLt O a b)
variable {O}
theorem lexLt_irr : ∀ a : List α, ¬ lexLt O a a
  | [], h => h
  | a :: r, h => by
    rcases h with h | ⟨_, h⟩
    · exact O.irr _ h
    · exact lexLt_irr r h
theorem lexLt_tr : ∀ {a b c : List α}, lexLt O a b → lexLt O b c → lexLt O a c
  | [], [], _, h, _ => h.elim
  | [], _ :: _, [], _, k => k.elim
  | [], _ :: _, _ :: _, _, _ => trivial
  | _ :: _, [], _, h, _ => h.elim
  | _ :: _, _ :: _, [], _, k => k.elim
  | x :: a, y :: b, z :: c, h, k => by
    rcases h with h | ⟨rfl, h⟩
    · rcases k with k | ⟨rfl, k⟩
      · exact .inl (O.tr h k)
      · exact .inl h
    · rcases k with k | ⟨rfl, k⟩
      · exact .inl k
      · exact .inr ⟨rfl, lexLt_tr h k⟩
theorem lexLt_tri : ∀ a b : List α, lexLt O a b ∨ a = b ∨ lexLt O b a
  | [], [] => .inr (.inl rfl)
  | [], _ :: _ => .inl trivial
  | _ :: _, [] => .inr (.inr trivial)
  | x :: a, y :: b => by
    rcases O.tri x y with h | rfl | h
    · exact .inl (.inl h)
    · rcases lexLt_tri a b with h | rfl | h
      · exact .inl (.inr ⟨rfl, h⟩)
      · exact .inr (.inl rfl)
      · exact .inr (.inr (.inr ⟨rfl, h⟩))
    · exact .inr (.inr (.inl h))
theorem slt_irr (a : List α) : ¬ slt O a a := fun h => by
  rcases h with h | ⟨_, h⟩
  · exact Nat.lt_irrefl _ h
  · exact lexLt_irr a h
theorem slt_tr {a b c : List α} (h : slt O a b) (k : slt O b c) : slt O a c := by
  rcases h with h | ⟨e, h⟩
  · rcases k with k | ⟨e', k⟩
    · exact .inl (Nat.lt_trans h k)
    · exact .inl (e' ▸ h)
  · rcases k with k | ⟨e', k⟩
    · exact .inl (e ▸ k)
    · exact .inr ⟨e.trans e', lexLt_tr h k⟩
theorem slt_tri (a b : List α) : slt O a b ∨ a = b ∨ slt O b a := by
  rcases Nat.lt_trichotomy a.length b.length with h | h | h
  · exact .inl (.inl h)
  · rcases lexLt_tri (O := O) a b with k | k | k
    · exact .inl (.inr ⟨h, k⟩)
    · exact .inr (.inl k)
    · exact .inr (.inr (.inr ⟨h.symm, k⟩))
  · exact .inr (.inr (.inl h))
/-- sets, in the order of choices -/
def sOrd (O : SOrd α) : SOrd (List α) := ⟨slt O, slt_irr, slt_tr, slt_tri⟩
theorem slt_of_part {a b : List α} (ha : Srt O a) (hb : Srt O b) (h : Sub a b) (ne : a ≠ b) : slt O a b := .inl (srt_proper ha hb h ne)
/-! ### the least of some sets -/
variable [DecidableEq α]
def part (a b : List α) : Bool := a.all fun x => decide (x ∈ b)
theorem part_iff {a b : List α} : part a b = true ↔ Sub a b := by
  unfold part Sub
  rw [List.all_eq_true]
  exact ⟨fun h x m => of_decide_eq_true (h x m), fun h x m => decide_eq_true (h x m)⟩
def lstep (acc : List (List α)) (x : List α) : List (List α) := if acc.any (fun y => part y x) then acc else acc ++ [x]
def least (l : List (List α)) : List (List α) := l.foldl lstep []
theorem least_snoc (l : List (List α)) (x : List α) : least (l ++ [x]) = lstep (least l) x := by
  unfold least; rw [List.foldl_append]; rfl
theorem any_part {acc : List (List α)} {x : List α} : acc.any (fun y => part y x) = true ↔ ∃ y ∈ acc, Sub y x := by
  rw [List.any_eq_true]
  exact ⟨fun ⟨y, m, h⟩ => ⟨y, m, part_iff.mp h⟩, fun ⟨y, m, h⟩ => ⟨y, m, part_iff.mpr h⟩⟩
theorem snoc_ind {β : Type} {P : List β → Prop} (h0 : P []) (h1 : ∀ l x, P l → P (l ++ [x])) (l : List β) : P l := by
  have : ∀ r : List β, P r.reverse := fun r => by
    induction r with
    | nil => exact h0
    | cons x r ih => rw [List.reverse_cons]; exact h1 _ _ ih
  have := this l.reverse
  rwa [List.reverse_reverse] at this
structure LeastOk (l acc : List (List α)) : Prop where
  sub : ∀ x ∈ acc, x ∈ l
  dom : ∀ y ∈ l, ∃ x ∈ acc, Sub x y
  min : ∀ x ∈ acc, ∀ y ∈ l, Sub y x → y = x
theorem least_sublist (l : List (List α)) : (least l).Sublist l := by
  refine snoc_ind (P := fun l => (least l).Sublist l) (List.Sublist.refl _) (fun l x ih => ?_) l
  rw [least_snoc]
  unfold lstep
  split
  · exact ih.trans (List.sublist_append_left _ _)
  · exact ih.append (List.Sublist.refl _)
theorem least_ok (l : List (List α)) (hs : ∀ x ∈ l, Srt O x) (hp : l.Pairwise (slt O)) : LeastOk l (least l) := by
  revert hs hp
  refine snoc_ind (P := fun l => (∀ x ∈ l, Srt O x) → l.Pairwise (slt O) → LeastOk l (least l)) (fun _ _ => ⟨fun _ h => h, fun _ h => (nomatch h), fun _ h => (nomatch h)⟩) (fun l x ih hs hp => ?_) l
  obtain ⟨hp1, _, hpx⟩ := List.pairwise_append.mp hp
  have hx : Srt O x := hs x (List.mem_append.mpr (.inr (List.mem_singleton.mpr rfl)))
  have hl : ∀ y ∈ l, Srt O y := fun y m => hs y (List.mem_append.mpr (.inl m))
  have ahead : ∀ y ∈ l, slt O y x := fun y m => hpx y m x (List.mem_singleton.mpr rfl)
  have K := ih hl hp1
  -- x is no part of what stands ahead
  have xno : ∀ z ∈ l, ¬ Sub x z := fun z m h => by
    by_cases e : x = z
    · subst e; exact slt_irr _ (ahead x m)
    · exact slt_irr _ (slt_tr (slt_of_part hx (hl z m) h e) (ahead z m))
  rw [least_snoc]
  unfold lstep
  split
  · rename_i h
    obtain ⟨y, my, hy⟩ := any_part.mp h
    refine ⟨fun z m => List.mem_append.mpr (.inl (K.sub z m)), fun z m => ?_, fun z m w mw hw => ?_⟩
    · rcases List.mem_append.mp m with m | m
      · exact K.dom z m
      · rw [List.mem_singleton.mp m]; exact ⟨y, my, hy⟩
    · rcases List.mem_append.mp mw with mw | mw
      · exact K.min z m w mw hw
      · rw [List.mem_singleton.mp mw] at hw
        exact absurd hw (xno z (K.sub z m))
  · rename_i h
    have hno : ∀ y ∈ least l, ¬ Sub y x := fun y m hy => h (any_part.mpr ⟨y, m, hy⟩)
    refine ⟨fun z m => ?_, fun z m => ?_, fun z m w mw hw => ?_⟩
    · rcases List.mem_append.mp m with m | m
      · exact List.mem_append.mpr (.inl (K.sub z m))
      · exact List.mem_append.mpr (.inr m)
    · rcases List.mem_append.mp m with m | m
      · obtain ⟨y, my, hy⟩ := K.dom z m
        exact ⟨y, List.mem_append.mpr (.inl my), hy⟩
      · exact ⟨z, List.mem_append.mpr (.inr m), Sub.refl _⟩
    · rcases List.mem_append.mp m with m | m
      · rcases List.mem_append.mp mw with mw | mw
        · exact K.min z m w mw hw
        · rw [List.mem_singleton.mp mw] at hw
          exact absurd hw (xno z (K.sub z m))
      · have ez := List.mem_singleton.mp m
        subst ez
        rcases List.mem_append.mp mw with mw | mw
        · obtain ⟨y, my, hy⟩ := K.dom w mw
          exact absurd (hy.trans hw) (hno y my)
        · exact List.mem_singleton.mp mw
theorem mem_least {l : List (List α)} (hs : ∀ x ∈ l, Srt O x) (hp : l.Pairwise (slt O)) {x : List α} : x ∈ least l ↔ x ∈ l ∧ ∀ y ∈ l, Sub y x → y = x := by
  have K := least_ok l hs hp
  refine ⟨fun h => ⟨K.sub x h, K.min x h⟩, fun ⟨h, k⟩ => ?_⟩
  obtain ⟨y, my, hy⟩ := K.dom x h
  rw [← k y (K.sub y my) hy]
  exact my
/-- the least of two rising lists of sets are the same if each set of the one has a part in the other that comes from it -/
theorem least_same {a b : List (List α)} (ha : ∀ x ∈ a, Srt O x) (hb : ∀ x ∈ b, Srt O x) (pa : a.Pairwise (slt O)) (pb : b.Pairwise (slt O)) (h1 : ∀ x ∈ a, x ∈ b) (h2 : ∀ y ∈ b, ∃ x ∈ a, Sub x y) : least a = least b := by
  refine srt_ext (O := sOrd O) (pa.sublist (least_sublist a)) (pb.sublist (least_sublist b)) fun x => ?_
  rw [mem_least ha pa, mem_least hb pb]
  constructor
  · rintro ⟨m, k⟩
    refine ⟨h1 x m, fun y my hy => ?_⟩
    obtain ⟨z, mz, hz⟩ := h2 y my
    have e := k z mz (hz.trans hy)
    subst e
    exact srt_sub_eq (hb y my) (ha z mz) hy hz
  · rintro ⟨m, k⟩
    obtain ⟨z, mz, hz⟩ := h2 x m
    have e := k z (h1 z mz) hz
    subst e
    exact ⟨mz, fun y my hy => k y (h1 y my) hy⟩
/-! ### all sets of some names, by levels -/
section
variable (lt : α → α → Bool) (names : List α)
/-- the names that may stand behind a set -/
def mayFollow (one : List α) (nm : α) : Bool := match one.getLast? with
  | none => true
  | some l => lt l nm
def grow (one : List α) : List (List α) := (names.filter (mayFollow lt one)).map fun nm => one ++ [nm]
def level : Nat → List (List α)
  | 0 => [[]]
  | k + 1 => (level k).flatMap (grow lt names)
def levelsUpTo (k : Nat) : List (List α) := (List.range (k + 1)).flatMap (level lt names)
theorem levelsUpTo_succ (k : Nat) : levelsUpTo lt names (k + 1) = levelsUpTo lt names k ++ level lt names (k + 1) := by
  unfold levelsUpTo
  rw [List.range_succ, List.flatMap_append, List.flatMap_singleton]
end
section
variable {lt : α → α → Bool} {names : List α} (hlt : ∀ a b, lt a b = true ↔ O.lt a b)
include hlt
theorem srt_snoc {one : List α} {nm : α} : Srt O (one ++ [nm]) ↔ Srt O one ∧ ∀ x ∈ one, O.lt x nm := by
  unfold Srt
  rw [List.pairwise_append]
  constructor
  · rintro ⟨h1, _, h2⟩
    exact ⟨h1, fun x m => h2 x m nm (List.mem_singleton.mpr rfl)⟩
  · rintro ⟨h1, h2⟩
    exact ⟨h1, List.pairwise_singleton _ _, fun x m y my => by rw [List.mem_singleton.mp my]; exact h2 x m⟩
theorem mayFollow_iff {one : List α} {nm : α} (hs : Srt O one) : mayFollow lt one nm = true ↔ ∀ x ∈ one, O.lt x nm := by
  unfold mayFollow
  revert hs
  refine snoc_ind (P := fun one => Srt O one → ((match one.getLast? with | none => true | some l => lt l nm) = true ↔ ∀ x ∈ one, O.lt x nm)) (fun _ => ?_) (fun l x _ hs => ?_) one
  · simp
  · rw [List.getLast?_append, List.getLast?_singleton]
    show lt x nm = true ↔ _
    rw [hlt]
    obtain ⟨h1, h2⟩ := (srt_snoc hlt).mp hs
    refine ⟨fun h y m => ?_, fun h => h x (List.mem_append.mpr (.inr (List.mem_singleton.mpr rfl)))⟩
    rcases List.mem_append.mp m with m | m
    · exact O.tr (h2 y m) h
    · rw [List.mem_singleton.mp m]; exact h
theorem mem_level : ∀ (k : Nat) (x : List α), x ∈ level lt names k ↔ x.length = k ∧ Srt O x ∧ Sub x names
  | 0, x => by
    show x ∈ [[]] ↔ _
    rw [List.mem_singleton]
    constructor
    · rintro rfl; exact ⟨rfl, List.Pairwise.nil, fun _ m => nomatch m⟩
    · rintro ⟨h, _⟩; exact List.length_eq_zero_iff.mp h
  | k + 1, x => by
    show x ∈ (level lt names k).flatMap (grow lt names) ↔ _
    rw [List.mem_flatMap]
    constructor
    · rintro ⟨one, m, h⟩
      obtain ⟨l1, s1, n1⟩ := (mem_level k one).mp m
      obtain ⟨nm, hm, rfl⟩ := List.mem_map.mp h
      obtain ⟨m1, m2⟩ := List.mem_filter.mp hm
      refine ⟨by rw [List.length_append, l1]; rfl, (srt_snoc hlt).mpr ⟨s1, (mayFollow_iff hlt s1).mp m2⟩, fun y my => ?_⟩
      rcases List.mem_append.mp my with my | my
      · exact n1 y my
      · rw [List.mem_singleton.mp my]; exact m1
    · rintro ⟨l1, s1, n1⟩
      have hne : x ≠ [] := fun e => by rw [e] at l1; cases l1
      obtain ⟨one, nm, rfl⟩ : ∃ one nm, x = one ++ [nm] := ⟨_, _, (List.dropLast_concat_getLast hne).symm⟩
      obtain ⟨s2, s3⟩ := (srt_snoc hlt).mp s1
      refine ⟨one, (mem_level k one).mpr ⟨by rw [List.length_append, List.length_singleton] at l1; omega, s2, fun y my => n1 y (List.mem_append.mpr (.inl my))⟩, ?_⟩
      exact List.mem_map.mpr ⟨nm, List.mem_filter.mpr ⟨n1 nm (List.mem_append.mpr (.inr (List.mem_singleton.mpr rfl))), (mayFollow_iff hlt s2).mpr s3⟩, rfl⟩
omit [DecidableEq α] hlt in
theorem lex_snoc_same {a b : α} (h : O.lt a b) : ∀ one : List α, lexLt O (one ++ [a]) (one ++ [b])
  | [] => .inl h
  | _ :: r => .inr ⟨rfl, lex_snoc_same h r⟩
omit [DecidableEq α] hlt in
theorem lex_snoc_diff {a b : α} : ∀ {x y : List α}, x.length = y.length → lexLt O x y → lexLt O (x ++ [a]) (y ++ [b])
  | [], [], _, h => h.elim
  | [], _ :: _, e, _ => nomatch e
  | _ :: _, [], e, _ => nomatch e
  | _ :: r, _ :: t, e, h => by
    rcases h with h | ⟨rfl, h⟩
    · exact .inl h
    · exact .inr ⟨rfl, lex_snoc_diff (Nat.succ.inj e) h⟩
theorem level_lex (hn : Srt O names) : ∀ k, (level lt names k).Pairwise (lexLt O)
  | 0 => List.pairwise_singleton _ _
  | k + 1 => by
    show ((level lt names k).flatMap (grow lt names)).Pairwise (lexLt O)
    rw [List.pairwise_flatMap]
    refine ⟨fun one m => ?_, ?_⟩
    · unfold grow
      rw [List.pairwise_map]
      exact (hn.sublist List.filter_sublist).imp fun h => lex_snoc_same h one
    · refine List.Pairwise.imp_of_mem (R := lexLt O) (fun {x y} mx my h => ?_) (level_lex hn k)
      intro a ma b mb
      obtain ⟨p, _, rfl⟩ := List.mem_map.mp ma
      obtain ⟨q, _, rfl⟩ := List.mem_map.mp mb
      have e1 := ((mem_level hlt k x).mp mx).1
      have e2 := ((mem_level hlt k y).mp my).1
      exact lex_snoc_diff (e1.trans e2.symm) h
theorem levelsUpTo_slt (hn : Srt O names) : ∀ k, (levelsUpTo lt names k).Pairwise (slt O) ∧ ∀ x ∈ levelsUpTo lt names k, x.length ≤ k
  | 0 => ⟨by unfold levelsUpTo; simp [level], by unfold levelsUpTo; simp [level]⟩
  | k + 1 => by
    obtain ⟨h1, h2⟩ := levelsUpTo_slt hn k
    rw [levelsUpTo_succ]
    refine ⟨List.pairwise_append.mpr ⟨h1, ?_, fun x mx y my => .inl ?_⟩, fun x m => ?_⟩
    · refine List.Pairwise.imp_of_mem (R := lexLt O) (fun {x y} mx my h => .inr ⟨?_, h⟩) (level_lex hlt hn (k + 1))
      exact ((mem_level hlt _ x).mp mx).1.trans ((mem_level hlt _ y).mp my).1.symm
    · have e := ((mem_level hlt _ y).mp my).1
      have := h2 x mx
      omega
    · rcases List.mem_append.mp m with m | m
      · exact Nat.le_succ_of_le (h2 x m)
      · exact Nat.le_of_eq ((mem_level hlt _ x).mp m).1
theorem mem_levelsUpTo (hn : Srt O names) {x : List α} : x ∈ levelsUpTo lt names names.length ↔ Srt O x ∧ Sub x names := by
  unfold levelsUpTo
  rw [List.mem_flatMap]
  constructor
  · rintro ⟨k, _, m⟩
    exact ((mem_level hlt k x).mp m).2
  · rintro ⟨h1, h2⟩
    exact ⟨x.length, List.mem_range.mpr (Nat.lt_succ_of_le (nodup_len h1.nodup h2)), (mem_level hlt _ x).mpr ⟨rfl, h1, h2⟩⟩
end
end
end K8
-- K8Sort
set_option maxRecDepth 100000
set_option maxHeartbeats 4000000
namespace K8
open PySem PySem.Spec PyProof.Rows L2
/-! ### names in their order -/
theorem nats_tri (a b : List Nat) : a < b ∨ a = b ∨ b < a := by
  by_cases h : a < b
  · exact .inl h
  · by_cases k : b < a
    · exact .inr (.inr k)
    · exact .inr (.inl (List.le_antisymm (List.not_lt.mp k) (List.not_lt.mp h)))
def strO : SOrd Str := ⟨fun a b => a.cps.toList < b.cps.toList, fun a => List.lt_irrefl _, fun h k => List.lt_trans h k, fun a b => by
  rcases nats_tri a.cps.toList b.cps.toList with h | h | h
  · exact .inl h
  · exact .inr (.inl (PySem.W.str_of_cps h))
  · exact .inr (.inr h)⟩
theorem rising_all : ∀ (r : List Str) (p : Str), risingS p r = true → ∀ x ∈ r, ¬ strO.lt x p
  | [], _, _, x, m => (nomatch m)
  | y :: r, p, h, x, m => by
    have h : (!ltCps y.cps.toList p.cps.toList && risingS y r) = true := h
    rw [Bool.and_eq_true, ltCps_eq] at h
    have hy : ¬ strO.lt y p := by
      have q := h.1
      intro z
      have z : y.cps.toList < p.cps.toList := z
      rw [decide_eq_true z] at q
      cases q
    rcases List.mem_cons.mp m with rfl | m
    · exact hy
    · have ih := rising_all r y h.2 x m
      intro z
      rcases strO.tri x y with q | q | q
      · exact ih q
      · subst q; exact hy z
      · exact hy (strO.tr q z)
theorem sortedS_pw : ∀ (l : List Str), sortedS l = true → l.Pairwise fun a b => ¬ strO.lt b a
  | [], _ => .nil
  | x :: r, h => by
    have h : risingS x r = true := h
    refine .cons (rising_all r x h) (sortedS_pw r ?_)
    cases r with
    | nil => rfl
    | cons y t =>
      have h : (!ltCps y.cps.toList x.cps.toList && risingS y t) = true := h
      rw [Bool.and_eq_true] at h
      exact h.2
theorem srt_of {α : Type} {O : SOrd α} : ∀ {l : List α}, l.Nodup → l.Pairwise (fun a b => ¬ O.lt b a) → Srt O l
  | [], _, _ => .nil
  | x :: r, hn, hp => by
    obtain ⟨n1, n2⟩ := List.nodup_cons.mp hn
    obtain ⟨p1, p2⟩ := List.pairwise_cons.mp hp
    refine .cons (fun y m => ?_) (srt_of n2 p2)
    rcases O.tri x y with q | q | q
    · exact q
    · subst q; exact absurd m n1
    · exact absurd q (p1 y m)
theorem srt_sortedS {l : List Str} (hn : l.Nodup) (h : sortedS l = true) : Srt strO l := srt_of hn (sortedS_pw l h)
/-! ### pairs of a length and a set, sorted -/
open PySem.W in
theorem lt_sets : ∀ xs ys : List Str, rowLt (xs.map .str) (ys.map .str) = true ↔ lexLt strO xs ys
  | [], [] => by
    have e : rowLt [] [] = false := lex_irrefl _
    constructor
    · intro h; exact absurd (e.symm.trans h) (by decide)
    · exact fun h => h.elim
  | [], y :: ys => by
    have e : rowLt [] (PyData.str y :: ys.map .str) = true := by
      unfold rowLt
      rw [toks_all_cons]
      simp only [keyToksAll]
      rw [lex_diff (O := itemOrd) (by simp)]
      rfl
    exact ⟨fun _ => True.intro, fun _ => e⟩
  | x :: xs, [] => by
    have e : rowLt (PyData.str x :: xs.map .str) [] = false := by
      unfold rowLt
      rw [toks_all_cons]
      simp only [keyToksAll]
      rw [lex_diff (O := itemOrd) (by simp)]
      rfl
    constructor
    · intro h
      exact absurd (e.symm.trans h) (by decide)
    · exact fun h => h.elim
  | x :: xs, y :: ys => by
    have e : rowLt (PyData.str x :: xs.map .str) (PyData.str y :: ys.map .str) = if (x == y) = true then rowLt (xs.map .str) (ys.map .str) else decide (x.cps.toList < y.cps.toList) := by
      unfold rowLt
      rw [dataLt_cons (by simp [alike]), dataLt_str]
      simp only [PyData.eqv]
      first | rfl | congr
    show rowLt (PyData.str x :: xs.map .str) (PyData.str y :: ys.map .str) = true ↔ strO.lt x y ∨ (x = y ∧ lexLt strO xs ys)
    rw [e]
    by_cases h : x = y
    · subst h
      rw [if_pos (by simp), lt_sets xs ys]
      exact ⟨fun q => .inr ⟨rfl, q⟩, fun q => q.elim (fun z => absurd z (strO.irr _)) fun z => z.2⟩
    · rw [if_neg (by simpa using h), decide_eq_true_eq]
      exact ⟨.inl, fun q => q.elim id fun z => absurd z.1 h⟩
def setD (x : List Str) : PyData := .tuple (x.map .str)
def pairD (x : List Str) : PyData := .tuple [.int (x.length : Nat), setD x]
open PySem.W in
theorem alike_strs : ∀ xs ys : List Str, alikeAll (xs.map .str) (ys.map .str) = true
  | [], ys => by cases ys <;> simp [alikeAll]
  | x :: xs, [] => by simp [alikeAll]
  | x :: xs, y :: ys => by simp [alikeAll, alike, alike_strs xs ys]
open PySem.W in
theorem alike_sets (x y : List Str) : alike (setD x) (setD y) = true := by
  unfold setD
  rw [alike]
  exact alike_strs x y
open PySem.W in
theorem alike_pairs (x y : List Str) : alike (pairD x) (pairD y) = true := by
  unfold pairD
  rw [alike, alikeAll, alikeAll, alikeAll, alike_sets]
  rfl
open PySem.W in
theorem lt_pairs (x y : List Str) : dataLt (pairD x) (pairD y) = true ↔ slt strO x y := by
  unfold pairD
  rw [dataLt_pair (by simp [alike]) (alike_sets x y), dataLt_int]
  unfold slt
  have ee : (PyData.eqv (.int (x.length : Nat)) (.int (y.length : Nat)) = true) ↔ x.length = y.length := by
    simp only [PyData.eqv, beq_iff_eq]
    omega
  by_cases h : x.length = y.length
  · rw [if_pos (ee.mpr h)]
    have e2 : dataLt (setD x) (setD y) = rowLt (x.map .str) (y.map .str) := dataLt_tuple _ _
    have e3 := lt_sets x y
    rw [← e2] at e3
    cases q : PyData.eqv (setD x) (setD y) with
    | true =>
      rw [if_pos rfl]
      have t := (toks_eqv (setD x) (setD y) (alike_sets x y)).1 q
      have z : dataLt (setD x) (setD y) = false := by
        unfold dataLt
        rw [t]
        exact lex_irrefl _
      rw [z] at e3
      constructor
      · intro k; cases k
      · rintro (k | ⟨_, k⟩)
        · omega
        · exact e3.mpr k
    | false =>
      rw [if_neg Bool.false_ne_true, e3]
      exact ⟨fun k => .inr ⟨h, k⟩, fun k => k.elim (fun z => by omega) fun z => z.2⟩
  · rw [if_neg (fun z => h (ee.mp z)), decide_eq_true_eq]
    constructor
    · intro k; exact .inl (by omega)
    · rintro (k | ⟨k, _⟩)
      · omega
      · exact absurd k h
abbrev PS' := V × List Str
theorem pw_sorted (bs : List PS') : (bs.mergeSort (PySem.W.dataLe false fun b => pairD b.2)).Pairwise fun p q => ¬ slt strO q.2 p.2 := by
  have le : ∀ p q : PS', PySem.W.dataLe false (fun b => pairD b.2) p q = true ↔ ¬ slt strO q.2 p.2 := fun p q => by
    show (!PySem.W.dataLt (pairD q.2) (pairD p.2)) = true ↔ _
    rw [Bool.not_eq_true', ← Bool.not_eq_true, lt_pairs]
  have h := List.pairwise_mergeSort (le := PySem.W.dataLe false fun b : PS' => pairD b.2) (fun a b c h k => (le a c).mpr fun z => by
    have h := (le a b).mp h
    have k := (le b c).mp k
    rcases slt_tri (O := strO) b.2 a.2 with q | q | q
    · exact h q
    · rw [q] at k; exact k z
    · exact k (slt_tr z q)) (fun a b => by
    by_cases z : slt strO b.2 a.2
    · have w : ¬ slt strO a.2 b.2 := fun y => slt_irr _ (slt_tr z y)
      rw [(le b a).mpr w, Bool.or_true]
    · rw [(le a b).mpr z]; rfl) bs
  exact h.imp fun {p q} z => (le p q).mp z
theorem each_of_vals {bs : List PS'} : ∀ {us : List Value}, Vals (bs.map (·.1)) us → PySem.W.EachIs (fun u (b : PS') => RelV b.1 u) us bs := by
  induction bs with
  | nil => intro us h; cases h; exact .nil
  | cons b r ih =>
    intro us h
    cases h with
    | cons h t => exact .cons h (ih t)
theorem vals_of_each {bs : List PS'} : ∀ {us : List Value}, PySem.W.EachIs (fun u (b : PS') => RelV b.1 u) us bs → Vals (bs.map (·.1)) us := by
  induction bs with
  | nil => intro us h; cases h; exact .nil
  | cons b r ih =>
    intro us h
    cases h with
    | cons h t => exact .cons h (ih t)
def rSortPr (K : PySem.W.Frag) : List V → Hp → VK → Prop := fun vs H Q => ∃ (a : Addr) (bs : List PS'), vs = [V.ref a] ∧ SqL K H a (bs.map (·.1)) ∧ (∀ b ∈ bs, Dp K H b.1 (pairD b.2)) ∧
  ∀ (ys : List PS') (p : Addr), ys.Perm bs → ys.Pairwise (fun p q => ¬ slt strO q.2 p.2) → H p = none → Q (.ref p) (upd H p (.lst (ys.map (·.1))))
theorem pair_depth (x : List Str) : (pairD x).depth ≤ 2 := by
  have h : ∀ l : List Str, PyData.depthAll (l.map .str) = 0 := by
    intro l
    induction l with
    | nil => rfl
    | cons y t ih =>
      rw [List.map_cons, PyData.depthAll, ih]
      rfl
  unfold pairD setD
  simp [PyData.depth, PyData.depthAll, h]
theorem cr_sortPr {X : Cx} (hu : X.A.units + 4 < cLine) : CallR X (.builtin "sorted") (rSortPr X.K) := by
  intro pins s σ H vs us Q I r ⟨a, bs, e, hs, hd, q⟩
  subst e
  obtain ⟨its, rv, hl, hz⟩ := I.list hs
  rw [Vals.ref1 r]
  have e1 := each_of_vals rv
  have e2 : PySem.W.EachIs (fun v b => ∃ as, Reads s.heap v (pairD b.2) as) its bs := by
    have : ∀ {bs : List PS'} {us : List Value}, (∀ b ∈ bs, Dp X.K H b.1 (pairD b.2)) → PySem.W.EachIs (fun u (b : PS') => RelV b.1 u) us bs → PySem.W.EachIs (fun v b => ∃ as, Reads s.heap v (pairD b.2) as) us bs := by
      intro bs
      induction bs with
      | nil => intro us _ h; cases h; exact .nil
      | cons b r ih =>
        intro us hd h
        cases h with
        | cons h t => exact .cons (Dp.reads I _ _ _ (hd b List.mem_cons_self) h) (ih (fun c m => hd c (List.mem_cons_of_mem _ m)) t)
    exact this hd e1
  have hlen : bs.length ≤ sizeLine := by rw [List.length_map] at hz; exact hz
  refine PySem.W.sorted_data (enc := fun b : PS' => pairD b.2) hl.isList e1 e2 (PySem.W.AllAlike.of fun b b' => alike_pairs _ _) (PySem.W.Sortable.tuples fun b => ⟨_, _, rfl⟩) hlen (fun b _ => by have := pair_depth b.2; show X.A.units + 2 + (pairD b.2).depth < cLine; omega) fun out ho he => ?_
  obtain ⟨ep, he'⟩ := PyProof.Rows.sortedAll_at s.heap its out.toArray
  have hp := List.mergeSort_perm bs (PySem.W.dataLe false fun b : PS' => pairD b.2)
  refine ⟨.ref _, upd H (s.heap.objs.size + 1) (.lst ((bs.mergeSort (PySem.W.dataLe false fun b : PS' => pairD b.2)).map (·.1))), I.laid (t' := s.toks) (fun _ _ => PyProof.Rows.sortedAll_old) (Nat.le_succ _) ⟨?_, out, ep, vals_of_each he, he'⟩, rfl, q _ _ hp (pw_sorted bs) (I.hok.fresh (Nat.le_succ _))⟩
  rw [List.length_map, hp.length_eq]
  exact hlen
end K8
-- K8Loop
set_option maxRecDepth 100000
set_option maxHeartbeats 4000000
namespace K8
open PySem PySem.Spec PyProof.Rows L2
theorem u1 {k : Nat} {A : Around} (r : Room k A) : A.units + 1 < cLine := by have := r.un; omega
theorem u9 {k : Nat} {A : Around} (r : Room k A) : A.units + 9 < cLine := by have := r.un; omega
theorem u8 {k : Nat} {A : Around} (r : Room k A) : A.units + 8 < cLine := by have := r.un; omega
theorem u4 {k : Nat} {A : Around} (r : Room k A) : A.units + 4 < cLine := by have := r.un; omega
theorem u64 {k : Nat} {A : Around} (r : Room k A) : A.units + 64 < cLine := by have := r.un; omega
theorem u65 {k : Nat} {A : Around} (r : Room k A) : A.units + 65 < cLine := by have := r.un; omega
section
variable {K : PySem.W.Frag} {a : Addr} {xs : List V} {tl : TE} {g : TG} {tb : TS} {D : Ends} {σ : L2.St} {H : Hp}
/-- for x in a list or a tuple -/
theorem for_sq (Pv : Nat → L2.St → Hp → Prop) (hv : ∀ R' : VK, R' (.ref a) H → tl σ H R') (h0 : Pv 0 σ H) (src : ∀ i σ H, Pv i σ H → i ≤ xs.length → Sq K H a xs) (sw : ∀ i σ' H', Pv i σ' H' → SqL K H a xs → SqL K H' a xs) (sw' : ∀ i σ' H', Pv i σ' H' → SqT K H a xs → SqT K H' a xs)
    (hs : ∀ i x σ H, xs[i]? = some x → Pv i σ H → g x σ H fun σ2 H2 => tb { D with nx := Pv (i + 1), ct := Pv (i + 1), bk := D.nx } σ2 H2) (hd : ∀ σ H, Pv xs.length σ H → D.nx σ H) : tFor (iSq K tl) g tb D σ H := by
  refine hv _ ⟨a, rfl, ?_⟩
  rcases src 0 σ H h0 (Nat.zero_le _) with s | s
  · refine .inl ⟨⟨xs, s⟩, for_it (walk_list (K := K) (a := a) (xs := xs)) Pv h0 (fun i σ H _ p => sw i σ H p s) (fun i x σ H H' hi p y => ?_) hd⟩
    obtain ⟨rfl, hx⟩ := y
    exact hs i x σ _ hx p
  · refine .inr ⟨⟨xs, s⟩, for_it (walk_tup (K := K) (a := a) (xs := xs)) Pv h0 (fun i σ H _ p => sw' i σ H p s) (fun i x σ H H' hi p y => ?_) hd⟩
    obtain ⟨rfl, hx⟩ := y
    exact hs i x σ _ hx p
/-- .. where what stands stays -/
theorem for_sqG (Pv : Nat → L2.St → Hp → Prop) (G0 : Hp) (hv : ∀ R' : VK, R' (.ref a) H → tl σ H R') (s0 : Same G0 H) (src : Sq K G0 a xs) (h0 : Pv 0 σ H) (hG : ∀ i σ H, Pv i σ H → Same G0 H)
    (hs : ∀ i x σ H, xs[i]? = some x → Pv i σ H → g x σ H fun σ2 H2 => tb { D with nx := Pv (i + 1), ct := Pv (i + 1), bk := D.nx } σ2 H2) (hd : ∀ σ H, Pv xs.length σ H → D.nx σ H) : tFor (iSq K tl) g tb D σ H := by
  refine hv _ ⟨a, rfl, ?_⟩
  rcases src with s | s
  · refine .inl ⟨⟨xs, s0.seq s⟩, for_it (walk_list (K := K) (a := a) (xs := xs)) Pv h0 (fun i σ H _ p => (hG i σ H p).seq s) (fun i x σ H H' hi p y => ?_) hd⟩
    obtain ⟨rfl, hx⟩ := y
    exact hs i x σ _ hx p
  · refine .inr ⟨⟨xs, s0.tp s⟩, for_it (walk_tup (K := K) (a := a) (xs := xs)) Pv h0 (fun i σ H _ p => (hG i σ H p).tp s) (fun i x σ H H' hi p y => ?_) hd⟩
    obtain ⟨rfl, hx⟩ := y
    exact hs i x σ _ hx p
end
section
variable {K : PySem.W.Frag} {a : Addr} {xs : List V} {ta : TA} {g : TG} {tb : TS} {D : Ends} {σ : L2.St} {H : Hp}
theorem walk_enumL : Walk (Ite K a) xs.length (fun H => SqL K H a xs) (fun i H v H' => ∃ T x, v = .ref T ∧ H T = none ∧ H' = upd H T (.tup [.int (i : Nat), x]) ∧ xs[i]? = some x) where
  goes := fun i H hi h => ⟨xs, xs[i], h, List.getElem?_eq_getElem hi⟩
  stops := fun H h => ⟨xs, h, Nat.le_refl _⟩
  yields := fun i H v H' hi h y => by
    obtain ⟨T, x, e, hT, eH, f⟩ := y
    exact ⟨T, x, e, hT, eH, f xs h⟩
theorem walk_enumT : Walk (IteT K a) xs.length (fun H => SqT K H a xs) (fun i H v H' => ∃ T x, v = .ref T ∧ H T = none ∧ H' = upd H T (.tup [.int (i : Nat), x]) ∧ xs[i]? = some x) where
  goes := fun i H hi h => ⟨xs, xs[i], h, List.getElem?_eq_getElem hi⟩
  stops := fun H h => ⟨xs, h, Nat.le_refl _⟩
  yields := fun i H v H' hi h y => by
    obtain ⟨T, x, e, hT, eH, f⟩ := y
    exact ⟨T, x, e, hT, eH, f xs h⟩
/-- for i, x in enumerate(a list or a tuple) -/
theorem for_enG (Pv : Nat → L2.St → Hp → Prop) (G0 : Hp) (hv : ∀ R' : List V → Hp → Prop, R' [.ref a] H → ta σ H R') (s0 : Same G0 H) (src : Sq K G0 a xs) (h0 : Pv 0 σ H) (hG : ∀ i σ H, Pv i σ H → Same G0 H)
    (hs : ∀ i x T σ H, xs[i]? = some x → Pv i σ H → H T = none → g (.ref T) σ (upd H T (.tup [.int (i : Nat), x])) fun σ2 H2 => tb { D with nx := Pv (i + 1), ct := Pv (i + 1), bk := D.nx } σ2 H2) (hd : ∀ σ H, Pv xs.length σ H → D.nx σ H) : tFor (iEnumQ K ta) g tb D σ H := by
  refine hv _ ⟨a, rfl, ?_⟩
  rcases src with s | s
  · refine .inl ⟨⟨xs, s0.seq s⟩, for_it (walk_enumL (K := K) (a := a) (xs := xs)) Pv h0 (fun i σ H _ p => (hG i σ H p).seq s) (fun i x σ H H' hi p y => ?_) hd⟩
    obtain ⟨T, x, rfl, hT, rfl, hx⟩ := y
    exact hs i x T σ H hx p hT
  · refine .inr ⟨⟨xs, s0.tp s⟩, for_it (walk_enumT (K := K) (a := a) (xs := xs)) Pv h0 (fun i σ H _ p => (hG i σ H p).tp s) (fun i x σ H H' hi p y => ?_) hd⟩
    obtain ⟨T, x, rfl, hT, rfl, hx⟩ := y
    exact hs i x T σ H hx p hT
end
theorem gn {i : Nat} {v : V} {σ : L2.St} {H : Hp} {Q : L2.St → Hp → Prop} (h : Q (σ.set i (some v)) H) : gName i v σ H Q := h
theorem sq {t u : TS} {D : Ends} {σ : L2.St} {H : Hp} (h : t { D with nx := u D } σ H) : tSeq t u D σ H := h
/-! ### dict comprehensions, keys ints or texts -/
/-- what one turn asks -/
def DkTurn (M : Addr → Prop) (g : TG) (tt : TT) (tk tv : TE) (vs : List Nat) (σ : L2.St) (R : Nat → List (Key × V) → Hp → Prop) (i : Nat) (x : V) (kvs : List (Key × V)) (G H : Hp) : Prop :=
  ∀ (Ky : V → V → Hp → Prop) (Kn : Hp → Prop), (∀ k z H5 G', Gr M H G G' H5 → R (i + 1) (putK kvs k z) G' → Ky (kV k) z H5) → (∀ H3 G', Gr M H G G' H3 → R (i + 1) kvs G' → Kn H3) →
    g x (wipe σ vs) H fun σ2 H2 => wipe σ2 vs = wipe σ vs ∧ tt σ2 H2 fun b H3 => if b = true then tk σ2 H3 fun y H4 => tv σ2 H4 fun z H5 => Ky y z H5 else Kn H3
section
variable {K : PySem.W.Frag} {M : Addr → Prop} {g : TG} {tt : TT} {tk tv : TE} {vs : List Nat} {σ : L2.St} {H1 G1 : Hp} {D : Addr} {Qd : Hp → Prop}
def DkInv (M : Addr → Prop) (H1 G1 : Hp) (D : Addr) (R : Nat → List (Key × V) → Hp → Prop) (i : Nat) (H : Hp) : Prop :=
  ∃ kvs G, Gr M H1 G1 G H ∧ H D = some (.dK kvs) ∧ G D = none ∧ kvs.length ≤ i ∧ R i kvs G
theorem dk_it {J : It} {n : Nat} {Gd : Hp → Prop} {Y : Nat → Hp → V → Hp → Prop} (wk : Walk J n Gd Y) (hY : ∀ i H x H', Y i H x H' → H' = H) (R : Nat → List (Key × V) → Hp → Prop) (hD : H1 D = none) (hm : ¬ M D) (s : Same G1 H1) (hGd : ∀ G H, Gr M H1 G1 G H → Gd H) (hz : n ≤ 100000) (r0 : R 0 [] G1)
    (hs : ∀ i x kvs G H, i < n → Y i H x H → Gr M H1 G1 G H → R i kvs G → DkTurn M g tt tk tv vs σ R i x kvs G H)
    (hd : ∀ kvs G H, Gr M H1 G1 (upd G D (.dK kvs)) H → G D = none → kvs.length ≤ n → R n kvs G → Qd H) :
    ∃ W : Nat → Nat → Hp → Prop, (∃ m, W 0 m (upd H1 D (.dK []))) ∧ ∀ i m H, W i m H → (J.stop i H ∧ Qd H) ∨ (J.go i H ∧ ∃ Nx : Hp → Prop, (∀ H', Nx H' → ∃ m', m' < m ∧ W (i + 1) m' H') ∧
      ∀ x H', J.yld i H x H' → g x (wipe σ vs) H' fun σ2 H2 => wipe σ2 vs = wipe σ vs ∧ tt σ2 H2 fun b H3 =>
        if b = true then tk σ2 H3 fun y H4 => tv σ2 H4 fun z H5 => ∃ kvs k, y = kV k ∧ H5 D = some (.dK kvs) ∧ kvs.length < sizeLine ∧ Nx (upd H5 D (.dK (putK kvs k z))) else Nx H3) := by
  refine ⟨fun i m H => m = n - i ∧ i ≤ n ∧ DkInv M H1 G1 D R i H, ⟨n, by simp, Nat.zero_le _, [], G1, (Gr.start s).mine hD, upd_same, s.free hD, Nat.zero_le _, r0⟩, ?_⟩
  rintro i m H ⟨rfl, hi, kvs, G, gr, hHD, hGD, wk1, r⟩
  have gd := hGd G H gr
  by_cases hlt : i < n
  · refine .inr ⟨wk.goes i H hlt gd, DkInv M H1 G1 D R (i + 1), fun H' p' => ⟨n - (i + 1), by omega, rfl, hlt, p'⟩, fun x H' y => ?_⟩
    have y := wk.yields i H x H' hlt gd y
    obtain rfl := hY i H x H' y
    refine hs i x kvs G H' hlt y gr r _ _ (fun k z H5 G' g5 r5 => ?_) (fun H3 G' g3 r3 => ?_)
    · have hH5 := g5.old D _ hHD hm
      have hG5 := g5.out hHD hGD
      have e : (100000 : Nat) < sizeLine := by decide
      refine ⟨kvs, k, rfl, hH5, by omega, _, G', (gr.trans g5).chg (.inl hD) hG5, upd_same, hG5, ?_, r5⟩
      have := length_putK kvs k z
      omega
    · exact ⟨kvs, G', gr.trans g3, g3.old D _ hHD hm, g3.out hHD hGD, Nat.le_succ_of_le wk1, r3⟩
  · have e : i = n := by omega
    subst e
    exact .inl ⟨wk.stops H gd, hd kvs G H (gr.give hD hm hGD hHD) hGD wk1 r⟩
variable {a : Addr} {xs : List V}
/-- the whole reading over a list or a tuple -/
theorem dk_any {tl : TE} {Q : VK} {H : Hp} (G1 : Hp) (R : Nat → List (Key × V) → Hp → Prop) (hv : ∀ R' : VK, R' (.ref a) H → tl σ H R') (hm : ∀ b, H b = none → ¬ M b) (s : Same G1 H) (src : Sq K G1 a xs) (hz : xs.length ≤ 100000) (r0 : R 0 [] G1)
    (hs : ∀ D, H D = none → ∀ i x kvs G H', xs[i]? = some x → Gr M H G1 G H' → R i kvs G → DkTurn M g tt tk tv vs σ R i x kvs G H')
    (hd : ∀ D kvs G H', H D = none → Gr M H G1 (upd G D (.dK kvs)) H' → G D = none → kvs.length ≤ xs.length → R xs.length kvs G → Q (.ref D) H') : tDc (iSq K tl) g tt tk tv vs σ H Q := by
  refine hv _ ⟨a, rfl, ?_⟩
  rcases src with src | src
  · exact .inl ⟨⟨xs, s.seq src⟩, fun D hD => dk_it (walk_list (K := K) (a := a) (xs := xs)) (fun _ _ _ _ y => y.1) R hD (hm D hD) s (fun G H gr => (gr.up.trans gr.sub).seq src) hz r0 (fun i x kvs G H hi y gr r => hs D hD i x kvs G H y.2 gr r) (fun kvs G H' => hd D kvs G H' hD)⟩
  · exact .inr ⟨⟨xs, s.tp src⟩, fun D hD => dk_it (walk_tup (K := K) (a := a) (xs := xs)) (fun _ _ _ _ y => y.1) R hD (hm D hD) s (fun G H gr => (gr.up.trans gr.sub).tp src) hz r0 (fun i x kvs G H hi y gr r => hs D hD i x kvs G H y.2 gr r) (fun kvs G H' => hd D kvs G H' hD)⟩
end
/-- the first of each -/
def onceK (ks : List Key) : List (Key × V) := ks.foldl (fun acc k => putK acc k (.bl true)) []
theorem onceK_snoc (ks : List Key) (k : Key) : onceK (ks ++ [k]) = putK (onceK ks) k (.bl true) := by
  unfold onceK
  rw [List.foldl_append]
  rfl
def once (ks : List Key) : List Key := (onceK ks).map (·.1)
theorem putK_old {kvs : List (Key × V)} {k : Key} {v : V} (h : k ∈ kvs.map (·.1)) : (putK kvs k v).map (·.1) = kvs.map (·.1) := by
  have e : (kvs.any fun kv => decide (kv.1 = k)) = true := by
    obtain ⟨p, m, e⟩ := List.mem_map.mp h
    exact List.any_eq_true.mpr ⟨p, m, decide_eq_true e⟩
  unfold putK
  rw [if_pos e, List.map_map]
  refine List.map_congr_left fun p _ => ?_
  show (if p.1 = k then (p.1, v) else p).1 = p.1
  by_cases z : p.1 = k
  · rw [if_pos z]
  · rw [if_neg z]
theorem putK_new {kvs : List (Key × V)} {k : Key} {v : V} (h : k ∉ kvs.map (·.1)) : putK kvs k v = kvs ++ [(k, v)] := by
  unfold putK
  rw [if_neg]
  intro z
  obtain ⟨p, m, e⟩ := List.any_eq_true.mp z
  exact h (List.mem_map.mpr ⟨p, m, of_decide_eq_true e⟩)
theorem once_spec (ks : List Key) : (once ks).Nodup ∧ (∀ k, k ∈ once ks ↔ k ∈ ks) ∧ (once ks).length ≤ ks.length ∧ (ks.Nodup → once ks = ks) := by
  refine snoc_ind (P := fun ks : List Key => (once ks).Nodup ∧ (∀ k, k ∈ once ks ↔ k ∈ ks) ∧ (once ks).length ≤ ks.length ∧ (ks.Nodup → once ks = ks)) ⟨List.nodup_nil, fun k => Iff.rfl, Nat.le_refl _, fun _ => rfl⟩ (fun l x h => ?_) ks
  obtain ⟨h1, h2, h3, h4⟩ := h
  by_cases m : x ∈ once l
  · have e : once (l ++ [x]) = once l := by
      unfold once
      rw [onceK_snoc, putK_old m]
    rw [e]
    refine ⟨h1, fun k => ?_, by rw [List.length_append]; omega, fun hn => ?_⟩
    · rw [h2, List.mem_append, List.mem_singleton]
      exact ⟨.inl, fun z => z.elim id fun z => by subst z; exact (h2 _).mp m⟩
    · exact absurd ((h2 x).mp m) fun z => (List.nodup_append.mp hn).2.2 x z x (by simp) rfl
  · have e : once (l ++ [x]) = once l ++ [x] := by
      unfold once
      rw [onceK_snoc, putK_new m, List.map_append]
      rfl
    rw [e]
    refine ⟨?_, fun k => ?_, by simp only [List.length_append, List.length_singleton]; omega, fun hn => ?_⟩
    · rw [List.nodup_append]
      exact ⟨h1, by simp, fun a ha b hb z => m (by
        have w : b = x := by simpa using hb
        rw [← w, ← z]
        exact ha)⟩
    · rw [List.mem_append, List.mem_append, h2]
    · rw [h4 (List.nodup_append.mp hn).1]
end K8
-- K8Words
set_option maxRecDepth 100000
set_option maxHeartbeats 4000000
namespace K8
open PySem PySem.Spec PyProof.Rows L2
/-! ### words -/
def wdV : V → Bool
  | .int _ => true
  | .str _ => true
  | _ => false
mutual
def isWord : D → Bool
  | .lf v => wdV v
  | .sq l => isWords l
def isWords : List D → Bool
  | [] => true
  | d :: r => isWord d && isWords r
end
mutual
def dep : D → Nat
  | .lf _ => 0
  | .sq l => depL l + 1
def depL : List D → Nat
  | [] => 0
  | d :: r => max (dep d) (depL r)
end
mutual
/-- how many things stand in it at most -/
def wide : D → Nat
  | .lf _ => 0
  | .sq l => max l.length (wideL l)
def wideL : List D → Nat
  | [] => 0
  | d :: r => max (wide d) (wideL r)
end
def kV1 : V → NestedKey
  | .int i => .num i
  | .str x => .text x
  | _ => .none
mutual
def keyD : D → NestedKey
  | .lf v => kV1 v
  | .sq l => .tup (keyDs l)
def keyDs : List D → List NestedKey
  | [] => []
  | d :: r => keyD d :: keyDs r
end
theorem isWords_all : ∀ l : List D, isWords l = l.all isWord
  | [] => rfl
  | d :: r => by rw [isWords, isWords_all r]; rfl
theorem keyDs_map : ∀ l : List D, keyDs l = l.map keyD
  | [] => rfl
  | d :: r => by rw [keyDs, keyDs_map r]; rfl
theorem datas_map : ∀ l : List NestedKey, NestedKey.datas l = l.map NestedKey.data
  | [] => rfl
  | d :: r => by rw [NestedKey.datas, datas_map r]; rfl
theorem depL_mem : ∀ {l : List D} {d : D}, d ∈ l → dep d ≤ depL l
  | x :: r, d, h => by
    rw [depL]
    rcases List.mem_cons.mp h with rfl | h
    · exact Nat.le_max_left _ _
    · exact Nat.le_trans (depL_mem h) (Nat.le_max_right _ _)
theorem wideL_mem : ∀ {l : List D} {d : D}, d ∈ l → wide d ≤ wideL l
  | x :: r, d, h => by
    rw [wideL]
    rcases List.mem_cons.mp h with rfl | h
    · exact Nat.le_max_left _ _
    · exact Nat.le_trans (wideL_mem h) (Nat.le_max_right _ _)
/-- is_word of data of depth below n -/
def spWord (K : PySem.W.Frag) (n : Nat) : Sp := fun vs H Q _ => ∃ v d, vs = [v] ∧ Dq K H v d ∧ dep d < n ∧ wide d ≤ 1000 ∧ ∀ H', Same H H' → Q (.bl (isWord d)) H'
theorem sc_is_word : FnScope ["thing", "part"] ["thing"] (defScope s_is_word) := ⟨rfl, rfl, rfl, by decide +kernel, rfl, by decide +kernel, by decide +kernel⟩
section
variable {P : Program} {w : World} {K : PySem.W.Frag} {mg : Str → Option Value} {base : Heap}
theorem ok_is_word (T : Txt K mg) : ∀ n, Cl P w K mg base CX0 (n + 2) "is_word" (spWord K n)
  | 0 => (cl_never (ps := ["thing"]) T.F_is_word T.g_is_word (fun _ _ _ _ _ _ us hl => match us, hl with | [_], _ => rfl)).imp (Nat.zero_le _) (fun vs H Q E h => by
    obtain ⟨v, d, _, _, h, _⟩ := h
    exact absurd h (Nat.not_lt_zero _))
  | n + 1 => by
    have ih : Cl P w K mg base CX0 (n + 2) "is_word" (spWord K n) := ok_is_word T n
    refine cl0 (T.F_is_word) T.g_is_word sc_is_word (fun vs H Q E h => ?_) (fun _ _ _ _ _ _ us hl => match us, hl with | [_], _ => rfl) (fun cdv A outer s H vs Q E hr h => ?_)
    · obtain ⟨v, d, rfl, _⟩ := h
      rfl
    · obtain ⟨v, d, rfl, hd, hn, hw, k⟩ := h
      refine ⟨_, (pss_one (ps_ret (pe_or (pe_cl (ok_is_integer T) hr (by omega) pass0 (pa_cons (pv 0) pa_nil)) (pe_or (pe_callB call_isi (by rfl) T.f_isinstance (by decide +kernel) (pa_cons (pv 0) (pa_cons (pe_bltn (v := .ty "str") (u := .type "str") (by rfl) T.f_str (by decide +kernel) rfl) pa_nil))) (pe_one (pe_and (pe_cl (ok_is_list T) hr (by omega) pass0 (pa_cons (pv 0) pa_nil)) (pe_one (pe_callB (cr_all rfl) (by rfl) T.f_all (by decide +kernel) (pa_cons (pe_lc (own := [("part", 1)]) rfl sc_is_word.nd (pi_sq (pv 0)) (blkOk_by (by kernel_rfl)) (fun _ _ _ _ _ => (pg_name (i := 1) sc_is_word.nd rfl (by first | exact Or.inl rfl | exact Or.inr rfl))) (fun _ _ _ _ _ => pts_nil) (fun _ _ _ _ _ => (pe_cl ih hr (by omega) pass0 (pa_cons (pv 1) pa_nil)))) pa_nil))))))))), ?_⟩
      refine ⟨_, rfl, v, d, rfl, hd, fun H1 s1 => ⟨_, rfl, ?_⟩⟩
      have q1 := k H1 s1
      have hd1 := Dq.mono s1 d v hd
      refine ite_b (fun hi => ?_) (fun hi => ?_)
      · have e : isWord d = true := by
          cases d with
          | sq l => cases hi
          | lf v => cases v <;> first | rfl | cases hi
        rw [e] at q1
        exact q1
      · obtain ⟨t, ty, e⟩ := isi_str hd1
        refine ⟨_, rfl, v, _, t, _, _, rfl, .ty "str", ty, e, _, rfl, ?_⟩
        refine ite_b (fun hs => ?_) (fun hs => ?_)
        · have e : isWord d = true := by
            cases d with
            | sq l => cases hs
            | lf v => cases v <;> first | rfl | cases hs
          rw [e] at q1
          exact q1
        · refine ⟨_, rfl, v, d, rfl, hd1, fun H2 s2 => ⟨_, rfl, ?_⟩⟩
          have hd2 := Dq.mono s2 d v hd1
          refine ite_b (fun hq => ?_) (fun hq => ?_)
          · obtain ⟨l, rfl⟩ : ∃ l, d = .sq l := by
              cases d with
              | sq l => exact ⟨l, rfl⟩
              | lf v => cases hq
            obtain ⟨a, xs, rfl, src, ha⟩ := hd2.seq
            have hlen := ha.length
            have hl1000 : l.length ≤ 1000 := Nat.le_trans (Nat.le_max_left _ _) hw
            refine cb1 (lc_any (M := NoM) (.ref a) H2 (fun i acc _ => acc = (l.take i).map fun d => V.bl (isWord d)) (fun R' r => ⟨_, rfl, r⟩) rfl (fun _ _ z => z) (Same.refl H2) src (by rw [hlen]; exact Nat.le_trans hl1000 (by decide)) rfl ?_ ?_)
            · rintro D hD i x acc G H3 hx gr hl rfl
              intro Ky Kn ky kn
              refine ⟨rfl, y_te ?_⟩
              refine ⟨_, rfl, ?_⟩
              obtain ⟨d', hd', hq'⟩ := ha.get hx
              have hm : d' ∈ l := List.mem_of_getElem? hd'
              refine ⟨x, d', rfl, Dq.mono gr.same d' x hq', ?_, Nat.le_trans (wideL_mem hm) (Nat.le_trans (Nat.le_max_right _ _) hw), fun H4 s4 => ?_⟩
              · have h1 := depL_mem hm
                have h2 : depL l + 1 < n + 1 := hn
                omega
              · exact ky _ H4 G (Gr.of gr.sub s4) (by exact (all_snoc (f := fun d => V.bl (isWord d)) hd').symm)
            · rintro D acc G H3 hD gr hg hl rfl
              refine ⟨D, l.map isWord, rfl, SqL.of ?_, ?_⟩
              · rw [gr.sub D _ upd_same, hlen, List.take_length, List.map_map]; rfl
              · have q := k H3 (s1.trans (s2.trans gr.same))
                have e5 : isWord (.sq l) = (l.map isWord).all id := by
                  rw [isWord, isWords_all, List.all_map]; rfl
                rw [e5] at q
                exact q
          · have q2 := k H2 (s1.trans s2)
            have e : isWord d = false := by
              cases d with
              | sq l => cases hq
              | lf v => cases v <;> first | rfl | exact Bool.noConfusion hi | exact Bool.noConfusion hs
            rw [e] at q2
            exact q2
/-! ### as_word -/
/-- a word as data: tuples throughout -/
def spAs (K : PySem.W.Frag) (n : Nat) : Sp := fun vs H Q _ => ∃ G v d, vs = [v] ∧ Same G H ∧ Dq K G v d ∧ isWord d = true ∧ dep d < n ∧ wide d ≤ 1000 ∧ ∀ v' H' G', Gr NoM H G G' H' → Dp K G' v' (keyD d).data → Q v' H'
theorem sc_as_word : FnScope ["thing", "part"] ["thing"] (defScope s_as_word) := ⟨rfl, rfl, rfl, by decide +kernel, rfl, by decide +kernel, by decide +kernel⟩
theorem ok_as_word (T : Txt K mg) : ∀ n, Cl P w K mg base CX0 (n + 2) "as_word" (spAs K n)
  | 0 => (cl_never (ps := ["thing"]) T.F_as_word T.g_as_word (fun _ _ _ _ _ _ us hl => match us, hl with | [_], _ => rfl)).imp (Nat.zero_le _) (fun vs H Q E h => by
    obtain ⟨G, v, d, _, _, _, _, h, _⟩ := h
    exact absurd h (Nat.not_lt_zero _))
  | n + 1 => by
    have ih : Cl P w K mg base CX0 (n + 2) "as_word" (spAs K n) := ok_as_word T n
    refine cl0 (T.F_as_word) T.g_as_word sc_as_word (fun vs H Q E h => ?_) (fun _ _ _ _ _ _ us hl => match us, hl with | [_], _ => rfl) (fun cdv A outer s H vs Q E hr h => ?_)
    · obtain ⟨G, v, d, rfl, _⟩ := h
      rfl
    · obtain ⟨G, v, d, rfl, s0, hd, hwd, hn, hw, k⟩ := h
      refine ⟨_, (pss_one (ps_ret (pe_ifExp (pt_val (pe_cl (ok_is_list T) hr (by omega) pass0 (pa_cons (pv 0) pa_nil))) (pe_callTy call_tuple_of (by rfl) T.f_tuple (by decide +kernel) (pa_cons (pe_lc (own := [("part", 1)]) rfl sc_as_word.nd (pi_sq (pv 0)) (blkOk_by (by kernel_rfl)) (fun _ _ _ _ _ => (pg_name (i := 1) sc_as_word.nd rfl (by first | exact Or.inl rfl | exact Or.inr rfl))) (fun _ _ _ _ _ => pts_nil) (fun _ _ _ _ _ => (pe_cl ih hr (by omega) pass0 (pa_cons (pv 1) pa_nil)))) pa_nil)) (pv 0)))), ?_⟩
      refine ⟨_, rfl, v, d, rfl, Dq.mono s0 d v hd, fun H1 s1 => ⟨_, rfl, ?_⟩⟩
      have g1 : Gr NoM H G G H1 := Gr.of s0 s1
      refine ite_b (fun hq => ?_) (fun hq => ?_)
      · obtain ⟨l, rfl⟩ : ∃ l, d = .sq l := by
          cases d with
          | sq l => exact ⟨l, rfl⟩
          | lf v => cases hq
        obtain ⟨a, xs, rfl, src, ha⟩ := hd.seq
        have hlen := ha.length
        have hl1000 : l.length ≤ 1000 := Nat.le_trans (Nat.le_max_left _ _) hw
        refine cb1 (lc_any (M := NoM) (.ref a) G (fun i acc G' => DpAll K G' acc ((l.take i).map fun d => (keyD d).data)) (fun R' r => ⟨_, rfl, r⟩) rfl (fun _ _ z => z) g1.sub src (by rw [hlen]; exact Nat.le_trans hl1000 (by decide)) .nil ?_ ?_)
        · rintro D hD i x acc G1 H3 hx gr hl r
          intro Ky Kn ky kn
          refine ⟨rfl, y_te ?_⟩
          obtain ⟨d', hd', hq'⟩ := ha.get hx
          have hm : d' ∈ l := List.mem_of_getElem? hd'
          have hwm : isWord d' = true := by
            have z : isWords l = true := hwd
            rw [isWords_all, List.all_eq_true] at z
            exact z d' hm
          refine ⟨_, rfl, G1, x, d', rfl, gr.sub, Dq.mono gr.up d' x hq', hwm, ?_, Nat.le_trans (wideL_mem hm) (Nat.le_trans (Nat.le_max_right _ _) hw), fun v' H4 G4 g4 dp => ?_⟩
          · have h1 := depL_mem hm
            have h2 : depL l + 1 < n + 1 := hn
            omega
          · refine ky v' H4 G4 g4 ?_
            show DpAll K G4 _ ((l.take (i + 1)).map fun d => (keyD d).data)
            rw [all_snoc (f := fun d => (keyD d).data) hd']
            exact dpA_snoc dp (dpA_mono g4.up r)
        · rintro D acc G1 H3 hD gr hg hl r
          rw [hlen, List.take_length] at r
          refine ⟨D, acc, rfl, .inl ⟨SqL.of (gr.sub D _ upd_same), fun t ht => ?_⟩⟩
          have g3 : Gr NoM H G (upd G1 D (.lst acc)) H3 := g1.trans gr
          refine k (.ref t) _ (upd (upd G1 D (.lst acc)) t (.tup acc)) (g3.newN ht) ?_
          have e : (keyD (.sq l)).data = .tuple (l.map fun d => (keyD d).data) := by
            show NestedKey.data (.tup (keyDs l)) = _
            rw [NestedKey.data, datas_map, keyDs_map, List.map_map]; rfl
          rw [e]
          refine .tup (SqT.of upd_same) ?_
          exact dpA_mono ((Same.upd_none hg).trans (Same.upd_none (g3.sub.free ht))) r
      · refine ⟨_, rfl, ?_⟩
        cases hd with
        | lf a =>
          refine k v H1 G g1 ?_
          cases v with
          | int i => exact .int i
          | str x => exact .str x
          | _ => cases hwd
        | dct a => cases hwd
        | lst a b => cases hq
        | tup a b => cases hq
end
end K8
-- K8Play
set_option maxRecDepth 100000
set_option maxHeartbeats 4000000
namespace K8
open PySem PySem.Spec PyProof.Rows L2
/-! ### each_once -/
def spOnce (K : PySem.W.Frag) : Sp := fun vs H Q _ => ∃ G a ks, vs = [.ref a] ∧ Same G H ∧ Sq K G a (ks.map kV) ∧ ks.length ≤ 100000 ∧ ∀ l H' G', Gr NoM H G G' H' → SqL K G' l ((once ks).map kV) → Q (.ref l) H'
theorem sc_each_once : FnScope ["things", "found", "thing"] ["things"] (defScope s_each_once) := ⟨rfl, rfl, rfl, by decide +kernel, rfl, by decide +kernel, by decide +kernel⟩
section
variable {P : Program} {w : World} {K : PySem.W.Frag} {mg : Str → Option Value} {base : Heap}
theorem ok_each_once (T : Txt K mg) : Cl P w K mg base CX0 1 "each_once" (spOnce K) := by
  refine cl0 (T.F_each_once) T.g_each_once sc_each_once (fun vs H Q E h => ?_) (fun _ _ _ _ _ _ us hl => match us, hl with | [_], _ => rfl) (fun cdv A outer s H vs Q E hr h => ?_)
  · obtain ⟨G, a, ks, rfl, _⟩ := h
    rfl
  · obtain ⟨G, a, ks, rfl, s0, hq, hz, k⟩ := h
    refine ⟨_, (pss_cons (ps_set (i := 1) sc_each_once.nd rfl (by first | exact Or.inl rfl | exact Or.inr rfl) pe_dnewK)
      (pss_cons (ps_for PassesOwn.never rfl (pi_sq (pv 0)) (pg_name (i := 2) sc_each_once.nd rfl (by first | exact Or.inl rfl | exact Or.inr rfl))
        (pss_one (ps_dput (u1 hr) (pv 1) (pv 2) pe_bl rfl)))
      (pss_one (ps_ret (pe_callTy (call_list_dK rfl) (by rfl) T.f_list (by decide +kernel) (pa_cons (pv 1) pa_nil)))))), ?_⟩
    intro F hF
    refine gn ?_
    with_reducible (show tSeq _ _ _ _ _); refine sq ?_
    refine for_sqG (K := K) (a := a) (xs := ks.map kV) (fun i σ H' => ∃ o, σ = [some (.ref a), some (.ref F), o] ∧ Gr NoM H G G H' ∧ H' F = some (.dK (onceK (ks.take i)))) G (fun R' r => ⟨_, rfl, r⟩) (s0.to_upd hF) hq ?_ (fun i σ H' ⟨o, _, gr, _⟩ => gr.sub) ?_ ?_
    · exact ⟨_, rfl, (Gr.start s0).mine hF, upd_same⟩
    · rintro i x σ H' hx ⟨o, rfl, gr, hH⟩
      rw [List.getElem?_map, Option.map_eq_some_iff] at hx
      obtain ⟨q, hq', rfl⟩ := hx
      refine ⟨_, rfl, _, rfl, F, _, rfl, .inl ⟨_, q, hH, rfl, ?_, rfl⟩, _, rfl, gr.chg (.inl hF) (s0.free hF), ?_⟩
      · have := (once_spec (ks.take i)).2.2.1
        unfold once at this
        rw [List.length_map, List.length_take] at this
        have e : (100000 : Nat) < sizeLine := by decide
        omega
      · rw [upd_same, ← onceK_snoc, List.take_succ, hq']
        rfl
    · rintro σ H' ⟨o, rfl, gr, hH⟩
      rw [List.length_map, List.take_length] at hH
      refine ⟨_, rfl, F, _, rfl, hH, fun l hl => ?_⟩
      have e : (onceK ks).map (fun kv => kV kv.1) = (once ks).map kV := by unfold once; rw [List.map_map]; rfl
      rw [e]
      exact k l _ _ (gr.newN hl) (SqL.of upd_same)
/-! ### are_names, is_stand -/
def strD (b : Str) : D := .lf (.str b)
theorem strs_of {H : Hp} : ∀ {xs : List V} {bs : List Str}, DqAll K H xs (bs.map strD) → xs = bs.map V.str
  | _, [], h => by cases h; rfl
  | _, b :: r, h => by
    cases h with
    | cons a t =>
      have a : Dq K H _ (.lf (.str b)) := a
      cases a with
      | lf _ => rw [strs_of t]; rfl
theorem strs_to {H : Hp} : ∀ (bs : List Str), DqAll K H (bs.map V.str) (bs.map strD)
  | [] => .nil
  | b :: r => .cons (.lf rfl) (strs_to r)
theorem name_short {b : Str} (h : nameB b = true) : b.cps.size ≤ 12 := by
  unfold nameB at h
  rw [Bool.and_eq_true, Bool.and_eq_true] at h
  exact of_decide_eq_true h.2.1
theorem nodup_inr : ∀ {bs : List Str}, bs.Nodup → (bs.map (Sum.inr (α := Int))).Nodup
  | [], _ => .nil
  | b :: r, h => by
    obtain ⟨h1, h2⟩ := List.nodup_cons.mp h
    refine List.nodup_cons.mpr ⟨fun m => ?_, nodup_inr h2⟩
    obtain ⟨c, hc, e⟩ := List.mem_map.mp m
    cases e
    exact h1 hc
def spNames (K : PySem.W.Frag) : Sp := fun vs H Q _ => ∃ (v : V) (bs : List Str), vs = [v] ∧ Dq K H v (.sq (bs.map strD)) ∧ (∀ b ∈ bs, nameB b = true) ∧ bs.Nodup ∧ bs.length ≤ 1000 ∧ ∀ H', Same H H' → Q (.bl true) H'
theorem sc_are_names : FnScope ["thing", "name"] ["thing"] (defScope s_are_names) := ⟨rfl, rfl, rfl, by decide +kernel, rfl, by decide +kernel, by decide +kernel⟩
theorem ok_are_names (T : Txt K mg) : Cl P w K mg base CX0 2 "are_names" (spNames K) := by
  refine cl0 (T.F_are_names) T.g_are_names sc_are_names (fun vs H Q E h => ?_) (fun _ _ _ _ _ _ us hl => match us, hl with | [_], _ => rfl) (fun cdv A outer s H vs Q E hr h => ?_)
  · obtain ⟨v, bs, rfl, _⟩ := h
    rfl
  · obtain ⟨v, bs, rfl, hd, hn, hu, hz, k⟩ := h
    refine ⟨_, (pss_cons (ps_if (PW.pt (pw_or (pt_not (pt_val (pe_cl (ok_is_list T) hr (by decide) pass0 (pa_cons (pv 0) pa_nil)))) (pw_or1 (pt_not (pt_val (pe_callB (cr_all rfl) (by rfl) T.f_all (by decide +kernel) (pa_cons (pe_lc (own := [("name", 1)]) rfl sc_are_names.nd (pi_sq (pv 0)) (blkOk_by (by kernel_rfl)) (fun _ _ _ _ _ => (pg_name (i := 1) sc_are_names.nd rfl (by first | exact Or.inl rfl | exact Or.inr rfl))) (fun _ _ _ _ _ => pts_nil) (fun _ _ _ _ _ => (pe_cl (ok_is_name T) hr (by decide) pass0 (pa_cons (pv 1) pa_nil)))) pa_nil)))))))
        (pss_one (ps_ret pe_bl))
        pss_nil)
      (pss_one (ps_ret (pe_cmpR op_eq (pe_callB call_lenD (by rfl) T.f_len (by decide +kernel) (pa_cons (pe_dc (own := [("name", 1)]) rfl sc_are_names.nd (pi_sq (pv 0)) (blkOk_by (by kernel_rfl)) (fun _ _ _ _ _ => (pg_name (i := 1) sc_are_names.nd rfl (by first | exact Or.inl rfl | exact Or.inr rfl))) (fun _ _ _ _ _ => pts_nil) (fun _ _ _ _ _ => (pv 1)) (fun _ _ _ _ _ => pe_bl)) pa_nil)) (pe_callB call_len_seq (by rfl) T.f_len (by decide +kernel) (pa_cons (pv 0) pa_nil)) (nomark _))))), ?_⟩
    obtain ⟨a, xs, rfl, src, ha⟩ := hd.seq
    have hx := strs_of ha
    subst hx
    refine ⟨_, rfl, _, _, rfl, hd, fun H1 s1 => ⟨_, rfl, ?_⟩⟩
    refine ite_n (by rfl) ?_
    refine cb1 (lc_any (M := NoM) (.ref a) H1 (fun i acc _ => acc = (bs.take i).map fun _ => V.bl true) (fun R' r => ⟨_, rfl, r⟩) rfl (fun _ _ z => z) (Same.refl H1) (s1.q src) (by rw [List.length_map]; exact Nat.le_trans hz (by decide)) rfl ?_ ?_)
    · rintro D hD i x acc G H3 hx gr hl rfl
      intro Ky Kn ky kn
      refine ⟨rfl, y_te ?_⟩
      rw [List.getElem?_map, Option.map_eq_some_iff] at hx
      obtain ⟨b, hb, rfl⟩ := hx
      have hbn := hn b (List.mem_of_getElem? hb)
      refine ⟨_, rfl, _, strD b, rfl, .lf rfl, fun x e => by cases e; exact Nat.le_trans (name_short hbn) (by decide), fun H4 s4 => ?_⟩
      refine ky _ H4 G (Gr.of gr.sub s4) ?_
      show _ = _
      rw [all_snoc (f := fun _ => V.bl true) hb]
      show _ ++ [V.bl (nameB b)] = _
      rw [hbn]
    · rintro D acc G H3 hD gr hg hl rfl
      rw [List.length_map, List.take_length] at gr
      refine ⟨D, bs.map fun _ => true, rfl, SqL.of ?_, ?_⟩
      · rw [gr.sub D _ upd_same, List.map_map]; rfl
      · refine ⟨_, rfl, ?_⟩
        refine ite_n (by simp) ?_
        dsimp only [tNext, tRet, tOp, tSeq, gName, tAsg]
        refine cb1 (dk_any (M := NoM) (K := K) (a := a) (xs := bs.map V.str) H1 (fun i kvs _ => kvs = onceK ((bs.take i).map Sum.inr)) (fun R' r => ⟨_, rfl, r⟩) (fun _ _ z => z) (gr.up.trans gr.sub) (s1.q src) (by rw [List.length_map]; omega) rfl ?_ ?_)
        · rintro D2 hD2 i x kvs G2 H4 hx g2 rfl
          intro Ky Kn ky kn
          refine ⟨rfl, y_te ?_⟩
          rw [List.getElem?_map, Option.map_eq_some_iff] at hx
          obtain ⟨b, hb, rfl⟩ := hx
          refine ⟨_, rfl, ?_⟩
          refine ky (.inr b) (.bl true) H4 G2 (Gr.start g2.sub) ?_
          show _ = _
          rw [all_snoc (f := fun b => (Sum.inr b : Key)) hb, onceK_snoc]
        · rintro D2 kvs G2 H4 hD2 g2 hg2 hl2 rfl
          rw [List.length_map, List.take_length] at g2
          have e2 := once_spec (bs.map (Sum.inr (α := Int)))
          have e3 := e2.2.2.2 (nodup_inr hu)
          have e4 : (onceK (bs.map (Sum.inr (α := Int)))).length = bs.length := by
            have := congrArg List.length e3
            unfold once at this
            rwa [List.length_map, List.length_map] at this
          refine ⟨D2, _, rfl, g2.sub D2 _ upd_same, ?_⟩
          refine ⟨_, rfl, a, bs.map V.str, rfl, (gr.same.trans g2.same).q (s1.q src), ?_⟩
          rw [e4, List.length_map]
          have q := k H4 (s1.trans (gr.same.trans g2.same))
          refine ⟨rfl, ?_⟩
          rw [decide_eq_true rfl]
          exact q
end
end K8
-- K8Step
set_option maxRecDepth 100000
set_option maxHeartbeats 4000000
namespace K8
open PySem PySem.Spec PyProof.Rows L2
/-! ### steps -/
structure Stp where
  wd : D
  one : Nat
  oth : Nat
  bars : List Str
  sd : Addr
def stepD (s : Stp) : D := .sq [s.wd, .lf (.int (s.one : Nat)), .lf (.int (s.oth : Nat)), .sq (s.bars.map strD), .lf (.ref s.sd)]
/-- sights: a dict of names to texts -/
def SideOk (kvs : List (Key × V)) : Prop := (kvs.map (·.1)).Nodup ∧ kvs.length ≤ 10 ∧ ∃ ns : List Str, kvs.map (·.1) = ns.map Sum.inr ∧ (∀ b ∈ ns, nameB b = true) ∧ ∀ p ∈ kvs, ∃ x : Str, p.2 = .str x
structure StpOk (many : Nat) (G : Hp) (s : Stp) : Prop where
  wd : isWord s.wd = true
  dp : dep s.wd < 3
  wi : wide s.wd ≤ 1000
  one : s.one < many
  oth : s.oth < many
  bars : ∀ b ∈ s.bars, nameB b = true
  nd : s.bars.Nodup
  few : s.bars.length < 64
  sd : ∃ kvs, G s.sd = some (.dK kvs) ∧ SideOk kvs
theorem StpOk.same {many : Nat} {G H : Hp} {x : Stp} (h : StpOk many G x) (s : Same G H) : StpOk many H x := { h with sd := let ⟨k, a, b⟩ := h.sd; ⟨k, s _ _ a, b⟩ }
/-- rising texts of a list -/
def srtS (l r : List Str) : Prop := Srt strO r ∧ ∀ x, x ∈ r ↔ x ∈ l
/-- a kept step -/
structure KS (K : PySem.W.Frag) (G : Hp) (v : V) (s : Stp) (rs : List Str) : Prop where
  ex : ∃ t w' rt sd', v = .ref t ∧ SqT K G t [w', .int (s.one : Nat), .int (s.oth : Nat), .ref rt, .ref sd'] ∧ Dp K G w' (keyD s.wd).data ∧ SqT K G rt (rs.map V.str) ∧ ∃ kvs, G sd' = some (.dK kvs) ∧ kvs.length ≤ 10
  rs : srtS s.bars rs
theorem KS.same {K : PySem.W.Frag} {G H : Hp} {v : V} {x : Stp} {rs : List Str} (h : KS K G v x rs) (s : Same G H) : KS K H v x rs where
  ex := let ⟨t, w', rt, sd', e, a, b, c, kvs, d, n⟩ := h.ex; ⟨t, w', rt, sd', e, s.tp a, dp_mono s b, s.tp c, kvs, s _ _ d, n⟩
  rs := h.rs
theorem ixq {K : PySem.W.Frag} {H : Hp} {a : Addr} {xs : List V} {v : V} {Q : VK} (i : Nat) (s : Sq K H a xs) (h : xs[i]? = some v) (q : Q v H) : rIxL K (.ref a) (.int (i : Int)) H Q ∨ rIxT K (.ref a) (.int (i : Int)) H Q := by
  rcases s with s | s
  · exact .inl ⟨a, xs, _, v, rfl, rfl, s, atI_nat h, q⟩
  · exact .inr ⟨a, xs, _, v, rfl, rfl, s, atI_nat h, q⟩
theorem side_get : ∀ {kvs : List (Key × V)} {k : Key}, (∀ p ∈ kvs, ∃ x : Str, p.2 = .str x) → k ∈ kvs.map (·.1) → ∃ z : Str, valV kvs k = some (.str z)
  | [], _, _, m => by cases m
  | p :: r, k, h, m => by
    by_cases e : p.1 = k
    · obtain ⟨z, hz⟩ := h p List.mem_cons_self
      exact ⟨z, by rw [valV_pos e, hz]⟩
    · rw [valV_neg e]
      refine side_get (fun q hq => h q (List.mem_cons_of_mem _ hq)) ?_
      rcases List.mem_cons.mp m with m | m
      · exact absurd m.symm e
      · exact m
/-! ### is_stand, kept_step -/
def spStand : Sp := fun vs H Q _ => ∃ i n : Nat, vs = [.int (i : Nat), .int (n : Nat)] ∧ i < n ∧ ∀ H', Same H H' → Q (.bl true) H'
theorem sc_is_stand : FnScope ["thing", "many"] ["thing", "many"] (defScope s_is_stand) := ⟨rfl, rfl, rfl, by decide +kernel, rfl, by decide +kernel, by decide +kernel⟩
def spKept (K : PySem.W.Frag) : Sp := fun vs H Q _ => ∃ (G : Hp) (v : V) (n : Nat) (s : Stp), vs = [v, .int (n : Nat)] ∧ Same G H ∧ Dq K G v (stepD s) ∧ StpOk n G s ∧ ∀ v' H' G' rs, Gr NoM H G G' H' → KS K G' v' s rs → Q v' H'
theorem sc_kept_step : FnScope ["thing", "many", "word", "one", "other", "rules", "sights", "side"] ["thing", "many"] (defScope s_kept_step) := ⟨rfl, rfl, rfl, by decide +kernel, rfl, by decide +kernel, by decide +kernel⟩
section
variable {P : Program} {w : World} {K : PySem.W.Frag} {mg : Str → Option Value} {base : Heap}
theorem ok_is_stand (T : Txt K mg) : Cl P w K mg base CX0 3 "is_stand" spStand := by
  refine cl0 (T.F_is_stand) T.g_is_stand sc_is_stand (fun vs H Q E h => ?_) (fun _ _ _ _ _ _ us hl => match us, hl with | [_, _], _ => rfl) (fun cdv A outer s H vs Q E hr h => ?_)
  · obtain ⟨i, n, rfl, _⟩ := h
    rfl
  · obtain ⟨i, n, rfl, hi, k⟩ := h
    refine ⟨_, (pss_one (ps_ret (pe_and (pe_cl (ok_is_number T) hr (by decide) pass0 (pa_cons (pv 0) pa_nil)) (pe_one (pe_cmpR op_lt (pv 0) (pv 1) (nomark _)))))), ?_⟩
    refine ⟨_, rfl, .int (i : Nat), .lf (.int (i : Nat)), rfl, .lf rfl, fun H1 s1 => ⟨_, rfl, ?_⟩⟩
    refine ite_y (by show decide ((0 : Int) ≤ (i : Int)) = true; exact decide_eq_true (by omega)) ?_
    refine ⟨_, rfl, _, rfl, (i : Int), (n : Int), rfl, rfl, ?_⟩
    have q := k H1 s1
    have e : decide ((i : Int) < (n : Int)) = true := decide_eq_true (by omega)
    show Q (.bl (decide ((i : Int) < (n : Int)))) H1
    rw [e]
    exact q
theorem ok_kept_step (T : Txt K mg) : Cl P w K mg base CX0 7 "kept_step" (spKept K) := by
  refine cl0 (T.F_kept_step) T.g_kept_step sc_kept_step (fun vs H Q E h => ?_) (fun _ _ _ _ _ _ us hl => match us, hl with | [_, _], _ => rfl) (fun cdv A outer s H vs Q E hr h => ?_)
  · obtain ⟨G, v, n, x, rfl, _⟩ := h
    rfl
  · obtain ⟨G, v, n, x, rfl, s0, hd, ok, k⟩ := h
    refine ⟨_, (pss_cons (ps_if (PW.pt (pw_or (pt_not (pt_val (pe_cl (ok_is_list T) hr (by decide) pass0 (pa_cons (pv 0) pa_nil)))) (pw_or (pt_cmpR op_ne (pe_callB call_len_seq (by rfl) T.f_len (by decide +kernel) (pa_cons (pv 0) pa_nil)) pe_int (nomark _)) (pw_or1 (pt_not (pt_val (pe_cl (ok_is_word T 3) hr (by decide) pass0 (pa_cons (pe_ix (ix_list.or ix_tup) (pv 0) pe_int (fun _ _ => rfl)) pa_nil))))))))
        (pss_one (ps_ret pe_non))
        pss_nil)
      (pss_cons (ps_asg (pv 0) (pg_seq (by rfl) (pgs_cons (pg_name (i := 2) sc_kept_step.nd rfl (by first | exact Or.inl rfl | exact Or.inr rfl)) (pgs_cons (pg_name (i := 3) sc_kept_step.nd rfl (by first | exact Or.inl rfl | exact Or.inr rfl)) (pgs_cons (pg_name (i := 4) sc_kept_step.nd rfl (by first | exact Or.inl rfl | exact Or.inr rfl)) (pgs_cons (pg_name (i := 5) sc_kept_step.nd rfl (by first | exact Or.inl rfl | exact Or.inr rfl)) (pgs_cons (pg_name (i := 6) sc_kept_step.nd rfl (by first | exact Or.inl rfl | exact Or.inr rfl)) pgs_nil)))))))
      (pss_cons (ps_if (PW.pt (pw_or (pt_not (pt_val (pe_cl (ok_is_stand T) hr (by decide) pass0 (pa_cons (pv 3) (pa_cons (pv 1) pa_nil))))) (pw_or (pt_not (pt_val (pe_cl (ok_is_stand T) hr (by decide) pass0 (pa_cons (pv 4) (pa_cons (pv 1) pa_nil))))) (pw_or (pt_not (pt_val (pe_cl (ok_are_names T) hr (by decide) pass0 (pa_cons (pv 5) pa_nil)))) (pw_or1 (pt_not (pt_val (pe_callB call_isi (by rfl) T.f_isinstance (by decide +kernel) (pa_cons (pv 6) (pa_cons (pe_bltn (v := .ty "dict") (u := .type "dict") (by rfl) T.f_dict (by decide +kernel) rfl) pa_nil))))))))))
        (pss_one (ps_ret pe_non))
        pss_nil)
      (pss_cons (ps_if (pt_not (pt_val (pe_callB (cr_all rfl) (by rfl) T.f_all (by decide +kernel) (pa_cons (pe_lock (pe_lc (own := [("side", 7)]) rfl sc_kept_step.nd (pi_keys (pv 6)) (blkOk_by (by kernel_rfl)) (fun _ _ _ _ _ => (pg_name (i := 7) sc_kept_step.nd rfl (by first | exact Or.inl rfl | exact Or.inr rfl))) (fun _ _ _ _ _ => pts_nil) (fun _ _ _ _ _ => (pe_and (pe_cl (ok_is_name T) hr (by decide) pass0 (pa_cons (pv 7) pa_nil)) (pe_one (pe_cl (ok_is_word T 3) hr (by decide) pass0 (pa_cons (pe_dget (u1 hr) (pv 6) (pv 7) (fun _ _ => rfl)) pa_nil))))))) pa_nil))))
        (pss_one (ps_ret pe_non))
        pss_nil)
      (pss_one (ps_ret (pe_tup (pa_cons (pe_cl (ok_as_word T 3) hr (by decide) pass0 (pa_cons (pv 2) pa_nil)) (pa_cons (pv 3) (pa_cons (pv 4) (pa_cons (pe_callTy call_tuple_of (by rfl) T.f_tuple (by decide +kernel) (pa_cons (pe_callB cr_sortQ (by rfl) T.f_sorted (by decide +kernel) (pa_cons (pv 5) pa_nil)) pa_nil)) (pa_cons (pe_dc (own := [("side", 7)]) rfl sc_kept_step.nd (pi_sq (pe_callB (call_sortedD rfl) (by rfl) T.f_sorted (by decide +kernel) (pa_cons (pv 6) pa_nil))) (blkOk_by (by kernel_rfl)) (fun _ _ _ _ _ => (pg_name (i := 7) sc_kept_step.nd rfl (by first | exact Or.inl rfl | exact Or.inr rfl))) (fun _ _ _ _ _ => pts_nil) (fun _ _ _ _ _ => (pv 7)) (fun _ _ _ _ _ => (pe_cl (ok_as_word T 3) hr (by decide) pass0 (pa_cons (pe_dget (u1 hr) (pv 6) (pv 7) (fun _ _ => rfl)) pa_nil)))) pa_nil)))))))))))), ?_⟩
    obtain ⟨a, xs, rfl, src, ha⟩ := hd.seq
    refine ⟨_, rfl, _, _, rfl, Dq.mono s0 _ _ hd, fun H1 s1 => ⟨_, rfl, ?_⟩⟩
    refine ite_n (by rfl) ?_
    have ex : ∃ w1 rl, xs = [w1, .int (x.one : Nat), .int (x.oth : Nat), rl, .ref x.sd] ∧ Dq K G w1 x.wd ∧ Dq K G rl (.sq (x.bars.map strD)) := by
      cases ha with
      | cons h1 ha => cases ha with
        | cons h2 ha => cases ha with
          | cons h3 ha => cases ha with
            | cons h4 ha => cases ha with
              | cons h5 ha =>
                cases ha
                cases h2
                cases h3
                have h5 : Dq K G _ (.lf (.ref x.sd)) := h5
                cases h5 with
                | lf z => cases z
                | dct _ => exact ⟨_, _, rfl, h1, h4⟩
    obtain ⟨w1, rl, rfl, hw, hr4⟩ := ex
    obtain ⟨kvs, hsd, sok⟩ := ok.sd
    have src0 := s0.q src
    refine ⟨_, rfl, a, _, rfl, s1.q src0, rfl, _, rfl, ?_⟩
    refine ite_n (by show (!decide (V.int 5 = V.int 5)) = false; rw [decide_eq_true rfl]; rfl) ?_
    refine ⟨_, rfl, ?_⟩
    refine ixq 0 (s1.q src0) rfl ?_
    refine ⟨w1, x.wd, rfl, Dq.mono (s0.trans s1) _ _ hw, ok.dp, ok.wi, fun H2 s2 => ⟨_, rfl, ?_⟩⟩
    refine ite_n (by rw [ok.wd]; rfl) ?_
    dsimp only [tNext, tRet, tOp, tSeq, gName, tAsg]
    have g2 : Gr NoM H G G H2 := Gr.of s0 (s1.trans s2)
    refine ⟨_, rfl, a, _, rfl, g2.sub.q src, rfl, ?_⟩
    refine ⟨_, _, rfl, ⟨_, _, rfl, ⟨_, _, rfl, ⟨_, _, rfl, ⟨_, _, rfl, ⟨rfl, ?_⟩⟩⟩⟩⟩⟩
    dsimp only [tNext, tRet, tOp, tSeq, gName, tAsg]
    refine ⟨_, rfl, _, rfl, x.one, n, rfl, ok.one, fun H3 s3 => ⟨_, rfl, ?_⟩⟩
    refine ite_n (by rfl) ?_
    refine ⟨_, rfl, _, rfl, x.oth, n, rfl, ok.oth, fun H4 s4 => ⟨_, rfl, ?_⟩⟩
    refine ite_n (by rfl) ?_
    have g4 : Gr NoM H G G H4 := Gr.of g2.sub (s3.trans s4) |> fun _ => ⟨Same.refl _, g2.sub.trans (s3.trans s4), fun b o e _ => s4 b o (s3 b o (g2.same b o e)), fun _ _ e => e⟩
    refine ⟨_, rfl, rl, x.bars, rfl, Dq.mono g4.sub _ _ hr4, ok.bars, ok.nd, Nat.le_trans (Nat.le_of_lt ok.few) (by decide), fun H5 s5 => ⟨_, rfl, ?_⟩⟩
    refine ite_n (by rfl) ?_
    have g5 : Gr NoM H G G H5 := g4.trans (Gr.of g4.sub s5)
    have hs5 := g5.sub _ _ hsd
    refine ⟨_, rfl, .ref x.sd, _, .type "dict", _, _, rfl, .ty "dict", .base (.dK hs5), kit_ty (b := "dict") (r := true) (by decide +kernel), _, rfl, ?_⟩
    refine ite_n (by rfl) ?_
    dsimp only [tNext, tRet, tOp, tSeq, gName, tAsg]
    refine cb1 ⟨x.sd, _, hs5, True.intro, fun od => ?_⟩
    obtain ⟨snd, sln, ns, hks, hnn, hst⟩ := sok
    have hkl : kvs.length = ns.length := by
      have := congrArg List.length hks
      rwa [List.length_map, List.length_map] at this
    refine ⟨_, rfl, x.sd, od, rfl, .inl ⟨kvs, upd_same, fun D hD => lc_w (M := NoM) (G1 := upd H5 x.sd (.frz od (.dK kvs))) walk_keys (fun i H x H' y => y.1) (fun i acc _ => acc = (kvs.take i).map fun _ => V.bl true) hD (fun z => z) (Same.refl _) (fun G H gr => (gr.up.trans gr.sub) _ _ upd_same) (Nat.le_trans sln (by decide)) rfl ?_ ?_⟩⟩
    · rintro i v acc G6 H6 hi ⟨_, q, u, hq, rfl⟩ gr hl rfl
      intro Ky Kn ky kn
      refine ⟨rfl, y_te ?_⟩
      have hfr : H6 x.sd = some (.frz od (.dK kvs)) := (gr.up.trans gr.sub) _ _ upd_same
      have hq1 : q ∈ kvs.map (·.1) := List.mem_map.mpr ⟨_, List.mem_of_getElem? hq, rfl⟩
      obtain ⟨z, hz⟩ := side_get hst hq1
      have hq2 := hq1
      rw [hks] at hq2
      obtain ⟨b, hb, rfl⟩ := List.mem_map.mp hq2
      have hbn := hnn b hb
      refine ⟨_, rfl, .str b, strD b, rfl, .lf rfl, fun y e => by cases e; exact Nat.le_trans (name_short hbn) (by decide), fun H7 s7 => ⟨_, rfl, ?_⟩⟩
      refine ite_y (by show nameB b = true; exact hbn) ?_
      refine ⟨_, rfl, _, rfl, x.sd, .str z, rfl, .inl ⟨kvs, .inr b, .inr ⟨od, s7 _ _ hfr⟩, rfl, hz.symm⟩, ?_⟩
      refine ⟨.str z, .lf (.str z), rfl, .lf rfl, by show 0 < 3; decide, by show 0 ≤ 1000; decide, fun H8 s8 => ?_⟩
      refine ky _ H8 G6 (Gr.of gr.sub (s7.trans s8)) ?_
      show _ = _
      rw [all_snoc (f := fun _ => V.bl true) hq]
      rfl
    · rintro acc G6 H6 gr hg hl rfl
      have hfr : H6 x.sd = some (.frz od (.dK kvs)) := gr.same _ _ upd_same
      have s56 : Same H5 (upd H6 x.sd (.dK kvs)) := fun b o e => by
        by_cases eb : b = x.sd
        · subst eb; rw [upd_same, ← hs5]; exact e.symm ▸ rfl
        · rw [upd_ne eb]; exact gr.same b o (by rw [upd_ne eb]; exact e)
      rw [List.take_length] at gr
      have hDx : D ≠ x.sd := fun e => by subst e; rw [upd_same] at hD; cases hD
      refine ⟨hfr, D, kvs.map fun _ => true, rfl, SqL.of ?_, ?_⟩
      · rw [upd_ne hDx, gr.sub D _ upd_same, List.map_map]; rfl
      refine ⟨_, rfl, ?_⟩
      refine ite_n (by simp) ?_
      dsimp only [tNext, tRet, tOp, tSeq, gName, tAsg]
      have g6 : Gr NoM H G G (upd H6 x.sd (.dK kvs)) := g5.trans (Gr.of g5.sub s56)
      generalize upd H6 x.sd (.dK kvs) = H7 at g6
      refine ⟨_, rfl, G, w1, x.wd, rfl, g6.sub, hw, ok.wd, ok.dp, ok.wi, fun w' H8 G8 g8 hw' => ?_⟩
      have gA : Gr NoM H G G8 H8 := g6.trans g8
      refine ⟨_, rfl, ⟨_, rfl, ?_⟩⟩
      obtain ⟨ra, rxs, rfl, rsrc, hra⟩ := hr4.seq
      have hrx := strs_of hra
      subst hrx
      refine ⟨_, rfl, ra, x.bars, rfl, (gA.up.trans gA.sub).q rsrc, ok.few, fun ys p hperm hsort hp => ?_⟩
      refine ⟨p, _, rfl, .inl ⟨SqL.of upd_same, fun t ht => ?_⟩⟩
      have gB := gA.mine (o := .lst (ys.map V.str)) hp
      have gC := gB.newN (o := .tup (ys.map V.str)) ht
      have hG8t := gB.sub.free ht
      generalize hG9 : upd G8 t (.tup (ys.map V.str)) = G9 at gC
      have u89 : Same G8 G9 := by rw [← hG9]; exact Same.upd_none hG8t
      have htG9 : SqT K G9 t (ys.map V.str) := by rw [← hG9]; exact SqT.of upd_same
      generalize upd (upd H8 p (.lst (ys.map V.str))) t (.tup (ys.map V.str)) = H9 at gC
      have hs9 : H9 x.sd = some (.dK kvs) := gC.sub _ _ (gC.up _ _ hsd)
      refine ⟨_, rfl, x.sd, kvs, ns, rfl, .inl hs9, hks, by omega, fun zs p2 hp2 hso2 hn2 => ?_⟩
      refine ⟨p2, rfl, .inl ⟨⟨zs.map V.str, SqL.of upd_same⟩, fun D hD => dk_it (M := NoM) (G1 := upd G9 p2 (.lst (zs.map V.str))) (walk_list (K := K) (a := p2) (xs := zs.map V.str)) (fun _ _ _ _ y => y.1) (fun i kvs _ => kvs.length ≤ i) hD (fun z => z) ?_ (fun G H gr => SqL.of ((gr.up.trans gr.sub) _ _ upd_same)) ?_ (Nat.zero_le _) ?_ ?_⟩⟩
      · exact (gC.newN (o := .lst (zs.map V.str)) hn2).sub
      · rw [List.length_map, hp2.length_eq]; omega
      · rintro i v kvs2 G10 H10 hi ⟨_, hv⟩ gr r
        intro Ky Kn ky kn
        refine ⟨rfl, y_te ?_⟩
        rw [List.getElem?_map, Option.map_eq_some_iff] at hv
        obtain ⟨b, hb, rfl⟩ := hv
        have hbk : (Sum.inr b : Key) ∈ kvs.map (·.1) := by
          rw [hks]
          exact List.mem_map.mpr ⟨b, hp2.mem_iff.mp (List.mem_of_getElem? hb), rfl⟩
        obtain ⟨z, hz⟩ := side_get hst hbk
        have hp2x : x.sd ≠ p2 := fun e => by rw [e, hn2] at hs9; cases hs9
        have hs10 : H10 x.sd = some (.dK kvs) := (gr.up.trans gr.sub) _ _ (by rw [upd_ne hp2x]; exact gC.up _ _ hsd)
        refine ⟨_, rfl, _, rfl, _, rfl, x.sd, .str z, rfl, .inl ⟨kvs, .inr b, .inl hs10, rfl, hz.symm⟩, ?_⟩
        refine ⟨G10, .str z, .lf (.str z), rfl, gr.sub, .lf rfl, rfl, by show 0 < 3; decide, by show 0 ≤ 1000; decide, fun v' H11 G11 g11 _ => ?_⟩
        refine ky (.inr b) v' H11 G11 g11 ?_
        show (putK kvs2 (.inr b) v').length ≤ i + 1
        have := length_putK kvs2 (.inr b) v'
        omega
      · rintro kvs2 G10 H10 gr hg hl r
        refine ⟨by show 5 ≤ sizeLine; decide, fun tt htt => ?_⟩
        have gD : Gr NoM H G (upd G9 p2 (.lst (zs.map V.str))) (upd H9 p2 (.lst (zs.map V.str))) := gC.newN hn2
        have gE := gD.trans gr
        have gF := gE.newN (o := .tup [w', .int (x.one : Nat), .int (x.oth : Nat), .ref t, .ref D]) htt
        have hfr := gE.sub.free htt
        have u9E : Same G9 (upd G10 D (.dK kvs2)) := (Same.upd_none (gC.sub.free hn2)).trans gr.up
        refine k (.ref tt) _ _ ys gF ⟨⟨tt, w', t, D, rfl, SqT.of upd_same, ?_, ?_, kvs2, ?_, ?_⟩, srt_sortedS (hperm.nodup_iff.mpr ok.nd) hsort, fun y => hperm.mem_iff⟩
        · exact dp_mono ((u89.trans u9E).trans (Same.upd_none hfr)) hw'
        · exact (u9E.trans (Same.upd_none hfr)).tp htG9
        · exact Same.upd_none hfr _ _ upd_same
        · rw [List.length_map, hp2.length_eq] at hl; omega
end
end K8
-- K8Rules
set_option maxRecDepth 100000
set_option maxHeartbeats 4000000
namespace K8
open PySem PySem.Spec PyProof.Rows L2
/-! ### the rules with the fragment and the world named -/
section
variable {X : Cx} {KK : PySem.W.Frag} {ww : World}
theorem wNew {pos : Pos} (hw : X.w = ww := by rfl) : PE X (.Dict [] [] pos) (tDNewW ww) := by subst hw; exact pe_dnewW
theorem wGet {o i : Expr} {td ty : TE} {pos : Pos} (hu : X.A.units + 9 < cLine) (ho : PE X o td) (hi : PE X i ty) (hs : NoSl i) (hK : X.K = KK := by rfl) (hw : X.w = ww := by rfl) : PE X (.Subscript o i pos) (tWGet KK ww td ty) := by subst hw hK; exact pe_wget hu ho hi hs
theorem wPut {o i value : Expr} {td ty tv : TE} {pos pos' : Pos} (hu : X.A.units + 9 < cLine) (ho : PE X o td) (hi : PE X i ty) (hv : PE X value tv) (hs : swapsWith value (some (.Subscript o i pos')) pos.line X.env = pure false) (hK : X.K = KK := by rfl) (hw : X.w = ww := by rfl) :
    PS X (.Assign [.Subscript o i pos'] value pos) (sWPut KK ww td ty tv) := by subst hw hK; exact ps_wput hu ho hi hv hs
theorem wIn (hu : X.A.units + 9 < cLine) (hK : X.K = KK := by rfl) (hw : X.w = ww := by rfl) : OpR X (compareOp .In) (rInW KK ww false) := by subst hw hK; exact op_in_w hu
theorem wNotIn (hu : X.A.units + 9 < cLine) (hK : X.K = KK := by rfl) (hw : X.w = ww := by rfl) : OpR X (compareOp .NotIn) (rInW KK ww true) := by subst hw hK; exact op_notIn_w hu
theorem wKeys {tg e : Expr} {td : TE} (he : PE X e td) (hw : X.w = ww := by rfl) : PI X tg e (iKeysW ww td) := by subst hw; exact pi_keysW he
theorem wVals {e : Expr} {td : TE} {apos cpos : Pos} (he : PE X e td) (hw : X.w = ww := by rfl) (hbase : attributeBase e "values" X.env (eval e X.env) = eval e X.env := by rfl) (hline : (apos.endLine == cpos.line) = true := by rfl) :
    PE X (.Call (.Attribute e "values" apos) [] [] cpos) (tVals ww td) := by subst hw; exact pe_valsW he hbase hline
theorem wListV (hc : X.calm = true) (hw : X.w = ww := by rfl) : CallR X (.type "list") (rListVw ww) := by subst hw; exact call_list_vw hc
theorem wListD (hc : X.calm = true) (hw : X.w = ww := by rfl) : CallR X (.type "list") (rListWD ww) := by subst hw; exact call_list_wd hc
/-- x[i] of a list or a tuple -/
def rIxQ (K : PySem.W.Frag) : R2 := fun x y H Q => ∃ a xs i v, x = .ref a ∧ y = .int i ∧ Sq K H a xs ∧ atI xs i = some v ∧ Q v H
theorem ixQ (hK : X.K = KK := by rfl) : IxR X (rIxQ KK) := by
  subst hK
  intro value slice pins s σ H x y v u Q I rx ry h hs
  obtain ⟨a, xs, i, z, e1, e2, sq, e3, q⟩ := h
  exact (ix_list.or ix_tup) value slice pins s σ H x y v u Q I rx ry (by
    rcases sq with sq | sq
    · exact .inl ⟨a, xs, i, z, e1, e2, sq, e3, q⟩
    · exact .inr ⟨a, xs, i, z, e1, e2, sq, e3, q⟩) hs
/-- x in a list or a tuple of flat things, in a dict -/
def rInX (K : PySem.W.Frag) (neg : Bool) : R2 := fun x y H Q => ∃ p b, y = .ref p ∧ ((∃ xs, Sq K H p xs ∧ flatV x = true ∧ xs.all flatV = true ∧ b = inV x xs) ∨ (∃ kvs k, Rd H p (.dK kvs) ∧ x = kV k ∧ b = (valV kvs k).isSome)) ∧ Q (.bl (if neg then !b else b)) H
theorem inX (hu : X.A.units + 1 < cLine) (hK : X.K = KK := by rfl) : OpR X (compareOp .In) (rInX KK false) := by
  subst hK
  intro pins s σ H x y v u Q I rx ry h
  obtain ⟨p, b, rfl, h, q⟩ := h
  rcases h with ⟨xs, sq, f1, f2, rfl⟩ | ⟨kvs, k, rd, rfl, rfl⟩
  · exact op_in_seq pins s σ H x _ v u Q I rx ry ⟨p, xs, rfl, sq, f1, f2, q⟩
  · cases ry
    exact d_in (o := valV kvs k) hu I (.inl ⟨kvs, k, rd, rfl, rfl⟩) rx fun s' I' => ⟨.bl _, H, I', rfl, q⟩
theorem notInX (hu : X.A.units + 1 < cLine) (hK : X.K = KK := by rfl) : OpR X (compareOp .NotIn) (rInX KK true) := by
  subst hK
  intro pins s σ H x y v u Q I rx ry h
  obtain ⟨p, b, rfl, h, q⟩ := h
  rcases h with ⟨xs, sq, f1, f2, rfl⟩ | ⟨kvs, k, rd, rfl, rfl⟩
  · exact op_notIn_seq pins s σ H x _ v u Q I rx ry ⟨p, xs, rfl, sq, f1, f2, q⟩
  · cases ry
    exact d_notIn (o := valV kvs k) hu I (.inl ⟨kvs, k, rd, rfl, rfl⟩) rx fun s' I' => ⟨.bl _, H, I', rfl, q⟩
theorem eqDD (hu : X.A.units + 64 < cLine) (hK : X.K = KK := by rfl) : OpR X (compareOp .Eq) (rEqD KK) := by subst hK; exact op_eqD hu
theorem sortQ (hK : X.K = KK := by rfl) : CallR X (.builtin "sorted") (rSortQ KK) := by subst hK; exact cr_sortQ
theorem sortPr (hu : X.A.units + 4 < cLine) (hK : X.K = KK := by rfl) : CallR X (.builtin "sorted") (rSortPr KK) := by subst hK; exact cr_sortPr hu
theorem allK (hc : X.calm = true) (hK : X.K = KK := by rfl) : CallR X (.builtin "all") (rAll KK) := by subst hK; exact cr_all hc
theorem anyK (hc : X.calm = true) (hK : X.K = KK := by rfl) : CallR X (.builtin "any") (rAny KK) := by subst hK; exact cr_any hc
theorem lenQ (hK : X.K = KK := by rfl) : CallR X (.builtin "len") (fun xs H Q => ∃ p ys, xs = [V.ref p] ∧ Sq KK H p ys ∧ Q (.int ys.length) H) := by subst hK; exact call_len_seq
theorem tupQ (hK : X.K = KK := by rfl) : CallR X (.type "tuple") (fun xs H Q => ∃ p ys, xs = [V.ref p] ∧ ((SqL KK H p ys ∧ ∀ l, H l = none → Q (.ref l) (upd H l (.tup ys))) ∨ (SqT KK H p ys ∧ Q (.ref p) H))) := by subst hK; exact call_tuple_of
theorem listQ (hK : X.K = KK := by rfl) : CallR X (.type "list") (fun xs H Q => ∃ p ys, xs = [V.ref p] ∧ Sq KK H p ys ∧ ∀ l, H l = none → Q (.ref l) (upd H l (.lst ys))) := by subst hK; exact call_list_of
end
end K8
namespace K8
open PySem PySem.Spec PyProof.Rows L2
section
variable {X : Cx} {KK : PySem.W.Frag}
theorem sqI {tg l : Expr} {tl : TE} (hl : PE X l tl) (hK : X.K = KK := by rfl) : PI X tg l (iSq KK tl) := by subst hK; exact pi_sq hl
theorem tupG {es : List Expr} {k : Nat} {pos : Pos} {t : TGs} {n : Nat} (hc : X.calm = true) (h : PGs X es t) (hn : (assignEach es X.env).length = n := by rfl) (hst : (assignEach es X.env).findIdx? (·.1) = none := by rfl) (hK : X.K = KK := by rfl) : PG X (.Tuple es k pos) (gTup KK n t) := by subst hK; exact pg_tup hc h hn hst
theorem seqG {es : List Expr} {k : Nat} {pos : Pos} {t : TGs} {n : Nat} (hc : X.calm = true) (h : PGs X es t) (hn : (assignEach es X.env).length = n := by rfl) (hst : (assignEach es X.env).findIdx? (·.1) = none := by rfl) (hK : X.K = KK := by rfl) : PG X (.Tuple es k pos) (gSeq KK n t) := by subst hK; exact pg_seq hc h hn hst
theorem enQ {e : Expr} {ta : TA} {p pos tpos : Pos} {elts : List Expr} {kk : Nat} (hg : Gl X "enumerate") (hm : X.mg "enumerate" = none) (ha : PA X [e] ta) (hs : starEach [e] X.env = [(false, eval e X.env)] := by rfl) (hK : X.K = KK := by rfl) :
    PI X (.Tuple elts kk tpos) (.Call (.Name "enumerate" p) [e] [] pos) (iEnumQ KK ta) := by subst hK; exact pi_enumQ hg hm ha hs
end
end K8
-- K8Runs
/-! Runs of a table, the two searches in breadth (by a queue; by levels), what they tell. Plain Lean. -/
set_option autoImplicit false
namespace K8
section
variable {W α : Type}
/-! ### runs -/
abbrev Row (W α : Type) := List (W × Nat × List α)
abbrev Rows (W α : Type) := List (Row W α)
def rowAt {β : Type} (rows : List (List β)) (u : Nat) : List β := rows.getD u []
/-- a run from stand 0: its words, where it ends, the rules that bar its steps -/
inductive Go (rows : Rows W α) : List W → Nat → List α → Prop
  | nil : Go rows [] 0 []
  | snoc {ws : List W} {u : Nat} {B : List α} {w : W} {v : Nat} {R : List α} : Go rows ws u B → (w, v, R) ∈ rowAt rows u → Go rows (ws ++ [w]) v (B ++ R)
abbrev Adj (W : Type) := List (List (W × Nat))
inductive Pth (adj : Adj W) : List W → Nat → Prop
  | nil : Pth adj [] 0
  | snoc {ws : List W} {u : Nat} {w : W} {v : Nat} : Pth adj ws u → (w, v) ∈ rowAt adj u → Pth adj (ws ++ [w]) v
theorem rowAt_some {β : Type} {rows : List (List β)} {u : Nat} {r : List β} (h : rows[u]? = some r) : rowAt rows u = r := by
  unfold rowAt; rw [List.getD_eq_getElem?_getD, h]; rfl
theorem rowAt_none {β : Type} {rows : List (List β)} {u : Nat} (h : rows[u]? = none) : rowAt rows u = [] := by
  unfold rowAt; rw [List.getD_eq_getElem?_getD, h]; rfl
theorem rowAt_map {β γ : Type} (f : List β → List γ) (hf : f [] = []) (rows : List (List β)) (u : Nat) : rowAt (rows.map f) u = f (rowAt rows u) := by
  unfold rowAt
  rw [List.getD_eq_getElem?_getD, List.getD_eq_getElem?_getD, List.getElem?_map]
  cases rows[u]? with
  | none => exact hf.symm
  | some r => rfl
/-- the steps whose rules all pass the test -/
def keepRow (q : α → Bool) (row : Row W α) : List (W × Nat) := (row.filter fun e => e.2.2.all q).map fun e => (e.1, e.2.1)
def adjOf (q : α → Bool) (rows : Rows W α) : Adj W := rows.map (keepRow q)
theorem rowAt_adjOf (q : α → Bool) (rows : Rows W α) (u : Nat) : rowAt (adjOf q rows) u = keepRow q (rowAt rows u) := rowAt_map _ rfl rows u
theorem mem_keepRow {q : α → Bool} {row : Row W α} {w : W} {v : Nat} : (w, v) ∈ keepRow q row ↔ ∃ R, (w, v, R) ∈ row ∧ R.all q = true := by
  unfold keepRow
  rw [List.mem_map]
  constructor
  · rintro ⟨⟨w', v', R⟩, m, e⟩
    obtain ⟨m1, m2⟩ := List.mem_filter.mp m
    cases e
    exact ⟨R, m1, m2⟩
  · rintro ⟨R, m, h⟩
    exact ⟨(w, v, R), List.mem_filter.mpr ⟨m, h⟩, rfl⟩
theorem pth_iff {q : α → Bool} {rows : Rows W α} {ws : List W} {v : Nat} : Pth (adjOf q rows) ws v ↔ ∃ B, Go rows ws v B ∧ B.all q = true := by
  constructor
  · intro h
    induction h with
    | nil => exact ⟨[], .nil, rfl⟩
    | snoc _ m ih =>
      obtain ⟨B, g, hB⟩ := ih
      rw [rowAt_adjOf] at m
      obtain ⟨R, mR, hR⟩ := mem_keepRow.mp m
      exact ⟨B ++ R, .snoc g mR, by rw [List.all_append, hB, hR]; rfl⟩
  · rintro ⟨B, g, hB⟩
    induction g with
    | nil => exact .nil
    | snoc _ mR ih =>
      rw [List.all_append, Bool.and_eq_true] at hB
      exact .snoc (ih hB.1) (by rw [rowAt_adjOf]; exact mem_keepRow.mpr ⟨_, mR, hB.2⟩)
theorem snoc_inj {β : Type} {a b : List β} {x y : β} (h : a ++ [x] = b ++ [y]) : a = b ∧ x = y := by
  have := List.append_inj' h rfl
  exact ⟨this.1, by simpa using this.2⟩
theorem Go.inv {rows : Rows W α} {ws : List W} {v : Nat} {B : List α} (g : Go rows ws v B) : (ws = [] ∧ v = 0 ∧ B = []) ∨ ∃ ws' w u B' R, ws = ws' ++ [w] ∧ Go rows ws' u B' ∧ (w, v, R) ∈ rowAt rows u ∧ B = B' ++ R := by
  cases g with
  | nil => exact .inl ⟨rfl, rfl, rfl⟩
  | snoc g m => exact .inr ⟨_, _, _, _, _, rfl, g, m, rfl⟩
theorem Go.inv_nil {rows : Rows W α} {v : Nat} {B : List α} (g : Go rows [] v B) : v = 0 ∧ B = [] := by
  rcases g.inv with ⟨_, h⟩ | ⟨ws', w, _, _, _, e, _⟩
  · exact h
  · exact absurd (congrArg List.length e) (by simp)
theorem Go.inv_snoc {rows : Rows W α} {ws : List W} {w : W} {v : Nat} {B : List α} (g : Go rows (ws ++ [w]) v B) : ∃ u B' R, Go rows ws u B' ∧ (w, v, R) ∈ rowAt rows u ∧ B = B' ++ R := by
  rcases g.inv with ⟨e, _⟩ | ⟨ws', w', u, B', R, e, g', m, eB⟩
  · exact absurd (congrArg List.length e) (by simp)
  · obtain ⟨rfl, rfl⟩ := snoc_inj e
    exact ⟨u, B', R, g', m, eB⟩
theorem row_det {row : Row W α} (hd : (row.map (·.1)).Nodup) {w : W} {x y : Nat × List α} (m : (w, x) ∈ row) (m2 : (w, y) ∈ row) : x = y := by
  obtain ⟨i, hi⟩ := List.getElem?_of_mem m
  obtain ⟨j, hj⟩ := List.getElem?_of_mem m2
  have ei : (row.map (·.1))[i]? = some w := by rw [List.getElem?_map, hi]; rfl
  have ej : (row.map (·.1))[j]? = some w := by rw [List.getElem?_map, hj]; rfl
  have := (List.getElem?_inj (List.getElem?_eq_some_iff.mp ei).1 hd).mp (ei.trans ej.symm)
  subst this
  rw [hi] at hj
  injection hj with hj
  injection hj
theorem Go.det {rows : Rows W α} (hd : ∀ u, ((rowAt rows u).map (·.1)).Nodup) {ws : List W} {u : Nat} {B : List α} (g : Go rows ws u B) : ∀ {u' : Nat} {B' : List α}, Go rows ws u' B' → u = u' ∧ B = B' := by
  induction g with
  | nil =>
    intro u' B' g'
    obtain ⟨rfl, rfl⟩ := g'.inv_nil
    exact ⟨rfl, rfl⟩
  | snoc g m ih =>
    intro u' B' g'
    obtain ⟨u2, B2, R2, g2, m2, rfl⟩ := g'.inv_snoc
    obtain ⟨rfl, rfl⟩ := ih g2
    have := row_det (hd _) m m2
    injection this with e1 e2
    subst e1 e2
    exact ⟨rfl, rfl⟩
theorem Go.lt {rows : Rows W α} {n : Nat} (h0 : 0 < n) (hs : ∀ u, ∀ e ∈ rowAt rows u, e.2.1 < n) {ws : List W} {u : Nat} {B : List α} (g : Go rows ws u B) : u < n := by
  cases g with
  | nil => exact h0
  | snoc _ m => exact hs _ _ m
/-! ### the search by a queue -/
/-- one step of it: what was found, the place in it, the place in that stand's row -/
def bst (adj : Adj W) : List (Nat × List W) × Nat × Nat → List (Nat × List W) × Nat × Nat
  | (f, p, j) => match f[p]? with
    | none => (f, p, j)
    | some (u, r) => match (rowAt adj u)[j]? with
      | none => (f, p + 1, 0)
      | some (w, v) => if v ∈ f.map (·.1) then (f, p, j + 1) else (f ++ [(v, r ++ [w])], p, j + 1)
def bgo (adj : Adj W) : Nat → List (Nat × List W) × Nat × Nat
  | 0 => ([(0, [])], 0, 0)
  | n + 1 => bst adj (bgo adj n)
/-- the search comes to stand so -/
def Bt (adj : Adj W) (f : List (Nat × List W)) (p j : Nat) : Prop := ∃ n, bgo adj n = (f, p, j)
theorem bgo_stay {adj : Adj W} {n : Nat} {f : List (Nat × List W)} (h : bgo adj n = (f, f.length, 0)) : ∀ k, bgo adj (n + k) = (f, f.length, 0)
  | 0 => h
  | k + 1 => by
    show bst adj (bgo adj (n + k)) = _
    rw [bgo_stay h k]
    unfold bst
    simp only [List.getElem?_eq_none (Nat.le_refl f.length)]
theorem Bt.det {adj : Adj W} {f f' : List (Nat × List W)} (a : Bt adj f f.length 0) (b : Bt adj f' f'.length 0) : f = f' := by
  obtain ⟨n, hn⟩ := a
  obtain ⟨m, hm⟩ := b
  rcases Nat.le_total n m with q | q
  · have := bgo_stay hn (m - n)
    rw [Nat.add_sub_cancel' q, hm] at this
    injection this with e _
    exact e.symm
  · have := bgo_stay hm (n - m)
    rw [Nat.add_sub_cancel' q, hn] at this
    injection this with e _
structure Bfs (adj : Adj W) (found : List (Nat × List W)) (p j : Nat) : Prop where
  head : found[0]? = some (0, [])
  nd : (found.map (·.1)).Nodup
  pth : ∀ e ∈ found, Pth adj e.2 e.1
  mono : found.Pairwise fun a b => a.2.length ≤ b.2.length
  done : ∀ i u r, i < p → found[i]? = some (u, r) → ∀ e ∈ rowAt adj u, ∃ r', (e.2, r') ∈ found ∧ r'.length ≤ r.length + 1
  part : ∀ u r, found[p]? = some (u, r) → ∀ e ∈ (rowAt adj u).take j, ∃ r', (e.2, r') ∈ found ∧ r'.length ≤ r.length + 1
  top : ∀ u r, found[p]? = some (u, r) → ∀ e ∈ found, e.2.length ≤ r.length + 1
  det : Bt adj found p j
theorem Bfs.start (adj : Adj W) : Bfs adj [(0, [])] 0 0 where
  head := rfl
  nd := by simp
  pth := fun e m => by rw [List.mem_singleton.mp m]; exact .nil
  mono := List.pairwise_singleton _ _
  done := fun i _ _ h => absurd h (Nat.not_lt_zero _)
  part := fun _ _ _ e m => by simp at m
  top := fun u r _ e m => by rw [List.mem_singleton.mp m]; exact Nat.zero_le _
  det := ⟨0, rfl⟩
section
variable {adj : Adj W} {found : List (Nat × List W)} {p j : Nat} {u v : Nat} {r : List W} {w : W}
theorem take_succ_mem {β : Type} {l : List β} {j : Nat} {x y : β} (h : l[j]? = some x) (m : y ∈ l.take (j + 1)) : y ∈ l.take j ∨ y = x := by
  rw [List.take_succ, h] at m
  rcases List.mem_append.mp m with m | m
  · exact .inl m
  · exact .inr (by simpa using m)
theorem Bfs.skip (b : Bfs adj found p j) (hp : found[p]? = some (u, r)) (hj : (rowAt adj u)[j]? = some (w, v)) (hv : v ∈ found.map (·.1)) : Bfs adj found p (j + 1) where
  head := b.head
  nd := b.nd
  pth := b.pth
  mono := b.mono
  done := b.done
  part := fun u' r' h e m => by
    rw [hp] at h
    cases h
    rcases take_succ_mem hj m with m | rfl
    · exact b.part u r hp e m
    · obtain ⟨⟨v', r'⟩, m', e'⟩ := List.mem_map.mp hv
      have e' : v' = v := e'
      subst e'
      exact ⟨r', m', b.top u r hp _ m'⟩
  top := b.top
  det := by
    obtain ⟨n, h⟩ := b.det
    refine ⟨n + 1, ?_⟩
    show bst adj (bgo adj n) = _
    rw [h]
    unfold bst
    simp only [hp, hj]
    rw [if_pos hv]
theorem Bfs.add (b : Bfs adj found p j) (hp : found[p]? = some (u, r)) (hj : (rowAt adj u)[j]? = some (w, v)) (hv : v ∉ found.map (·.1)) : Bfs adj (found ++ [(v, r ++ [w])]) p (j + 1) := by
  have hpl : p < found.length := (List.getElem?_eq_some_iff.mp hp).1
  have old : ∀ i, i ≤ p → (found ++ [(v, r ++ [w])])[i]? = found[i]? := fun i hi => List.getElem?_append_left (Nat.lt_of_le_of_lt hi hpl)
  have h0 : 0 ≤ p := Nat.zero_le _
  refine ⟨(old 0 h0).trans b.head, ?_, fun e m => ?_, ?_, fun i u' r' hi h e m => ?_, fun u' r' h e m => ?_, fun u' r' h e m => ?_, ?_⟩
  · rw [List.map_append, List.nodup_append]
    refine ⟨b.nd, by simp, fun x mx y my => ?_⟩
    have : y = v := by simpa using my
    subst this
    exact fun e => hv (e ▸ mx)
  · rcases List.mem_append.mp m with m | m
    · exact b.pth e m
    · rw [List.mem_singleton.mp m]
      exact .snoc (b.pth (u, r) (List.mem_of_getElem? hp)) (List.mem_of_getElem? hj)
  · refine List.pairwise_append.mpr ⟨b.mono, List.pairwise_singleton _ _, fun x mx y my => ?_⟩
    rw [List.mem_singleton.mp my]
    show x.2.length ≤ (r ++ [w]).length
    rw [List.length_append]
    exact b.top u r hp x mx
  · rw [old i (Nat.le_of_lt hi)] at h
    obtain ⟨r2, m2, h2⟩ := b.done i u' r' hi h e m
    exact ⟨r2, List.mem_append.mpr (.inl m2), h2⟩
  · rw [old p (Nat.le_refl _), hp] at h
    cases h
    rcases take_succ_mem hj m with m | rfl
    · obtain ⟨r2, m2, h2⟩ := b.part u r hp e m
      exact ⟨r2, List.mem_append.mpr (.inl m2), h2⟩
    · exact ⟨r ++ [w], List.mem_append.mpr (.inr (List.mem_singleton.mpr rfl)), by rw [List.length_append]; exact Nat.le_refl _⟩
  · rw [old p (Nat.le_refl _), hp] at h
    cases h
    rcases List.mem_append.mp m with m | m
    · exact b.top u r hp e m
    · rw [List.mem_singleton.mp m]
      show (r ++ [w]).length ≤ _
      rw [List.length_append]
      exact Nat.le_refl _
  · obtain ⟨n, h⟩ := b.det
    refine ⟨n + 1, ?_⟩
    show bst adj (bgo adj n) = _
    rw [h]
    unfold bst
    simp only [hp, hj]
    rw [if_neg hv]
theorem Bfs.next (b : Bfs adj found p j) (hp : found[p]? = some (u, r)) (hj : (rowAt adj u).length ≤ j) : Bfs adj found (p + 1) 0 := by
  refine ⟨b.head, b.nd, b.pth, b.mono, fun i u' r' hi h e m => ?_, fun _ _ _ e m => by simp at m, fun u' r' h e m => ?_, ?_⟩
  · rcases Nat.lt_or_ge i p with q | q
    · exact b.done i u' r' q h e m
    · have : i = p := by omega
      subst this
      exact b.part u' r' h e (by
        rw [hp] at h
        cases h
        rw [List.take_of_length_le hj]
        exact m)
  · have h1 := b.top u r hp e m
    obtain ⟨i1, e1⟩ := List.getElem?_eq_some_iff.mp hp
    obtain ⟨i2, e2⟩ := List.getElem?_eq_some_iff.mp h
    have := List.pairwise_iff_getElem.mp b.mono p (p + 1) i1 i2 (Nat.lt_succ_self p)
    rw [e1, e2] at this
    have this : r.length ≤ r'.length := this
    omega
  · obtain ⟨n, h⟩ := b.det
    refine ⟨n + 1, ?_⟩
    show bst adj (bgo adj n) = _
    rw [h]
    unfold bst
    simp only [hp, List.getElem?_eq_none hj]
theorem Bfs.all (b : Bfs adj found p j) (hp : found.length ≤ p) {ws : List W} (h : Pth adj ws v) : ∃ r', (v, r') ∈ found ∧ r'.length ≤ ws.length := by
  induction h with
  | nil => exact ⟨[], List.mem_of_getElem? b.head, Nat.le_refl _⟩
  | snoc _ m ih =>
    obtain ⟨r, mr, hr⟩ := ih
    obtain ⟨i, hi⟩ := List.getElem?_of_mem mr
    have il : i < p := Nat.lt_of_lt_of_le (List.getElem?_eq_some_iff.mp hi).1 hp
    obtain ⟨r', m', h'⟩ := b.done i _ r il hi _ m
    exact ⟨r', m', by rw [List.length_append]; exact Nat.le_trans h' (Nat.succ_le_succ hr)⟩
/-- the runs to bad stands, as they were met -/
def badRuns (bad : List Nat) (found : List (Nat × List W)) : List (List W) := (found.filter fun e => decide (e.1 ∈ bad)).map (·.2)
theorem Bfs.badRuns_nil (b : Bfs adj found p j) (hp : found.length ≤ p) {bad : List Nat} (h : badRuns bad found = []) {ws : List W} (g : Pth adj ws v) : v ∉ bad := fun hv => by
  obtain ⟨r, m, _⟩ := b.all hp g
  have : r ∈ badRuns bad found := List.mem_map.mpr ⟨(v, r), List.mem_filter.mpr ⟨m, decide_eq_true hv⟩, rfl⟩
  rw [h] at this
  cases this
theorem Bfs.badRuns_cons (b : Bfs adj found p j) (hp : found.length ≤ p) {bad : List Nat} {rs : List (List W)} (h : badRuns bad found = r :: rs) :
    (∃ v, v ∈ bad ∧ Pth adj r v) ∧ ∀ ws v, Pth adj ws v → v ∈ bad → r.length ≤ ws.length := by
  unfold badRuns at h
  cases hf : found.filter (fun e => decide (e.1 ∈ bad)) with
  | nil => rw [hf] at h; cases h
  | cons e es =>
    rw [hf] at h
    injection h with h1 _
    have me : e ∈ found.filter (fun e => decide (e.1 ∈ bad)) := by rw [hf]; exact List.mem_cons_self
    obtain ⟨m1, m2⟩ := List.mem_filter.mp me
    refine ⟨⟨e.1, of_decide_eq_true m2, h1 ▸ b.pth e m1⟩, fun ws v g hv => ?_⟩
    obtain ⟨r', m', h'⟩ := b.all hp g
    have mf : (v, r') ∈ e :: es := by rw [← hf]; exact List.mem_filter.mpr ⟨m', decide_eq_true hv⟩
    have pw : (e :: es).Pairwise (fun a b => a.2.length ≤ b.2.length) := by rw [← hf]; exact b.mono.sublist List.filter_sublist
    rw [← h1]
    rcases List.mem_cons.mp mf with q | q
    · rw [← q]; exact h'
    · exact Nat.le_trans ((List.pairwise_cons.mp pw).1 _ q) h'
end
/-! ### the search by levels -/
structure Lev (adj : Adj W) (found : List (Nat × Nat)) (m : Nat) (now : List Nat) : Prop where
  root : (0, 0) ∈ found
  nd : (found.map (·.1)).Nodup
  pth : ∀ e ∈ found, ∃ ws, Pth adj ws e.1 ∧ ws.length = e.2
  le : ∀ e ∈ found, e.2 ≤ m
  now_ : ∀ v, v ∈ now ↔ (v, m) ∈ found
  done : ∀ e ∈ found, e.2 < m → ∀ x ∈ rowAt adj e.1, ∃ k, (x.2, k) ∈ found ∧ k ≤ e.2 + 1
/-- within a turn: of now the first i are through, of the next one the first j steps -/
structure LevIn (adj : Adj W) (found : List (Nat × Nat)) (m : Nat) (now later : List Nat) (i j : Nat) : Prop where
  root : (0, 0) ∈ found
  nd : (found.map (·.1)).Nodup
  pth : ∀ e ∈ found, ∃ ws, Pth adj ws e.1 ∧ ws.length = e.2
  le : ∀ e ∈ found, e.2 ≤ m + 1
  now_ : ∀ v, v ∈ now ↔ (v, m) ∈ found
  later_ : ∀ v, v ∈ later ↔ (v, m + 1) ∈ found
  done : ∀ e ∈ found, e.2 < m → ∀ x ∈ rowAt adj e.1, ∃ k, (x.2, k) ∈ found ∧ k ≤ e.2 + 1
  past : ∀ i' u, i' < i → now[i']? = some u → ∀ x ∈ rowAt adj u, ∃ k, (x.2, k) ∈ found
  part : ∀ u, now[i]? = some u → ∀ x ∈ (rowAt adj u).take j, ∃ k, (x.2, k) ∈ found
section
variable {adj : Adj W} {found : List (Nat × Nat)} {m i j : Nat} {now later : List Nat} {u v : Nat} {w : W}
theorem Lev.start (adj : Adj W) : Lev adj [(0, 0)] 0 [0] where
  root := List.mem_singleton.mpr rfl
  nd := by simp
  pth := fun e m => by rw [List.mem_singleton.mp m]; exact ⟨[], .nil, rfl⟩
  le := fun e m => by rw [List.mem_singleton.mp m]; exact Nat.le_refl _
  now_ := fun v => by simp
  done := fun e _ h => absurd h (Nat.not_lt_zero _)
theorem Lev.enter (b : Lev adj found m now) : LevIn adj found m now [] 0 0 where
  root := b.root
  nd := b.nd
  pth := b.pth
  le := fun e h => Nat.le_succ_of_le (b.le e h)
  now_ := b.now_
  later_ := fun v => ⟨fun h => (nomatch h), fun h => absurd (b.le (v, m + 1) h) (Nat.not_succ_le_self m)⟩
  done := b.done
  past := fun i' _ h => absurd h (Nat.not_lt_zero _)
  part := fun _ _ x h => by simp at h
theorem LevIn.skip (b : LevIn adj found m now later i j) (hi : now[i]? = some u) (hj : (rowAt adj u)[j]? = some (w, v)) (hv : v ∈ found.map (·.1)) : LevIn adj found m now later i (j + 1) :=
  ⟨b.root, b.nd, b.pth, b.le, b.now_, b.later_, b.done, b.past, fun u' h x mx => by
    rw [hi] at h
    cases h
    rcases take_succ_mem hj mx with mx | rfl
    · exact b.part u hi x mx
    · obtain ⟨⟨v', k⟩, m', e'⟩ := List.mem_map.mp hv
      have e' : v' = v := e'
      subst e'
      exact ⟨k, m'⟩⟩
theorem LevIn.add (b : LevIn adj found m now later i j) (hi : now[i]? = some u) (hj : (rowAt adj u)[j]? = some (w, v)) (hv : v ∉ found.map (·.1)) : LevIn adj (found ++ [(v, m + 1)]) m now (later ++ [v]) i (j + 1) := by
  have up : ∀ {x : Nat}, (∃ k, (x, k) ∈ found) → ∃ k, (x, k) ∈ found ++ [(v, m + 1)] := fun ⟨k, h⟩ => ⟨k, List.mem_append.mpr (.inl h)⟩
  have hu : (u, m) ∈ found := (b.now_ u).mp (List.mem_of_getElem? hi)
  refine ⟨List.mem_append.mpr (.inl b.root), ?_, fun e h => ?_, fun e h => ?_, fun x => ?_, fun x => ?_, fun e h hl x mx => ?_, fun i' u' h1 h2 x mx => up (b.past i' u' h1 h2 x mx), fun u' h x mx => ?_⟩
  · rw [List.map_append, List.nodup_append]
    refine ⟨b.nd, by simp, fun x mx y my => ?_⟩
    have : y = v := by simpa using my
    subst this
    exact fun e => hv (e ▸ mx)
  · rcases List.mem_append.mp h with h | h
    · exact b.pth e h
    · rw [List.mem_singleton.mp h]
      obtain ⟨ws, g, hl⟩ := b.pth _ hu
      exact ⟨ws ++ [w], .snoc g (List.mem_of_getElem? hj), by rw [List.length_append, hl]; rfl⟩
  · rcases List.mem_append.mp h with h | h
    · exact b.le e h
    · rw [List.mem_singleton.mp h]; exact Nat.le_refl _
  · rw [b.now_ x, List.mem_append]
    refine ⟨.inl, fun h => h.elim id fun h => ?_⟩
    have := (Prod.mk.injEq _ _ _ _).mp (List.mem_singleton.mp h)
    omega
  · rw [List.mem_append, b.later_ x, List.mem_append]
    refine ⟨fun h => h.elim .inl fun h => .inr (by rw [List.mem_singleton.mp h]; exact List.mem_singleton.mpr rfl), fun h => h.elim .inl fun h => .inr ?_⟩
    have := (Prod.mk.injEq _ _ _ _).mp (List.mem_singleton.mp h)
    rw [this.1]
    exact List.mem_singleton.mpr rfl
  · rcases List.mem_append.mp h with h | h
    · obtain ⟨k, hk, hle⟩ := b.done e h hl x mx
      exact ⟨k, List.mem_append.mpr (.inl hk), hle⟩
    · rw [List.mem_singleton.mp h] at hl
      have hl : m + 1 < m := hl
      omega
  · rw [hi] at h
    cases h
    rcases take_succ_mem hj mx with mx | rfl
    · exact up (b.part u hi x mx)
    · exact ⟨m + 1, List.mem_append.mpr (.inr (List.mem_singleton.mpr rfl))⟩
theorem LevIn.next (b : LevIn adj found m now later i j) (hi : now[i]? = some u) (hj : (rowAt adj u).length ≤ j) : LevIn adj found m now later (i + 1) 0 :=
  ⟨b.root, b.nd, b.pth, b.le, b.now_, b.later_, b.done, fun i' u' h1 h2 x mx => by
    rcases Nat.lt_or_ge i' i with q | q
    · exact b.past i' u' q h2 x mx
    · have : i' = i := by omega
      subst this
      refine b.part u' h2 x ?_
      rw [hi] at h2
      cases h2
      rw [List.take_of_length_le hj]
      exact mx, fun _ _ x h => by simp at h⟩
theorem LevIn.leave (b : LevIn adj found m now later i j) (hi : now.length ≤ i) : Lev adj found (m + 1) later :=
  ⟨b.root, b.nd, b.pth, b.le, b.later_, fun e h hl x mx => by
    rcases Nat.lt_or_ge e.2 m with q | q
    · exact b.done e h q x mx
    · have em : e.2 = m := by omega
      obtain ⟨e1, e2⟩ := e
      have em : e2 = m := em
      subst em
      obtain ⟨i', hi'⟩ := List.getElem?_of_mem ((b.now_ e1).mpr h)
      obtain ⟨k, hk⟩ := b.past i' e1 (Nat.lt_of_lt_of_le (List.getElem?_eq_some_iff.mp hi').1 hi) hi' x mx
      exact ⟨k, hk, b.le _ hk⟩⟩
theorem Lev.all (b : Lev adj found m []) {ws : List W} (h : Pth adj ws v) : ∃ k, (v, k) ∈ found ∧ k ≤ ws.length := by
  induction h with
  | nil => exact ⟨0, b.root, Nat.le_refl _⟩
  | @snoc ws u w v _ mx ih =>
    obtain ⟨k, hk, hl⟩ := ih
    have h1 := b.le _ hk
    have h2 : k ≠ m := fun e => by
      subst e
      exact nomatch (b.now_ u).mpr hk
    have h1 : k ≤ m := h1
    obtain ⟨k', hk', hl'⟩ := b.done (u, k) hk (by show k < m; omega) _ mx
    have hl' : k' ≤ k + 1 := hl'
    exact ⟨k', hk', by rw [List.length_append]; show k' ≤ ws.length + 1; omega⟩
end
end
end K8
-- K8Table
set_option maxRecDepth 100000
set_option maxHeartbeats 4000000
namespace K8
open PySem PySem.Spec PyProof.Rows L2
theorem Gr.giveMany {M : Addr → Prop} {H0 G0 G H : Hp} (g : Gr M H0 G0 G H) : ∀ (as : List Addr), as.Nodup → (∀ a ∈ as, G a = none ∧ H0 a = none ∧ ¬ M a ∧ ∃ o, H a = some o) → ∃ G', Gr M H0 G0 G' H ∧ Same G G' ∧ ∀ a ∈ as, G' a = H a
  | [], _, _ => ⟨G, g, Same.refl _, fun _ m => (nomatch m)⟩
  | a :: r, hn, h => by
    obtain ⟨n1, n2⟩ := List.nodup_cons.mp hn
    obtain ⟨h1, h2, h3, o, h4⟩ := h a List.mem_cons_self
    have g' := g.give h2 h3 h1 h4
    obtain ⟨G', k1, k2, k3⟩ := Gr.giveMany g' r n2 fun b m => by
      obtain ⟨x1, x2, x3, x4⟩ := h b (List.mem_cons_of_mem _ m)
      exact ⟨by rw [upd_ne (fun e => n1 (by rw [← e]; exact m))]; exact x1, x2, x3, x4⟩
    refine ⟨G', k1, (Same.upd_none h1).trans k2, fun b m => ?_⟩
    rcases List.mem_cons.mp m with rfl | m
    · rw [k2 _ _ upd_same, h4]
    · exact k3 b m
mutual
theorem key_depth : ∀ d : D, (keyD d).depth ≤ dep d
  | .lf v => by
    rw [keyD]
    cases v <;> exact Nat.le_refl _
  | .sq l => by
    rw [keyD, NestedKey.depth, dep]
    exact Nat.succ_le_succ (key_depths l)
theorem key_depths : ∀ l : List D, NestedKey.depthAll (keyDs l) ≤ depL l
  | [] => by rw [keyDs, NestedKey.depthAll, depL]; exact Nat.le_refl _
  | d :: r => by
    rw [keyDs, NestedKey.depthAll, depL]
    have h1 := key_depth d
    have h2 := key_depths r
    omega
end
theorem StpOk.d8 {n : Nat} {G : Hp} {s : Stp} (h : StpOk n G s) : (keyD s.wd).depth ≤ 8 := by
  have := key_depth s.wd
  have := h.dp
  omega
theorem Gr.same' {M : Addr → Prop} {H0 G0 G H : Hp} (g : Gr M H0 G0 G H) : Same G0 H := g.up.trans g.sub
theorem nodup_idx {α : Type} {l : List α} (h : l.Nodup) {i j : Nat} {a : α} (hi : l[i]? = some a) (hj : l[j]? = some a) : i = j := by
  obtain ⟨i1, i2⟩ := List.getElem?_eq_some_iff.mp hi
  obtain ⟨j1, j2⟩ := List.getElem?_eq_some_iff.mp hj
  have p := List.pairwise_iff_getElem.mp h
  rcases Nat.lt_trichotomy i j with z | z | z
  · exact absurd (i2.trans j2.symm) (p i j i1 j1 z)
  · exact z
  · exact absurd (j2.trans i2.symm) (p j i j1 i1 z)
/-! ### tables -/
abbrev Trow := List (Stp × List Str)
def RowK (K : PySem.W.Frag) (G : Hp) (kvs : List WE) (row : Trow) : Prop := Paired (fun (x : WE) p => x.1 = keyD p.1.wd ∧ KS K G x.2.2 p.1 p.2) kvs row
theorem RowK.same {K : PySem.W.Frag} {G H : Hp} (s : Same G H) : ∀ {kvs : List WE} {row : Trow}, RowK K G kvs row → RowK K H kvs row
  | _, _, .nil => .nil
  | _, _, .cons h t => .cons ⟨h.1, h.2.same s⟩ (RowK.same s t)
theorem RowK.snoc {K : PySem.W.Frag} {G : Hp} {x : WE} {p : Stp × List Str} (h : x.1 = keyD p.1.wd ∧ KS K G x.2.2 p.1 p.2) : ∀ {kvs : List WE} {row : Trow}, RowK K G kvs row → RowK K G (kvs ++ [x]) (row ++ [p])
  | _, _, .nil => .cons h .nil
  | _, _, .cons a t => .cons a (RowK.snoc h t)
theorem RowK.mem {K : PySem.W.Frag} {G : Hp} : ∀ {kvs : List WE} {row : Trow} {x : WE}, RowK K G kvs row → x ∈ kvs → ∃ p ∈ row, x.1 = keyD p.1.wd
  | _, _, _, .nil, m => (nomatch m)
  | _, _, _, .cons h t, m => by
    rcases List.mem_cons.mp m with rfl | m
    · exact ⟨_, List.mem_cons_self, h.1⟩
    · obtain ⟨p, hp, e⟩ := RowK.mem t m
      exact ⟨p, List.mem_cons_of_mem _ hp, e⟩
def RowIs (K : PySem.W.Frag) (w : World) (G : Hp) (a : Addr) (row : Trow) : Prop := ∃ kvs ep, WD K w G a kvs ep ∧ RowK K G kvs row
theorem RowIs.same {K : PySem.W.Frag} {w : World} {G H : Hp} {a : Addr} {row : Trow} (s : Same G H) (h : RowIs K w G a row) : RowIs K w H a row := let ⟨k, e, d, r⟩ := h; ⟨k, e, d.same s, r.same s⟩
def TabIs (K : PySem.W.Frag) (w : World) (G : Hp) (l : Addr) (T : List Trow) : Prop := ∃ as : List Addr, SqL K G l (as.map V.ref) ∧ Paired (RowIs K w G) as T
theorem pair_imp {α β : Type} {P Q : α → β → Prop} (h : ∀ a b, P a b → Q a b) : ∀ {xs : List α} {ys : List β}, Paired P xs ys → Paired Q xs ys
  | _, _, .nil => .nil
  | _, _, .cons a t => .cons (h _ _ a) (pair_imp h t)
theorem TabIs.same {K : PySem.W.Frag} {w : World} {G H : Hp} {l : Addr} {T : List Trow} (s : Same G H) (h : TabIs K w G l T) : TabIs K w H l T := let ⟨as, a, b⟩ := h; ⟨as, s.seq a, pair_imp (fun _ _ => RowIs.same s) b⟩
theorem pair_of {α β : Type} {P : α → β → Prop} : ∀ {xs : List α} {ys : List β}, xs.length = ys.length → (∀ (i : Nat) (a : α) (b : β), xs[i]? = some a → ys[i]? = some b → P a b) → Paired P xs ys
  | [], [], _, _ => .nil
  | [], _ :: _, h, _ => by simp at h
  | _ :: _, [], h, _ => by simp at h
  | x :: xs, y :: ys, h, f => .cons (f 0 x y rfl rfl) (pair_of (by simpa using h) fun i a b h1 h2 => f (i + 1) a b (by simpa using h1) (by simpa using h2))
/-- the table of some steps -/
def stepsAt (ss : List Stp) (j : Nat) : List Stp := ss.filter fun s => s.one == j
def TabOf (n : Nat) (ss : List Stp) (T : List Trow) : Prop := T.length = n ∧ ∀ j, j < n → (rowAt T j).map (·.1) = stepsAt ss j
def Apart (ss : List Stp) : Prop := ss.Pairwise fun a b => ¬ (a.one = b.one ∧ keyD a.wd = keyD b.wd)
def spSteps (K : PySem.W.Frag) (w : World) : Sp := fun vs H Q _ => ∃ (G : Hp) (v : V) (n : Nat) (ss : List Stp), vs = [v, .int (n : Nat)] ∧ Same G H ∧ Dq K G v (.sq (ss.map stepD)) ∧ n ≤ 1000 ∧ ss.length ≤ 1000 ∧ (∀ s ∈ ss, StpOk n G s) ∧ Apart ss ∧
  ∀ l H' G' T, Gr NoM H G G' H' → TabIs K w G' l T → TabOf n ss T → Q (.ref l) H'
theorem sc_checked_steps : FnScope ["steps", "many", "found", "index", "thing", "step", "_"] ["steps", "many"] (defScope s_checked_steps) := ⟨rfl, rfl, rfl, by decide +kernel, rfl, by decide +kernel, by decide +kernel⟩
section
variable {P : Program} {w : World} {K : PySem.W.Frag} {mg : Str → Option Value} {base : Heap}
structure RowsAt (K : PySem.W.Frag) (w : World) (H G H' : Hp) (as : List Addr) (ss : List Stp) (i : Nat) (Kv : Nat → List WE) (Ep : Nat → Nat) (Tb : Nat → Trow) : Prop where
  own : ∀ j a, as[j]? = some a → G a = none ∧ H a = none ∧ H' a = some (wdO w a (Kv j) (Ep j)) ∧ (a == sysModules) = false
  kv : ∀ j, WdK K G (Kv j) i ∧ RowK K G (Kv j) (Tb j) ∧ (Tb j).map (·.1) = stepsAt (ss.take i) j
theorem apart_at {ss : List Stp} (h : Apart ss) {i : Nat} {s : Stp} (hs : ss[i]? = some s) {p : Stp} (hp : p ∈ stepsAt (ss.take i) s.one) : keyD p.wd ≠ keyD s.wd := fun e => by
  obtain ⟨h1, h2⟩ := List.mem_filter.mp hp
  obtain ⟨j, hj, ej⟩ := List.getElem_of_mem h1
  rw [List.length_take] at hj
  obtain ⟨hi, es⟩ := List.getElem?_eq_some_iff.mp hs
  have := List.pairwise_iff_getElem.mp h j i (by omega) hi (by omega)
  rw [List.getElem_take] at ej
  rw [ej, es] at this
  exact this ⟨by simpa using h2, e⟩
theorem ok_checked_steps (T : Txt K mg) : Cl P w K mg base CX0 8 "checked_steps" (spSteps K w) := by
  refine cl0 (T.F_checked_steps) T.g_checked_steps sc_checked_steps (fun vs H Q E h => ?_) (fun _ _ _ _ _ _ us hl => match us, hl with | [_, _], _ => rfl) (fun cdv A outer s H vs Q E hr h => ?_)
  · obtain ⟨G, v, n, ss, rfl, _⟩ := h
    rfl
  · obtain ⟨G, v, n, ss, rfl, s0, hd, hn, hl, ok, apart, k⟩ := h
    refine ⟨_, (pss_cons (ps_if (pt_not (pt_val (pe_cl (ok_is_list T) hr (by decide) pass0 (pa_cons (pv 0) pa_nil))))
        (pss_one ps_never)
        pss_nil)
      (pss_cons (ps_setLc (i := 2) (own := [("_", 6)]) rfl sc_checked_steps.nd rfl rfl (sw_true rfl rfl rfl (by kernel_rfl)) (pi_range1 (by rfl) T.f_range (pa_cons (pv 1) pa_nil)) (blkOk_by (by kernel_rfl)) (fun _ _ _ _ _ => (pg_name (i := 6) sc_checked_steps.nd rfl (by first | exact Or.inl rfl | exact Or.inr rfl))) (fun _ _ _ _ _ => pts_nil) (fun _ _ _ _ _ => (wNew (ww := w))))
      (pss_cons (ps_for PassesOwn.never rfl (enQ (KK := K) (by rfl) T.f_enumerate (pa_cons (pv 0) pa_nil)) (tupG (KK := K) (by rfl) (pgs_cons (pg_name (i := 3) sc_checked_steps.nd rfl (by first | exact Or.inl rfl | exact Or.inr rfl)) (pgs_cons (pg_name (i := 4) sc_checked_steps.nd rfl (by first | exact Or.inl rfl | exact Or.inr rfl)) pgs_nil)))
        (pss_cons (ps_set (i := 5) sc_checked_steps.nd rfl (by first | exact Or.inl rfl | exact Or.inr rfl) (pe_cl (ok_kept_step T) hr (by decide) pass0 (pa_cons (pv 4) (pa_cons (pv 1) pa_nil))))
        (pss_cons (ps_if (PW.pt (pw_or (pt_cmpR op_isN (pv 5) pe_non (nomark _)) (pw_or1 (pt_cmpR (wIn (KK := K) (ww := w) (u9 hr)) (pe_ix (ixQ (KK := K)) (pv 5) pe_int (fun _ _ => rfl)) (pe_ix (ixQ (KK := K)) (pv 2) (pe_ix (ixQ (KK := K)) (pv 5) pe_int (fun _ _ => rfl)) (fun _ _ => rfl)) (by rfl)))))
          (pss_one ps_never)
          pss_nil)
        (pss_one (wPut (KK := K) (ww := w) (u9 hr) (pe_ix (ixQ (KK := K)) (pv 2) (pe_ix (ixQ (KK := K)) (pv 5) pe_int (fun _ _ => rfl)) (fun _ _ => rfl)) (pe_ix (ixQ (KK := K)) (pv 5) pe_int (fun _ _ => rfl)) (pv 5) rfl)))))
      (pss_one (ps_ret (pv 2)))))), ?_⟩
    obtain ⟨a0, xs, rfl, src, ha⟩ := hd.seq
    refine ⟨_, rfl, _, _, rfl, Dq.mono s0 _ _ hd, fun H1 s1 => ⟨_, rfl, ?_⟩⟩
    refine ite_n (by rfl) ?_
    dsimp only [tNext, tRet, tOp, tSeq, gName, tAsg]
    have g1 : Gr NoM H G G H1 := Gr.of s0 s1
    refine ⟨_, rfl, (n : Int), rfl, by omega, by omega, fun D hD => ?_⟩
    refine lc_gr (M := NoM) (G1 := G) (n := n) (lo := 0) (fun i acc G2 => ∃ as : List Addr, acc = as.map V.ref ∧ as.length = i ∧ as.Nodup ∧ ∀ a ∈ as, G2 a = some (wdO w a [] 0) ∧ G a = none ∧ H a = none ∧ (a == sysModules) = false) hD (fun z => z) g1.sub (Nat.le_trans hn (by decide)) ⟨[], rfl, rfl, List.nodup_nil, fun _ m => (nomatch m)⟩ ?_ ?_
    · rintro i acc G2 H2 hi gr hacc ⟨as, rfl, hlen, hnd, hall⟩
      intro Ky Kn ky kn
      refine ⟨rfl, y_te ?_⟩
      intro p hp hsm
      have gp := (gr.newN (o := wdO w p [] 0) hp)
      refine ky _ _ (upd G2 p (wdO w p [] 0)) ((Gr.start gr.sub).newN hp) ⟨as ++ [p], by rw [List.map_append]; rfl, by rw [List.length_append, hlen]; rfl, ?_, fun a m => ?_⟩
      · rw [List.nodup_append]
        refine ⟨hnd, by simp, fun a ha b hb e => ?_⟩
        have hb : b = p := by simpa using hb
        have h1 := gr.sub _ _ (hall a ha).1
        rw [e, hb, hp] at h1
        cases h1
      · rcases List.mem_append.mp m with m | m
        · obtain ⟨h1, h2⟩ := hall a m
          refine ⟨?_, h2⟩
          rw [upd_ne (fun e => by have z := gr.sub _ _ h1; rw [e, hp] at z; cases z)]
          exact h1
        · obtain rfl := List.mem_singleton.mp m
          have hH2 : Same H H2 := g1.same.trans gr.same
          exact ⟨upd_same, (gr.up.trans gr.sub).free hp, hH2.free hp, hsm⟩
    · rintro acc G2 H2 gr hg hacc ⟨as, rfl, hlen, hnd, hall⟩
      have hHD2 := gr.sub D _ upd_same
      have hGD : G D = none := g1.sub.free hD
      have hHD : H D = none := g1.same.free hD
      have hAD : ∀ a ∈ as, a ≠ D := fun a m e => by
        have := (hall a m).1
        rw [e, hg] at this
        cases this
      have gL : Gr NoM H G (upd G D (.lst (as.map V.ref))) H2 := by
        have a1 : Gr NoM H G G H2 := ⟨Same.refl _, g1.sub.trans gr.same, fun b o e _ => gr.same b o (g1.same b o e), fun _ _ e => e⟩
        exact a1.give hHD (fun z => z) hGD hHD2
      have hlenS : ss.length = xs.length := by have := ha.length; rw [List.length_map] at this; exact this.symm
      refine for_enG (K := K) (a := a0) (xs := xs) (fun i σ H' => ∃ o3 o4 o5 o6 G3 Kv Ep Tb, σ = [some (.ref a0), some (.int (n : Nat)), some (.ref D), o3, o4, o5, o6] ∧ Gr NoM H G G3 H' ∧ Same (upd G D (.lst (as.map V.ref))) G3 ∧ RowsAt K w H G3 H' as ss i Kv Ep Tb) G (fun R' r => ⟨_, rfl, r⟩) gL.same' src ?_ (fun i σ H' ⟨_, _, _, _, _, _, _, _, _, gr, _⟩ => gr.up.trans gr.sub) ?_ ?_
      · refine ⟨none, none, none, none, upd G D (.lst (as.map V.ref)), fun _ => [], fun _ => 0, fun _ => [], rfl, gL, Same.refl _, fun j a hj => ?_, fun j => ⟨⟨fun _ m => (nomatch m), List.nodup_nil, Nat.zero_le _⟩, .nil, rfl⟩⟩
        have m := List.mem_of_getElem? hj
        obtain ⟨h1, h2, h3, h4⟩ := hall a m
        exact ⟨by rw [upd_ne (hAD a m)]; exact h2, h3, gr.sub _ _ (by rw [upd_ne (hAD a m)]; exact h1), h4⟩
      · rintro i v T σ H' hx ⟨o3, o4, o5, o6, G3, Kv, Ep, Tb, rfl, g3, sG, R⟩ hT
        obtain ⟨d, hd', hq⟩ := ha.get hx
        rw [List.getElem?_map, Option.map_eq_some_iff] at hd'
        obtain ⟨st, hst, rfl⟩ := hd'
        have hok := ok st (List.mem_of_getElem? hst)
        have sGG : Same G G3 := g3.up
        refine ⟨T, _, rfl, SqT.of upd_same, rfl, ⟨_, _, rfl, ⟨_, _, rfl, ⟨rfl, ?_⟩⟩⟩⟩
        dsimp only [tNext, tRet, tOp, tSeq, gName, tAsg]
        have gT := g3.mine (o := .tup [.int (i : Nat), v]) hT
        refine ⟨_, rfl, _, rfl, G3, v, n, st, rfl, gT.sub, Dq.mono sGG _ _ hq, hok.same sGG, fun v' H4 G4 rs g4 ks => ?_⟩
        obtain ⟨t, w', rt, sd', rfl, htup, hdp, hrt, hsd⟩ := ks.ex
        have gN := gT.trans g4
        have hone : st.one < as.length := by rw [hlen]; exact hok.one
        obtain ⟨a, haj⟩ : ∃ a, as[st.one]? = some a := ⟨_, List.getElem?_eq_getElem hone⟩
        obtain ⟨o1, o2, o3', o4'⟩ := R.own _ _ haj
        obtain ⟨wk, rk, tk⟩ := R.kv st.one
        have haT : a ≠ T := fun e => by rw [e, hT] at o3'; cases o3'
        have h4a : H4 a = some (wdO w a (Kv st.one) (Ep st.one)) := g4.keep (by rw [upd_ne haT]; exact o3')
        have G4a : G4 a = none := g4.out (by rw [upd_ne haT]; exact o3') o1
        have iL : i ≤ 1000 := by have := (List.getElem?_eq_some_iff.mp hst).1; omega
        have wd : WD K w H4 a (Kv st.one) (Ep st.one) := ⟨.inl h4a, fun x m => ⟨dp_mono (g4.up.trans g4.sub) (wk.1 x m).1, (wk.1 x m).2⟩, wk.2.1, o4', by have := wk.2.2; omega⟩
        have hno : wV (Kv st.one) (keyD st.wd) = none := wV_none_of fun x m e => by
          obtain ⟨p, hp, e2⟩ := RowK.mem rk m
          have hp2 : p.1 ∈ stepsAt (ss.take i) st.one := by rw [← tk]; exact List.mem_map.mpr ⟨p, hp, rfl⟩
          exact apart_at apart hst hp2 (e2.symm.trans e)
        have hDl : SqL K H4 D (as.map V.ref) := SqL.of (gN.sub _ _ (g4.up _ _ (sG _ _ upd_same)))
        have hrf : (as.map V.ref)[st.one]? = some (.ref a) := by rw [List.getElem?_map, haj]; rfl
        have ht4 := g4.sub.tp htup
        have hdp4 := dp_mono g4.sub hdp
        refine ⟨_, rfl, rfl, _, rfl, ?_⟩
        refine ite_n (decide_eq_false (fun z => nomatch z)) ?_
        refine ⟨_, rfl, t, _, _, w', rfl, rfl, .inr ht4, atI_nat (j := 0) rfl, _, rfl, _, rfl, t, _, _, .int (st.one : Nat), rfl, rfl, .inr ht4, atI_nat (j := 1) rfl, D, _, _, .ref a, rfl, rfl, .inl hDl, atI_nat hrf, ?_⟩
        refine ⟨a, _, _, keyD st.wd, rfl, wd, hdp4, hok.d8, _, rfl, ?_⟩
        refine ite_n (by rw [hno]; rfl) ?_
        refine ⟨_, rfl, _, rfl, _, rfl, t, _, _, .int (st.one : Nat), rfl, rfl, .inr ht4, atI_nat (j := 1) rfl, D, _, _, .ref a, rfl, rfl, .inl hDl, atI_nat hrf, ?_⟩
        refine ⟨_, rfl, t, _, _, w', rfl, rfl, .inr ht4, atI_nat (j := 0) rfl, a, _, _, keyD st.wd, rfl, h4a, wd, hdp4, hok.d8, hno, fun ep' => ?_⟩
        refine ⟨_, _, _, _, G4, fun j => if j = st.one then Kv j ++ [(keyD st.wd, w', .ref t)] else Kv j, fun j => if j = st.one then ep' else Ep j, fun j => if j = st.one then Tb j ++ [(st, rs)] else Tb j, rfl, gN.chg (.inl o2) G4a, sG.trans g4.up, fun j b hb => ?_, fun j => ?_⟩
        · by_cases e : j = st.one
          · subst e
            rw [haj] at hb
            cases hb
            refine ⟨G4a, o2, ?_, o4'⟩
            rw [upd_same, if_pos rfl, if_pos rfl]
          · obtain ⟨p1, p2, p3, p4⟩ := R.own j b hb
            have hba : b ≠ a := fun z => by
              subst z
              exact e (nodup_idx hnd hb haj)
            have hbT : b ≠ T := fun e => by rw [e, hT] at p3; cases p3
            refine ⟨g4.out (by rw [upd_ne hbT]; exact p3) p1, p2, ?_, p4⟩
            rw [upd_ne hba, if_neg e, if_neg e]
            exact g4.keep (by rw [upd_ne hbT]; exact p3)
        · obtain ⟨q1, q2, q3⟩ := R.kv j
          have tk1 : ss.take (i + 1) = ss.take i ++ [st] := by rw [List.take_succ, hst]; rfl
          by_cases e : j = st.one
          · rw [if_pos e, if_pos e, tk1]
            subst e
            refine ⟨wk.snoc g4.up hdp hok.d8 hno, (RowK.same g4.up q2).snoc ⟨rfl, ks⟩, ?_⟩
            unfold stepsAt at q3 ⊢
            rw [List.map_append, q3, List.filter_append]
            simp
          · rw [if_neg e, if_neg e, tk1]
            refine ⟨⟨fun x m => ⟨dp_mono g4.up (q1.1 x m).1, (q1.1 x m).2⟩, q1.2.1, Nat.le_succ_of_le q1.2.2⟩, RowK.same g4.up q2, ?_⟩
            unfold stepsAt at q3 ⊢
            rw [q3, List.filter_append]
            have : ¬ st.one = j := fun z => e z.symm
            simp [this]
      · rintro σ H' ⟨o3, o4, o5, o6, G3, Kv, Ep, Tb, rfl, g3, sG, R⟩
        obtain ⟨G5, g5, s5, h5⟩ := g3.giveMany as hnd fun a m => by
          obtain ⟨j, hj⟩ := List.getElem?_of_mem m
          obtain ⟨p1, p2, p3, p4⟩ := R.own j a hj
          exact ⟨p1, p2, fun z => z, _, p3⟩
        refine ⟨_, rfl, k D H' G5 ((List.range n).map Tb) g5 ⟨as, SqL.of (s5 _ _ (sG _ _ upd_same)), pair_of (by rw [hlen, List.length_map, List.length_range]) fun j a row hj hr => ?_⟩ ⟨by rw [List.length_map, List.length_range], fun j hj => ?_⟩⟩
        · rw [List.getElem?_map, Option.map_eq_some_iff] at hr
          obtain ⟨j', hj', rfl⟩ := hr
          have ej : j' = j := by
            obtain ⟨z1, z2⟩ := List.getElem?_eq_some_iff.mp hj'
            rw [List.getElem_range] at z2
            exact z2.symm
          subst ej
          obtain ⟨p1, p2, p3, p4⟩ := R.own j' a hj
          obtain ⟨q1, q2, q3⟩ := R.kv j'
          refine ⟨Kv j', Ep j', ⟨.inl ?_, fun x m => ⟨dp_mono s5 (q1.1 x m).1, (q1.1 x m).2⟩, q1.2.1, p4, ?_⟩, RowK.same s5 q2⟩
          · rw [h5 a (List.mem_of_getElem? hj)]; exact p3
          · have := q1.2.2; omega
        · have e : rowAt ((List.range n).map Tb) j = Tb j := by
            refine rowAt_some ?_
            rw [List.getElem?_map, List.getElem?_range hj]
            rfl
          rw [e, (R.kv j).2.2, ← hlenS, List.take_length]
end
end K8
-- K8Mk
set_option maxRecDepth 100000
set_option maxHeartbeats 4000000
namespace K8
open PySem PySem.Spec PyProof.Rows L2
section
variable {X : Cx} {KK : PySem.W.Frag}
theorem sortI (hK : X.K = KK := by rfl) : CallR X (.builtin "sorted") (rSortedI KK) := by subst hK; exact cr_sortedI
theorem fldK {e : Expr} {f : Str} {pos : Pos} {ta : TE} (he : PE X e ta) (hb : attributeBase e f X.env (eval e X.env) = eval e X.env) (hK : X.K = KK := by rfl) : PE X (.Attribute e f pos) (tFld KK ta f) := by subst hK; exact pe_fld he hb
end
/-! ### checked_stands -/
def natV (n : Nat) : V := .int (n : Nat)
def natK (n : Nat) : Key := .inl (n : Nat)
def natD (n : Nat) : D := .lf (.int (n : Nat))
theorem nats_of {K : PySem.W.Frag} {H : Hp} : ∀ {xs : List V} {bs : List Nat}, DqAll K H xs (bs.map natD) → xs = bs.map natV
  | _, [], h => by cases h; rfl
  | _, b :: r, h => by
    cases h with
    | cons a t =>
      have a : Dq K H _ (.lf (.int (b : Nat))) := a
      cases a with
      | lf _ => rw [nats_of t]; rfl
theorem nats_to {K : PySem.W.Frag} {H : Hp} : ∀ (bs : List Nat), DqAll K H (bs.map natV) (bs.map natD)
  | [] => .nil
  | b :: r => .cons (.lf rfl) (nats_to r)
def spStands (K : PySem.W.Frag) : Sp := fun vs H Q _ => ∃ (G : Hp) (v : V) (n : Nat) (bs : List Nat), vs = [v, .int (n : Nat)] ∧ Same G H ∧ Dq K G v (.sq (bs.map natD)) ∧ (∀ b ∈ bs, b < n) ∧ bs.length ≤ 1000 ∧
  ∀ l H' G' rs, Gr NoM H G G' H' → SqL K G' l (List.map natV rs) → (∀ x, x ∈ rs ↔ x ∈ bs) → rs.length ≤ bs.length → Q (.ref l) H'
theorem sc_checked_stands : FnScope ["stands", "many", "index", "stand"] ["stands", "many"] (defScope s_checked_stands) := ⟨rfl, rfl, rfl, by decide +kernel, rfl, by decide +kernel, by decide +kernel⟩
section
variable {P : Program} {w : World} {K : PySem.W.Frag} {mg : Str → Option Value} {base : Heap}
theorem ints_nat : ∀ {ns : List Int} {bs : List Nat}, (∀ x ∈ ns, ∃ b ∈ bs, x = (b : Int)) → ∃ rs : List Nat, ns = rs.map (fun (b : Nat) => (b : Int))
  | [], _, _ => ⟨[], rfl⟩
  | x :: r, bs, h => by
    obtain ⟨b, _, e⟩ := h x List.mem_cons_self
    obtain ⟨rs, e2⟩ := ints_nat (ns := r) (bs := bs) fun y m => h y (List.mem_cons_of_mem _ m)
    exact ⟨b :: rs, by rw [e, e2]; rfl⟩
theorem ok_checked_stands (T : Txt K mg) : Cl P w K mg base CX0 8 "checked_stands" (spStands K) := by
  refine cl0 (T.F_checked_stands) T.g_checked_stands sc_checked_stands (fun vs H Q E h => ?_) (fun _ _ _ _ _ _ us hl => match us, hl with | [_, _], _ => rfl) (fun cdv A outer s H vs Q E hr h => ?_)
  · obtain ⟨G, v, n, bs, rfl, _⟩ := h
    rfl
  · obtain ⟨G, v, n, bs, rfl, s0, hd, hb, hl, k⟩ := h
    refine ⟨_, (pss_cons (ps_if (pt_not (pt_val (pe_cl (ok_is_list T) hr (by decide) pass0 (pa_cons (pv 0) pa_nil))))
        (pss_one ps_never)
        pss_nil)
      (pss_cons (ps_for PassesOwn.never rfl (enQ (KK := K) (by rfl) T.f_enumerate (pa_cons (pv 0) pa_nil)) (tupG (KK := K) (n := 2) (by rfl) (pgs_cons (pg_name (i := 2) sc_checked_stands.nd rfl (by first | exact Or.inl rfl | exact Or.inr rfl)) (pgs_cons (pg_name (i := 3) sc_checked_stands.nd rfl (by first | exact Or.inl rfl | exact Or.inr rfl)) pgs_nil)))
        (pss_one (ps_if (pt_not (pt_val (pe_cl (ok_is_stand T) hr (by decide) pass0 (pa_cons (pv 3) (pa_cons (pv 1) pa_nil)))))
          (pss_one ps_never)
          pss_nil)))
      (pss_one (ps_ret (pe_callB (sortI (KK := K)) (by rfl) T.f_sorted (by decide +kernel) (pa_cons (pe_cl (ok_each_once T) hr (by decide) pass0 (pa_cons (pv 0) pa_nil)) pa_nil)))))), ?_⟩
    obtain ⟨a0, xs, rfl, src, ha⟩ := hd.seq
    have hx := nats_of ha
    subst hx
    refine ⟨_, rfl, _, _, rfl, Dq.mono s0 _ _ hd, fun H1 s1 => ⟨_, rfl, ?_⟩⟩
    refine ite_n (by rfl) ?_
    dsimp only [tNext, tRet, tOp, tSeq, gName, tAsg]
    have g1 : Gr NoM H G G H1 := Gr.of s0 s1
    refine for_enG (K := K) (a := a0) (xs := bs.map natV) (fun i σ H' => ∃ o2 o3, σ = [some (.ref a0), some (.int (n : Nat)), o2, o3] ∧ Gr NoM H G G H') G (fun R' r => ⟨_, rfl, r⟩) g1.sub src ⟨_, _, rfl, g1⟩ (fun i σ H' ⟨_, _, _, gr⟩ => gr.sub) ?_ ?_
    · rintro i v T σ H' hx ⟨o2, o3, rfl, g3⟩ hT
      rw [List.getElem?_map, Option.map_eq_some_iff] at hx
      obtain ⟨b, hbi, rfl⟩ := hx
      refine ⟨T, _, rfl, SqT.of upd_same, rfl, ⟨_, _, rfl, ⟨_, _, rfl, ⟨rfl, ?_⟩⟩⟩⟩
      have gT := g3.mine (o := .tup [.int (i : Nat), natV b]) hT
      refine ⟨_, rfl, _, rfl, b, n, rfl, hb b (List.mem_of_getElem? hbi), fun H4 s4 => ⟨_, rfl, ?_⟩⟩
      refine ite_n (by rfl) ?_
      exact ⟨_, _, rfl, ⟨Same.refl _, gT.sub.trans s4, fun c o e _ => s4 c o (gT.same c o e), fun _ _ e => e⟩⟩
    · rintro σ H' ⟨o2, o3, rfl, g3⟩
      have e1 : bs.map natV = (bs.map natK).map kV := by rw [List.map_map]; rfl
      refine ⟨_, rfl, G, a0, bs.map natK, rfl, g3.sub, by rw [← e1]; exact src, by rw [List.length_map]; omega, fun l H4 G4 g4 hl4 => ?_⟩
      obtain ⟨o1, o2', o3', _⟩ := once_spec (bs.map natK)
      have ex : ∃ ns : List Int, once (bs.map natK) = ns.map Sum.inl := by
        have : ∀ l : List Key, (∀ k ∈ l, ∃ i : Int, k = Sum.inl i) → ∃ ns : List Int, l = ns.map Sum.inl := by
          intro l
          induction l with
          | nil => intro _; exact ⟨[], rfl⟩
          | cons k r ih =>
            intro h
            obtain ⟨i, rfl⟩ := h k List.mem_cons_self
            obtain ⟨ns, e⟩ := ih fun q m => h q (List.mem_cons_of_mem _ m)
            exact ⟨i :: ns, by rw [e]; rfl⟩
        refine this _ fun k hk => ?_
        obtain ⟨b, _, e⟩ := List.mem_map.mp ((o2' k).mp hk)
        exact ⟨(b : Int), e.symm⟩
      obtain ⟨ns, hns⟩ := ex
      rw [hns] at hl4 o2' o3'
      rw [List.map_map] at hl4
      refine ⟨l, ns, rfl, g4.sub.seq hl4, fun ns' p hp _ hpn => ?_⟩
      have hmem : ∀ x ∈ ns', ∃ b ∈ bs, x = (b : Int) := fun x m => by
        have h1 : (Sum.inl x : Key) ∈ ns.map Sum.inl := List.mem_map.mpr ⟨x, hp.mem_iff.mp m, rfl⟩
        obtain ⟨b, hb1, e⟩ := List.mem_map.mp ((o2' _).mp h1)
        cases e
        exact ⟨b, hb1, rfl⟩
      obtain ⟨rs, rfl⟩ := ints_nat hmem
      have g5 := (g3.trans g4).newN (o := .lst ((rs.map fun (b : Nat) => (b : Int)).map V.int)) hpn
      refine k p _ _ rs g5 ?_ (fun x => ?_) ?_
      · refine SqL.of ?_
        rw [upd_same, List.map_map]; rfl
      · constructor
        · intro m
          obtain ⟨b, hb1, e⟩ := hmem (x : Int) (List.mem_map.mpr ⟨x, m, rfl⟩)
          have : x = b := by omega
          rw [this]; exact hb1
        · intro m
          have h1 := (o2' (Sum.inl (x : Int))).mpr (List.mem_map.mpr ⟨x, m, rfl⟩)
          obtain ⟨y, hy, e⟩ := List.mem_map.mp h1
          cases e
          obtain ⟨z, hz, e2⟩ := List.mem_map.mp (hp.mem_iff.mpr hy)
          have : z = x := by omega
          rw [← this]; exact hz
      · have h1 := hp.length_eq
        rw [List.length_map] at h1
        rw [List.length_map, List.length_map] at o3'
        omega
end
end K8
-- K8Obj
set_option maxRecDepth 100000
set_option maxHeartbeats 4000000
namespace K8
open PySem PySem.Spec PyProof.Rows L2
/-! ### methods -/
abbrev aPlay (K : PySem.W.Frag) : Addr := He.ga K "Play"
structure Mt (P : Program) (w : World) (K : PySem.W.Frag) (mg : Str → Option Value) (base : Heap) (CX : CXT) (k : Nat) (m : Str) (sp : Sp) : Prop where
  ex : ∃ (fd : FuncData) (ps : List Str), FnOk P w K mg base CX k (He.ma K (aPlay K) m) fd ps sp ∧ Binds K fd ps []
section
variable {P : Program} {w : World} {K : PySem.W.Frag} {mg : Str → Option Value} {base : Heap} {m q : Str} {st : Stmt} {N ps : List Str} {k : Nat} {sp : Sp}
theorem mt0 (F : ∃ fd, FunD K (dM "Play" m q st).name (dM "Play" m q st).qual (dM "Play" m q st).params (dM "Play" m q st).body (dM "Play" m q st).scope [] [] (He.fAd K (dM "Play" m q st).at_) fd) (S : FnScope N ps (defScope st)) (len : ∀ vs H Q E, sp vs H Q E → vs.length = ps.length)
    (hb : ∀ (kV doc pm : Value) (an : Option Addr) (cdv ct : Value) (us : List Value), us.length = ps.length → bindArgs (PySem.W.fnOf m q (defArgs st) (defBody st) (defScope st) .none kV doc pm an cdv ct) ⟨us, []⟩ = pure (ps.zip us))
    (hbody : ∀ (cdv : Value) (A : Around) (outer : List Env) (s : Shared) (H : Hp) (vs : List V) (Q : VK) (E : XK), Room k (A.deeper (envOfC q (defScope st) s.heap.objs.size (He.ma K (aPlay K) m) cdv)) → sp vs H Q E →
      ∃ t, PSs (cxOf CX0 P w K mg base N q (defScope st) (He.ma K (aPlay K) m) cdv A outer s H E).nox (defBody st) t ∧ t { nx := fun _ H' => Q .non H', rt := Q } (start N vs) H) : Mt P w K mg base CX0 (k + 1) m sp := by
  obtain ⟨fd, F⟩ := F
  refine ⟨fd, ps, F.ok S len fun cdv A outer s H vs Q E hr h => ?_, F.bindsN hb⟩
  obtain ⟨t, h1, h2⟩ := hbody cdv A outer s H vs Q E hr h
  exact ⟨t, h1.nox, h2⟩
end
section
variable {X : Cx} {KK : PySem.W.Frag} {k j : Nat} {m : Str} {sp : Sp} {E : XK} {o : Expr} {ta : TE} {apos cpos : Pos}
theorem mCall0 {pl : Sem Bool} (c : Mt X.prog X.w X.K X.mg X.base CX0 k m sp) (hr : Room j X.A) (hk : k ≤ j) (hx : Passes CX0 X E) (he : PE X o ta) (hc : Cls X.K (aPlay X.K)) (hm : Meth X.K (aPlay X.K) m (He.ma X.K (aPlay X.K) m))
    (ht : eval (.Call (.Attribute o m apos) [] [] cpos) X.env = (do
      let ov ← eval o X.env
      standAt apos.atName
      let (f, first) ← holding [ov] (getMethod ov m pl)
      callWith cpos f first (backTo cpos (starEach [] X.env)) (backToKw cpos (keywordEach [] X.env))) := by rfl) : PE X (.Call (.Attribute o m apos) [] [] cpos) (tMeth (aPlay X.K) m sp [] E ta tNil) := by
  obtain ⟨fd, ps, F, b⟩ := c.ex
  exact pe_meth0 he hc hm F (hr.mono hk) b .nil hx ht
/-- len(x), an instance with a __len__ of its own -/
def rLenOwn (K : PySem.W.Frag) (sp : Sp) : List V → Hp → VK → Prop := fun xs H Q => ∃ a dx fs, xs = [V.ref a] ∧ H a = some (.ins (aPlay K) dx fs) ∧ sp [V.ref a] H (fun v H2 => ∃ n : Nat, v = .int (n : Nat) ∧ n < 1000000 ∧ Q v H2) (fun _ _ _ => False)
theorem call_lenO (c : Mt X.prog X.w X.K X.mg X.base CX0 k "__len__" sp) (hr : Room j X.A) (hk : k + 1 ≤ j) (hx : Passes CX0 X.nox (fun _ _ _ => False)) (hm : Meth X.K (aPlay X.K) "__len__" (He.ma X.K (aPlay X.K) "__len__")) : CallR X (.builtin "len") (rLenOwn X.K sp) := by
  intro pins s σ H xs us Q I r ⟨a, dx, fs, e, ha, h⟩
  subst e
  obtain ⟨u, rfl, rx⟩ := r.one
  cases rx
  obtain ⟨fd, ps, F, b⟩ := c.ex
  obtain ⟨mA, O, _, _, _, _⟩ := ins_get I.hok ha
  obtain ⟨od, J, _⟩ := O.look
  have hl : ([Value.ref a] ++ []).length = ps.length := by
    rw [← F.len _ _ _ _ h]
    rfl
  refine Calls.call_function_entry kind_len plain_len entry_len (args_len1 _) ?_
  unfold Builtin.«len»
  refine wpAny_bind (m := oneArg "len" _) (wpAny_pure ?_)
  refine wpAny_bind (m := callSpecial? (.ref a) (Str.ofString "__len__")) (PySem.W.special_fn I.kIn J hm.at_ (beq_iff_eq.mp hm.fn) ?_)
  refine wpAny_call (codeAny_mono (F.run X.A.in1 X.stack s H ⟨[.ref a], []⟩ [.ref a] [.ref a] _ _ (hr.mono hk).in1 I.env0.in1 (b s [.ref a] I.kIn hl) (.cons rfl .nil) h) fun r s' hq => ?_)
  cases r with
  | error er => exact False.elim (hx pins σ H s er s' (I.wish _) hq)
  | ok fl =>
    cases fl with
    | ret u =>
      obtain ⟨v, H', J3, rv, n, rfl, hn, q3⟩ := I.after hq
      obtain ⟨t, rfl⟩ := rv
      refine wpAny_bind (wpAny_holding (wpAny_pure ?_))
      refine wpAny_bind (wpAny_letGo ?_)
      show wpAny _ _ (if (n : Int) < 0 then _ else _) _ _ _
      rw [if_neg (by omega)]
      show wpAny _ _ (if (n : Int) ≥ 2 ^ 63 then _ else _) _ _ _
      rw [if_neg (by omega)]
      exact wpAny_bind (wpAny_mkInt (wpAny_pure ⟨_, rfl, .int (n : Nat), H', J3.tok _, ⟨_, rfl⟩, q3⟩))
    | next => exact False.elim hq
    | brk => exact False.elim hq
    | cont => exact False.elim hq
/-- l.extend(list or tuple) -/
def rExtQ (K : PySem.W.Frag) : V → List V → Hp → VK → Prop := fun x vs H Q => ∃ l b xs zs, x = V.ref l ∧ vs = [V.ref b] ∧ H l = some (.lst xs) ∧ Sq K H b zs ∧ xs.length + zs.length ≤ 1000000 ∧ Q .non (upd H l (.lst (xs ++ zs)))
theorem mtExtQ (hK : X.K = KK := by rfl) : MtR X "list.extend" (rExtQ KK) := by
  subst hK
  intro pins s σ H x vs v us Q I rx rv h
  obtain ⟨l, b, xs, zs, rfl, rfl, hH, hB, hz, q⟩ := h
  cases rx
  obtain ⟨u, rfl, ru⟩ := rv.one
  cases ru
  obtain ⟨z, its, n, r, hl, e⟩ := I.lstM hH
  have key : ∀ (T : String) (its2 : List Value) (o : Obj) (n2 : Nat), (T = "list" ∨ T = "tuple") → s.heap.get? b = some o → o.cls = .type T → o.data = .seq its2.toArray n2 → Vals zs its2 → wpAny (model X.prog X.w) X.A (call (.builtin "list.extend") [.ref l, .ref b]) (EP X pins σ Q) X.xe s := by
    intro T its2 o n2 hT ho hc hd r2
    have l2 := r2.length
    have hbig : (1000000 : Nat) < sizeLine := by decide
    have hsz : its.toArray.size + its2.toArray.size ≤ sizeLine := by rw [List.size_toArray, List.size_toArray]; omega
    refine call_meetsIn F.slot_list_extend ⟨_, e, rfl⟩ F.entry_list_extend (F.args_list_extend_2 _ _)
      (S := fun A' R s' => s' = s ∧ R (.ok (.ret Value.none)) { s with heap := s.heap.update l (Obj.mapSeq fun x => x ++ its2.toArray) }) (MeetsIn.of_wp fun A' R s' hS => ?_) ⟨rfl, ?_⟩
    · obtain ⟨rfl, hR⟩ := hS
      show wpAny _ _ (Builtin.List.listExtendWith (.ref l) (.ref b) .none) _ _ s'
      unfold Builtin.List.listExtendWith
      refine wpAny_bind (wpAny_typeOf (T := T) ⟨o, ho, hc⟩ ?_)
      have ht : (Builtin.List.listSameRef (.ref l) (.ref b) || (Value.type T == Value.type "list") || (Value.type T == Value.type "tuple")) = true := by
        rcases hT with rfl | rfl
        · rw [show (Value.type "list" == Value.type "list") = true from rfl]; simp
        · rw [show (Value.type "tuple" == Value.type "tuple") = true from rfl]; simp
      first | rw [if_pos ht] | rw [if_pos (by simpa using ht)]
      refine wpAny_bind (listItems_at ho hd ?_)
      refine wpAny_bind (listItems_at e rfl ?_)
      rw [if_neg (by
        rw [notLongL hsz, Bool.and_false]
        exact Bool.false_ne_true)]
      refine wpAny_bind (listUpdate_at e rfl ?_ (by rw [List.size_toArray]; omega) (by rw [Array.size_append]; omega))
      exact wpAny_pure ⟨_, rfl, hR⟩
    · refine ⟨.non, _, I.lset (its' := its ++ its2) hH e (by simp) (r.append r2) ?_, rfl, q⟩
      rw [List.length_append]
      omega
  rcases hB with hB | hB
  · obtain ⟨its2, r2, p2, _⟩ := I.list hB
    obtain ⟨o, ho, hc, n2, hd⟩ := p2.isList
    exact key "list" its2 o n2 (.inl rfl) ho hc hd r2
  · obtain ⟨its2, r2, ⟨o, ho, hc, n2, hd⟩, _⟩ := I.tuple hB
    exact key "tuple" its2 o n2 (.inr rfl) ho hc hd r2
end
end K8
-- K8Exc
set_option maxRecDepth 100000
set_option maxHeartbeats 4000000
namespace K8
open PySem PySem.Spec PyProof.Rows L2
/-! ### the errors BadRules, BadWord -/
structure Er (K : PySem.W.Frag) (x : Str) : Prop where
  ox : OexC K (He.ga K x)
  no : PySem.W.findIn K (.ref (He.ga K x)) "index" = some none
  ini : PySem.W.findIn K (.ref (He.ga K x)) "__init__" = some (some (.ref (He.ma K (He.ga K x) "__init__")))
  fn : PySem.W.typeIn K (.ref (He.ma K (He.ga K x) "__init__")) = some (.type "function")
  xf : XfC K (He.ga K x)
theorem ox_of {K : PySem.W.Frag} {C : Addr} (h : oexB K C = true) : ∃ nm q N bs bm sn sub ab col dd k0 k1 k2 k3 k5, K.lookup C = some (excClassObj nm q C N bs bm true sn sub ab col dd k0 k1 k2 k3 k5 "ValueError.__new__") ∧ PySem.HandSPX.refsVE bm = true := by
  unfold oexB at h
  split at h
  · rename_i dd cd sl ho
    split at h
    · rename_i C' bm k0 k1 k2 k3 n k5 hm hs
      simp only [Bool.and_eq_true, beq_iff_eq, Bool.not_eq_true'] at h
      obtain ⟨rfl, rfl, hdel, hdict, href⟩ := h
      obtain ⟨nm, bs, mro, ns, qn, hd, sn, sub, ab, col, del⟩ := cd
      dsimp only at hm hdel hdict
      subst hm hdel hdict
      have hsl : sl = #[k0, k1, k2, k3, some (.builtin "ValueError.__new__"), k5] := by
        obtain ⟨l⟩ := sl
        simp only at hs
        rw [hs]
      subst hsl
      exact ⟨nm, qn, ns, bs, bm, sn, sub, ab, col, dd, k0, k1, k2, k3, k5, ho, href⟩
    · cases h
  · cases h
theorem er_of {K : PySem.W.Frag} {x : Str} (h : excB K x "index" = true) : Er K x := by
  unfold excB at h
  simp only [Bool.and_eq_true, decide_eq_true_eq] at h
  obtain ⟨h1, h2, h3, h4, h5, h6, h7, h8, h9⟩ := h
  exact ⟨⟨ox_of h1, He.eqO_ok h5, h3, h4, h2⟩, He.eqO_ok h6, He.eqO_ok h7, h8, xfB_ok h9⟩
section
variable {K : PySem.W.Frag} {mg : Str → Option Value}
theorem Txt.eR (T : Txt K mg) : Er K "BadRules" := by
  have h := T.ex
  unfold exB at h
  rw [Bool.and_eq_true] at h
  exact er_of h.1
theorem Txt.eW (T : Txt K mg) : Er K "BadWord" := by
  have h := T.ex
  unfold exB at h
  rw [Bool.and_eq_true, Bool.and_eq_true] at h
  exact er_of h.2.1
theorem Txt.eRR (T : Txt K mg) : PySem.W.exmOne K (.ref (He.ga K "BadRules")) (.ref (He.ga K "BadRules")) = some true := by
  have h := T.ex
  unfold exB at h
  simp only [Bool.and_eq_true, decide_eq_true_eq] at h
  exact h.2.2.1
theorem Txt.eWW (T : Txt K mg) : PySem.W.exmOne K (.ref (He.ga K "BadWord")) (.ref (He.ga K "BadWord")) = some true := by
  have h := T.ex
  unfold exB at h
  simp only [Bool.and_eq_true, decide_eq_true_eq] at h
  exact h.2.2.2.1
theorem Txt.eWR (T : Txt K mg) : PySem.W.exmOne K (.ref (He.ga K "BadWord")) (.ref (He.ga K "BadRules")) = some false := by
  have h := T.ex
  unfold exB at h
  simp only [Bool.and_eq_true, decide_eq_true_eq] at h
  exact h.2.2.2.2
end
/-! ### their __init__ -/
def spExc (K : PySem.W.Frag) (x : Str) : Sp := fun vs H Q _ => ∃ (a : Addr) (i : Int), vs = [.ref a, .int i] ∧ H a = some (exo a (He.ga K x) none) ∧ ∀ dx, H dx = none → dx ≠ a → Q .non (upd (upd H dx (exd dx [("index", .int i)])) a (exo a (He.ga K x) (some dx)))
theorem sc_BadRules_init : FnScope ["self", "index"] ["self", "index"] (defScope s_BadRules_init) := ⟨rfl, rfl, rfl, by decide +kernel, rfl, by decide +kernel, by decide +kernel⟩
theorem sc_BadWord_init : FnScope ["self", "index"] ["self", "index"] (defScope s_BadWord_init) := ⟨rfl, rfl, rfl, by decide +kernel, rfl, by decide +kernel, by decide +kernel⟩
section
variable {P : Program} {w : World} {K : PySem.W.Frag} {mg : Str → Option Value} {base : Heap}
/-- the promise of an error's __init__ -/
structure Ei (P : Program) (w : World) (K : PySem.W.Frag) (mg : Str → Option Value) (base : Heap) (x : Str) : Prop where
  ex : ∃ (fd : FuncData) (ps : List Str), FnOk P w K mg base CX0 1 (He.ma K (He.ga K x) "__init__") fd ps (spExc K x) ∧ Binds K fd ps []
theorem ei_R (T : Txt K mg) : Ei P w K mg base "BadRules" := by
  obtain ⟨fd, F⟩ := T.F_BadRules_init
  refine ⟨fd, ["self", "index"], F.ok sc_BadRules_init (fun vs H Q E h => ?_) fun cdv A outer s H vs Q E hr h => ?_, F.bindsN (fun _ _ _ _ _ _ us hl => match us, hl with | [_, _], _ => rfl)⟩
  · obtain ⟨a, i, rfl, _⟩ := h
    rfl
  · obtain ⟨a, i, rfl, ha, k⟩ := h
    refine ⟨_, PSs.nox (pss_one (ps_ost (pv 0) (pv 1))), ?_⟩
    exact ⟨_, rfl, _, rfl, a, _, rfl, T.eR.ox, T.eR.no, .inl ⟨ha, fun dx h1 h2 => k dx h1 h2⟩⟩
theorem ei_W (T : Txt K mg) : Ei P w K mg base "BadWord" := by
  obtain ⟨fd, F⟩ := T.F_BadWord_init
  refine ⟨fd, ["self", "index"], F.ok sc_BadWord_init (fun vs H Q E h => ?_) fun cdv A outer s H vs Q E hr h => ?_, F.bindsN (fun _ _ _ _ _ _ us hl => match us, hl with | [_, _], _ => rfl)⟩
  · obtain ⟨a, i, rfl, _⟩ := h
    rfl
  · obtain ⟨a, i, rfl, ha, k⟩ := h
    refine ⟨_, PSs.nox (pss_one (ps_ost (pv 0) (pv 1))), ?_⟩
    exact ⟨_, rfl, _, rfl, a, _, rfl, T.eW.ox, T.eW.no, .inl ⟨ha, fun dx h1 h2 => k dx h1 h2⟩⟩
end
/-! ### raise BadRules(i) -/
def xdI (i : Int) : HO := .xd [("index", .int i)]
def sRaise (K : PySem.W.Frag) (x : Str) (W : WX) (te : TE) : TS := fun _ σ H => tMkO (He.ga K x) (spExc K x) [] (tCons te tNil) σ H fun cls d H' => W cls d σ H'
theorem ps_err {X : Cx} {x : Str} {k : Nat} {W : WX} {e : Expr} {te : TE} {p p1 pos : Pos} (c : Ei X.prog X.w X.K X.mg X.base x) (T : Er X.K x) (hc : X.calm = true) (hr : Room k X.A) (hk : 2 ≤ k) (hx : Passes CX0 X (fun _ _ _ => False)) (tk : Takes X W) (hm : X.mg x = some (.ref (He.ga X.K x))) (he : PE X e te) (hg : Gl X x := by rfl)
    (hdb : (x == ("__debug__" : Str)) = false := by decide) (hs : starEach (e :: []) X.env = (false, eval e X.env) :: starEach [] X.env := by rfl) (hpl : (backTo p1 (starEach [] X.env)).any (·.1) = false := by rfl) :
    PS X (.Raise (some (.Call (.Name x p) [e] [] p1)) none pos) (sRaise X.K x W te) := by
  obtain ⟨fd, ps, F, b⟩ := c.ex
  exact ps_raise (pos := pos) hc tk (pmk_oex (X := X) (CX := CX0) (x := x) (p := p) (e := e) (es := []) (pos := p1) T.ox T.ini T.fn F (hr.mono hk) b .nil hx hg hm (pa_cons he pa_nil hs) hdb hs hpl)
theorem mk_rd {K : PySem.W.Frag} {x : Str} {H1 : Hp} {i : Int} {Q : XK} (q : ∀ d, H1 d = none → Q (.ref (He.ga K x)) (some d) (upd H1 d (xdI i))) :
    [V.int i].length ≤ 1000 ∧ ∀ a, H1 a = none → spExc K x (.ref a :: ([V.int i] ++ [])) (upd H1 a (exo a (He.ga K x) none))
      (fun v H2 => v = .non ∧ ∃ (d : Addr) (fs : List (Str × V)), H2 a = some (exo a (He.ga K x) (some d)) ∧ H2 d = some (exd d fs) ∧ H1 d = none ∧ Q (.ref (He.ga K x)) (some d) (upd (del H2 a) d (.xd fs))) (fun _ _ _ => False) := by
  refine ⟨by show 1 ≤ 1000; decide, fun a ha => ⟨a, i, rfl, upd_same, fun dx h1 h2 => ?_⟩⟩
  rw [upd_ne h2] at h1
  refine ⟨rfl, dx, [("index", .int i)], upd_same, by rw [upd_ne h2, upd_same], h1, ?_⟩
  have e : upd (del (upd (upd (upd H1 a (exo a (He.ga K x) none)) dx (exd dx [("index", .int i)])) a (exo a (He.ga K x) (some dx))) a) dx (.xd [("index", .int i)]) = upd H1 dx (xdI i) := by
    funext b
    by_cases hb : b = dx
    · subst hb; rw [upd_same, upd_same]; rfl
    · rw [upd_ne hb, upd_ne hb]
      by_cases hc : b = a
      · subst hc; rw [del_same, ha]
      · rw [del_ne hc, upd_ne hc, upd_ne hb, upd_ne hc]
  rw [e]
  exact q dx h1
end K8
-- K8Play2
set_option maxRecDepth 100000
set_option maxHeartbeats 4000000
namespace K8
open PySem PySem.Spec PyProof.Rows L2
structure PlayIs (K : PySem.W.Frag) (w : World) (G : Hp) (p : Addr) (T : List Trow) (bad : List Nat) : Prop where
  ex : ∃ dx tl bl, G p = some (.ins (aPlay K) dx [("own_table", .ref tl), ("own_bad", .ref bl)]) ∧ TabIs K w G tl T ∧ SqL K G bl (bad.map natV)
theorem PlayIs.same {K : PySem.W.Frag} {w : World} {G H : Hp} {p : Addr} {T : List Trow} {bad : List Nat} (s : Same G H) (h : PlayIs K w G p T bad) : PlayIs K w H p T bad := by
  obtain ⟨dx, tl, bl, a, b, c⟩ := h.ex
  exact ⟨dx, tl, bl, s _ _ a, b.same s, s.seq c⟩
/-- the loop over a list that stands in the ground -/
theorem fl_G {K : PySem.W.Frag} {a : Addr} {xs : List V} {g : TG} {tb : TS} {D : Ends} {σ : L2.St} {H : Hp} (Pv : Nat → L2.St → Hp → Prop) (G0 : Hp) (src : SqL K G0 a xs) (h0 : Pv 0 σ H) (hG : ∀ i σ H, Pv i σ H → Same G0 H)
    (hs : ∀ i x σ H, xs[i]? = some x → Pv i σ H → g x σ H fun σ2 H2 => tb { D with nx := Pv (i + 1), ct := Pv (i + 1), bk := D.nx } σ2 H2) (hd : ∀ σ H, Pv xs.length σ H → D.nx σ H) :
    ∃ W : Nat → Nat → L2.St → Hp → Prop, (∃ m, W 0 m σ H) ∧ ∀ i m σ H, W i m σ H → ((Itl K a).stop i H ∧ D.nx σ H) ∨ ((Itl K a).go i H ∧ ∃ N : L2.St → Hp → Prop, (∀ σ' H', N σ' H' → ∃ m', m' < m ∧ W (i + 1) m' σ' H') ∧
      ∀ x H', (Itl K a).yld i H x H' → g x σ H' fun σ2 H2 => tb { D with nx := N, ct := N, bk := D.nx } σ2 H2) :=
  for_it (walk_list (K := K) (a := a) (xs := xs)) Pv h0 (fun i σ H _ p => (hG i σ H p).seq src) (fun i x σ H H' hi p y => by
    obtain ⟨rfl, hx⟩ := y
    exact hs i x σ _ hx p) hd
/-! ### __init__, __len__ -/
def spInit (K : PySem.W.Frag) (w : World) : Sp := fun vs H Q _ => ∃ (G : Hp) (x dx : Addr) (n : Nat) (v u : V) (ss : List Stp) (bs : List Nat), vs = [.ref x, .int (n : Nat), v, u] ∧ Same G H ∧ G x = none ∧ H x = some (.ins (aPlay K) dx []) ∧
  Dq K G v (.sq (ss.map stepD)) ∧ Dq K G u (.sq (bs.map natD)) ∧ 1 ≤ n ∧ n ≤ 1000 ∧ ss.length ≤ 1000 ∧ (∀ s ∈ ss, StpOk n G s) ∧ Apart ss ∧ (∀ b ∈ bs, b < n) ∧ bs.length ≤ 1000 ∧
  ∀ H' G' T rs tl bl, Gr (fun b => b = x) H G G' H' → H' x = some (.ins (aPlay K) dx [("own_table", .ref tl), ("own_bad", .ref bl)]) → TabIs K w G' tl T → TabOf n ss T → SqL K G' bl (List.map natV rs) → (∀ y, y ∈ rs ↔ y ∈ bs) → rs.length ≤ bs.length → Q .non H'
theorem sc_Play_init : FnScope ["self", "many", "steps", "bad"] ["self", "many", "steps", "bad"] (defScope s_Play_init) := ⟨rfl, rfl, rfl, by decide +kernel, rfl, by decide +kernel, by decide +kernel⟩
theorem sc_Play_len : FnScope ["self"] ["self"] (defScope s_Play_len) := ⟨rfl, rfl, rfl, by decide +kernel, rfl, by decide +kernel, by decide +kernel⟩
theorem sc_Play_steps : FnScope ["self", "found", "row", "word", "one", "other", "rules", "sights"] ["self"] (defScope s_Play_steps) := ⟨rfl, rfl, rfl, by decide +kernel, rfl, by decide +kernel, by decide +kernel⟩
theorem sc_Play_rules : FnScope ["self", "found", "step"] ["self"] (defScope s_Play_rules) := ⟨rfl, rfl, rfl, by decide +kernel, rfl, by decide +kernel, by decide +kernel⟩
section
variable {P : Program} {w : World} {K : PySem.W.Frag} {mg : Str → Option Value} {base : Heap}
theorem ok_init (T : Txt K mg) : Mt P w K mg base CX0 9 "__init__" (spInit K w) := by
  refine mt0 (T.F_Play_init) sc_Play_init (fun vs H Q E h => ?_) (fun _ _ _ _ _ _ us hl => match us, hl with | [_, _, _, _], _ => rfl) (fun cdv A outer s H vs Q E hr h => ?_)
  · obtain ⟨G, x, dx, n, v, u, ss, bs, rfl, _⟩ := h
    rfl
  · obtain ⟨G, x, dx, n, v, u, ss, bs, rfl, s0, gx, hx, hv, hu, n1, hn, hl, ok, apart, hb, hbl, k⟩ := h
    refine ⟨_, (pss_cons (ps_if (PW.pt (pw_or (pt_not (pt_val (pe_cl (ok_is_integer T) hr (by decide) pass0 (pa_cons (pv 1) pa_nil)))) (pw_or1 (pt_cmpR op_lt (pv 1) pe_int (nomark _)))))
        (pss_one ps_never)
        pss_nil)
      (pss_cons (ps_fld (pv 0) (pe_cl (ok_checked_steps T) hr (by decide) pass0 (pa_cons (pv 2) (pa_cons (pv 1) pa_nil))) rfl)
      (pss_one (ps_fld (pv 0) (pe_cl (ok_checked_stands T) hr (by decide) pass0 (pa_cons (pv 3) (pa_cons (pv 1) pa_nil))) rfl)))), ?_⟩
    refine ⟨_, rfl, .int (n : Nat), .lf (.int (n : Nat)), rfl, .lf rfl, fun H1 s1 => ⟨_, rfl, ?_⟩⟩
    refine ite_n (by rfl) ?_
    refine ⟨_, rfl, (n : Int), 1, rfl, rfl, _, rfl, ?_⟩
    refine ite_n (decide_eq_false (by omega)) ?_
    dsimp only [tNext, tRet, tOp, tSeq, gName, tAsg]
    refine ⟨_, rfl, _, rfl, G, v, n, ss, rfl, s0.trans s1, hv, hn, hl, ok, apart, fun l H2 G2 Tb g2 tab tof => ?_⟩
    have hx2 : H2 x = some (.ins (aPlay K) dx []) := g2.same _ _ (s1 _ _ hx)
    have gx2 : G2 x = none := g2.new x (.inl (by rw [s1 _ _ hx]; exact fun z => nomatch z)) gx
    refine ⟨_, rfl, x, aPlay K, dx, [], rfl, hx2, T.p_cl, T.p_nT, by show 0 < 1000; decide, ?_⟩
    have gM : Gr (fun b => b = x) H G G2 (upd H2 x (.ins (aPlay K) dx (putF "own_table" (.ref l) []))) :=
      (Gr.trans (M := fun b => b = x) (Gr.lift (Gr.of s0 s1) fun b e => by subst e; rw [hx]; exact fun z => nomatch z) (Gr.lift g2 fun b e => by subst e; rw [s1 _ _ hx]; exact fun z => nomatch z)).chg (.inr rfl) gx2
    refine ⟨_, rfl, _, rfl, G2, u, n, bs, rfl, gM.sub, Dq.mono g2.up _ _ hu, hb, hbl, fun l2 H3 G3 rs g3 hbl' hmem hrl => ?_⟩
    have hx3 : H3 x = some (.ins (aPlay K) dx (putF "own_table" (.ref l) [])) := g3.same _ _ upd_same
    have gx3 : G3 x = none := g3.new x (.inl (by rw [upd_same]; exact fun z => nomatch z)) gx2
    refine ⟨_, rfl, x, aPlay K, dx, _, rfl, hx3, T.p_cl, T.p_nB, by show 1 < 1000; decide, ?_⟩
    have gN : Gr (fun b => b = x) H G G3 (upd H3 x (.ins (aPlay K) dx (putF "own_bad" (.ref l2) (putF "own_table" (.ref l) [])))) :=
      (gM.trans (Gr.lift g3 fun b e => by subst e; rw [upd_same]; exact fun z => nomatch z)).chg (.inr rfl) gx3
    refine k _ _ Tb rs l l2 gN ?_ (tab.same g3.up) tof hbl' hmem hrl
    rw [upd_same]
    have e : putF "own_bad" (.ref l2) (putF "own_table" (.ref l) []) = ([("own_table", V.ref l), ("own_bad", V.ref l2)] : List (Str × V)) := by
      show (if ("own_table" : Str) = "own_bad" then _ else _) = _
      rw [if_neg (by decide)]
      rfl
    rw [e]
def spLenP (K : PySem.W.Frag) (w : World) : Sp := fun vs H Q _ => ∃ (p : Addr) (T : List Trow) (bad : List Nat), vs = [.ref p] ∧ PlayIs K w H p T bad ∧ Q (.int (T.length : Nat)) H
theorem ok_lenP (T : Txt K mg) : Mt P w K mg base CX0 1 "__len__" (spLenP K w) := by
  refine mt0 (T.F_Play_len) sc_Play_len (fun vs H Q E h => ?_) (fun _ _ _ _ _ _ us hl => match us, hl with | [_], _ => rfl) (fun cdv A outer s H vs Q E hr h => ?_)
  · obtain ⟨p, Tb, bad, rfl, _⟩ := h
    rfl
  · obtain ⟨p, Tb, bad, rfl, ⟨dx, tl, bl, hp, ⟨as, has, pas⟩, _⟩, k⟩ := h
    refine ⟨_, (pss_one (ps_ret (pe_callB (lenQ (KK := K)) (by rfl) T.f_len (by decide +kernel) (pa_cons (fldK (KK := K) (pv 0) rfl) pa_nil)))), ?_⟩
    refine ⟨_, rfl, p, aPlay K, dx, _, .ref tl, rfl, hp, T.p_cl, T.p_nT, rfl, tl, _, rfl, .inl has, ?_⟩
    have e : (as.map V.ref).length = Tb.length := by rw [List.length_map]; exact Paired.length pas
    rw [e]
    exact k
/-! ### steps, rules -/
def SV (K : PySem.W.Frag) (G : Hp) (x : V) (p : Stp × List Str) : Prop := ∃ t a b c rt d, x = .ref t ∧ SqT K G t [a, b, c, .ref rt, d] ∧ SqT K G rt (p.2.map V.str)
theorem SV.same {G H : Hp} (s : Same G H) {x : V} {p : Stp × List Str} (h : SV K G x p) : SV K H x p := let ⟨t, a, b, c, rt, d, e, f, g⟩ := h; ⟨t, a, b, c, rt, d, e, s.tp f, s.tp g⟩
def spStepsP (K : PySem.W.Frag) (w : World) : Sp := fun vs H Q _ => ∃ (G : Hp) (p : Addr) (T : List Trow) (bad : List Nat), vs = [.ref p] ∧ Same G H ∧ PlayIs K w G p T bad ∧ T.flatten.length ≤ 10000 ∧
  ∀ l H' G' xs, Gr NoM H G G' H' → SqL K G' l xs → Paired (SV K G') xs T.flatten → Q (.ref l) H'
theorem pair_snoc {α β : Type} {P : α → β → Prop} {a : α} {b : β} (h : P a b) : ∀ {xs : List α} {ys : List β}, Paired P xs ys → Paired P (xs ++ [a]) (ys ++ [b])
  | _, _, .nil => .cons h .nil
  | _, _, .cons a t => .cons a (pair_snoc h t)
theorem flat_snoc {α : Type} {T : List (List α)} {i : Nat} {r : List α} (h : T[i]? = some r) : (T.take (i + 1)).flatten = (T.take i).flatten ++ r := by
  rw [List.take_succ, h]
  simp
theorem flat_le {α : Type} : ∀ (T : List (List α)) (i : Nat), (T.take i).flatten.length ≤ T.flatten.length
  | [], i => by simp
  | r :: t, 0 => by simp
  | r :: t, i + 1 => by
    have := flat_le t i
    simp only [List.take_succ_cons, List.flatten_cons, List.length_append]
    omega
theorem ok_steps (T : Txt K mg) : Mt P w K mg base CX0 1 "steps" (spStepsP K w) := by
  refine mt0 (T.F_Play_steps) sc_Play_steps (fun vs H Q E h => ?_) (fun _ _ _ _ _ _ us hl => match us, hl with | [_], _ => rfl) (fun cdv A outer s H vs Q E hr h => ?_)
  · obtain ⟨G, p, Tb, bad, rfl, _⟩ := h
    rfl
  · obtain ⟨G, p, Tb, bad, rfl, s0, ⟨dx, tl, bl, hp, ⟨as, has, pas⟩, _⟩, hlen, k⟩ := h
    refine ⟨_, (pss_cons (ps_set (i := 1) sc_Play_steps.nd rfl (by first | exact Or.inl rfl | exact Or.inr rfl) (pe_lst pa_nil))
      (pss_cons (ps_for PassesOwn.never rfl (sqI (KK := K) (fldK (KK := K) (pv 0) rfl)) (pg_name (i := 2) sc_Play_steps.nd rfl (by first | exact Or.inl rfl | exact Or.inr rfl))
        (pss_one (ps_for PassesOwn.never rfl (sqI (KK := K) (pe_callTy (wListV (ww := w) rfl) (by rfl) T.f_list (by decide +kernel) (pa_cons (wVals (ww := w) (pv 2) rfl) pa_nil))) (tupG (KK := K) (n := 5) (by rfl) (pgs_cons (pg_name (i := 3) sc_Play_steps.nd rfl (by first | exact Or.inl rfl | exact Or.inr rfl)) (pgs_cons (pg_name (i := 4) sc_Play_steps.nd rfl (by first | exact Or.inl rfl | exact Or.inr rfl)) (pgs_cons (pg_name (i := 5) sc_Play_steps.nd rfl (by first | exact Or.inl rfl | exact Or.inr rfl)) (pgs_cons (pg_name (i := 6) sc_Play_steps.nd rfl (by first | exact Or.inl rfl | exact Or.inr rfl)) (pgs_cons (pg_name (i := 7) sc_Play_steps.nd rfl (by first | exact Or.inl rfl | exact Or.inr rfl)) pgs_nil))))))
          (pss_one (ps_expr (pe_bm PySem.F.plainAttrs_list PySem.F.slot_list_append PySem.F.type_list_append mt_append (pv 1) (pa_cons (pe_tup (pa_cons (pv 3) (pa_cons (pv 4) (pa_cons (pv 5) (pa_cons (pv 6) (pa_cons (pe_callTy call_dictD (by rfl) T.f_dict (by decide +kernel) (pa_cons (pv 7) pa_nil)) pa_nil)))))) pa_nil)))))))
      (pss_one (ps_ret (pv 1))))), ?_⟩
    refine ⟨by show 0 ≤ sizeLine; decide, fun F hF => ?_⟩
    dsimp only [tNext, tRet, tOp, tSeq, gName, tAsg]
    have hGF := s0.free hF
    have g0 : Gr NoM H G G (upd H F (.lst [])) := (Gr.start s0).mine hF
    refine for_sqG (K := K) (a := tl) (xs := as.map V.ref) (fun i σ H' => ∃ o2 o3 o4 o5 o6 o7 G2 xs, σ = [some (.ref p), some (.ref F), o2, o3, o4, o5, o6, o7] ∧ Gr NoM H G G2 H' ∧ H' F = some (.lst xs) ∧ G2 F = none ∧ Paired (SV K G2) xs (Tb.take i).flatten) G (fun R' r => ⟨_, rfl, p, aPlay K, dx, _, .ref tl, rfl, g0.sub _ _ hp, T.p_cl, T.p_nT, rfl, r⟩) g0.sub (.inl has) ?_ (fun i σ H' ⟨_, _, _, _, _, _, _, _, _, gr, _⟩ => gr.up.trans gr.sub) ?_ ?_
    · exact ⟨none, none, none, none, none, none, G, [], rfl, g0, upd_same, hGF, .nil⟩
    · rintro i v σ H' hv ⟨o2, o3, o4, o5, o6, o7, G2, xs, rfl, g2, hHF, hG2F, pxs⟩
      rw [List.getElem?_map, Option.map_eq_some_iff] at hv
      obtain ⟨a, ha, rfl⟩ := hv
      obtain ⟨row, hrow, ra⟩ := paired_get pas ha
      obtain ⟨kvs, ep, wd, rk⟩ := ra.same g2.up
      have wdH := wd.same g2.sub
      dsimp only [tNext, tRet, tOp, tSeq, gName, tAsg]
      have hlr : kvs.length = row.length := Paired.length rk
      refine ⟨_, rfl, a, kvs, ep, rfl, wdH.sm, wdH.rd, fun pv hpv => ?_⟩
      have g3 := g2.newN (o := vwO pv a) hpv
      have hFv : F ≠ pv := ne_sn hHF hpv
      refine ⟨pv, a, kvs, ep, rfl, upd_same, (wdH.same (Same.upd_none hpv)).rd, wd.sz, fun q hq => ?_⟩
      have g4 := g3.newN (o := .lst (kvs.map fun x => x.2.2)) hq
      have hF3 : upd H' pv (vwO pv a) F = some (.lst xs) := by rw [upd_ne hFv]; exact hHF
      have hFq : F ≠ q := ne_sn hF3 hq
      have hF4 : upd (upd H' pv (vwO pv a)) q (.lst (kvs.map fun x => x.2.2)) F = some (.lst xs) := by rw [upd_ne hFq]; exact hF3
      have hG4F : upd (upd G2 pv (vwO pv a)) q (.lst (kvs.map fun x => x.2.2)) F = none := by rw [upd_ne hFq, upd_ne hFv]; exact hG2F
      have u24 : Same G2 (upd (upd G2 pv (vwO pv a)) q (.lst (kvs.map fun x => x.2.2))) := (Same.upd_none (g2.sub.free hpv)).trans (Same.upd_none (g3.sub.free hq))
      have hGq : SqL K (upd (upd G2 pv (vwO pv a)) q (.lst (kvs.map fun x => x.2.2))) q (kvs.map fun x => x.2.2) := SqL.of upd_same
      generalize upd (upd H' pv (vwO pv a)) q (.lst (kvs.map fun x => x.2.2)) = H4 at g4 hF4
      generalize upd (upd G2 pv (vwO pv a)) q (.lst (kvs.map fun x => x.2.2)) = G4 at g4 hG4F u24 hGq
      refine ⟨q, rfl, .inl ⟨⟨_, g4.sub.seq hGq⟩, fl_G (K := K) (a := q) (xs := kvs.map fun x => x.2.2) (fun j σ H5 => ∃ o3 o4 o5 o6 o7 G5 xs5, σ = [some (.ref p), some (.ref F), some (.ref a), o3, o4, o5, o6, o7] ∧ Gr NoM H G G5 H5 ∧ Same G4 G5 ∧ H5 F = some (.lst xs5) ∧ G5 F = none ∧ Paired (SV K G5) xs5 ((Tb.take i).flatten ++ row.take j)) G4 hGq ?_ (fun j σ H5 ⟨_, _, _, _, _, _, _, _, gr, sm, _⟩ => sm.trans gr.sub) ?_ ?_⟩⟩
      · exact ⟨_, _, _, _, _, G4, xs, rfl, g4, Same.refl _, hF4, hG4F, by rw [List.take_zero, List.append_nil]; exact pair_imp (fun _ _ => SV.same u24) pxs⟩
      · rintro j v σ H5 hv ⟨o3, o4, o5, o6, o7, G5, xs5, rfl, g5, s45, hF5, hG5F, p5⟩
        rw [List.getElem?_map, Option.map_eq_some_iff] at hv
        obtain ⟨en, hen, rfl⟩ := hv
        obtain ⟨pr, hpr, -, ks⟩ := paired_get rk hen
        obtain ⟨t, w', rt, sd', ev, htup, hdp, hrt, kd, hkd, _⟩ := (ks.same (u24.trans s45)).ex
        rw [ev]
        refine ⟨t, _, rfl, g5.sub.tp htup, rfl, ⟨_, _, rfl, ⟨_, _, rfl, ⟨_, _, rfl, ⟨_, _, rfl, ⟨_, _, rfl, ⟨rfl, ?_⟩⟩⟩⟩⟩⟩⟩
        refine ⟨_, rfl, .inl ⟨rfl, _, SqL.of hF5⟩, ⟨_, rfl, _, rfl, _, rfl, _, rfl, _, rfl, sd', kd, rfl, .inl (g5.sub _ _ hkd), fun p1 hp1 => ?_⟩⟩
        refine ⟨by show 5 ≤ sizeLine; decide, fun t2 ht2 => ?_⟩
        have g6 := g5.newN (o := .dK kd) hp1
        have g7 := g6.newN (o := .tup [w', .int (pr.1.one : Nat), .int (pr.1.oth : Nat), .ref rt, .ref p1]) ht2
        have hF1 : F ≠ p1 := ne_sn hF5 hp1
        have hF6 : upd H5 p1 (.dK kd) F = some (.lst xs5) := by rw [upd_ne hF1]; exact hF5
        have hF2 : F ≠ t2 := ne_sn hF6 ht2
        have u57 : Same G5 (upd (upd G5 p1 (.dK kd)) t2 (.tup [w', .int (pr.1.one : Nat), .int (pr.1.oth : Nat), .ref rt, .ref p1])) := (Same.upd_none (g5.sub.free hp1)).trans (Same.upd_none (g6.sub.free ht2))
        have hG7F : upd (upd G5 p1 (.dK kd)) t2 (.tup [w', .int (pr.1.one : Nat), .int (pr.1.oth : Nat), .ref rt, .ref p1]) F = none := by rw [upd_ne hF2, upd_ne hF1]; exact hG5F
        have hx5 := Paired.length p5
        have hbd : ((Tb.take i).flatten ++ row.take j).length ≤ 10000 := by
          have e := flat_snoc hrow
          have h1 := flat_le Tb (i + 1)
          rw [e, List.length_append] at h1
          rw [List.length_append, List.length_take]
          omega
        refine ⟨F, xs5, .ref t2, rfl, rfl, by rw [upd_ne hF2]; exact hF6, by rw [hx5]; exact Nat.lt_of_le_of_lt hbd (by decide), ?_⟩
        refine ⟨_, _, _, _, _, _, xs5 ++ [.ref t2], rfl, g7.chg (.inl hF) hG7F, s45.trans u57, upd_same, hG7F, ?_⟩
        rw [List.take_succ, hpr, ← List.append_assoc]
        exact pair_snoc ⟨t2, _, _, _, rt, _, rfl, SqT.of upd_same, u57.tp hrt⟩ (pair_imp (fun _ _ => SV.same u57) p5)
      · rintro σ H5 ⟨o3, o4, o5, o6, o7, G5, xs5, rfl, g5, s45, hF5, hG5F, p5⟩
        refine ⟨_, _, _, _, _, _, G5, xs5, rfl, g5, hF5, hG5F, ?_⟩
        rw [List.length_map, hlr, List.take_length] at p5
        rw [flat_snoc hrow]
        exact p5
    · rintro σ H' ⟨o2, o3, o4, o5, o6, o7, G2, xs, rfl, g2, hHF, hG2F, pxs⟩
      have e : (as.map V.ref).length = Tb.length := by rw [List.length_map]; exact Paired.length pas
      rw [e, List.take_length] at pxs
      have gg := g2.give hF (fun z => z) hG2F hHF
      exact ⟨_, rfl, k F H' _ xs gg (SqL.of upd_same) (pair_imp (fun _ _ => SV.same (Same.upd_none hG2F)) pxs)⟩
end
end K8
-- K8Play3
set_option maxRecDepth 100000
set_option maxHeartbeats 4000000
namespace K8
open PySem PySem.Spec PyProof.Rows L2
section
variable {P : Program} {w : World} {K : PySem.W.Frag} {mg : Str → Option Value} {base : Heap}
/-- what the table needs for rules -/
structure Fit (T : List Trow) (names : List Str) : Prop where
  few : T.flatten.length ≤ 1500
  sub : ∀ p ∈ T.flatten, Sub p.2 names
  nd : ∀ p ∈ T.flatten, p.2.Nodup
  nm : names.length ≤ 40
theorem Fit.len {T : List Trow} {names : List Str} (h : Fit T names) {p : Stp × List Str} (m : p ∈ T.flatten) : p.2.length ≤ 40 := Nat.le_trans (nodup_len (h.nd p m) (h.sub p m)) h.nm
def barsOf (l : Trow) : List Str := (l.map (·.2)).flatten
theorem barsOf_snoc (l : Trow) (p : Stp × List Str) : barsOf (l ++ [p]) = barsOf l ++ p.2 := by
  unfold barsOf
  simp
theorem barsOf_len : ∀ {l : Trow}, (∀ p ∈ l, p.2.length ≤ 40) → (barsOf l).length ≤ 40 * l.length
  | [], _ => Nat.zero_le _
  | p :: r, h => by
    have ih := barsOf_len (l := r) fun q m => h q (List.mem_cons_of_mem _ m)
    have h1 := h p List.mem_cons_self
    have e : barsOf (p :: r) = p.2 ++ barsOf r := rfl
    rw [e, List.length_append, List.length_cons]
    omega
theorem mem_barsOf {l : Trow} {x : Str} : x ∈ barsOf l ↔ ∃ p ∈ l, x ∈ p.2 := by
  unfold barsOf
  simp only [List.mem_flatten, List.mem_map]
  constructor
  · rintro ⟨r, ⟨p, hp, rfl⟩, hx⟩; exact ⟨p, hp, hx⟩
  · rintro ⟨p, hp, hx⟩; exact ⟨_, ⟨p, hp, rfl⟩, hx⟩
def spRulesP (K : PySem.W.Frag) (w : World) : Sp := fun vs H Q _ => ∃ (G : Hp) (p : Addr) (T : List Trow) (bad : List Nat) (names : List Str), vs = [.ref p] ∧ Same G H ∧ PlayIs K w G p T bad ∧ Fit T names ∧
  ∀ l H' G' rs, Gr NoM H G G' H' → SqL K G' l (List.map V.str rs) → Srt strO rs → (∀ x, x ∈ rs ↔ x ∈ barsOf T.flatten) → Q (.ref l) H'
theorem strs_once (bs : List Str) : ∃ rs : List Str, once (bs.map (Sum.inr (α := Int))) = rs.map Sum.inr ∧ rs.Nodup ∧ (∀ x, x ∈ rs ↔ x ∈ bs) := by
  obtain ⟨h1, h2, _, _⟩ := once_spec (bs.map (Sum.inr (α := Int)))
  have : ∀ l : List Key, (∀ k ∈ l, ∃ i : Str, k = Sum.inr i) → ∃ ns : List Str, l = ns.map Sum.inr := by
    intro l
    induction l with
    | nil => intro _; exact ⟨[], rfl⟩
    | cons k r ih =>
      intro h
      obtain ⟨i, rfl⟩ := h k List.mem_cons_self
      obtain ⟨ns, e⟩ := ih fun q m => h q (List.mem_cons_of_mem _ m)
      exact ⟨i :: ns, by rw [e]; rfl⟩
  obtain ⟨rs, e⟩ := this (once (bs.map (Sum.inr (α := Int)))) fun k hk => by
    obtain ⟨b, _, e⟩ := List.mem_map.mp ((h2 k).mp hk)
    exact ⟨b, e.symm⟩
  refine ⟨rs, e, ?_, fun x => ?_⟩
  · rw [e] at h1
    exact List.Pairwise.imp (fun {a b} z w => z (by rw [w])) (List.pairwise_map.mp h1)
  · have h3 := h2 (Sum.inr x)
    rw [e] at h3
    constructor
    · intro m
      obtain ⟨y, hy, q⟩ := List.mem_map.mp (h3.mp (List.mem_map.mpr ⟨x, m, rfl⟩))
      cases q; exact hy
    · intro m
      obtain ⟨y, hy, q⟩ := List.mem_map.mp (h3.mpr (List.mem_map.mpr ⟨x, m, rfl⟩))
      cases q; exact hy
theorem ok_rules (T : Txt K mg) : Mt P w K mg base CX0 2 "rules" (spRulesP K w) := by
  refine mt0 (T.F_Play_rules) sc_Play_rules (fun vs H Q E h => ?_) (fun _ _ _ _ _ _ us hl => match us, hl with | [_], _ => rfl) (fun cdv A outer s H vs Q E hr h => ?_)
  · obtain ⟨G, p, Tb, bad, names, rfl, _⟩ := h
    rfl
  · obtain ⟨G, p, Tb, bad, names, rfl, s0, pl, fit, k⟩ := h
    refine ⟨_, (pss_cons (ps_set (i := 1) sc_Play_rules.nd rfl (by first | exact Or.inl rfl | exact Or.inr rfl) (pe_lst pa_nil))
      (pss_cons (ps_for PassesOwn.never rfl (sqI (KK := K) (mCall0 (ok_steps T) hr (by decide) pass0 (pv 0) T.p_cl T.p_ms)) (pg_name (i := 2) sc_Play_rules.nd rfl (by first | exact Or.inl rfl | exact Or.inr rfl))
        (pss_one (ps_expr (pe_bm PySem.F.plainAttrs_list PySem.F.slot_list_extend PySem.F.type_list_extend (mtExtQ (KK := K)) (pv 1) (pa_cons (pe_ix (ixQ (KK := K)) (pv 2) pe_int (fun _ _ => rfl)) pa_nil)))))
      (pss_one (ps_ret (pe_callB (sortQ (KK := K)) (by rfl) T.f_sorted (by decide +kernel) (pa_cons (pe_cl (ok_each_once T) hr (by decide) pass0 (pa_cons (pv 1) pa_nil)) pa_nil)))))), ?_⟩
    refine ⟨by show 0 ≤ sizeLine; decide, fun F hF => ?_⟩
    dsimp only [tNext, tRet, tOp, tSeq, gName, tAsg]
    have hGF := s0.free hF
    have g0 : Gr NoM H G G (upd H F (.lst [])) := (Gr.start s0).mine hF
    obtain ⟨dx, tl, bl, hp, _⟩ := pl.ex
    refine ⟨_, rfl, p, dx, _, rfl, g0.sub _ _ hp, by rfl, G, p, Tb, bad, rfl, g0.sub, pl, Nat.le_trans fit.few (by decide), fun l H2 G2 xs g2 hl pxs => ?_⟩
    have gA := g0.trans g2
    have hF2 : H2 F = some (.lst []) := g2.keep upd_same
    have hG2 : G2 F = none := g2.out upd_same hGF
    refine ⟨l, rfl, .inl ⟨⟨_, g2.sub.seq hl⟩, fl_G (K := K) (a := l) (xs := xs) (fun i σ H' => ∃ o2, σ = [some (.ref p), some (.ref F), o2] ∧ Gr NoM H G G2 H' ∧ H' F = some (.lst ((barsOf (Tb.flatten.take i)).map V.str))) G2 hl ⟨_, rfl, gA, hF2⟩ (fun i σ H' ⟨_, _, gr, _⟩ => gr.sub) ?_ ?_⟩⟩
    · rintro i v σ H' hv ⟨o2, rfl, gr, hH⟩
      obtain ⟨pr, hpr, t, a, b, c, rt, d, rfl, htup, hrt⟩ := paired_get pxs hv
      have hm := List.mem_of_getElem? hpr
      have b1 := barsOf_len (l := Tb.flatten.take i) fun q m => fit.len (List.mem_of_mem_take m)
      have b2 := fit.len hm
      have b3 := fit.few
      have b4 : (Tb.flatten.take i).length ≤ Tb.flatten.length := by rw [List.length_take]; omega
      refine ⟨_, rfl, .inl ⟨rfl, _, SqL.of hH⟩, ⟨_, rfl, t, _, _, .ref rt, rfl, rfl, .inr (gr.sub.tp htup), atI_nat (j := 3) rfl, F, rt, _, pr.2.map V.str, rfl, rfl, hH, .inr (gr.sub.tp hrt), ?_, ?_⟩⟩
      · rw [List.length_map, List.length_map]; omega
      · refine ⟨_, rfl, gr.chg (.inl hF) hG2, ?_⟩
        rw [upd_same, List.take_succ, hpr]
        show _ = some (HO.lst ((barsOf (Tb.flatten.take i ++ [pr])).map V.str))
        rw [barsOf_snoc, List.map_append]
    · rintro σ H' ⟨o2, rfl, gr, hH⟩
      have e : xs.length = Tb.flatten.length := Paired.length pxs
      rw [e, List.take_length] at hH
      have gg := gr.give hF (fun z => z) hG2 hH
      have b1 := barsOf_len (l := Tb.flatten) fun q m => fit.len m
      have b3 := fit.few
      have e1 : (barsOf Tb.flatten).map V.str = ((barsOf Tb.flatten).map (Sum.inr (α := Int))).map kV := by rw [List.map_map]; rfl
      refine ⟨_, rfl, upd G2 F (.lst ((barsOf Tb.flatten).map V.str)), F, (barsOf Tb.flatten).map Sum.inr, rfl, gg.sub, .inl (SqL.of (by rw [upd_same, e1])), by rw [List.length_map]; omega, fun l2 H3 G3 g3 hl3 => ?_⟩
      obtain ⟨rs, er, rnd, rmem⟩ := strs_once (barsOf Tb.flatten)
      rw [er, List.map_map] at hl3
      have hsub : Sub rs names := fun x m => by
        obtain ⟨q, hq, hx⟩ := mem_barsOf.mp ((rmem x).mp m)
        exact fit.sub q hq x hx
      have hrl := Nat.le_trans (nodup_len rnd hsub) fit.nm
      refine ⟨l2, rs, rfl, .inl (g3.sub.seq hl3), by omega, fun ys p2 hperm hsort hp2 => ?_⟩
      exact k p2 _ _ ys ((gg.trans g3).newN hp2) (SqL.of upd_same) (srt_sortedS (hperm.nodup_iff.mpr rnd) hsort) fun x => hperm.mem_iff.trans (rmem x)
end
end K8
-- K8Chk
set_option maxRecDepth 100000
set_option maxHeartbeats 4000000
namespace K8
open PySem PySem.Spec PyProof.Rows L2
/-! ### checked_rules -/
def chkR : Nat → List Str → List D → Except Nat (List Str)
  | _, f, [] => .ok f
  | i, f, .lf (.str s) :: r => if nameB s && !decide (s ∈ f) then chkR (i + 1) (f ++ [s]) r else .error i
  | i, _, _ :: _ => .error i
def rulesOut : D → Except Nat (List Str)
  | .sq l => chkR 0 [] l
  | _ => .error 0
def setK (f : List Str) : List (Key × V) := f.map fun s => (.inr s, .bl true)
theorem setK_keys (f : List Str) : (setK f).map (·.1) = f.map Sum.inr := by unfold setK; rw [List.map_map]; rfl
theorem setK_snoc (f : List Str) (s : Str) : setK (f ++ [s]) = setK f ++ [(.inr s, .bl true)] := by unfold setK; rw [List.map_append]; rfl
theorem mem_inr {f : List Str} {s : Str} : (Sum.inr s : Key) ∈ f.map Sum.inr ↔ s ∈ f := by
  constructor
  · intro m
    obtain ⟨y, hy, e⟩ := List.mem_map.mp m
    cases e; exact hy
  · exact fun m => List.mem_map.mpr ⟨s, m, rfl⟩
theorem valV_mem {kvs : List (Key × V)} {k : Key} : (valV kvs k).isSome = true ↔ k ∈ kvs.map (·.1) := by
  induction kvs with
  | nil => exact ⟨fun z => Bool.noConfusion z, fun z => by cases z⟩
  | cons p r ih =>
    by_cases e : p.1 = k
    · rw [valV_pos e]
      exact ⟨fun _ => by rw [← e]; exact List.mem_cons_self, fun _ => rfl⟩
    · rw [valV_neg e, ih, List.map_cons, List.mem_cons]
      exact ⟨.inr, fun z => z.elim (fun z => absurd z.symm e) id⟩
theorem setK_val (f : List Str) (s : Str) : (valV (setK f) (.inr s)).isSome = decide (s ∈ f) := by
  rw [Bool.eq_iff_iff, valV_mem, setK_keys, mem_inr, decide_eq_true_iff]
def shortD : D → Prop
  | .sq l => l.length ≤ 1000 ∧ ∀ s, D.lf (.str s) ∈ l → s.cps.size ≤ 1000
  | _ => True
def spCheck (K : PySem.W.Frag) : Sp := fun vs H Q E => ∃ (G : Hp) (v : V) (d : D), vs = [v] ∧ Same G H ∧ Dq K G v d ∧ shortD d ∧
  (∀ f, rulesOut d = .ok f → ∀ p H' G', Gr NoM H G G' H' → G' p = some (.dK (setK f)) → Q (.ref p) H') ∧
  (∀ i, rulesOut d = .error i → ∀ dd H', Same H H' → H' dd = some (xdI (i : Nat)) → E (.ref (He.ga K "BadRules")) (some dd) H')
theorem sc_checked_rules : FnScope ["rules", "found", "index", "rule"] ["rules"] (defScope s_checked_rules) := ⟨rfl, rfl, rfl, by decide +kernel, rfl, by decide +kernel, by decide +kernel⟩
section
variable {P : Program} {w : World} {K : PySem.W.Frag} {mg : Str → Option Value} {base : Heap}
theorem ok_checked_rules (T : Txt K mg) : Cl P w K mg base (L2.CX P w) 3 "checked_rules" (spCheck K) := by
  refine clX (T.F_checked_rules) T.g_checked_rules sc_checked_rules (fun vs H Q E h => ?_) (fun _ _ _ _ _ _ us hl => match us, hl with | [_], _ => rfl) (fun cdv A outer s H vs Q E hr h => ?_)
  · obtain ⟨G, v, d, rfl, _⟩ := h
    rfl
  · obtain ⟨G, v, d, rfl, s0, hd, hsh, k, kE⟩ := h
    refine ⟨_, (pss_cons (ps_if (pt_not (pt_val (pe_cl (ok_is_list T) hr (by decide) pass0 (pa_cons (pv 0) pa_nil))))
        (pss_one (ps_err (ei_R T) T.eR rfl hr (by decide) pass0 (takes_of rfl rfl rfl rfl) T.g_BadRules pe_int))
        pss_nil)
      (pss_cons (ps_set (i := 1) sc_checked_rules.nd rfl (by first | exact Or.inl rfl | exact Or.inr rfl) pe_dnewK)
      (pss_cons (ps_for (passes_of rfl) rfl (enQ (KK := K) (by rfl) T.f_enumerate (pa_cons (pv 0) pa_nil)) (tupG (KK := K) (by rfl) (pgs_cons (pg_name (i := 2) sc_checked_rules.nd rfl (by first | exact Or.inl rfl | exact Or.inr rfl)) (pgs_cons (pg_name (i := 3) sc_checked_rules.nd rfl (by first | exact Or.inl rfl | exact Or.inr rfl)) pgs_nil)))
        (pss_cons (ps_if (PW.pt (pw_or (pt_not (pt_val (pe_cl (ok_is_name T) hr (by decide) pass0 (pa_cons (pv 3) pa_nil)))) (pw_or1 (pt_cmpR (inX (KK := K) (u1 hr)) (pv 3) (pv 1) (by rfl)))))
          (pss_one (ps_err (ei_R T) T.eR rfl hr (by decide) pass0 (takes_of rfl rfl rfl rfl) T.g_BadRules (pv 2)))
          pss_nil)
        (pss_one (ps_dput (u1 hr) (pv 1) (pv 3) pe_bl rfl))))
      (pss_one (ps_ret (pv 1)))))), ?_⟩
    refine ⟨_, rfl, v, d, rfl, Dq.mono s0 _ _ hd, fun H1 s1 => ⟨_, rfl, ?_⟩⟩
    cases hq : isSq d with
    | false =>
      refine ite_y (by rfl) ?_
      refine mk_rd fun dd hdd => ?_
      have e : rulesOut d = .error 0 := by cases d <;> first | rfl | cases hq
      exact kE 0 e dd _ (s1.to_upd hdd) upd_same
    | true =>
      obtain ⟨l, rfl⟩ : ∃ l, d = .sq l := by
        cases d with
        | sq l => exact ⟨l, rfl⟩
        | lf v => cases hq
      obtain ⟨a0, xs, rfl, src, ha⟩ := hd.seq
      refine ite_n (by rfl) ?_
      intro F hF
      dsimp only [tNext, tRet, tOp, tSeq, gName, tAsg]
      have g1 : Gr NoM H G G H1 := Gr.of s0 s1
      refine for_enG (K := K) (a := a0) (xs := xs) (fun i σ H' => ∃ o2 o3 f, σ = [some (.ref a0), some (.ref F), o2, o3] ∧ Gr NoM H G G H' ∧ H' F = some (.dK (setK f)) ∧ f.length ≤ i ∧ chkR i f (l.drop i) = rulesOut (.sq l)) G (fun R' r => ⟨_, rfl, r⟩) (g1.mine hF).sub src ⟨_, _, [], rfl, g1.mine hF, upd_same, Nat.le_refl _, rfl⟩ (fun i σ H' ⟨_, _, _, _, gr, _⟩ => gr.sub) ?_ ?_
      · rintro i v T0 σ H' hx ⟨o2, o3, f, rfl, g3, hHF, hfl, hchk⟩ hT
        obtain ⟨d, hd', hq'⟩ := ha.get hx
        have hdrop : l.drop i = d :: l.drop (i + 1) := by
          obtain ⟨hi, e⟩ := List.getElem?_eq_some_iff.mp hd'
          rw [List.drop_eq_getElem_cons hi, e]
        rw [hdrop] at hchk
        have gT := g3.mine (o := .tup [.int (i : Nat), v]) hT
        have hFT : F ≠ T0 := ne_sn hHF hT
        refine ⟨T0, _, rfl, SqT.of upd_same, rfl, ⟨_, _, rfl, ⟨_, _, rfl, ⟨rfl, ?_⟩⟩⟩⟩
        have hm : d ∈ l := List.mem_of_getElem? hd'
        refine ⟨_, rfl, v, d, rfl, Dq.mono gT.sub _ _ hq', fun x e => ?_, fun H4 s4 => ⟨_, rfl, ?_⟩⟩
        · subst e
          cases hq'
          exact hsh.2 x hm
        have h4F : H4 F = some (.dK (setK f)) := s4 _ _ (by rw [upd_ne hFT]; exact hHF)
        have g4 : Gr NoM H G G H4 := ⟨Same.refl _, gT.sub.trans s4, fun c o e _ => s4 c o (gT.same c o e), fun _ _ e => e⟩
        refine ite_b (fun hnn => ?_) (fun hnn => ?_)
        · refine iteT ?_
          refine ⟨_, rfl, mk_rd fun dd hdd => ?_⟩
          have e : rulesOut (.sq l) = .error i := by
            rw [← hchk]
            have hnn : isName d = false := by simpa using hnn
            cases d with
            | sq _ => rfl
            | lf v =>
              cases v with
              | str x =>
                have : nameB x = false := hnn
                unfold chkR
                rw [this, Bool.false_and, if_neg Bool.false_ne_true]
              | _ => rfl
          exact kE i e dd _ (g4.same.to_upd hdd) upd_same
        · have hnn : isName d = true := by simpa using hnn
          obtain ⟨x, rfl⟩ : ∃ x, d = .lf (.str x) := by
            cases d with
            | sq _ => cases hnn
            | lf v => cases v <;> first | exact ⟨_, rfl⟩ | cases hnn
          cases hq'
          have hnx : nameB x = true := hnn
          refine ⟨_, rfl, _, rfl, F, _, rfl, .inr ⟨setK f, .inr x, .inl h4F, rfl, rfl⟩, _, rfl, ?_⟩
          show if (valV (setK f) (.inr x)).isSome = true then _ else _
          rw [setK_val]
          refine ite_b (fun hin => ?_) (fun hin => ?_)
          · refine ⟨_, rfl, mk_rd fun dd hdd => ?_⟩
            have e : rulesOut (.sq l) = .error i := by
              rw [← hchk]
              unfold chkR
              rw [hin, Bool.not_true, Bool.and_false, if_neg Bool.false_ne_true]
            exact kE i e dd _ (g4.same.to_upd hdd) upd_same
          · have hnm : x ∉ f := of_decide_eq_false hin
            have ek : putK (setK f) (.inr x) (.bl true) = setK (f ++ [x]) := by
              rw [setK_snoc]
              exact K8.putK_new (by rw [setK_keys, mem_inr]; exact hnm)
            refine ⟨_, rfl, _, rfl, F, _, rfl, .inl ⟨setK f, .inr x, h4F, rfl, ?_, rfl⟩, ?_⟩
            · have h1 := (List.getElem?_eq_some_iff.mp hd').1
              have h2 := hsh.1
              have e : (100000 : Nat) < sizeLine := by decide
              unfold setK
              rw [List.length_map]
              omega
            · refine ⟨_, _, f ++ [x], rfl, g4.chg (.inl ((g1.same).free hF)) (g1.sub.free hF), by rw [upd_same, ek], by rw [List.length_append]; exact Nat.succ_le_succ hfl, ?_⟩
              rw [← hchk]
              conv => rhs; unfold chkR
              rw [hnx, hin, Bool.not_false, Bool.and_true, if_pos rfl]
      · rintro σ H' ⟨o2, o3, f, rfl, g3, hHF, hfl, hchk⟩
        have hlen : xs.length = l.length := ha.length
        rw [hlen, List.drop_length] at hchk
        have hHFn : H F = none := g1.same.free hF
        exact ⟨_, rfl, k f hchk.symm F H' _ (g3.give hHFn (fun z => z) (g1.sub.free hF) hHF) upd_same⟩
end
end K8
-- K8Under
set_option maxRecDepth 100000
set_option maxHeartbeats 4000000
namespace K8
open PySem PySem.Spec PyProof.Rows L2
abbrev ARow := List (NestedKey × Nat)
def rowE (r : Trow) : Row NestedKey Str := r.map fun p => (keyD p.1.wd, p.1.oth, p.2)
def adjQ (q : Str → Bool) (T : List Trow) : List ARow := adjOf q (T.map rowE)
def AdjIs (K : PySem.W.Frag) (w : World) (G : Hp) (a : Addr) (row : ARow) : Prop := ∃ kvs ep, WD K w G a kvs ep ∧ kvs.map (fun x => (x.1, x.2.2)) = row.map fun e => (e.1, natV e.2)
theorem AdjIs.same {K : PySem.W.Frag} {w : World} {G H : Hp} {a : Addr} {row : ARow} (s : Same G H) (h : AdjIs K w G a row) : AdjIs K w H a row := let ⟨k, e, d, r⟩ := h; ⟨k, e, d.same s, r⟩
theorem wV_at {kvs : List WE} (hn : (kvs.map (·.1)).Nodup) {i : Nat} {k : NestedKey} {x v : V} (h : kvs[i]? = some (k, x, v)) : wV kvs k = some v := by
  unfold wV
  induction kvs generalizing i with
  | nil => simp at h
  | cons p r ih =>
    obtain ⟨n1, n2⟩ := List.nodup_cons.mp hn
    cases i with
    | zero =>
      have e : p = (k, x, v) := by simpa using h
      subst e
      rw [List.find?_cons_of_pos (by simp)]
      rfl
    | succ j =>
      have h : r[j]? = some (k, x, v) := by simpa using h
      have hk : k ∈ r.map (·.1) := List.mem_map.mpr ⟨_, List.mem_of_getElem? h, rfl⟩
      rw [List.find?_cons_of_neg (by
        intro z
        have z : p.1 = k := by simpa using z
        exact n1 (by show p.1 ∈ _; rw [z]; exact hk))]
      exact ih n2 h
section
variable {K : PySem.W.Frag} {w : World}
theorem rowE_snoc {row : Trow} {i : Nat} {p : Stp × List Str} (h : row[i]? = some p) (q : Str → Bool) : keepRow q (rowE (row.take (i + 1))) = keepRow q (rowE (row.take i)) ++ (if p.2.all q = true then [(keyD p.1.wd, p.1.oth)] else []) := by
  have e : rowE (row.take (i + 1)) = rowE (row.take i) ++ [(keyD p.1.wd, p.1.oth, p.2)] := by
    unfold rowE
    rw [all_snoc (f := fun p : Stp × List Str => (keyD p.1.wd, p.1.oth, p.2)) h]
  rw [e]
  unfold keepRow
  rw [List.filter_append, List.map_append]
  by_cases c : p.2.all q = true
  · rw [if_pos c]
    simp [c]
  · rw [if_neg c]
    simp [c]
theorem row_comp {tt : TT} {σ : L2.St} {H G : Hp} {a : Addr} {row : Trow} {q : Str → Bool} {Q : VK} {i j : Nat} (hi : σ[i]? = some (some (.ref a))) (hij : i ≠ j) (hj : j < σ.length) (s : Same G H) (hr : RowIs K w G a row)
    (ht : ∀ (x v : V) (p : Stp × List Str) (kvs : List WE) (ep : Nat) (H' : Hp) (R : Bool → Hp → Prop), Same G H' → p ∈ row → KS K H' v p.1 p.2 → WD K w H' a kvs ep → Dp K H' x (keyD p.1.wd).data → (keyD p.1.wd).depth ≤ 8 → wV kvs (keyD p.1.wd) = some v → (∀ H'', Same H' H'' → R (p.2.all q) H'') → tt ((wipe σ [j]).set j (some x)) H' R)
    (hd : ∀ D H' G', Gr NoM H G G' H' → AdjIs K w G' D (keepRow q (rowE row)) → Q (.ref D) H') : tDcW K w (iKeysW w (tVar i)) (gName j) tt (tVar j) (tOp (rIxQ K) (tWGet K w (tVar i) (tVar j)) (tC (.int 2))) [j] σ H Q := by
  obtain ⟨kvs, ep, wd, rk⟩ := hr
  have hlen : kvs.length = row.length := Paired.length rk
  refine ⟨_, hi, a, kvs, ep, rfl, wd.sm, (wd.same s).rd, fun D hD hsm => ?_⟩
  refine dw_it (M := NoM) (K := K) walk_w (fun _ _ _ _ y => y.1) (fun n ks _ => ks.map (fun x => (x.1, x.2.2)) = (keepRow q (rowE (row.take n))).map fun e => (e.1, natV e.2)) hD (fun z => z) hsm s (fun G' H' gr => (wd.same (gr.up.trans gr.sub)).rd) wd.sz rfl ?_ ?_
  · rintro n x ks G1 H1 hn ⟨_, k, v, hk⟩ gr hks
    intro Ky Kn ky kn
    obtain ⟨p, hp, ek, ksv⟩ := paired_get rk hk
    have ek : k = keyD p.1.wd := ek
    subst ek
    have hm := List.mem_of_getElem? hk
    have wd1 := wd.same (gr.up.trans gr.sub)
    obtain ⟨dp, d8⟩ := wd1.key _ hm
    have hv := wV_at wd.nd hk
    have hσ : ((wipe σ [j]).set j (some x))[i]? = some (some (.ref a)) := by
      show (((σ.set j none)).set j (some x))[i]? = _
      rw [List.getElem?_set_ne (Ne.symm hij), List.getElem?_set_ne (Ne.symm hij)]
      exact hi
    have hσj : ((wipe σ [j]).set j (some x))[j]? = some (some x) := by
      show (((σ.set j none)).set j (some x))[j]? = _
      rw [List.getElem?_set_self (by rw [List.length_set]; exact hj)]
    refine ⟨by show (((σ.set j none).set j (some x)).set j none) = σ.set j none; rw [List.set_set, List.set_set], ?_⟩
    refine ht x v p kvs ep H1 _ (gr.up.trans gr.sub) (List.mem_of_getElem? hp) (ksv.same (gr.up.trans gr.sub)) wd1 dp d8 hv fun H2 s2 => ?_
    have hsn := rowE_snoc hp q
    by_cases c : p.2.all q = true
    · refine ite_y c ?_
      rw [if_pos c] at hsn
      obtain ⟨t, w', rt, sd', rfl, htup, hdp, hrt, _⟩ := (ksv.same (gr.up.trans (gr.sub.trans s2))).ex
      refine ⟨_, hσj, _, hσ, _, hσj, a, kvs, ep, _, _, rfl, wd1.same s2, dp_mono s2 dp, d8, hv, ?_⟩
      refine ⟨t, _, 2, .int (p.1.oth : Nat), rfl, rfl, .inr htup, atI_nat (j := 2) rfl, ?_⟩
      refine ky x _ (keyD p.1.wd) H2 G1 (Gr.of gr.sub s2) ?_ d8 ?_ ?_
      · have dpG := (wd.same gr.up).key _ hm
        exact dpG.1
      · refine wV_none_of fun y hy e => ?_
        have h1 : y.1 ∈ (keepRow q (rowE (row.take n))).map (·.1) := by
          have e1 := congrArg (List.map Prod.fst) hks
          rw [List.map_map, List.map_map] at e1
          have h2 : y.1 ∈ ks.map (Prod.fst ∘ fun x : WE => (x.1, x.2.2)) := List.mem_map.mpr ⟨y, hy, rfl⟩
          rw [e1] at h2
          obtain ⟨z, hz, e2⟩ := List.mem_map.mp h2
          exact List.mem_map.mpr ⟨z, hz, e2⟩
        obtain ⟨z, hz, ez⟩ := List.mem_map.mp h1
        obtain ⟨R0, mR, _⟩ := mem_keepRow.mp (show (z.1, z.2) ∈ _ from hz)
        obtain ⟨p2, hp2, e3⟩ := List.mem_map.mp mR
        have e4 : keyD p2.1.wd = z.1 := congrArg Prod.fst e3
        obtain ⟨m, hm2, em⟩ := List.getElem_of_mem hp2
        rw [List.length_take] at hm2
        rw [List.getElem_take] at em
        obtain ⟨x2, hx2⟩ : ∃ x2, kvs[m]? = some x2 := ⟨_, List.getElem?_eq_getElem (by omega)⟩
        obtain ⟨p3, hp3, e5, _⟩ := paired_get rk hx2
        have e6 : p3 = p2 := by
          have z1 := (List.getElem?_eq_some_iff.mp hp3).2
          rw [← z1, ← em]
        subst e6
        have k1 : (kvs.map (·.1))[m]? = some (keyD p.1.wd) := by
          rw [List.getElem?_map, hx2]
          show some x2.1 = _
          rw [e5, e4, ez, e]
        have k2 : (kvs.map (·.1))[n]? = some (keyD p.1.wd) := by rw [List.getElem?_map, hk]; rfl
        have := nodup_idx wd.nd k1 k2
        omega
      · show List.map _ (ks ++ [_]) = _
        rw [List.map_append, hks, hsn, List.map_append]
        rfl
    · refine ite_n (by simpa using c) ?_
      rw [if_neg c, List.append_nil] at hsn
      refine kn H2 G1 (Gr.of gr.sub s2) ?_
      show _ = _
      rw [hsn]
      exact hks
  · rintro ks ep2 G1 H1 gr hg wd2 hks
    refine hd D H1 _ gr ⟨ks, ep2, wd2, ?_⟩
    rw [hlen, List.take_length] at hks
    exact hks
end
/-! ### can_be_done, is_part -/
def spCan (K : PySem.W.Frag) : Sp := fun vs H Q _ => ∃ (t rt p : Addr) (a b c d : V) (rs f : List Str), vs = [.ref t, .ref p] ∧ SqT K H t [a, b, c, .ref rt, d] ∧ SqT K H rt (rs.map V.str) ∧ rs.length ≤ 1000 ∧ H p = some (.dK (setK f)) ∧ ∀ H', Same H H' → Q (.bl (rs.all fun r => !decide (r ∈ f))) H'
/-- is_part: a list or tuple of names in a list, a tuple, a dict of such -/
def Has (K : PySem.W.Frag) (H : Hp) (p : Addr) (f : List Str) : Prop := Sq K H p (f.map V.str) ∨ H p = some (.dK (setK f))
theorem Has.same {K : PySem.W.Frag} {G H : Hp} {p : Addr} {f : List Str} (s : Same G H) (h : Has K G p f) : Has K H p f := h.elim (fun h => .inl (s.q h)) fun h => .inr (s _ _ h)
def spPart (K : PySem.W.Frag) : Sp := fun vs H Q _ => ∃ (a p : Addr) (rs f : List Str), vs = [.ref a, .ref p] ∧ Sq K H a (rs.map V.str) ∧ rs.length ≤ 1000 ∧ Has K H p f ∧ ∀ H', Same H H' → Q (.bl (part rs f)) H'
theorem flat_strs (f : List Str) : (f.map V.str).all flatV = true := by
  rw [List.all_map]
  exact List.all_eq_true.mpr fun _ _ => rfl
theorem inV_strs (x : Str) (f : List Str) : inV (.str x) (f.map V.str) = decide (x ∈ f) := by
  unfold inV
  rw [List.any_map, Bool.eq_iff_iff, List.any_eq_true, decide_eq_true_iff]
  constructor
  · rintro ⟨y, hy, e⟩
    have e : (y == x) = true := e
    rw [← eq_of_beq e]; exact hy
  · intro m
    refine ⟨x, m, ?_⟩
    show (x == x) = true
    exact beq_self_eq_true x
theorem Has.rd {K : PySem.W.Frag} {H : Hp} {p : Addr} {f : List Str} {x : Str} {Q : VK} (h : Has K H p f) (q : Q (.bl (decide (x ∈ f))) H) : rInX K false (.str x) (.ref p) H Q := by
  refine ⟨p, decide (x ∈ f), rfl, ?_, q⟩
  rcases h with h | h
  · exact .inl ⟨_, h, rfl, flat_strs f, (inV_strs x f).symm⟩
  · exact .inr ⟨setK f, .inr x, .inl h, rfl, (setK_val f x).symm⟩
theorem sc_can_be_done : FnScope ["step", "rules", "rule"] ["step", "rules"] (defScope s_can_be_done) := ⟨rfl, rfl, rfl, by decide +kernel, rfl, by decide +kernel, by decide +kernel⟩
theorem sc_is_part : FnScope ["one", "other", "thing"] ["one", "other"] (defScope s_is_part) := ⟨rfl, rfl, rfl, by decide +kernel, rfl, by decide +kernel, by decide +kernel⟩
theorem sc_steps_under : FnScope ["play", "rules", "found", "row", "word"] ["play", "rules"] (defScope s_steps_under) := ⟨rfl, rfl, rfl, by decide +kernel, rfl, by decide +kernel, by decide +kernel⟩
section
variable {P : Program} {w : World} {K : PySem.W.Frag} {mg : Str → Option Value} {base : Heap}
theorem ok_can_be_done (T : Txt K mg) : Cl P w K mg base CX0 1 "can_be_done" (spCan K) := by
  refine cl0 (T.F_can_be_done) T.g_can_be_done sc_can_be_done (fun vs H Q E h => ?_) (fun _ _ _ _ _ _ us hl => match us, hl with | [_, _], _ => rfl) (fun cdv A outer s H vs Q E hr h => ?_)
  · obtain ⟨t, rt, p, a, b, c, d, rs, f, rfl, _⟩ := h
    rfl
  · obtain ⟨t, rt, p, a, b, c, d, rs, f, rfl, ht, hrt, hl, hp, k⟩ := h
    refine ⟨_, (pss_one (ps_ret (pe_not (pe_callB (anyK (KK := K) rfl) (by rfl) T.f_any (by decide +kernel) (pa_cons (pe_lc (own := [("rule", 2)]) rfl sc_can_be_done.nd (sqI (KK := K) (pe_ix (ixQ (KK := K)) (pv 0) pe_int (fun _ _ => rfl))) (blkOk_by (by kernel_rfl)) (fun _ _ _ _ _ => (pg_name (i := 2) sc_can_be_done.nd rfl (by first | exact Or.inl rfl | exact Or.inr rfl))) (fun _ _ _ _ _ => pts_nil) (fun _ _ _ _ _ => (pe_cmpR (inX (KK := K) (u1 hr)) (pv 2) (pv 1) (by rfl)))) pa_nil))))), ?_⟩
    refine cb1 ⟨_, rfl, t, _, _, .ref rt, rfl, rfl, .inr ht, atI_nat (j := 3) rfl, rt, rfl, .inr ⟨⟨_, hrt⟩, fun D hD => lc_gt (M := NoM) (G1 := H) (fun i acc _ => acc = (rs.take i).map fun r => V.bl (decide (r ∈ f))) hD (fun z => z) (Same.refl H) hrt (by rw [List.length_map]; exact Nat.le_trans hl (by decide)) rfl ?_ ?_⟩⟩
    · rintro i x acc G H3 hx gr hl rfl
      intro Ky Kn ky kn
      refine ⟨rfl, y_te ?_⟩
      rw [List.getElem?_map, Option.map_eq_some_iff] at hx
      obtain ⟨r, hr', rfl⟩ := hx
      refine ⟨_, rfl, _, rfl, Has.rd (.inr (gr.same' _ _ hp)) ?_⟩
      exact ky _ H3 G (Gr.start gr.sub) (by show _ = _; rw [all_snoc (f := fun r => V.bl (decide (r ∈ f))) hr'])
    · rintro acc G H3 gr hg hl rfl
      rw [List.length_map, List.take_length] at gr
      refine ⟨D, rs.map fun r => decide (r ∈ f), rfl, SqL.of (by rw [gr.sub D _ upd_same, List.map_map]; rfl), ?_⟩
      have q := k H3 gr.same
      refine ⟨_, rfl, ?_⟩
      have e : (rs.all fun r => !decide (r ∈ f)) = !((rs.map fun r => decide (r ∈ f)).any id) := by
        rw [List.any_map, ← List.not_any_eq_all_not]
        rfl
      rw [e] at q
      exact q
theorem ok_is_part (T : Txt K mg) : Cl P w K mg base CX0 1 "is_part" (spPart K) := by
  refine cl0 (T.F_is_part) T.g_is_part sc_is_part (fun vs H Q E h => ?_) (fun _ _ _ _ _ _ us hl => match us, hl with | [_, _], _ => rfl) (fun cdv A outer s H vs Q E hr h => ?_)
  · obtain ⟨a, p, rs, f, rfl, _⟩ := h
    rfl
  · obtain ⟨a, p, rs, f, rfl, ha, hl, hp, k⟩ := h
    refine ⟨_, (pss_one (ps_ret (pe_callB (allK (KK := K) rfl) (by rfl) T.f_all (by decide +kernel) (pa_cons (pe_lc (own := [("thing", 2)]) rfl sc_is_part.nd (sqI (KK := K) (pv 0)) (blkOk_by (by kernel_rfl)) (fun _ _ _ _ _ => (pg_name (i := 2) sc_is_part.nd rfl (by first | exact Or.inl rfl | exact Or.inr rfl))) (fun _ _ _ _ _ => pts_nil) (fun _ _ _ _ _ => (pe_cmpR (inX (KK := K) (u1 hr)) (pv 2) (pv 1) (by rfl)))) pa_nil)))), ?_⟩
    refine cb1 (lc_any (M := NoM) (.ref a) H (fun i acc _ => acc = (rs.take i).map fun r => V.bl (decide (r ∈ f))) (fun R' r => ⟨_, rfl, r⟩) rfl (fun _ _ z => z) (Same.refl H) ha (by rw [List.length_map]; exact Nat.le_trans hl (by decide)) rfl ?_ ?_)
    · rintro D hD i x acc G H3 hx gr hl rfl
      intro Ky Kn ky kn
      refine ⟨rfl, y_te ?_⟩
      rw [List.getElem?_map, Option.map_eq_some_iff] at hx
      obtain ⟨r, hr', rfl⟩ := hx
      refine ⟨_, rfl, _, rfl, Has.rd (hp.same gr.same') ?_⟩
      exact ky _ H3 G (Gr.start gr.sub) (by show _ = _; rw [all_snoc (f := fun r => V.bl (decide (r ∈ f))) hr'])
    · rintro D acc G H3 hD gr hg hl rfl
      rw [List.length_map, List.take_length] at gr
      refine ⟨D, rs.map fun r => decide (r ∈ f), rfl, SqL.of (by rw [gr.sub D _ upd_same, List.map_map]; rfl), ?_⟩
      have q := k H3 gr.same
      have e : part rs f = (rs.map fun r => decide (r ∈ f)).all id := by
        unfold part
        rw [List.all_map]; rfl
      rw [e] at q
      exact q
def LAdj (K : PySem.W.Frag) (w : World) (G : Hp) (l : Addr) (adj : List ARow) : Prop := ∃ as : List Addr, SqL K G l (as.map V.ref) ∧ Paired (AdjIs K w G) as adj
theorem LAdj.same {G H : Hp} {l : Addr} {adj : List ARow} (s : Same G H) (h : LAdj K w G l adj) : LAdj K w H l adj := let ⟨as, a, b⟩ := h; ⟨as, s.seq a, pair_imp (fun _ _ => AdjIs.same s) b⟩
def spUnder (K : PySem.W.Frag) (w : World) : Sp := fun vs H Q _ => ∃ (G : Hp) (pl p : Addr) (T : List Trow) (bad : List Nat) (f names : List Str), vs = [.ref pl, .ref p] ∧ Same G H ∧ PlayIs K w G pl T bad ∧ G p = some (.dK (setK f)) ∧ Fit T names ∧ T.length ≤ 1000 ∧
  ∀ l H' G', Gr NoM H G G' H' → LAdj K w G' l (adjQ (fun r => !decide (r ∈ f)) T) → Q (.ref l) H'
theorem fit_row {T : List Trow} {names : List Str} (h : Fit T names) {i : Nat} {row : Trow} (hr : T[i]? = some row) {p : Stp × List Str} (m : p ∈ row) : p ∈ T.flatten := List.mem_flatten.mpr ⟨row, List.mem_of_getElem? hr, m⟩
theorem adj_take {T : List Trow} {q : Str → Bool} {i : Nat} {row : Trow} (h : T[i]? = some row) : adjQ q (T.take (i + 1)) = adjQ q (T.take i) ++ [keepRow q (rowE row)] := by
  unfold adjQ adjOf
  rw [List.take_succ, h]
  simp
theorem ok_steps_under (T : Txt K mg) : Cl P w K mg base CX0 2 "steps_under" (spUnder K w) := by
  refine cl0 (T.F_steps_under) T.g_steps_under sc_steps_under (fun vs H Q E h => ?_) (fun _ _ _ _ _ _ us hl => match us, hl with | [_, _], _ => rfl) (fun cdv A outer s H vs Q E hr h => ?_)
  · obtain ⟨G, pl, p, Tb, bad, f, names, rfl, _⟩ := h
    rfl
  · obtain ⟨G, pl, p, Tb, bad, f, names, rfl, s0, play, hp, fit, hT, k⟩ := h
    refine ⟨_, (pss_cons (ps_set (i := 2) sc_steps_under.nd rfl (by first | exact Or.inl rfl | exact Or.inr rfl) (pe_lst pa_nil))
      (pss_cons (ps_for PassesOwn.never rfl (sqI (KK := K) (fldK (KK := K) (pv 0) rfl)) (pg_name (i := 3) sc_steps_under.nd rfl (by first | exact Or.inl rfl | exact Or.inr rfl))
        (pss_one (ps_expr (pe_bm PySem.F.plainAttrs_list PySem.F.slot_list_append PySem.F.type_list_append mt_append (pv 2) (pa_cons (pe_dcw (u8 hr) (ow := [("word", 4)]) rfl sc_steps_under.nd (wKeys (ww := w) (pv 3)) (blkOk_by (by kernel_rfl)) (fun _ _ _ _ _ => (pg_name (i := 4) sc_steps_under.nd rfl (by first | exact Or.inl rfl | exact Or.inr rfl))) (fun _ _ _ _ _ => (pts_one (pt_val (pe_cl (ok_can_be_done T) hr (by decide) pass0 (pa_cons (wGet (KK := K) (ww := w) (u9 hr) (pv 3) (pv 4) (fun _ _ => rfl)) (pa_cons (pv 1) pa_nil)))))) (fun _ _ _ _ _ => (pv 4)) (fun _ _ _ _ _ => (pe_ix (ixQ (KK := K)) (wGet (KK := K) (ww := w) (u9 hr) (pv 3) (pv 4) (fun _ _ => rfl)) pe_int (fun _ _ => rfl)))) pa_nil)))))
      (pss_one (ps_ret (pv 2))))), ?_⟩
    refine ⟨by show 0 ≤ sizeLine; decide, fun F hF => ?_⟩
    dsimp only [tNext, tRet, tOp, tSeq, gName, tAsg]
    have hGF := s0.free hF
    have g0 : Gr NoM H G G (upd H F (.lst [])) := (Gr.start s0).mine hF
    obtain ⟨dx, tl, bl, hpl, ⟨as0, has, pas⟩, _⟩ := play.ex
    refine for_sqG (K := K) (a := tl) (xs := as0.map V.ref) (fun i σ H' => ∃ o3 o4 G2 as, σ = [some (.ref pl), some (.ref p), some (.ref F), o3, o4] ∧ Gr NoM H G G2 H' ∧ H' F = some (.lst (List.map V.ref as)) ∧ G2 F = none ∧ Paired (AdjIs K w G2) as (adjQ (fun r => !decide (r ∈ f)) (Tb.take i))) G (fun R' r => ⟨_, rfl, pl, aPlay K, dx, _, .ref tl, rfl, g0.sub _ _ hpl, T.p_cl, T.p_nT, rfl, r⟩) g0.sub (.inl has) ⟨_, _, G, [], rfl, g0, upd_same, hGF, .nil⟩ (fun i σ H' ⟨_, _, _, _, _, gr, _⟩ => gr.same') ?_ ?_
    · rintro i v σ H' hv ⟨o3, o4, G2, as, rfl, g2, hHF, hG2F, pas2⟩
      rw [List.getElem?_map, Option.map_eq_some_iff] at hv
      obtain ⟨a, ha, rfl⟩ := hv
      obtain ⟨row, hrow, ra⟩ := paired_get pas ha
      have ra2 := ra.same g2.up
      refine ⟨_, rfl, .inl ⟨rfl, _, SqL.of hHF⟩, ?_⟩
      refine row_comp (q := fun r => !decide (r ∈ f)) (i := 3) (j := 4) rfl (by decide) (by show 4 < 5; decide) g2.sub ra2 (fun x v pr kvs ep H5 R sG5 hpm ks wd dp d8 hv kR => ?_) (fun D H5 G5 g5 adj => ?_)
      · obtain ⟨t, w', rt, sd', rfl, htup, hdp, hrt, _⟩ := ks.ex
        have hp5 : H5 p = some (.dK (setK f)) := sG5 _ _ (g2.up _ _ hp)
        refine ⟨_, rfl, _, rfl, a, kvs, ep, _, _, rfl, wd, dp, d8, hv, _, rfl, t, rt, p, _, _, _, _, pr.2, f, rfl, htup, hrt, Nat.le_trans (fit.len (fit_row fit hrow hpm)) (by decide), hp5, fun H6 s6 => ⟨_, rfl, kR H6 s6⟩⟩
      · have gg := g2.trans g5
        have hF5 := g5.keep hHF
        have hG5F := g5.out hHF hG2F
        have hl2 := Paired.length pas2
        have hl3 : (adjQ (fun r => !decide (r ∈ f)) (Tb.take i)).length ≤ 1000 := by
          unfold adjQ adjOf
          rw [List.length_map, List.length_map, List.length_take]
          omega
        refine ⟨F, _, .ref D, rfl, rfl, hF5, by rw [List.length_map, hl2]; exact Nat.lt_of_le_of_lt hl3 (by decide), ?_⟩
        refine ⟨_, _, G5, as ++ [D], rfl, gg.chg (.inl hF) hG5F, by rw [upd_same, List.map_append]; rfl, hG5F, ?_⟩
        rw [adj_take hrow]
        exact pair_snoc adj (pair_imp (fun _ _ => AdjIs.same g5.up) pas2)
    · rintro σ H' ⟨o3, o4, G2, as, rfl, g2, hHF, hG2F, pas2⟩
      have e : (as0.map V.ref).length = Tb.length := by rw [List.length_map]; exact Paired.length pas
      rw [e, List.take_length] at pas2
      exact ⟨_, rfl, k F H' _ (g2.give hF (fun z => z) hG2F hHF) ⟨as, SqL.of upd_same, pair_imp (fun _ _ => AdjIs.same (Same.upd_none hG2F)) pas2⟩⟩
end
end K8
-- K8Behind
set_option maxRecDepth 100000
set_option maxHeartbeats 4000000
namespace K8
open PySem PySem.Spec PyProof.Rows L2
/-! ### stand_behind -/
def stepTo (row : ARow) (k : NestedKey) : Option Nat := (row.find? fun e => decide (e.1 = k)).map (·.2)
def behindE (adj : List ARow) : Nat → Nat → List D → Except Nat Nat
  | _, here, [] => .ok here
  | i, here, d :: r => if isWord d then match stepTo (rowAt adj here) (keyD d) with
    | some v => behindE adj (i + 1) v r
    | none => .error i else .error i
def behindD (adj : List ARow) : D → Except Nat Nat
  | .sq l => behindE adj 0 0 l
  | _ => .error 0
def fineD : D → Prop
  | .sq l => l.length ≤ 1000 ∧ ∀ d ∈ l, dep d < 3 ∧ wide d ≤ 1000
  | _ => True
/-- the table's stands are stands -/
def Closed (T : List Trow) : Prop := 0 < T.length ∧ ∀ row ∈ T, ∀ p ∈ row, p.1.oth < T.length
section
variable {K : PySem.W.Frag} {w : World}
theorem adj_find {row : ARow} {k : NestedKey} : ∀ {kvs : List WE} {row : ARow}, kvs.map (fun x => (x.1, x.2.2)) = row.map (fun e => (e.1, natV e.2)) → wV kvs k = (stepTo row k).map natV
  | [], [], _ => rfl
  | [], _ :: _, h => by simp at h
  | _ :: _, [], h => by simp at h
  | x :: r, e :: t, h => by
    have h : (x.1, x.2.2) :: r.map (fun x => (x.1, x.2.2)) = (e.1, natV e.2) :: t.map (fun e => (e.1, natV e.2)) := h
    injection h with h1 h2
    injection h1 with h3 h4
    have ih := adj_find (row := t) (k := k) h2
    unfold wV stepTo at ih ⊢
    by_cases c : x.1 = k
    · rw [List.find?_cons_of_pos (by simpa using c), List.find?_cons_of_pos (by simpa using h3 ▸ c)]
      show some x.2.2 = some (natV e.2)
      rw [h4]
    · rw [List.find?_cons_of_neg (by simpa using c), List.find?_cons_of_neg (by simpa using h3 ▸ c)]
      exact ih
theorem stepTo_mem {row : ARow} {k : NestedKey} {v : Nat} (h : stepTo row k = some v) : (k, v) ∈ row := by
  unfold stepTo at h
  rw [Option.map_eq_some_iff] at h
  obtain ⟨e, he, rfl⟩ := h
  have h1 := List.find?_some he
  have h2 : e.1 = k := by simpa using h1
  have h3 := List.mem_of_find?_eq_some he
  rw [← h2]
  exact h3
theorem LAdj.row {G H : Hp} {l : Addr} {adj : List ARow} {u : Nat} (h : LAdj K w G l adj) (s : Same G H) (hu : u < adj.length) : ∃ a as kvs ep, SqL K H l as ∧ as[u]? = some (V.ref a) ∧ WD K w H a kvs ep ∧ kvs.map (fun x => (x.1, x.2.2)) = (rowAt adj u).map fun e => (e.1, natV e.2) := by
  obtain ⟨as, has, pas⟩ := h
  have hl := Paired.length pas
  obtain ⟨a, ha⟩ : ∃ a, as[u]? = some a := ⟨_, List.getElem?_eq_getElem (by omega)⟩
  obtain ⟨row, hrow, kvs, ep, wd, e⟩ := paired_get pas ha
  refine ⟨a, _, kvs, ep, s.seq has, by rw [List.getElem?_map, ha]; rfl, wd.same s, ?_⟩
  rw [rowAt_some hrow]
  exact e
theorem adj_lt {T : List Trow} {q : Str → Bool} (hc : Closed T) {u v : Nat} {k : NestedKey} (h : (k, v) ∈ rowAt (adjQ q T) u) : v < T.length := by
  unfold adjQ at h
  rw [rowAt_adjOf] at h
  obtain ⟨R, m, _⟩ := mem_keepRow.mp h
  rw [rowAt_map rowE rfl] at m
  obtain ⟨p, hp, e⟩ := List.mem_map.mp m
  injection e with e1 e2
  injection e2 with e2 e3
  rw [← e2]
  cases hr : T[u]? with
  | none => rw [rowAt_none hr] at hp; cases hp
  | some row =>
    rw [rowAt_some hr] at hp
    exact hc.2 row (List.mem_of_getElem? hr) p hp
end
def spBehind (K : PySem.W.Frag) (w : World) : Sp := fun vs H Q E => ∃ (G : Hp) (pl : Addr) (rv u : V) (d : D) (T : List Trow) (bad : List Nat) (names : List Str), vs = [.ref pl, rv, u] ∧ Same G H ∧ PlayIs K w G pl T bad ∧ Dq K G rv (.sq []) ∧ Fit T names ∧ T.length ≤ 1000 ∧ Closed T ∧ Dq K G u d ∧ fineD d ∧
  (∀ s, behindD (adjQ (fun _ => true) T) d = .ok s → ∀ v H', Same H H' → Q v H') ∧
  (∀ i, behindD (adjQ (fun _ => true) T) d = .error i → ∀ dd H', Same H H' → H' dd = some (xdI (i : Nat)) → E (.ref (He.ga K "BadWord")) (some dd) H')
theorem sc_stand_behind : FnScope ["play", "rules", "run", "table", "here", "index", "word"] ["play", "rules", "run"] (defScope s_stand_behind) := ⟨rfl, rfl, rfl, by decide +kernel, rfl, by decide +kernel, by decide +kernel⟩
section
variable {P : Program} {w : World} {K : PySem.W.Frag} {mg : Str → Option Value} {base : Heap}
theorem ok_stand_behind (T : Txt K mg) : Cl P w K mg base (L2.CX P w) 6 "stand_behind" (spBehind K w) := by
  refine clX (T.F_stand_behind) T.g_stand_behind sc_stand_behind (fun vs H Q E h => ?_) (fun _ _ _ _ _ _ us hl => match us, hl with | [_, _, _], _ => rfl) (fun cdv A outer s H vs Q E hr h => ?_)
  · obtain ⟨G, pl, rv, u, d, Tb, bad, names, rfl, _⟩ := h
    rfl
  · obtain ⟨G, pl, rv, u, d, Tb, bad, names, rfl, s0, play, hrv, fit, hT, hc, hd, hf, k, kE⟩ := h
    refine ⟨_, (pss_cons (ps_par (i := 3) (j := 4) (by rfl) sc_stand_behind.nd rfl rfl (by decide) rfl rfl (pa_cons (pe_cl (ok_steps_under T) hr (by decide) pass0 (pa_cons (pv 0) (pa_cons (pe_cl (ok_checked_rules T) hr (by decide) (passes_call (takes_of rfl rfl rfl rfl) fun _ _ _ _ h => h) (pa_cons (pv 1) pa_nil)) pa_nil))) (pa_cons pe_int pa_nil)) (by rfl))
      (pss_cons (ps_if (pt_not (pt_val (pe_cl (ok_is_list T) hr (by decide) pass0 (pa_cons (pv 2) pa_nil))))
        (pss_one (ps_err (ei_W T) T.eW rfl hr (by decide) pass0 (takes_of rfl rfl rfl rfl) T.g_BadWord pe_int))
        pss_nil)
      (pss_cons (ps_for (passes_of rfl) rfl (enQ (KK := K) (by rfl) T.f_enumerate (pa_cons (pv 2) pa_nil)) (tupG (KK := K) (by rfl) (pgs_cons (pg_name (i := 5) sc_stand_behind.nd rfl (by first | exact Or.inl rfl | exact Or.inr rfl)) (pgs_cons (pg_name (i := 6) sc_stand_behind.nd rfl (by first | exact Or.inl rfl | exact Or.inr rfl)) pgs_nil)))
        (pss_cons (ps_if (PW.pt (pw_or (pt_not (pt_val (pe_cl (ok_is_word T 3) hr (by decide) pass0 (pa_cons (pv 6) pa_nil)))) (pw_or1 (pt_cmpR (wNotIn (KK := K) (ww := w) (u9 hr)) (pe_cl (ok_as_word T 3) hr (by decide) pass0 (pa_cons (pv 6) pa_nil)) (pe_ix (ixQ (KK := K)) (pv 3) (pv 4) (fun _ _ => rfl)) (by rfl)))))
          (pss_one (ps_err (ei_W T) T.eW rfl hr (by decide) pass0 (takes_of rfl rfl rfl rfl) T.g_BadWord (pv 5)))
          pss_nil)
        (pss_one (ps_set (i := 4) sc_stand_behind.nd rfl (by first | exact Or.inl rfl | exact Or.inr rfl) (wGet (KK := K) (ww := w) (u9 hr) (pe_ix (ixQ (KK := K)) (pv 3) (pv 4) (fun _ _ => rfl)) (pe_cl (ok_as_word T 3) hr (by decide) pass0 (pa_cons (pv 6) pa_nil)) (fun _ _ => rfl))))))
      (pss_one (ps_ret (pv 4)))))), ?_⟩
    refine ⟨_, rfl, ⟨_, rfl, G, rv, _, rfl, s0, hrv, ⟨Nat.zero_le _, fun _ m => (nomatch m)⟩, fun f hfe p H1 G1 g1 hp1 => ?_, fun i he => (nomatch he)⟩⟩
    have hfe : f = [] := by
      have : chkR 0 [] [] = Except.ok f := hfe
      cases this; rfl
    subst hfe
    refine ⟨G1, pl, p, Tb, bad, [], names, rfl, g1.sub, play.same g1.up, hp1, fit, hT, fun l H2 G2 g2 ladj => ?_⟩
    have eq1 : (fun r : Str => !decide (r ∈ ([] : List Str))) = fun _ => true := by
      funext r
      simp
    rw [eq1] at ladj
    generalize hadj : adjQ (fun _ => true) Tb = adj at ladj k kE
    have hal : adj.length = Tb.length := by
      rw [← hadj]
      unfold adjQ adjOf
      rw [List.length_map, List.length_map]
    have gg := g1.trans g2
    refine ⟨_, _, rfl, ?_⟩
    dsimp only [tNext, tRet, tOp, tSeq, gName, tAsg]
    refine ⟨_, rfl, u, d, rfl, Dq.mono gg.same' _ _ hd, fun H3 s3 => ⟨_, rfl, ?_⟩⟩
    have s23 : Same H H3 := gg.same.trans s3
    cases hq : isSq d with
    | false =>
      refine ite_y (by rfl) ?_
      refine mk_rd fun dd hdd => ?_
      have e : behindD adj d = .error 0 := by cases d <;> first | rfl | cases hq
      exact kE 0 e dd _ (s23.to_upd hdd) upd_same
    | true =>
      obtain ⟨ds, rfl⟩ : ∃ l, d = .sq l := by
        cases d with
        | sq l => exact ⟨l, rfl⟩
        | lf v => cases hq
      obtain ⟨a0, xs, rfl, src, ha⟩ := hd.seq
      refine ite_n (by rfl) ?_
      dsimp only [tNext, tRet, tOp, tSeq, gName, tAsg]
      refine for_enG (K := K) (a := a0) (xs := xs) (fun i σ H' => ∃ o5 o6 here, σ = [some (.ref pl), some rv, some (.ref a0), some (.ref l), some (.int (here : Nat)), o5, o6] ∧ Same H H' ∧ Same G2 H' ∧ here < Tb.length ∧ behindE adj i here (ds.drop i) = behindD adj (.sq ds)) G2 (fun R' r => ⟨_, rfl, r⟩) (g2.sub.trans s3) ((Same.q (g1.up.trans g2.up) src)) ⟨_, _, 0, rfl, s23, g2.sub.trans s3, hc.1, rfl⟩ (fun i σ H' ⟨_, _, _, _, _, sm, _⟩ => sm) ?_ ?_
      · rintro i v T0 σ H' hx ⟨o5, o6, here, rfl, sH, sG, hlt, hbe⟩ hT
        obtain ⟨d, hd', hq'⟩ := ha.get hx
        have hdrop : ds.drop i = d :: ds.drop (i + 1) := by
          obtain ⟨hi, e⟩ := List.getElem?_eq_some_iff.mp hd'
          rw [List.drop_eq_getElem_cons hi, e]
        rw [hdrop] at hbe
        have hm : d ∈ ds := List.mem_of_getElem? hd'
        obtain ⟨fd1, fd2⟩ := hf.2 d hm
        have sT : Same H' (upd H' T0 (.tup [.int (i : Nat), v])) := Same.upd_none hT
        have qG2 : Dq K G2 v d := Dq.mono (g1.up.trans g2.up) _ _ hq'
        refine ⟨T0, _, rfl, SqT.of upd_same, rfl, ⟨_, _, rfl, ⟨_, _, rfl, ⟨rfl, ?_⟩⟩⟩⟩
        refine ⟨_, rfl, v, d, rfl, Dq.mono (sG.trans sT) _ _ qG2, fd1, fd2, fun H4 s4 => ⟨_, rfl, ?_⟩⟩
        have sH4 := sH.trans (sT.trans s4)
        have sG4 := sG.trans (sT.trans s4)
        refine ite_b (fun hnn => ?_) (fun hnn => ?_)
        · refine iteT ?_
          refine ⟨_, rfl, mk_rd fun dd hdd => ?_⟩
          have hnn : isWord d = false := by simpa using hnn
          have e : behindD adj (.sq ds) = .error i := by
            rw [← hbe]
            unfold behindE
            rw [hnn, if_neg Bool.false_ne_true]
          exact kE i e dd _ (sH4.to_upd hdd) upd_same
        · have hnn : isWord d = true := by simpa using hnn
          refine ⟨_, rfl, G2, v, d, rfl, sG4, qG2, hnn, fd1, fd2, fun v1 H5 G5 g5 dp5 => ?_⟩
          obtain ⟨a, as, kvs, ep, hls, haa, wd, ekv⟩ := ladj.row g5.same' (by rw [hal]; exact hlt)
          have d8 : (keyD d).depth ≤ 8 := by have := key_depth d; omega
          refine ⟨_, rfl, _, rfl, l, as, _, _, rfl, rfl, .inl hls, atI_nat haa, a, kvs, ep, keyD d, rfl, wd, dp_mono g5.sub dp5, d8, _, rfl, ?_⟩
          have hfind := adj_find (row := rowAt adj here) (k := keyD d) ekv
          have hbe2 : behindE adj i here (d :: ds.drop (i + 1)) = match stepTo (rowAt adj here) (keyD d) with
            | some v => behindE adj (i + 1) v (ds.drop (i + 1))
            | none => .error i := by
            conv => lhs; unfold behindE
            rw [hnn, if_pos rfl]
          have sH5 := sH4.trans g5.same
          have sG5 := sG4.trans g5.same
          cases hst : stepTo (rowAt adj here) (keyD d) with
          | none =>
            rw [hst] at hfind hbe2
            refine ite_y (by show (!(wV kvs (keyD d)).isSome) = true; rw [hfind]; rfl) ?_
            refine ⟨_, rfl, mk_rd fun dd hdd => ?_⟩
            exact kE i (by rw [← hbe, hbe2]) dd _ (sH5.to_upd hdd) upd_same
          | some nx =>
            rw [hst] at hfind hbe2
            refine ite_n (by show (!(wV kvs (keyD d)).isSome) = false; rw [hfind]; rfl) ?_
            dsimp only [tNext, tRet, tOp, tSeq, gName, tAsg]
            refine ⟨_, rfl, _, rfl, l, as, _, _, rfl, rfl, .inl hls, atI_nat haa, ?_⟩
            refine ⟨_, rfl, G2, v, d, rfl, sG5, qG2, hnn, fd1, fd2, fun v2 H6 G6 g6 dp6 => ?_⟩
            refine ⟨a, kvs, ep, keyD d, natV nx, rfl, wd.same g6.same, dp_mono g6.sub dp6, d8, hfind, ?_⟩
            have hmem := stepTo_mem hst
            rw [← hadj] at hmem
            exact ⟨_, _, nx, rfl, sH5.trans g6.same, sG5.trans g6.same, adj_lt hc hmem, by rw [← hbe, hbe2]⟩
      · rintro σ H' ⟨o5, o6, here, rfl, sH, sG, hlt, hbe⟩
        have hlen : xs.length = ds.length := ha.length
        rw [hlen, List.drop_length] at hbe
        exact ⟨_, rfl, k here hbe.symm _ _ sH⟩
end
end K8
-- K8Short
set_option maxRecDepth 100000
set_option maxHeartbeats 4000000
namespace K8
open PySem PySem.Spec PyProof.Rows L2
abbrev Fnd := List (Nat × List NestedKey)
section
variable {K : PySem.W.Frag} {w : World}
def RunIs (K : PySem.W.Frag) (G : Hp) (v : V) (ks : List NestedKey) : Prop := ∃ r xs, v = .ref r ∧ G r = some (.lst xs) ∧ DpAll K G xs (ks.map NestedKey.data)
theorem RunIs.same {G H : Hp} {v : V} {ks : List NestedKey} (s : Same G H) (h : RunIs K G v ks) : RunIs K H v ks := let ⟨r, xs, e, a, b⟩ := h; ⟨r, xs, e, s _ _ a, dpA_mono s b⟩
def FndK (K : PySem.W.Frag) (G : Hp) (kvs : List (Key × V)) (found : Fnd) : Prop := Paired (fun (kv : Key × V) e => kv.1 = natK e.1 ∧ RunIs K G kv.2 e.2) kvs found
theorem FndK.same {G H : Hp} (s : Same G H) {kvs : List (Key × V)} {found : Fnd} (h : FndK K G kvs found) : FndK K H kvs found := pair_imp (fun _ _ z => ⟨z.1, z.2.same s⟩) h
theorem FndK.keys {G : Hp} : ∀ {kvs : List (Key × V)} {found : Fnd}, FndK K G kvs found → kvs.map (·.1) = found.map fun e => natK e.1
  | _, _, .nil => rfl
  | _, _, .cons h t => by rw [List.map_cons, List.map_cons, h.1, FndK.keys t]
theorem natK_inj {a b : Nat} (h : natK a = natK b) : a = b := by
  unfold natK at h
  injection h with h
  omega
theorem mem_natK {found : Fnd} {v : Nat} : natK v ∈ (found.map fun e => natK e.1) ↔ v ∈ found.map (·.1) := by
  constructor
  · intro m
    obtain ⟨e, he, q⟩ := List.mem_map.mp m
    rw [← natK_inj q]
    exact List.mem_map.mpr ⟨e, he, rfl⟩
  · intro m
    obtain ⟨e, he, q⟩ := List.mem_map.mp m
    exact List.mem_map.mpr ⟨e, he, by rw [← q]⟩
theorem valV_at {kvs : List (Key × V)} (hn : (kvs.map (·.1)).Nodup) {i : Nat} {k : Key} {v : V} (h : kvs[i]? = some (k, v)) : valV kvs k = some v := by
  induction kvs generalizing i with
  | nil => simp at h
  | cons p r ih =>
    obtain ⟨n1, n2⟩ := List.nodup_cons.mp hn
    cases i with
    | zero =>
      have e : p = (k, v) := by simpa using h
      subst e
      exact valV_pos rfl
    | succ j =>
      have h : r[j]? = some (k, v) := by simpa using h
      rw [valV_neg (fun z => n1 (by show p.1 ∈ _; rw [z]; exact List.mem_map.mpr ⟨_, List.mem_of_getElem? h, rfl⟩))]
      exact ih n2 h
theorem nodup_natK {found : Fnd} (h : (found.map (·.1)).Nodup) : (found.map fun e => natK e.1).Nodup := by
  have e : (found.map fun e => natK e.1) = (found.map (·.1)).map natK := by rw [List.map_map]; rfl
  rw [e]
  exact List.pairwise_map.mpr (h.imp fun {a b} z q => z (natK_inj q))
theorem nodup_lt : ∀ {l : List Nat} {n : Nat}, l.Nodup → (∀ x ∈ l, x < n) → l.length ≤ n := fun {l n} hn hl => by
  have := nodup_len (b := List.range n) hn fun x m => List.mem_range.mpr (hl x m)
  rwa [List.length_range] at this
end
/-- a table of stands below its length -/
def ClosedA (adj : List ARow) : Prop := 0 < adj.length ∧ adj.length ≤ 1000 ∧ ∀ u k v, (k, v) ∈ rowAt adj u → v < adj.length
def spShort (K : PySem.W.Frag) (w : World) : Sp := fun vs H Q _ => ∃ (G : Hp) (l : Addr) (adj : List ARow), vs = [.ref l] ∧ Same G H ∧ LAdj K w G l adj ∧ ClosedA adj ∧
  ∀ p H' G' kvs found, Gr NoM H G G' H' → H p = none → G' p = some (.dK kvs) → FndK K G' kvs found → (∀ kv ∈ kvs, ∀ r, kv.2 = V.ref r → H r = none) → Bfs adj found found.length 0 → (∀ e ∈ found, e.1 < adj.length) → Q (.ref p) H'
structure ShI (K : PySem.W.Frag) (H G : Hp) (adj : List ARow) (F W : Addr) (p j : Nat) (H' : Hp) (found : Fnd) : Prop where
  ex : ∃ G2 kvs, Gr NoM H G G2 H' ∧ H' F = some (.dK kvs) ∧ G2 F = none ∧ H' W = some (.lst (found.map fun e => natV e.1)) ∧ G2 W = none ∧ FndK K G2 kvs found ∧ ∀ kv ∈ kvs, ∀ r, kv.2 = V.ref r → H r = none
  bfs : Bfs adj found p j
  lt : ∀ e ∈ found, e.1 < adj.length
  len : ∀ e ∈ found, e.2.length + 1 ≤ found.length
theorem ShI.few {K : PySem.W.Frag} {H G : Hp} {adj : List ARow} {F W : Addr} {p j : Nat} {H' : Hp} {found : Fnd} (h : ShI K H G adj F W p j H' found) : found.length ≤ adj.length := by
  have := nodup_lt h.bfs.nd fun x m => by
    obtain ⟨e, he, rfl⟩ := List.mem_map.mp m
    exact h.lt e he
  rwa [List.length_map] at this
theorem sc_shortest_runs : FnScope ["table", "found", "waiting", "for_later", "here", "word"] ["table"] (defScope s_shortest_runs) := ⟨rfl, rfl, rfl, by decide +kernel, rfl, by decide +kernel, by decide +kernel⟩
section
variable {P : Program} {w : World} {K : PySem.W.Frag} {mg : Str → Option Value} {base : Heap}
theorem ok_shortest_runs (T : Txt K mg) : Cl P w K mg base CX0 1 "shortest_runs" (spShort K w) := by
  refine cl0 (T.F_shortest_runs) T.g_shortest_runs sc_shortest_runs (fun vs H Q E h => ?_) (fun _ _ _ _ _ _ us hl => match us, hl with | [_], _ => rfl) (fun cdv A outer s H vs Q E hr h => ?_)
  · obtain ⟨G, l, adj, rfl, _⟩ := h
    rfl
  · obtain ⟨G, l, adj, rfl, s0, ladj, ⟨c0, c1, c2⟩, k⟩ := h
    refine ⟨_, (pss_cons (ps_par (i := 1) (j := 2) (by rfl) sc_shortest_runs.nd rfl rfl (by decide) rfl rfl (pa_cons (pe_disp (pps_cons pe_int (pe_lst pa_nil) pps_nil) (by rfl) (by rfl) (fun z => nomatch z) (by decide)) (pa_cons (pe_lst (pa_cons pe_int pa_nil)) pa_nil)) (by rfl))
      (pss_cons (ps_set (i := 3) sc_shortest_runs.nd rfl (by first | exact Or.inl rfl | exact Or.inr rfl) pe_int)
      (pss_cons (ps_while PassesOwn.never (pt_cmpR op_lt (pv 3) (pe_callB (lenQ (KK := K)) (by rfl) T.f_len (by decide +kernel) (pa_cons (pv 2) pa_nil)) (nomark _))
        (pss_cons (ps_set (i := 4) sc_shortest_runs.nd rfl (by first | exact Or.inl rfl | exact Or.inr rfl) (pe_ix (ixQ (KK := K)) (pv 2) (pv 3) (fun _ _ => rfl)))
        (pss_cons (ps_aug (i := 3) sc_shortest_runs.nd rfl (by first | exact Or.inl rfl | exact Or.inr rfl) pe_int ip_add)
        (pss_one (ps_for PassesOwn.never rfl (wKeys (ww := w) (pe_ix (ixQ (KK := K)) (pv 0) (pv 4) (fun _ _ => rfl))) (pg_name (i := 5) sc_shortest_runs.nd rfl (by first | exact Or.inl rfl | exact Or.inr rfl))
          (pss_one (ps_if (pt_cmpR (notInX (KK := K) (u1 hr)) (wGet (KK := K) (ww := w) (u9 hr) (pe_ix (ixQ (KK := K)) (pv 0) (pv 4) (fun _ _ => rfl)) (pv 5) (fun _ _ => rfl)) (pv 1) (by rfl))
            (pss_cons (ps_dput (u1 hr) (pv 1) (wGet (KK := K) (ww := w) (u9 hr) (pe_ix (ixQ (KK := K)) (pv 0) (pv 4) (fun _ _ => rfl)) (pv 5) (fun _ _ => rfl)) (pe_op op_cat (pe_dget (u1 hr) (pv 1) (pv 4) (fun _ _ => rfl)) (pe_lst (pa_cons (pv 5) pa_nil))) rfl)
            (pss_one (ps_expr (pe_bm PySem.F.plainAttrs_list PySem.F.slot_list_append PySem.F.type_list_append mt_append (pv 2) (pa_cons (wGet (KK := K) (ww := w) (u9 hr) (pe_ix (ixQ (KK := K)) (pv 0) (pv 4) (fun _ _ => rfl)) (pv 5) (fun _ _ => rfl)) pa_nil)))))
            pss_nil)))))))
      (pss_one (ps_ret (pv 1)))))), ?_⟩
    intro F hF
    refine ⟨by show 0 ≤ sizeLine; decide, fun r0 hr0 => ?_⟩
    have hFr : F ≠ r0 := fun e => by rw [e, upd_same] at hr0; cases hr0
    have hGF := s0.free hF
    have g1 : Gr NoM H G G (upd H F (.dK [])) := (Gr.start s0).mine hF
    have g2 := g1.newN (o := .lst []) hr0
    have hFG2 : upd G r0 (.lst []) F = none := by rw [upd_ne hFr]; exact hGF
    refine ⟨by rw [upd_ne hFr, upd_same], [(natK 0, .ref r0)], rfl, by show 1 ≤ 15; decide, ?_⟩
    have g3 := g2.chg (o := .dK (mergeK [] [(natK 0, V.ref r0)])) (.inl hF) hFG2
    refine ⟨by show 1 ≤ sizeLine; decide, fun W hW => ?_⟩
    have hFW : F ≠ W := fun e => by rw [e, upd_same] at hW; cases hW
    have g4 := g3.mine (o := .lst [.int 0]) hW
    have hWH : H W = none := by
      have := g3.same
      exact this.free hW
    have hWG2 : upd G r0 (.lst []) W = none := g3.sub.free hW
    refine ⟨_, _, rfl, ?_⟩
    dsimp only [tNext, tRet, tOp, tSeq, gName, tAsg]
    refine ⟨fun m σ H' => ∃ (p : Nat) (o4 o5 : Option V) (found : Fnd), σ = [some (.ref l), some (.ref F), some (.ref W), some (.int (p : Nat)), o4, o5] ∧ ShI K H G adj F W p 0 H' found ∧ p ≤ found.length ∧ m = adj.length - p, ⟨adj.length, 0, _, _, [(0, [])], rfl, ?_, Nat.zero_le _, rfl⟩, ?_⟩
    · refine ⟨⟨upd G r0 (.lst []), [(natK 0, .ref r0)], g4, ?_, hFG2, upd_same, hWG2, .cons ⟨rfl, r0, [], rfl, upd_same, .nil⟩ .nil, fun kv m r e => by
        rw [List.mem_singleton.mp m] at e
        cases e
        exact (Same.upd_none hF).free hr0⟩, Bfs.start adj, fun e m => ?_, fun e m => ?_⟩
      · rw [upd_ne hFW, upd_same]; rfl
      · rw [List.mem_singleton.mp m]; exact c0
      · rw [List.mem_singleton.mp m]; exact Nat.le_refl _
    · rintro m σ H' ⟨p, o4, o5, found, rfl, I, hp, rfl⟩
      obtain ⟨G2, kvs, gr, hFd, hG2F, hWd, hG2W, fk, hnew⟩ := I.ex
      have hfew := I.few
      have hml : (found.map fun e => natV e.1).length = found.length := by rw [List.length_map]
      refine ⟨_, rfl, _, rfl, W, _, rfl, .inl (SqL.of hWd), (p : Int), (found.length : Int), rfl, by rw [hml], _, rfl, ?_⟩
      by_cases hlt : p < found.length
      · refine ite_y (decide_eq_true (by omega)) ⟨fun σ' H'' => ∃ (o4 o5 : Option V) (found : Fnd), σ' = [some (.ref l), some (.ref F), some (.ref W), some (.int ((p + 1 : Nat) : Int)), o4, o5] ∧ ShI K H G adj F W (p + 1) 0 H'' found ∧ p + 1 ≤ found.length, fun σ' H'' ⟨o4, o5, fd, e, I', hp'⟩ => ⟨adj.length - (p + 1), by omega, p + 1, o4, o5, fd, e, I', hp', rfl⟩, ?_⟩
        obtain ⟨⟨here, r⟩, hfp⟩ : ∃ e, found[p]? = some e := ⟨_, List.getElem?_eq_getElem hlt⟩
        have hhere : here < adj.length := I.lt _ (List.mem_of_getElem? hfp)
        have hwp : (found.map fun e => natV e.1)[p]? = some (natV here) := by rw [List.getElem?_map, hfp]; rfl
        refine ⟨_, rfl, _, rfl, W, _, (p : Int), natV here, rfl, rfl, .inl (SqL.of hWd), atI_nat hwp, ?_⟩
        dsimp only [tNext, tRet, tOp, tSeq, gName, tAsg]
        refine ⟨_, rfl, (p : Int), 1, rfl, rfl, ?_⟩
        obtain ⟨a, as, kvsA, ep, hls, haa, wdA, ekv⟩ := ladj.row s0 hhere
        obtain ⟨a', as', kvsA', ep', hlsG, haaG, wdG, ekvG⟩ := ladj.row (Same.refl G) hhere
        refine ⟨_, rfl, _, rfl, l, as', _, .ref a', rfl, rfl, .inl (gr.same'.seq hlsG), atI_nat haaG, a', kvsA', ep', rfl, wdG.sm, (wdG.same gr.same').rd, ?_⟩
        refine for_it walk_w (fun j σ' H'' => ∃ (o5 : Option V) (found : Fnd), σ' = [some (.ref l), some (.ref F), some (.ref W), some (.int ((p + 1 : Nat) : Int)), some (natV here), o5] ∧ ShI K H G adj F W p j H'' found ∧ found[p]? = some (here, r)) ⟨_, found, rfl, I, hfp⟩ (fun j σ' H'' _ ⟨_, fd, _, I', _⟩ => by
          obtain ⟨G3, _, g3, _⟩ := I'.ex
          exact (wdG.same g3.same').rd) ?_ ?_
        · rintro j x σ' H5 H5' hj ⟨o5, found, rfl, I, hfp⟩ ⟨rfl, kk, v, hkv⟩
          obtain ⟨G2, kvs, gr, hFd, hG2F, hWd, hG2W, fk, hnew⟩ := I.ex
          have hfew := I.few
          obtain ⟨nx, hrj, rfl⟩ : ∃ nx, (rowAt adj here)[j]? = some (kk, nx) ∧ v = natV nx := by
            have e1 := congrArg (fun z : List (NestedKey × V) => z[j]?) ekvG
            simp only [List.getElem?_map, hkv, Option.map_some] at e1
            cases hq : (rowAt adj here)[j]? with
            | none => rw [hq] at e1; cases e1
            | some e =>
              rw [hq] at e1
              injection e1 with e1
              injection e1 with e2 e3
              exact ⟨e.2, by rw [e2], e3⟩
          have hv := wV_at wdG.nd hkv
          have wdH := wdG.same gr.same'
          obtain ⟨dpx, d8⟩ := wdG.key _ (List.mem_of_getElem? hkv)
          have dpH := dp_mono gr.same' dpx
          have hlsH := gr.same'.seq hlsG
          have hnx : nx < adj.length := c2 here kk nx (List.mem_of_getElem? hrj)
          have hkeys := fk.keys
          have hvm : (valV kvs (natK nx)).isSome = true ↔ nx ∈ found.map (·.1) := by rw [valV_mem, hkeys, mem_natK]
          refine ⟨_, rfl, _, rfl, l, as', _, _, rfl, rfl, .inl hlsH, atI_nat haaG, _, rfl, a', kvsA', ep', kk, natV nx, rfl, wdH, dpH, d8, hv, _, rfl, F, _, rfl, .inr ⟨kvs, natK nx, .inl hFd, rfl, rfl⟩, _, rfl, ?_⟩
          show if (!(valV kvs (natK nx)).isSome) = true then _ else _
          refine ite_b (fun hno => ?_) (fun hin => ?_)
          · have hnin : nx ∉ found.map (·.1) := fun m => by rw [hvm.mpr m] at hno; cases hno
            obtain ⟨⟨kh, vh⟩, hkp, ekh, r1, xs1, erv, hr1, dr1⟩ : ∃ kv, kvs[p]? = some kv ∧ kv.1 = natK here ∧ RunIs K G2 kv.2 r := by
              obtain ⟨kv, h1⟩ : ∃ kv, kvs[p]? = some kv := ⟨_, List.getElem?_eq_getElem (by rw [Paired.length fk]; exact (List.getElem?_eq_some_iff.mp hfp).1)⟩
              obtain ⟨e, h2, h3, h4⟩ := paired_get fk h1
              rw [hfp] at h2
              cases h2
              exact ⟨kv, h1, h3, h4⟩
            have ekh : kh = natK here := ekh
            have erv : vh = .ref r1 := erv
            subst ekh erv
            have hndk : (kvs.map (·.1)).Nodup := by rw [hkeys]; exact nodup_natK I.bfs.nd
            have hvh := valV_at hndk hkp
            have hr1H := gr.sub _ _ hr1
            have hxl : xs1.length = r.length := by rw [dpA_length dr1, List.length_map]
            have hrl := I.len _ (List.mem_of_getElem? hfp)
            have hrl : r.length + 1 ≤ found.length := hrl
            have big : (100000 : Nat) < sizeLine := by decide
            refine ⟨_, rfl, _, rfl, F, .ref r1, rfl, .inl ⟨kvs, natK here, .inl hFd, rfl, hvh.symm⟩, _, rfl, by show 1 ≤ sizeLine; decide, fun q hq => ?_⟩
            have gq := gr.newN (o := .lst [x]) hq
            have hr1q : r1 ≠ q := ne_sn hr1H hq
            refine ⟨r1, q, xs1, [x], rfl, rfl, by rw [upd_ne hr1q]; exact hr1H, upd_same, by show xs1.length + 1 ≤ sizeLine; omega, fun q2 hq2 => ?_⟩
            have gq2 := gq.newN (o := .lst (xs1 ++ [x])) hq2
            have hnq2 : H q2 = none := gq.same.free hq2
            have hFq : F ≠ q := ne_sn hFd hq
            have hFq2 : F ≠ q2 := ne_sn (show upd H5' q (.lst [x]) F = some _ by rw [upd_ne hFq]; exact hFd) hq2
            have hWq : W ≠ q := ne_sn hWd hq
            have hWq2 : W ≠ q2 := ne_sn (show upd H5' q (.lst [x]) W = some _ by rw [upd_ne hWq]; exact hWd) hq2
            have u2 : Same G2 (upd (upd G2 q (.lst [x])) q2 (.lst (xs1 ++ [x]))) := (Same.upd_none (gr.sub.free hq)).trans (Same.upd_none (gq.sub.free hq2))
            have hF7 : upd (upd H5' q (.lst [x])) q2 (.lst (xs1 ++ [x])) F = some (.dK kvs) := by rw [upd_ne hFq2, upd_ne hFq]; exact hFd
            have hW7 : upd (upd H5' q (.lst [x])) q2 (.lst (xs1 ++ [x])) W = some (.lst (found.map fun e => natV e.1)) := by rw [upd_ne hWq2, upd_ne hWq]; exact hWd
            have hGF7 : upd (upd G2 q (.lst [x])) q2 (.lst (xs1 ++ [x])) F = none := by rw [upd_ne hFq2, upd_ne hFq]; exact hG2F
            have hGW7 : upd (upd G2 q (.lst [x])) q2 (.lst (xs1 ++ [x])) W = none := by rw [upd_ne hWq2, upd_ne hWq]; exact hG2W
            have hrun : RunIs K (upd (upd G2 q (.lst [x])) q2 (.lst (xs1 ++ [x]))) (.ref q2) (r ++ [kk]) := ⟨q2, _, rfl, upd_same, by rw [List.map_append]; exact dpA_snoc (dp_mono (gr.up.trans u2) dpx) (dpA_mono u2 dr1)⟩
            generalize upd (upd G2 q (.lst [x])) q2 (.lst (xs1 ++ [x])) = G7 at gq2 u2 hGF7 hGW7 hrun
            generalize upd (upd H5' q (.lst [x])) q2 (.lst (xs1 ++ [x])) = H7 at gq2 hF7 hW7 ⊢
            have sG7 := gq2.same'
            have hkl : kvs.length = found.length := Paired.length fk
            refine ⟨_, rfl, _, rfl, _, rfl, l, as', _, _, rfl, rfl, .inl (sG7.seq hlsG), atI_nat haaG, _, rfl, a', kvsA', ep', kk, natV nx, rfl, wdG.same sG7, dp_mono sG7 dpx, d8, hv, F, _, rfl, .inl ⟨kvs, natK nx, hF7, rfl, by omega, rfl⟩, ?_⟩
            have hput : putK kvs (natK nx) (.ref q2) = kvs ++ [(natK nx, .ref q2)] := K8.putK_new (by rw [hkeys, mem_natK]; exact hnin)
            rw [hput]
            have gF := gq2.chg (o := .dK (kvs ++ [(natK nx, V.ref q2)])) (.inl hF) hGF7
            have hWF : W ≠ F := Ne.symm hFW
            have hW8 : upd H7 F (.dK (kvs ++ [(natK nx, V.ref q2)])) W = some (.lst (found.map fun e => natV e.1)) := by rw [upd_ne hWF]; exact hW7
            have sG8 := gF.same'
            refine ⟨_, rfl, .inl ⟨rfl, _, SqL.of hW8⟩, ⟨_, rfl, _, rfl, l, as', _, _, rfl, rfl, .inl (sG8.seq hlsG), atI_nat haaG, _, rfl, a', kvsA', ep', kk, natV nx, rfl, wdG.same sG8, dp_mono sG8 dpx, d8, hv, W, _, natV nx, rfl, rfl, hW8, by rw [List.length_map]; omega, ?_⟩⟩
            have gW := gF.chg (o := .lst ((found.map fun e => natV e.1) ++ [natV nx])) (.inl hWH) hGW7
            refine ⟨_, found ++ [(nx, r ++ [kk])], rfl, ⟨⟨G7, _, gW, ?_, hGF7, ?_, hGW7, pair_snoc (P := fun (kv : Key × V) (e : Nat × List NestedKey) => kv.1 = natK e.1 ∧ RunIs K G7 kv.2 e.2) (a := (natK nx, V.ref q2)) (b := (nx, r ++ [kk])) ⟨rfl, hrun⟩ (fk.same u2), fun kv m r e => ?_⟩, I.bfs.add hfp hrj hnin, fun e m => ?_, fun e m => ?_⟩, ?_⟩
            · rw [upd_ne hFW, upd_same]
            · rw [upd_same, List.map_append]; rfl
            · rcases List.mem_append.mp m with m | m
              · exact hnew kv m r e
              · rw [List.mem_singleton.mp m] at e
                cases e
                exact hnq2
            · rcases List.mem_append.mp m with m | m
              · exact I.lt e m
              · rw [List.mem_singleton.mp m]; exact hnx
            · rw [List.length_append]
              rcases List.mem_append.mp m with m | m
              · exact Nat.le_succ_of_le (I.len e m)
              · rw [List.mem_singleton.mp m]
                show (r ++ [kk]).length + 1 ≤ found.length + 1
                rw [List.length_append]
                exact Nat.succ_le_succ hrl
            · rw [List.getElem?_append_left (List.getElem?_eq_some_iff.mp hfp).1]; exact hfp
          · have hin2 : nx ∈ found.map (·.1) := hvm.mp (by simpa using hin)
            exact ⟨_, found, rfl, ⟨I.ex, I.bfs.skip hfp hrj hin2, I.lt, I.len⟩, hfp⟩
        · rintro σ' H5 ⟨o5, found, rfl, I, hfp⟩
          have hl : (rowAt adj here).length ≤ kvsA'.length := by
            have := congrArg List.length ekvG
            rw [List.length_map, List.length_map] at this
            omega
          exact ⟨_, _, found, rfl, ⟨I.ex, I.bfs.next hfp hl, I.lt, I.len⟩, (List.getElem?_eq_some_iff.mp hfp).1⟩
      · refine ite_n (decide_eq_false (by omega)) ?_
        have ep : p = found.length := by omega
        subst ep
        have gF := gr.give hF (fun z => z) hG2F hFd
        refine ⟨_, rfl, k F H' _ kvs found gF hF upd_same (fk.same (Same.upd_none hG2F)) hnew I.bfs I.lt⟩
end
end K8
-- K8Nil
set_option maxRecDepth 100000
set_option maxHeartbeats 4000000
namespace K8
open PySem PySem.Spec PyProof.Rows L2
/-! ### a list compared with an empty list -/
def rNil (K : PySem.W.Frag) (ne : Bool) : R2 := fun x y H Q => ∃ a b xs, x = .ref a ∧ y = .ref b ∧ SqL K H a xs ∧ SqL K H b [] ∧ Q (.bl (if ne then !xs.isEmpty else xs.isEmpty)) H
section
variable {X : Cx} {KK : PySem.W.Frag}
theorem neNil (hu : X.A.units + 1 < cLine) (hK : X.K = KK := by rfl) : OpR X (compareOp .NotEq) (rNil KK true) := by
  subst hK
  intro pins s σ H x y v u Q I rx ry ⟨a, b, xs, e1, e2, ha, hb, q⟩
  subst e1 e2
  cases rx
  cases ry
  obtain ⟨its, r1, p1, _⟩ := I.list ha
  obtain ⟨its2, r2, p2, _⟩ := I.list hb
  have e2 : its2 = [] := by cases r2; rfl
  subst e2
  cases xs with
  | nil =>
    have e1 : its = [] := by cases r1; rfl
    subst e1
    exact SeqAt.RcNeAt.lists (e := fun _ => true) p1.isList p2.isList rfl (by omega) (fun j h1 h2 => absurd h1 (Nat.not_lt_zero _)) X.prog X.w _ _ ⟨.bl false, H, I, rfl, q⟩
  | cons x xs =>
    have e1 : its.length = xs.length + 1 := by rw [← r1.length]; rfl
    exact SeqAt.RcNeAt.lists_lengths p1.isList p2.isList (by simp [e1]) (by omega) X.prog X.w _ _ ⟨.bl true, H, I, rfl, q⟩
theorem eqNil (hu : X.A.units + 1 < cLine) (hK : X.K = KK := by rfl) : OpR X (compareOp .Eq) (rNil KK false) := by
  subst hK
  intro pins s σ H x y v u Q I rx ry ⟨a, b, xs, e1, e2, ha, hb, q⟩
  subst e1 e2
  cases rx
  cases ry
  obtain ⟨its, r1, p1, _⟩ := I.list ha
  obtain ⟨its2, r2, p2, _⟩ := I.list hb
  have e2 : its2 = [] := by cases r2; rfl
  subst e2
  cases xs with
  | nil =>
    have e1 : its = [] := by cases r1; rfl
    subst e1
    exact SeqAt.RcAt.lists (e := fun _ => true) p1.isList p2.isList rfl (by omega) (fun j h1 h2 => absurd h1 (Nat.not_lt_zero _)) X.prog X.w _ _ ⟨.bl true, H, I, rfl, q⟩
  | cons x xs =>
    have e1 : its.length = xs.length + 1 := by rw [← r1.length]; rfl
    exact SeqAt.RcAt.lists_lengths p1.isList p2.isList (by simp [e1]) (by omega) X.prog X.w _ _ ⟨.bl false, H, I, rfl, q⟩
end
end K8
-- K8Keep
set_option maxRecDepth 100000
set_option maxHeartbeats 4000000
namespace K8
open PySem PySem.Spec PyProof.Rows L2
theorem Gr.drop {H0 G0 G H : Hp} {l : Addr} (g : Gr NoM H0 G0 G H) (h0 : G0 l = none) : Gr NoM H0 G0 (del G l) H where
  up := fun b o e => by
    have : b ≠ l := fun z => by subst z; rw [h0] at e; cases e
    rw [del_ne this]; exact g.up b o e
  sub := fun b o e => by
    by_cases z : b = l
    · subst z; rw [del_same] at e; cases e
    · rw [del_ne z] at e; exact g.sub b o e
  old := g.old
  new := fun b h e => by
    by_cases z : b = l
    · subst z; exact del_same
    · rw [del_ne z]; exact g.new b h e
section
variable {K : PySem.W.Frag} {w : World}
mutual
theorem dp_drop {G : Hp} {r : Addr} {ys : List V} (h : G r = some (.lst ys)) : ∀ (k : NestedKey) (v : V), Dp K G v k.data → Dp K (del G r) v k.data
  | .none, v, d => by
    have d : Dp K G v .none := d
    cases d
    exact .non
  | .num i, v, d => by
    have d : Dp K G v (.int i) := d
    cases d
    exact .int i
  | .text x, v, d => by
    have d : Dp K G v (.str x) := d
    cases d
    exact .str x
  | .tup ks, v, d => by
    have z : (NestedKey.tup ks).data = .tuple (NestedKey.datas ks) := by rw [NestedKey.data]
    rw [z] at d ⊢
    cases d with
    | @tup a xs _ hs ha =>
      refine .tup ?_ (dp_drops h ks _ ha)
      rcases hs with (hs | ⟨o, hs⟩) | hs
      · refine .inl (.inl ?_)
        have : a ≠ r := fun e => by rw [e, h] at hs; cases hs
        rw [del_ne this]; exact hs
      · refine .inl (.inr ⟨o, ?_⟩)
        have : a ≠ r := fun e => by rw [e, h] at hs; cases hs
        rw [del_ne this]; exact hs
      · exact .inr hs
theorem dp_drops {G : Hp} {r : Addr} {ys : List V} (h : G r = some (.lst ys)) : ∀ (ks : List NestedKey) (vs : List V), DpAll K G vs (NestedKey.datas ks) → DpAll K (del G r) vs (NestedKey.datas ks)
  | [], vs, d => by
    have d : DpAll K G vs [] := d
    cases d
    exact .nil
  | k :: ks, vs, d => by
    have z : NestedKey.datas (k :: ks) = k.data :: NestedKey.datas ks := by rw [NestedKey.datas]
    rw [z] at d ⊢
    cases d with
    | cons a b => exact .cons (dp_drop h k _ a) (dp_drops h ks _ b)
end
theorem dp_dropL {G : Hp} {r : Addr} {ys : List V} (h : G r = some (.lst ys)) {ks : List NestedKey} {vs : List V} (d : DpAll K G vs (ks.map NestedKey.data)) : DpAll K (del G r) vs (ks.map NestedKey.data) := by
  rw [← datas_map] at d ⊢
  exact dp_drops h ks vs d
/-- the first of the runs to bad stands -/
def tTail (K : PySem.W.Frag) (i j s : Nat) : TS := tSeq (tLock (tAsg (tLc (iKeys (tVar i)) (gName s) (tTest (tOp (rInX K false) (tVar s) (tFld K (tVar 0) "own_bad"))) (tDGet (tVar i) (tVar s)) [s]) (gName j)))
  (tRet (tIf (tTest (tOp (rNil K true) (tVar j) (tLst tNil))) (tOp (rIxQ K) (tVar j) (tC (.int 0))) (tC .non)))
theorem tail_rd {mg : Str → Option Value} (Tx : Txt K mg) {i j s : Nat} {σ : L2.St} {H G G' H1 : Hp} {pl p : Addr} {T : List Trow} {bad : List Nat} {kvs : List (Key × V)} {found : Fnd} {D : Ends} (hi : σ[i]? = some (some (.ref p))) (h0 : σ[0]? = some (some (.ref pl))) (his : i ≠ s) (h0s : 0 ≠ s) (hij : i ≠ j) (hs : s < σ.length) (hj : j < σ.length)
    (sGH : Same G H) (gr : Gr NoM H G G' H1) (hp : G' p = some (.dK kvs)) (fk : FndK K G' kvs found) (hnew : ∀ kv ∈ kvs, ∀ r, kv.2 = V.ref r → H r = none) (nd : (found.map (·.1)).Nodup) (few : found.length ≤ 1000) (play : PlayIs K w G' pl T bad)
    (k0 : badRuns bad found = [] → ∀ H', Same H H' → D.rt .non H') (k1 : ∀ r rs, badRuns bad found = r :: rs → ∀ rr xs H' G2, Gr NoM H G G2 H' → H rr = none → G2 rr = none → H' rr = some (.lst xs) → DpAll K G2 xs (r.map NestedKey.data) → D.rt (.ref rr) H') : tTail K i j s D σ H1 := by
  obtain ⟨dx, tl, bl, hpl, _, hbl⟩ := play.ex
  have hH1p := gr.sub _ _ hp
  have hlen : kvs.length = found.length := Paired.length fk
  refine ⟨p, _, hH1p, True.intro, fun od => ?_⟩
  have hplp : pl ≠ p := fun e => by rw [e, hp] at hpl; cases hpl
  have hwi : ∀ x, ((σ.set s none).set s (some x))[i]? = some (some (.ref p)) := fun x => by
    rw [List.getElem?_set_ne (Ne.symm his), List.getElem?_set_ne (Ne.symm his)]; exact hi
  have hw0 : ∀ x, ((σ.set s none).set s (some x))[0]? = some (some (.ref pl)) := fun x => by
    rw [List.getElem?_set_ne (Ne.symm h0s), List.getElem?_set_ne (Ne.symm h0s)]; exact h0
  have hws : ∀ x, ((σ.set s none).set s (some x))[s]? = some (some x) := fun x => by
    rw [List.getElem?_set_self (by rw [List.length_set]; exact hs)]
  have hndk : (kvs.map (·.1)).Nodup := by rw [fk.keys]; exact nodup_natK nd
  refine ⟨_, hi, p, od, rfl, .inl ⟨kvs, upd_same, fun L hL => lc_w (M := NoM) (G1 := upd H1 p (.frz od (.dK kvs))) walk_keys (fun i H x H' y => y.1) (fun n acc _ => Paired (fun v (e : Nat × List NestedKey) => RunIs K G' v e.2 ∧ ∀ r, v = .ref r → H r = none) acc ((found.take n).filter fun e => decide (e.1 ∈ bad))) hL (fun z => z) (Same.refl _) (fun G H gr => (gr.up.trans gr.sub) _ _ upd_same) (by rw [hlen]; exact Nat.le_trans few (by decide)) .nil ?_ ?_⟩⟩
  · rintro n x acc G6 H6 hn ⟨_, q, u, hq, rfl⟩ g6 hl pacc
    intro Ky Kn ky kn
    obtain ⟨e, he, ek, er⟩ := paired_get fk hq
    have ek : q = natK e.1 := ek
    subst ek
    have hfr : H6 p = some (.frz od (.dK kvs)) := (g6.up.trans g6.sub) _ _ upd_same
    have hpl6 : H6 pl = some (.ins (aPlay K) dx [("own_table", .ref tl), ("own_bad", .ref bl)]) := (g6.up.trans g6.sub) _ _ (by rw [upd_ne hplp]; exact gr.sub _ _ hpl)
    have hbl6 : SqL K H6 bl (bad.map natV) := by
      have h1 := gr.sub.seq hbl
      have h2 : SqL K (upd H1 p (.frz od (.dK kvs))) bl (bad.map natV) := (sameS_upd (v := .frz od (.dK kvs)) hH1p True.intro).l _ _ h1
      exact (g6.up.trans g6.sub).seq h2
    refine ⟨by show (((σ.set s none).set s (some (kV (natK e.1)))).set s none) = σ.set s none; rw [List.set_set, List.set_set], ?_⟩
    have hb : inV (natV e.1) (bad.map natV) = decide (e.1 ∈ bad) := by
      unfold inV
      rw [List.any_map, Bool.eq_iff_iff, List.any_eq_true, decide_eq_true_iff]
      constructor
      · rintro ⟨y, hy, z⟩
        have z : ((y : Int) == (e.1 : Int)) = true := z
        have z := eq_of_beq z
        have : y = e.1 := by omega
        rw [← this]; exact hy
      · intro m
        refine ⟨e.1, m, ?_⟩
        show ((e.1 : Int) == (e.1 : Int)) = true
        exact beq_self_eq_true _
    refine ⟨_, hws _, _, hw0 _, pl, aPlay K, dx, _, .ref bl, rfl, hpl6, Tx.p_cl, Tx.p_nB, rfl, bl, _, rfl, .inl ⟨bad.map natV, .inl hbl6, rfl, by rw [List.all_map]; exact List.all_eq_true.mpr fun _ _ => rfl, hb.symm⟩, _, rfl, ?_⟩
    have htk : found.take (n + 1) = found.take n ++ [e] := by rw [List.take_succ, he]; rfl
    refine ite_b (fun hy => ?_) (fun hy => ?_)
    · refine ⟨_, hwi _, _, hws _, p, u, rfl, .inl ⟨kvs, natK e.1, .inr ⟨od, hfr⟩, rfl, (valV_at hndk hq).symm⟩, ?_⟩
      refine ky u H6 G6 (Gr.start g6.sub) ?_
      show Paired _ (acc ++ [u]) _
      rw [htk, List.filter_append]
      have : [e].filter (fun e => decide (e.1 ∈ bad)) = [e] := by
        have hy2 := of_decide_eq_true hy
        simp [hy2]
      rw [this]
      exact pair_snoc (P := fun v (e : Nat × List NestedKey) => RunIs K G' v e.2 ∧ ∀ r, v = .ref r → H r = none) ⟨er, fun r z => hnew _ (List.mem_of_getElem? hq) r z⟩ pacc
    · refine kn H6 G6 (Gr.start g6.sub) ?_
      show Paired _ acc _
      rw [htk, List.filter_append]
      have : [e].filter (fun e => decide (e.1 ∈ bad)) = [] := by
        have hy2 := of_decide_eq_false hy
        simp [hy2]
      rw [this, List.append_nil]
      exact pacc
  · rintro acc G6 H6 g6 hg hl pacc
    have hfr : H6 p = some (.frz od (.dK kvs)) := g6.same _ _ upd_same
    have s1 : Same H1 (upd H6 p (.dK kvs)) := fun b o e => by
      by_cases eb : b = p
      · subst eb; rw [upd_same, ← hH1p]; exact e.symm ▸ rfl
      · rw [upd_ne eb]; exact g6.same b o (by rw [upd_ne eb]; exact e)
    have hLp : L ≠ p := fun e => by subst e; rw [upd_same] at hL; cases hL
    have hLd : upd H6 p (.dK kvs) L = some (.lst acc) := by rw [upd_ne hLp, g6.sub L _ upd_same]
    refine ⟨hfr, ?_⟩
    generalize upd H6 p (.dK kvs) = H4 at s1 hLd
    rw [hlen, List.take_length] at pacc
    have hσj : (σ.set j (some (.ref L)))[j]? = some (some (.ref L)) := List.getElem?_set_self hj
    refine ⟨_, hσj, by show 0 ≤ sizeLine; decide, fun e he => ?_⟩
    have hLe : upd H4 e (.lst []) L = some (.lst acc) := by rw [upd_ne (ne_sn hLd he)]; exact hLd
    refine ⟨L, e, acc, rfl, rfl, SqL.of hLe, SqL.of upd_same, _, rfl, ?_⟩
    have s2 : Same H1 (upd H4 e (.lst [])) := s1.to_upd he
    have gE : Gr NoM H G G' (upd H4 e (.lst [])) := gr.trans (Gr.of gr.sub s2)
    cases acc with
    | nil =>
      refine ite_n (by rfl) ?_
      refine k0 ?_ _ gE.same
      unfold badRuns
      generalize found.filter (fun e => decide (e.1 ∈ bad)) = fl at pacc
      cases pacc
      rfl
    | cons v acc =>
      refine ite_y (by rfl) ?_
      generalize hfl : found.filter (fun e => decide (e.1 ∈ bad)) = fl at pacc
      cases pacc with
      | @cons _ e0 _ fl' hv ht =>
        obtain ⟨⟨rr, xs, rfl, hrr, drr⟩, hn⟩ := hv
        have hrn := hn rr rfl
        have hGr : G rr = none := sGH.free hrn
        refine ⟨_, hσj, L, _, _, .ref rr, rfl, rfl, .inl (SqL.of hLe), atI_nat (j := 0) rfl, ?_⟩
        refine k1 e0.2 _ (by unfold badRuns; rw [hfl]; rfl) rr xs _ (del G' rr) (gE.drop hGr) hrn del_same (gE.sub _ _ hrr) (dp_dropL hrr drr)
end
theorem sc_break_run : FnScope ["play", "rules", "found", "runs", "stand"] ["play", "rules"] (defScope s_break_run) := ⟨rfl, rfl, rfl, by decide +kernel, rfl, by decide +kernel, by decide +kernel⟩
theorem sc_keeps : FnScope ["play", "rules"] ["play", "rules"] (defScope s_keeps) := ⟨rfl, rfl, rfl, by decide +kernel, rfl, by decide +kernel, by decide +kernel⟩
theorem sc_threat_run : FnScope ["play", "rules", "known", "table", "row", "found", "runs", "word", "stand"] ["play", "rules"] (defScope s_threat_run) := ⟨rfl, rfl, rfl, by decide +kernel, rfl, by decide +kernel, by decide +kernel⟩
section
variable {P : Program} {w : World} {K : PySem.W.Frag} {mg : Str → Option Value} {base : Heap}
theorem closedA {T : List Trow} {q : Str → Bool} (h : Closed T) (hT : T.length ≤ 1000) : ClosedA (adjQ q T) := by
  have e : (adjQ q T).length = T.length := by unfold adjQ adjOf; rw [List.length_map, List.length_map]
  exact ⟨by rw [e]; exact h.1, by rw [e]; exact hT, fun u k v m => by rw [e]; exact adj_lt h m⟩
/-- keeps, rules as they should be; told by the runs -/
def spBreak (K : PySem.W.Frag) (w : World) : Sp := fun vs H Q _ => ∃ (G : Hp) (pl : Addr) (rv : V) (d : D) (T : List Trow) (bad : List Nat) (f names : List Str), vs = [.ref pl, rv] ∧ Same G H ∧ PlayIs K w G pl T bad ∧ Dq K G rv d ∧ shortD d ∧ rulesOut d = .ok f ∧ Fit T names ∧ T.length ≤ 1000 ∧ Closed T ∧
  ∀ found, Bfs (adjQ (fun r => !decide (r ∈ f)) T) found found.length 0 → (badRuns bad found = [] → ∀ H', Same H H' → Q .non H') ∧ (∀ r rs, badRuns bad found = r :: rs → ∀ rr H', Same H H' → Q (.ref rr) H')
theorem ok_break_run (T : Txt K mg) : Cl P w K mg base CX0 4 "break_run" (spBreak K w) := by
  refine cl0 (T.F_break_run) T.g_break_run sc_break_run (fun vs H Q E h => ?_) (fun _ _ _ _ _ _ us hl => match us, hl with | [_, _], _ => rfl) (fun cdv A outer s H vs Q E hr h => ?_)
  · obtain ⟨G, pl, rv, d, Tb, bad, f, names, rfl, _⟩ := h
    rfl
  · obtain ⟨G, pl, rv, d, Tb, bad, f, names, rfl, s0, play, hrv, hsh, hro, fit, hT, hc, k⟩ := h
    refine ⟨_, (pss_cons (ps_set (i := 2) sc_break_run.nd rfl (by first | exact Or.inl rfl | exact Or.inr rfl) (pe_cl (ok_shortest_runs T) hr (by decide) pass0 (pa_cons (pe_cl (ok_steps_under T) hr (by decide) pass0 (pa_cons (pv 0) (pa_cons (pe_cl (ok_checked_rules T) hr (by decide) passE0 (pa_cons (pv 1) pa_nil)) pa_nil))) pa_nil)))
      (pss_cons (ps_lock (ps_setLc (i := 3) (own := [("stand", 4)]) rfl sc_break_run.nd rfl rfl (sw_true rfl rfl rfl (by kernel_rfl)) (pi_keys (pv 2)) (blkOk_by (by kernel_rfl)) (fun _ _ _ _ _ => (pg_name (i := 4) sc_break_run.nd rfl (by first | exact Or.inl rfl | exact Or.inr rfl))) (fun _ _ _ _ _ => (pts_one (pt_cmpR (inX (KK := K) (u1 hr)) (pv 4) (fldK (KK := K) (pv 0) rfl) (by rfl)))) (fun _ _ _ _ _ => (pe_dget (u1 hr) (pv 2) (pv 4) (fun _ _ => rfl)))))
      (pss_one (ps_ret (pe_ifExp (pt_cmpR (neNil (KK := K) (u1 hr)) (pv 3) (pe_lst pa_nil) (nomark _)) (pe_ix (ixQ (KK := K)) (pv 3) pe_int (fun _ _ => rfl)) pe_non))))), ?_⟩
    refine ⟨_, rfl, ⟨_, rfl, G, rv, _, rfl, s0, hrv, hsh, fun f' hfe p H1 G1 g1 hp1 => ?_, fun i he => by rw [hro] at he; cases he⟩⟩
    rw [hro] at hfe
    cases hfe
    refine ⟨G1, pl, p, Tb, bad, f, names, rfl, g1.sub, play.same g1.up, hp1, fit, hT, fun l H2 G2 g2 ladj => ?_⟩
    have cA : ClosedA (adjQ (fun r => !decide (r ∈ f)) Tb) := closedA hc hT
    refine ⟨G2, l, _, rfl, g2.sub, ladj, cA, fun p3 H3 G3 kvs found g3 hp3n hp3 fk hnew bfs hlt => ?_⟩
    obtain ⟨k0, k1⟩ := k found bfs
    have gg := (g1.trans g2).trans g3
    have few : found.length ≤ 1000 := by
      have := nodup_lt bfs.nd fun x m => by
        obtain ⟨e, he, rfl⟩ := List.mem_map.mp m
        exact hlt e he
      rw [List.length_map] at this
      exact Nat.le_trans this cA.2.1
    show tTail K 2 3 4 { nx := fun _ H' => Q .non H', rt := Q } [some (.ref pl), some rv, some (.ref p3), none, none] H3
    refine (tail_rd T (i := 2) (j := 3) (s := 4) rfl rfl (by decide) (by decide) (by decide) (by show 4 < 5; decide) (by show 3 < 5; decide) s0 gg hp3 fk (fun kv m r e => ?_) bfs.nd few (play.same gg.up) (fun e H' s' => k0 e H' s') (fun r rs e rr xs H' G4 g4 _ _ _ _ => k1 r rs e rr H' g4.same))
    exact (g1.trans g2).same.free (hnew kv m r e)
def spKeeps (K : PySem.W.Frag) (w : World) : Sp := fun vs H Q _ => ∃ (G : Hp) (pl : Addr) (rv : V) (d : D) (T : List Trow) (bad : List Nat) (f names : List Str), vs = [.ref pl, rv] ∧ Same G H ∧ PlayIs K w G pl T bad ∧ Dq K G rv d ∧ shortD d ∧ rulesOut d = .ok f ∧ Fit T names ∧ T.length ≤ 1000 ∧ Closed T ∧
  ∀ b H', Same H H' → (b = true ↔ ∀ ws v, Pth (adjQ (fun r => !decide (r ∈ f)) T) ws v → v ∉ bad) → Q (.bl b) H'
theorem ok_keeps (T : Txt K mg) : Cl P w K mg base CX0 5 "keeps" (spKeeps K w) := by
  refine cl0 (T.F_keeps) T.g_keeps sc_keeps (fun vs H Q E h => ?_) (fun _ _ _ _ _ _ us hl => match us, hl with | [_, _], _ => rfl) (fun cdv A outer s H vs Q E hr h => ?_)
  · obtain ⟨G, pl, rv, d, Tb, bad, f, names, rfl, _⟩ := h
    rfl
  · obtain ⟨G, pl, rv, d, Tb, bad, f, names, rfl, s0, play, hrv, hsh, hro, fit, hT, hc, k⟩ := h
    refine ⟨_, (pss_one (ps_ret (pe_cmpR op_isN (pe_cl (ok_break_run T) hr (by decide) pass0 (pa_cons (pv 0) (pa_cons (pv 1) pa_nil))) pe_non (nomark _)))), ?_⟩
    refine ⟨_, rfl, _, rfl, G, pl, rv, d, Tb, bad, f, names, rfl, s0, play, hrv, hsh, hro, fit, hT, hc, fun found bfs => ⟨fun e H' s' => ⟨rfl, k _ H' s' ?_⟩, fun r rs e rr H' s' => ⟨rfl, k _ H' s' ?_⟩⟩⟩
    · exact ⟨fun _ ws v g => bfs.badRuns_nil (Nat.le_refl _) e g, fun _ => decide_eq_true rfl⟩
    · obtain ⟨⟨v, hv, g⟩, _⟩ := bfs.badRuns_cons (Nat.le_refl _) e
      exact ⟨fun z => absurd (of_decide_eq_true z) (fun z => nomatch z), fun z => absurd hv (z r v g)⟩
/-! ### threat_run -/
def spThreatRun (K : PySem.W.Frag) (w : World) : Sp := fun vs H Q E => ∃ (G : Hp) (pl : Addr) (rv : V) (d : D) (T : List Trow) (bad : List Nat) (names : List Str), vs = [.ref pl, rv] ∧ Same G H ∧ PlayIs K w G pl T bad ∧ Dq K G rv d ∧ shortD d ∧ Fit T names ∧ T.length ≤ 1000 ∧ Closed T ∧
  (∀ f, rulesOut d = .ok f → ∀ found, Bfs (adjQ (fun r => decide (r ∈ f)) T) found found.length 0 → (badRuns bad found = [] → ∀ H', Same H H' → Q .non H') ∧
    (∀ r rs, badRuns bad found = r :: rs → ∀ rr xs H' G', Gr NoM H G G' H' → H rr = none → G' rr = none → H' rr = some (.lst xs) → DpAll K G' xs (r.map NestedKey.data) → Q (.ref rr) H')) ∧
  (∀ i, rulesOut d = .error i → ∀ dd H', Same H H' → H' dd = some (xdI (i : Nat)) → E (.ref (He.ga K "BadRules")) (some dd) H')
theorem part_all (rs f : List Str) : part rs f = rs.all fun r => decide (r ∈ f) := rfl
theorem ok_threat_run (T : Txt K mg) : Cl P w K mg base (L2.CX P w) 4 "threat_run" (spThreatRun K w) := by
  refine clX (T.F_threat_run) T.g_threat_run sc_threat_run (fun vs H Q E h => ?_) (fun _ _ _ _ _ _ us hl => match us, hl with | [_, _], _ => rfl) (fun cdv A outer s H vs Q E hr h => ?_)
  · obtain ⟨G, pl, rv, d, Tb, bad, names, rfl, _⟩ := h
    rfl
  · obtain ⟨G, pl, rv, d, Tb, bad, names, rfl, s0, play, hrv, hsh, fit, hT, hc, k, kE⟩ := h
    refine ⟨_, (pss_cons (ps_asg (pe_tup (pa_cons (pe_cl (ok_checked_rules T) hr (by decide) (passes_call (takes_of rfl rfl rfl rfl) fun _ _ _ _ h => h) (pa_cons (pv 1) pa_nil)) (pa_cons (pe_lst pa_nil) pa_nil))) (tupG (KK := K) (by rfl) (pgs_cons (pg_name (i := 2) sc_threat_run.nd rfl (by first | exact Or.inl rfl | exact Or.inr rfl)) (pgs_cons (pg_name (i := 3) sc_threat_run.nd rfl (by first | exact Or.inl rfl | exact Or.inr rfl)) pgs_nil))))
      (pss_cons (ps_for (passes_of rfl) rfl (sqI (KK := K) (fldK (KK := K) (pv 0) rfl)) (pg_name (i := 4) sc_threat_run.nd rfl (by first | exact Or.inl rfl | exact Or.inr rfl))
        (pss_one (ps_expr (pe_bm PySem.F.plainAttrs_list PySem.F.slot_list_append PySem.F.type_list_append mt_append (pv 3) (pa_cons (pe_dcw (u8 hr) (ow := [("word", 7)]) rfl sc_threat_run.nd (wKeys (ww := w) (pv 4)) (blkOk_by (by kernel_rfl)) (fun _ _ _ _ _ => (pg_name (i := 7) sc_threat_run.nd rfl (by first | exact Or.inl rfl | exact Or.inr rfl))) (fun _ _ _ _ _ => (pts_one (pt_val (pe_cl (ok_is_part T) hr (by decide) pass0 (pa_cons (pe_ix (ixQ (KK := K)) (wGet (KK := K) (ww := w) (u9 hr) (pv 4) (pv 7) (fun _ _ => rfl)) pe_int (fun _ _ => rfl)) (pa_cons (pv 2) pa_nil)))))) (fun _ _ _ _ _ => (pv 7)) (fun _ _ _ _ _ => (pe_ix (ixQ (KK := K)) (wGet (KK := K) (ww := w) (u9 hr) (pv 4) (pv 7) (fun _ _ => rfl)) pe_int (fun _ _ => rfl)))) pa_nil)))))
      (pss_cons (ps_set (i := 5) sc_threat_run.nd rfl (by first | exact Or.inl rfl | exact Or.inr rfl) (pe_cl (ok_shortest_runs T) hr (by decide) pass0 (pa_cons (pv 3) pa_nil)))
      (pss_cons (ps_lock (ps_setLc (i := 6) (own := [("stand", 8)]) rfl sc_threat_run.nd rfl rfl (sw_true rfl rfl rfl (by kernel_rfl)) (pi_keys (pv 5)) (blkOk_by (by kernel_rfl)) (fun _ _ _ _ _ => (pg_name (i := 8) sc_threat_run.nd rfl (by first | exact Or.inl rfl | exact Or.inr rfl))) (fun _ _ _ _ _ => (pts_one (pt_cmpR (inX (KK := K) (u1 hr)) (pv 8) (fldK (KK := K) (pv 0) rfl) (by rfl)))) (fun _ _ _ _ _ => (pe_dget (u1 hr) (pv 5) (pv 8) (fun _ _ => rfl)))))
      (pss_one (ps_ret (pe_ifExp (pt_cmpR (neNil (KK := K) (u1 hr)) (pv 6) (pe_lst pa_nil) (nomark _)) (pe_ix (ixQ (KK := K)) (pv 6) pe_int (fun _ _ => rfl)) pe_non))))))), ?_⟩
    refine ⟨_, rfl, G, rv, _, rfl, s0, hrv, hsh, fun f hfe p H1 G1 g1 hp1 => ?_, kE⟩
    have k := k f hfe
    refine ⟨by show 0 ≤ sizeLine; decide, fun F hF => ⟨by show 2 ≤ sizeLine; decide, fun t ht => ⟨t, _, rfl, SqT.of upd_same, rfl, ⟨_, _, rfl, ⟨_, _, rfl, ⟨rfl, ?_⟩⟩⟩⟩⟩⟩
    dsimp only [tNext, tRet, tOp, tSeq, gName, tAsg]
    have hFH : H F = none := g1.same.free hF
    have hG1F := g1.sub.free hF
    have gm : Gr NoM H G G1 (upd H1 F (.lst [])) := g1.mine hF
    have hFt : F ≠ t := ne_sn upd_same ht
    have g0 := gm.mine (o := .tup [.ref p, .ref F]) ht
    have hF0 : upd (upd H1 F (.lst [])) t (.tup [.ref p, .ref F]) F = some (.lst []) := by rw [upd_ne hFt, upd_same]
    generalize upd (upd H1 F (.lst [])) t (.tup [.ref p, .ref F]) = H1' at g0 hF0
    obtain ⟨dx, tl, bl, hpl, ⟨as0, has, pas⟩, _⟩ := (play.same g1.up).ex
    refine for_sqG (K := K) (a := tl) (xs := as0.map V.ref) (fun i σ H' => ∃ o4 G2 as, σ = [some (.ref pl), some rv, some (.ref p), some (.ref F), o4, none, none, none, none] ∧ Gr NoM H G G2 H' ∧ Same G1 G2 ∧ H' F = some (.lst (List.map V.ref as)) ∧ G2 F = none ∧ Paired (AdjIs K w G2) as (adjQ (fun r => decide (r ∈ f)) (Tb.take i))) G1 (fun R' r => ⟨_, rfl, pl, aPlay K, dx, _, .ref tl, rfl, g0.sub _ _ hpl, T.p_cl, T.p_nT, rfl, r⟩) g0.sub (.inl has) ⟨_, G1, [], rfl, g0, Same.refl _, hF0, hG1F, .nil⟩ (fun i σ H' ⟨_, _, _, _, gr, sm, _⟩ => sm.trans gr.sub) ?_ ?_
    · rintro i v σ H' hv ⟨o4, G2, as, rfl, g2, s12, hHF, hG2F, pas2⟩
      rw [List.getElem?_map, Option.map_eq_some_iff] at hv
      obtain ⟨a, ha, rfl⟩ := hv
      obtain ⟨row, hrow, ra⟩ := paired_get pas ha
      have ra2 := ra.same s12
      refine ⟨_, rfl, .inl ⟨rfl, _, SqL.of hHF⟩, ?_⟩
      refine row_comp (q := fun r => decide (r ∈ f)) (i := 4) (j := 7) rfl (by decide) (by show 7 < 9; decide) g2.sub ra2 (fun x v pr kvs ep H5 R sG5 hpm ks wd dp d8 hv kR => ?_) (fun D H5 G5 g5 adj => ?_)
      · obtain ⟨t, w', rt, sd', rfl, htup, hdp, hrt, _⟩ := ks.ex
        have hp5 : H5 p = some (.dK (setK f)) := sG5 _ _ (s12 _ _ hp1)
        refine ⟨_, rfl, _, rfl, a, kvs, ep, _, _, rfl, wd, dp, d8, hv, ?_⟩
        refine ⟨t, _, 3, .ref rt, rfl, rfl, .inr htup, atI_nat (j := 3) rfl, _, rfl, rt, p, pr.2, f, rfl, .inr hrt, Nat.le_trans (fit.len (fit_row fit hrow hpm)) (by decide), .inr hp5, fun H6 s6 => ⟨_, rfl, kR H6 s6⟩⟩
      · have gg := g2.trans g5
        have hF5 := g5.keep hHF
        have hG5F := g5.out hHF hG2F
        have hl2 := Paired.length pas2
        have hl3 : (adjQ (fun r => decide (r ∈ f)) (Tb.take i)).length ≤ 1000 := by
          unfold adjQ adjOf
          rw [List.length_map, List.length_map, List.length_take]
          omega
        refine ⟨F, _, .ref D, rfl, rfl, hF5, by rw [List.length_map, hl2]; exact Nat.lt_of_le_of_lt hl3 (by decide), ?_⟩
        refine ⟨_, G5, as ++ [D], rfl, gg.chg (.inl hFH) hG5F, s12.trans g5.up, by rw [upd_same, List.map_append]; rfl, hG5F, ?_⟩
        rw [adj_take hrow]
        exact pair_snoc adj (pair_imp (fun _ _ => AdjIs.same g5.up) pas2)
    · rintro σ H' ⟨o4, G2, as, rfl, g2, s12, hHF, hG2F, pas2⟩
      have e : (as0.map V.ref).length = Tb.length := by rw [List.length_map]; exact Paired.length pas
      rw [e, List.take_length] at pas2
      have gF := g2.give hFH (fun z => z) hG2F hHF
      have ladj : LAdj K w (upd G2 F (.lst (as.map V.ref))) F (adjQ (fun r => decide (r ∈ f)) Tb) := ⟨as, SqL.of upd_same, pair_imp (fun _ _ => AdjIs.same (Same.upd_none hG2F)) pas2⟩
      have cA : ClosedA (adjQ (fun r => decide (r ∈ f)) Tb) := closedA hc hT
      refine ⟨_, rfl, _, F, _, rfl, gF.sub, ladj, cA, fun p3 H3 G3 kvs found g3 hp3n hp3 fk hnew bfs hlt => ?_⟩
      obtain ⟨k0, k1⟩ := k found bfs
      have gg := gF.trans g3
      have few : found.length ≤ 1000 := by
        have := nodup_lt bfs.nd fun x m => by
          obtain ⟨e, he, rfl⟩ := List.mem_map.mp m
          exact hlt e he
        rw [List.length_map] at this
        exact Nat.le_trans this cA.2.1
      show tTail K 5 6 8 { nx := fun _ H' => Q .non H', rt := Q } [some (.ref pl), some rv, some (.ref p), some (.ref F), o4, some (.ref p3), none, none, none] H3
      refine (tail_rd T (i := 5) (j := 6) (s := 8) rfl rfl (by decide) (by decide) (by decide) (by show 8 < 9; decide) (by show 6 < 9; decide) s0 gg hp3 fk (fun kv m r e => ?_) bfs.nd few (play.same gg.up) (fun e H' s' => k0 e H' s') (fun r rs e rr xs H' G4 g4 h1 h2 h3 h4 => k1 r rs e rr xs H' G4 g4 h1 h2 h3 h4))
      exact gF.same.free (hnew kv m r e)
end
end K8
-- K8WOld
set_option maxRecDepth 100000
set_option maxHeartbeats 4000000
namespace K8
open PySem PySem.Spec PyProof.Rows L2
/-! ### a key that stands is stored again -/
section
variable {w : World} {prog : Program} {A : Around} {E : Value → Shared → Prop} {s : Shared} {d : Addr} {o : Obj} {es : Array DictEntry} {ep : Nat} {xs : List En} {k : NestedKey} {key : Value}
theorem mod_same {es : List DictEntry} {j : Nat} {e : DictEntry} {v : Value} (h : es[j]? = some e) (hv : e.val = v) : es.modify j (fun e => { e with val := v }) = es := by
  refine List.ext_getElem? fun i => ?_
  rw [List.getElem?_modify]
  by_cases c : j = i
  · subst c
    rw [h]
    subst hv
    simp
  · simp [c]
theorem set_w_old {v : Value} {Q : Unit → Shared → Prop} (hu : A.units + 8 < cLine) (hk : KeyAt s.heap k key) (ho : s.heap.get? d = some o) (hc : o.ExactDict) (hd : o.data = .dict es ep) (En : Ens w s.heap es xs) (hno : enAt xs k = some v)
    (h : ∀ h' o' es' ep' tk, h'.get? d = some o' → o'.ExactDict → o'.data = .dict es' ep' → es'.toList = es.toList → Heap.SameBut d s.heap h' → Q () { s with heap := h', toks := tk }) : wpAny (model prog w) A (dictSet d key v) Q E s := by
  unfold dictSet
  try with_reducible refine wpAny_holding ?_
  refine wpAny_bind (pyHash_key k key A s _ hk.1 (by have := hk.2; omega) ?_)
  unfold dictSetHashed
  try with_reducible refine wpAny_holding ?_
  refine wpAny_bind (find_w (s := { s with toks := s.toks + k.draws }) hu hk ho hd En (fun hn => ?_) fun j p hj => ?_)
  · rw [enAt_none hn] at hno
    cases hno
  · have hv : p.2 = v := by
      rw [enAt_some En.nd hj] at hno
      exact Option.some.inj hno
    refine wpAny_bind (wpAny_rule (wpAny_bind (wpAny_updateDict (s := { s with toks := s.toks + k.draws }) ho hd (wpAny_point (h _ _ _ ep _ (Heap.get?_update_self _ ho (Obj.isFreed_of_dict (Obj.data_mapDict hd _))) (hc.mapDict _) (Obj.data_mapDict hd _) ?_ (Heap.SameBut.update ..))))))
    have hj2 : es.toList[j]? = some (enOf w (k, p)) := by
      have := En.at_ j
      rw [hj] at this
      rw [Array.getElem?_toList]
      exact this
    rw [Array.toList_modify]
    exact mod_same hj2 hv
end
section
variable {X : Cx} {pins : List (Addr × Obj)} {σ : L2.St} {H : Hp} {s : Shared} {a : Addr} {kvs : List WE} {A : Around} {E : Value → Shared → Prop}
theorem wd_old {ep : Nat} {k : NestedKey} {v : V} {c : Bool} {u r : Value} {Q : Unit → Shared → Prop} (hu : A.units + 8 < cLine) (I : Inv X pins σ H s) (hH : H a = some (wdO X.w a kvs ep)) (d : WD X.K X.w H a kvs ep) (hk : Dp X.K H v k.data) (h8 : k.depth ≤ 8) (rv : RelV v u) (rz : RelV (.bl c) r) (hz : wV kvs k = some (.bl c))
    (h : ∀ ep' s', Inv X pins σ (upd H a (wdO X.w a kvs ep')) s' → Q () s') : wpAny (model X.prog X.w) A (dictSet a u r) Q E s := by
  obtain ⟨es, xs, ⟨o, ho, hc, hd⟩, p, En, hv, hl⟩ := wd_obj I d
  have ka := key_at I hk h8 rv
  obtain ⟨u', hu', ru⟩ := RelO.some_of (v := .bl c) (o := enAt xs k) (by rw [← hz]; exact hv k)
  have e1 : u' = .bool c := ru
  have e2 : r = .bool c := rz
  subst e1 e2
  refine set_w_old hu ka ho hc hd En hu' fun h' o' es' ep' tk ho' hc' hd' he sb => h ep' _ ?_
  refine d_write I (by rw [hH]; exact True.intro) sb ⟨o', ho'⟩ (wd_ok ⟨o', ho', hc', hd'⟩ ?_)
  rw [he]
  exact p
end
/-- D the new dict -/
def tDcW2 (K : PySem.W.Frag) (w : World) (wi : TI) (g : TG) (tt : TT) (tk tv : TE) (vs : List Nat) : TE := fun σ H Q => wi σ H fun J H1 => ∀ D, H1 D = none → (D == sysModules) = false →
  ∃ W : Nat → Nat → Hp → Prop, (∃ m, W 0 m (upd H1 D (wdO w D [] 0))) ∧ ∀ i m H, W i m H → (J.stop i H ∧ Q (.ref D) H) ∨ (J.go i H ∧ ∃ Nx : Hp → Prop, (∀ H', Nx H' → ∃ m', m' < m ∧ W (i + 1) m' H') ∧
    ∀ x H', J.yld i H x H' → g x (wipe σ vs) H' fun σ2 H2 => wipe σ2 vs = wipe σ vs ∧ tt σ2 H2 fun b H3 =>
      if b = true then tk σ2 H3 fun y H4 => tv σ2 H4 fun z H5 => ∃ kvs ep k, H5 D = some (wdO w D kvs ep) ∧ WD K w H5 D kvs ep ∧ Dp K H5 y k.data ∧ k.depth ≤ 8 ∧ kvs.length < 100000 ∧ ((wV kvs k = none ∧ ∀ ep', Nx (upd H5 D (wdO w D (kvs ++ [(k, y, z)]) ep'))) ∨ ∃ c, z = .bl c ∧ wV kvs k = some (.bl c) ∧ ∀ ep', Nx (upd H5 D (wdO w D kvs ep'))) else Nx H3)
section
variable {X : Cx}
theorem dcw2_core {pins : List (Addr × Obj)} {s : Shared} {σ : L2.St} {H : Hp} {Q : VK} {kx vx tg iter : Expr} {ifs : List Expr} {scp : Scope} {ow : List (Str × Nat)} {ps ps' : Pos} {wi : TI} {g : TG} {tt : TT} {tk tv : TE} {use : Option (Value → Sem Unit)} {Qf : Value → Shared → Prop}
    (hu : X.A.units + 8 < cLine) (hc : X.calm = true) (hnd : X.N.Nodup) (I : Inv X pins σ H s) (hi : PI X tg iter wi) (bok : BlkOk X.N X.env.scope scp ow)
    (hg : ∀ (s : Shared) (H : Hp) (C : Addr) (cz : List (Str × Addr)) (fq : List Addr), PG (X.blk s H scp (compEnvC scp cz C X.env) fq) tg g) (ht : ∀ (s : Shared) (H : Hp) (C : Addr) (cz : List (Str × Addr)) (fq : List Addr), PTs (X.blk s H scp (compEnvC scp cz C X.env) fq) ifs tt)
    (hk : ∀ (s : Shared) (H : Hp) (C : Addr) (cz : List (Str × Addr)) (fq : List Addr), PE (X.blk s H scp (compEnvC scp cz C X.env) fq) kx tk)
    (he : ∀ (s : Shared) (H : Hp) (C : Addr) (cz : List (Str × Addr)) (fq : List Addr), PE (X.blk s H scp (compEnvC scp cz C X.env) fq) vx tv) (hs : ∀ x, foldedSetIterable iter X.env x = pure x)
    (h : tDcW2 X.K X.w wi g tt tk tv (ow.map (·.2)) σ H Q)
    (hRR : ∀ D C s' m H', Inv X pins σ H' s' → Q (.ref D) H' → s'.heap.Ns C m → FpOk X pins H' C → compPost (model X.prog X.w) X.A X.xe use Qf (.ref D) C (.ok .next) s') :
    wpAny (model X.prog X.w) X.A (comprehension (.DictComp kx vx [⟨tg, iter, ifs, 0⟩] scp ps) scp X.env ps' newDict false (eval iter X.env) use) Qf X.xe s := by
  have hfr : ∀ y ∈ scp.names, y.2 = .free → ∃ c, X.env.cells.lookup y.1 = some c := fun y hy e => by
    rcases bok.free y hy e with k | k
    · exact I.ok.has _ (.inl k)
    · exact I.ok.has _ (.inr k)
  refine wpAny_comprehension_free (use := use) rfl hs (closure_ok hfr) bok.kind (fun y hy e => by rw [bok.uniq y hy, e])
    (thn (hi.run pins s σ H _ I h) fun xv zk1 hx => thn hx fun itv zk2 h2 => ?_)
  obtain ⟨it, fq, tm, J, Gk2, e, Jk2, T, tt2, f2, q⟩ := h2
  subst e
  refine wpAny_newObj_type (newEnv_comp ?_)
  generalize hD : zk2.heap.objs.size = D
  have hDn : Gk2 D = none := Jk2.hok.fresh (Nat.le_of_eq hD)
  obtain ⟨W, ⟨m0, w0⟩, turn⟩ := q D hDn (by rw [← hD]; exact beq_eq_false_iff_ne.mpr (Ne.symm (Nat.ne_of_lt Jk2.big)))
  -- the new list
  generalize hz3 : ({ zk2 with heap := zk2.heap.push { cls := .type "dict", data := .dict #[] } } : Shared) = zk3
  have Jk3 : Inv X pins σ (upd Gk2 D (wdO X.w D [] 0)) zk3 := by
    rw [← hz3]
    refine Jk2.laid (t' := zk2.toks) (fun b o e => Heap.get?_push_of_some _ e) (Nat.le_of_eq hD) ?_
    rw [← hD]
    exact wd_ok (raw_new zk2.heap) .nil
  have h3 : zk3.heap = zk2.heap.push { cls := .type "dict", data := .dict #[] } := by rw [← hz3]
  have zs : ∀ b ∈ fq, b < zk2.heap.objs.size := fun b hb => by
    obtain ⟨o, e, _⟩ := T.obj _ _ tt2 b hb
    exact Heap.lt_size e
  have f3 : ∀ b ∈ fq, FpOk X pins (upd Gk2 D (wdO X.w D [] 0)) b ∧ b < zk3.heap.objs.size := fun b hb => by
    have hlt := zs b hb
    refine ⟨⟨?_, (f2 b hb).2⟩, by rw [h3, Heap.size_push]; exact Nat.lt_succ_of_lt hlt⟩
    rw [upd_ne (by rw [← hD]; exact Nat.ne_of_lt hlt)]
    exact (f2 b hb).1
  have tt3 : tm 0 zk3.heap := T.keep _ _ _ tt2 fun b _ o e => by rw [h3]; exact Heap.get?_push_of_some _ e
  have Jk4 := block_start Jk3 bok hnd f3
  have pg := hg zk3 (upd Gk2 D (wdO X.w D [] 0)) zk3.heap.objs.size (cellsFrom (zk3.heap.objs.size + 1) scp.names (cloFrom X.env.cells scp.names [])) fq
  have pt := ht zk3 (upd Gk2 D (wdO X.w D [] 0)) zk3.heap.objs.size (cellsFrom (zk3.heap.objs.size + 1) scp.names (cloFrom X.env.cells scp.names [])) fq
  have pk := hk zk3 (upd Gk2 D (wdO X.w D [] 0)) zk3.heap.objs.size (cellsFrom (zk3.heap.objs.size + 1) scp.names (cloFrom X.env.cells scp.names [])) fq
  have pe := he zk3 (upd Gk2 D (wdO X.w D [] 0)) zk3.heap.objs.size (cellsFrom (zk3.heap.objs.size + 1) scp.names (cloFrom X.env.cells scp.names [])) fq
  show codeAny _ _ (.compStart (.DictComp kx vx [⟨tg, iter, ifs, 0⟩] scp ps) 0 (.ref it) (.ref D) (compEnvC scp (cellsFrom (zk3.heap.objs.size + 1) scp.names (cloFrom X.env.cells scp.names [])) zk3.heap.objs.size X.env)) (compPost (model X.prog X.w) X.A X.xe use Qf (.ref D) zk3.heap.objs.size) { zk3 with heap := pushCells (zk3.heap.push { cls := .type "dict", data := .dict #[] }) scp.names }
  have nfp : ∀ b ∈ fq, (upd Gk2 D (wdO X.w D [] 0)) b = none := fun b hb => (f3 b hb).1.1
  generalize hce : compEnvC scp (cellsFrom (zk3.heap.objs.size + 1) scp.names (cloFrom X.env.cells scp.names [])) zk3.heap.objs.size X.env = cv at Jk4 pg pt pk pe ⊢
  have cL : cv.locals = zk3.heap.objs.size := by subst hce; rfl
  generalize hH3 : upd Gk2 D (wdO X.w D [] 0) = Gk3 at Jk3 Jk4 pg pt pk pe w0 nfp f3
  generalize hz4 : ({ zk3 with heap := pushCells (zk3.heap.push { cls := .type "dict", data := .dict #[] }) scp.names } : Shared) = zk4 at Jk4 ⊢
  have tt4 : tm 0 zk4.heap := T.keep _ _ _ tt3 fun b _ o e => by rw [← hz4]; exact pushCells_keeps _ _ _ _ (Heap.get?_push_of_some _ e)
  have stt : ∀ {σ' : L2.St} {H' : Hp} {s' : Shared}, Inv (X.blk zk3 Gk3 scp cv fq) [] σ' H' s' → (∀ b ∈ fq, H' b = none) → ∀ b ∈ fq, FpOk (X.blk zk3 Gk3 scp cv fq) [] H' b := fun {σ' H' s'} I' hn b hb =>
    ⟨hn b hb, (I'.ok.exf b hb).1, I'.ok.exfs b hb, .inl hb, fun x c e => (I'.ok.exf b hb).2 x c e, fun p hp => absurd (show p ∈ ([] : List (Addr × Obj)) ++ [] from hp) (by simp)⟩
  have loop : codeAny (model X.prog X.w) X.A (.compLoop (.DictComp kx vx [⟨tg, iter, ifs, 0⟩] scp ps) 0 (.ref it) (.ref D) cv) (compPost (model X.prog X.w) X.A X.xe use Qf (.ref D) zk3.heap.objs.size) zk4 := by
    refine compLoop_anyD (fun n s' => ∃ i H', Inv (X.blk zk3 Gk3 scp cv fq) [] (wipe σ (ow.map (·.2))) H' s' ∧ tm i s'.heap ∧ (∀ b ∈ fq, H' b = none) ∧ W i n H') ?_ m0 ⟨0, Gk3, Jk4, tt4, nfp, w0⟩
    rintro n zk5 ⟨i, Gk5, Jk5, tt5, n5, w5⟩
    rcases turn i n Gk5 w5 with ⟨stop, qq⟩ | ⟨go, Nx, hNx, step⟩
    · have td := T.done (X.blk zk3 Gk3 scp cv fq) rfl rfl rfl hc i [] zk5 _ Gk5 (fun _ _ => False) Jk5 (stt Jk5 n5) tt5 stop
      refine thnF td fun r zk6 ⟨hr, Jk6⟩ => ?_
      subst hr
      -- back in the def's context
      have Jk7 : Inv X pins σ Gk5 zk6 := Jk3.call' (ch := fq) Jk6.os Jk6.base Jk6.hok Jk6.bare fun b hb => ⟨(f3 b hb).1.2.2.2.1, (f3 b hb).1.2.1, (f3 b hb).1.2.2.2.2.1, (f3 b hb).1.2.2.2.2.2⟩
      have nC : Gk5 zk3.heap.objs.size = none := by
        have z : Gk5 cv.locals = none := Jk6.free
        rw [cL] at z
        exact z
      obtain ⟨m, hn, _⟩ := Jk6.loc
      have hn : zk6.heap.Ns cv.locals m := hn
      rw [cL] at hn
      exact hRR D zk3.heap.objs.size zk6 m Gk5 Jk7 qq hn (Jk3.fpOk (Nat.le_refl _) nC)
    · have ti := T.item (X.blk zk3 Gk3 scp cv fq) rfl rfl rfl hc i [] zk5 _ Gk5 (fun _ _ => False) Jk5 (stt Jk5 n5) tt5 go
      refine thnF ti fun r zk6 ⟨u, hr, h6⟩ => ?_
      subst hr
      refine thnF h6 fun _ zk7 ⟨x, Gk7, Jk7, ek7, y7, tt7, n7⟩ => ?_
      have Jk7' := Jk7.pinned (stt Jk7 n7) (T.obj _ _ tt7)
      refine thnF (pg.run _ zk7 _ Gk7 x u _ Jk7' ek7 (step x Gk7 y7)) fun _ zk8 ⟨ρ8, Gk8, Jk8, hw8, o8⟩ => ?_
      refine thnF (pt.run _ zk8 ρ8 Gk8 _ Jk8 o8) fun b zk9 ⟨Gk9, Jk9, o9⟩ => ?_
      -- the turn's end
      have fen : ∀ {s' : Shared} {H' : Hp}, Inv (X.blk zk3 Gk3 scp cv fq) ([] ++ pinsAt fq zk7.heap) ρ8 H' s' → Nx H' → ∃ m, m < n ∧ ∃ i H', Inv (X.blk zk3 Gk3 scp cv fq) [] (wipe σ (ow.map (·.2))) H' s' ∧ tm i s'.heap ∧ (∀ b ∈ fq, H' b = none) ∧ W i m H' := fun {s' H'} I' nx => by
        obtain ⟨m', hm, w'⟩ := hNx H' nx
        have pin' : ∀ b ∈ fq, ∀ o, zk7.heap.get? b = some o → s'.heap.get? b = some o ∧ H' b = none := fun b hb o e =>
          let z := I'.pin (b, o) (List.mem_append_right _ (List.mem_append_right _ (mem_pinsAt hb e)))
          ⟨z.1, z.2.1⟩
        have hl : (wipe σ (ow.map (·.2))).length = ρ8.length := by rw [← hw8, wipe_length]
        refine ⟨m', hm, i + 1, H', (I'.unpinned (pins := [])).weak hl (fun j v e => ?_), T.keep _ _ _ tt7 fun b hb o e => (pin' b hb o e).1, fun b hb => ?_, w'⟩
        · rw [← hw8] at e
          exact (wipe_some e).1
        · obtain ⟨o, e, _⟩ := T.obj _ _ tt7 b hb
          exact (pin' b hb o e).2
      cases b with
      | false =>
        simp only [Bool.false_eq_true, if_false] at o9 ⊢
        exact fen Jk9 o9
      | true =>
        simp only [if_true] at o9 ⊢
        refine thnF (pk.run _ zk9 ρ8 Gk9 _ Jk9 o9) fun z zk10 ⟨yk, Gk10, Jk10, ek10, o10⟩ => ?_
        refine thnF (pe.run _ zk10 ρ8 Gk10 _ Jk10 o10) fun z2 zk11 ⟨yv, Gk11, Jk11, ek11, kvs, ep, k, hD11, wd11, hk11, h8, hz11, nx⟩ => ?_
        rcases nx with ⟨hn11, nx⟩ | ⟨c, rfl, hn11, nx⟩
        · exact wd_set (X := X.blk zk3 Gk3 scp cv fq) hu Jk11 hD11 wd11 hk11 h8 ek10 ek11 hn11 fun ep' zk12 Jk12 => fen Jk12 (nx ep')
        · exact wd_old (X := X.blk zk3 Gk3 scp cv fq) hu Jk11 hD11 wd11 hk11 h8 ek10 ek11 hn11 fun ep' zk12 Jk12 => fen Jk12 (nx ep')
  exact codeAny_compStart_dict loop (T.self X.A 0 _ _ _ tt4 loop)
/-- as a value -/
theorem pe_dcw2 {kx vx tg iter : Expr} {ifs : List Expr} {scp : Scope} {ow : List (Str × Nat)} {ps : Pos} {wi : TI} {g : TG} {tt : TT} {tk tv : TE} (hu : X.A.units + 8 < cLine) (hc : X.calm = true) (hnd : X.N.Nodup) (hi : PI X tg iter wi) (bok : BlkOk X.N X.env.scope scp ow)
    (hg : ∀ (s : Shared) (H : Hp) (C : Addr) (cz : List (Str × Addr)) (fq : List Addr), PG (X.blk s H scp (compEnvC scp cz C X.env) fq) tg g) (ht : ∀ (s : Shared) (H : Hp) (C : Addr) (cz : List (Str × Addr)) (fq : List Addr), PTs (X.blk s H scp (compEnvC scp cz C X.env) fq) ifs tt)
    (hk : ∀ (s : Shared) (H : Hp) (C : Addr) (cz : List (Str × Addr)) (fq : List Addr), PE (X.blk s H scp (compEnvC scp cz C X.env) fq) kx tk)
    (he : ∀ (s : Shared) (H : Hp) (C : Addr) (cz : List (Str × Addr)) (fq : List Addr), PE (X.blk s H scp (compEnvC scp cz C X.env) fq) vx tv) (hs : ∀ x, foldedSetIterable iter X.env x = pure x := by intro _; rfl) :
    PE X (.DictComp kx vx [⟨tg, iter, ifs, 0⟩] scp ps) (tDcW2 X.K X.w wi g tt tk tv (ow.map (·.2))) := by
  refine ⟨fun pins s σ H Q I h => ?_⟩
  rw [arm_eval_DictComp]
  refine dcw2_core hu hc hnd I hi bok hg ht hk he hs h fun D C s' m H' I' q hn f => ⟨m, hn, fun h'' sb => ?_⟩
  obtain ⟨f0, f1, f2, f3, f4, f5⟩ := f
  exact ⟨.ref D, H', I'.turned (t' := s'.toks) (fun b o hb e => (sb.2 b hb).trans e) f0 f1 f3 f4 f5, rfl, q⟩
end
/-! ### the sets as keys -/
section
variable {K : PySem.W.Frag} {w : World}
def setKey (x : List Str) : NestedKey := .tup (x.map .text)
theorem setKey_inj {x y : List Str} (h : setKey x = setKey y) : x = y := by
  unfold setKey at h
  injection h with h
  induction x generalizing y with
  | nil => cases y with
    | nil => rfl
    | cons b t => cases h
  | cons a r ih => cases y with
    | nil => cases h
    | cons b t =>
      injection h with h1 h2
      injection h1 with h1
      rw [h1, ih h2]
theorem setKey_data (x : List Str) : (setKey x).data = setD x := by
  unfold setKey setD
  rw [NestedKey.data, datas_map, List.map_map]
  rfl
theorem setKey_depth (x : List Str) : (setKey x).depth ≤ 8 := by
  unfold setKey
  rw [NestedKey.depth]
  have : NestedKey.depthAll (x.map .text) = 0 := by
    induction x with
    | nil => rfl
    | cons a r ih => rw [List.map_cons, NestedKey.depthAll, ih]; rfl
  omega
end
end K8
-- K8Order
set_option maxRecDepth 100000
set_option maxHeartbeats 4000000
namespace K8
open PySem PySem.Spec PyProof.Rows L2
def SetsV (K : PySem.W.Frag) (G : Hp) (xs : List V) (Ss : List (List Str)) : Prop := Paired (fun v S => Dp K G v (setD S)) xs Ss
theorem SetsV.same {K : PySem.W.Frag} {G H : Hp} {xs : List V} {Ss : List (List Str)} (s : Same G H) (h : SetsV K G xs Ss) : SetsV K H xs Ss := pair_imp (fun _ _ => dp_mono s) h
section
variable {K : PySem.W.Frag} {w : World} {M : Addr → Prop} {σ : L2.St} {H1 G1 : Hp} {D : Addr} {Qd : Hp → Prop} {a : Addr} {xs : List V} {Ss : List (List Str)}
structure DsI (K : PySem.W.Frag) (w : World) (H1 G1 : Hp) (D : Addr) (Ss : List (List Str)) (i : Nat) (H : Hp) (kvs : List WE) (ep : Nat) : Prop where
  gr : Gr NoM H1 G1 G1 H
  at_ : H D = some (wdO w D kvs ep)
  ent : ∀ x ∈ kvs, ∃ S ∈ Ss.take i, x.1 = setKey S ∧ x.2.2 = .bl true ∧ Dp K G1 x.2.1 (setD S)
  nd : (kvs.map (·.1)).Nodup
  len : kvs.length ≤ i
  all : ∀ S ∈ Ss.take i, setKey S ∈ kvs.map (·.1)
theorem wV_old {kvs : List WE} {k : NestedKey} {v : V} (hm : k ∈ kvs.map (·.1)) (hv : ∀ x ∈ kvs, x.2.2 = v) : wV kvs k = some v := by
  unfold wV
  cases hf : kvs.find? fun x => decide (x.1 = k) with
  | none =>
    obtain ⟨x, hx, e⟩ := List.mem_map.mp hm
    exact absurd (decide_eq_true e) (List.find?_eq_none.mp hf x hx)
  | some x =>
    show some x.2.2 = some v
    rw [hv x (List.mem_of_find?_eq_some hf)]
def DsN (K : PySem.W.Frag) (w : World) (H1 G1 : Hp) (D : Addr) (Ss : List (List Str)) (i : Nat) : Hp → Prop := fun H => ∃ kvs ep, DsI K w H1 G1 D Ss i H kvs ep
theorem ds_list {j : Nat} (hj : j < σ.length) (hD : H1 D = none) (hsm : (D == sysModules) = false) (s : Same G1 H1) (src : SqL K G1 a xs) (hS : SetsV K G1 xs Ss) (hz : Ss.length ≤ 10000)
    (hd : ∀ H kvs ep, DsI K w H1 G1 D Ss Ss.length H kvs ep → Qd H) :
    ∃ W : Nat → Nat → Hp → Prop, (∃ m, W 0 m (upd H1 D (wdO w D [] 0))) ∧ ∀ i m H, W i m H → ((Itl K a).stop i H ∧ Qd H) ∨ ((Itl K a).go i H ∧ ∃ Nx : Hp → Prop, (∀ H', Nx H' → ∃ m', m' < m ∧ W (i + 1) m' H') ∧
    ∀ x H', (Itl K a).yld i H x H' → gName j x (wipe σ [j]) H' fun σ2 H2 => wipe σ2 [j] = wipe σ [j] ∧ tYes σ2 H2 fun b H3 =>
      if b = true then tVar j σ2 H3 fun y H4 => tC (.bl true) σ2 H4 fun z H5 => ∃ kvs ep k, H5 D = some (wdO w D kvs ep) ∧ WD K w H5 D kvs ep ∧ Dp K H5 y k.data ∧ k.depth ≤ 8 ∧ kvs.length < 100000 ∧ ((wV kvs k = none ∧ ∀ ep', Nx (upd H5 D (wdO w D (kvs ++ [(k, y, z)]) ep'))) ∨ ∃ c, z = .bl c ∧ wV kvs k = some (.bl c) ∧ ∀ ep', Nx (upd H5 D (wdO w D kvs ep'))) else Nx H3) := by
  have hlen : xs.length = Ss.length := Paired.length hS
  have hG1D := s.free hD
  have start : DsI K w H1 G1 D Ss 0 (upd H1 D (wdO w D [] 0)) [] 0 := ⟨(Gr.start s).mine hD, upd_same, fun _ m => (nomatch m), List.nodup_nil, Nat.le_refl _, fun _ m => by simp at m⟩
  refine ⟨fun i m H => m = xs.length - i ∧ i ≤ xs.length ∧ DsN K w H1 G1 D Ss i H, ⟨xs.length, by simp, Nat.zero_le _, _, _, start⟩, ?_⟩
  rintro i m H ⟨rfl, hi, kvs, ep, I⟩
  by_cases hlt : i < xs.length
  · refine .inr ⟨⟨xs, xs[i], I.gr.sub.seq src, List.getElem?_eq_getElem hlt⟩, DsN K w H1 G1 D Ss (i + 1), fun H' p' => ⟨xs.length - (i + 1), by omega, rfl, hlt, p'⟩, fun x H' y => ?_⟩
    obtain ⟨rfl, hx⟩ := y
    have hx := hx xs (I.gr.sub.seq src)
    obtain ⟨S, hSi, hSd⟩ := paired_get hS hx
    refine ⟨by show (((σ.set j none).set j (some x)).set j none) = σ.set j none; rw [List.set_set, List.set_set], ?_⟩
    refine y_te ⟨x, by show ((σ.set j none).set j (some x))[j]? = _; rw [List.getElem?_set_self (by rw [List.length_set]; exact hj)], ?_⟩
    have il : i < 10000 := by have := (List.getElem?_eq_some_iff.mp hSi).1; omega
    have wd : WD K w H' D kvs ep := ⟨.inl I.at_, fun y m => by
      obtain ⟨S', _, e1, _, e3⟩ := I.ent y m
      exact ⟨by rw [e1, setKey_data]; exact dp_mono I.gr.sub e3, by rw [e1]; exact setKey_depth S'⟩, I.nd, hsm, by have := I.len; omega⟩
    have hdp : Dp K H' x (setKey S).data := by rw [setKey_data]; exact dp_mono I.gr.sub hSd
    have tk : Ss.take (i + 1) = Ss.take i ++ [S] := by rw [List.take_succ, hSi]; rfl
    refine ⟨kvs, ep, setKey S, I.at_, wd, hdp, setKey_depth S, by have := I.len; omega, ?_⟩
    by_cases hm : setKey S ∈ kvs.map (·.1)
    · refine .inr ⟨true, rfl, wV_old hm fun y m => ?_, fun ep' => ⟨kvs, ep', I.gr.chg (.inl hD) hG1D, upd_same, fun y m => ?_, I.nd, Nat.le_succ_of_le I.len, fun S' m => ?_⟩⟩
      · obtain ⟨_, _, _, e2, _⟩ := I.ent y m
        exact e2
      · obtain ⟨S', h1, h2⟩ := I.ent y m
        exact ⟨S', by rw [tk]; exact List.mem_append.mpr (.inl h1), h2⟩
      · rw [tk] at m
        rcases List.mem_append.mp m with m | m
        · exact I.all S' m
        · rw [List.mem_singleton.mp m]; exact hm
    · refine .inl ⟨wV_none_of fun y my e => hm (List.mem_map.mpr ⟨y, my, e⟩), fun ep' => ⟨kvs ++ [(setKey S, x, .bl true)], ep', I.gr.chg (.inl hD) hG1D, upd_same, fun y m => ?_, ?_, by rw [List.length_append]; exact Nat.succ_le_succ I.len, fun S' m => ?_⟩⟩
      · rcases List.mem_append.mp m with m | m
        · obtain ⟨S', h1, h2⟩ := I.ent y m
          exact ⟨S', by rw [tk]; exact List.mem_append.mpr (.inl h1), h2⟩
        · rw [List.mem_singleton.mp m]
          exact ⟨S, by rw [tk]; simp, rfl, rfl, hSd⟩
      · rw [List.map_append, List.nodup_append]
        refine ⟨I.nd, by simp, fun x hx y hy e => ?_⟩
        have hy : y = setKey S := by simpa using hy
        rw [e, hy] at hx
        exact hm hx
      · rw [List.map_append]
        rw [tk] at m
        rcases List.mem_append.mp m with m | m
        · exact List.mem_append.mpr (.inl (I.all S' m))
        · rw [List.mem_singleton.mp m]; simp
  · have e : i = xs.length := by omega
    subst e
    rw [hlen] at I
    exact .inl ⟨⟨xs, I.gr.sub.seq src, Nat.le_refl _⟩, hd H kvs ep I⟩
/-- the sets the keys stand for -/
theorem ds_sets {H : Hp} {kvs : List WE} {ep : Nat} (I : DsI K w H1 G1 D Ss Ss.length H kvs ep) : ∃ bs : List (List Str), SetsV K G1 (kvs.map fun x => x.2.1) bs ∧ bs.Nodup ∧ ∀ S, S ∈ bs ↔ S ∈ Ss := by
  obtain ⟨gr, hat, ent, nd, len, all⟩ := I
  rw [List.take_length] at ent all
  have ex : ∀ kvs : List WE, (∀ x ∈ kvs, ∃ S ∈ Ss, x.1 = setKey S ∧ x.2.2 = .bl true ∧ Dp K G1 x.2.1 (setD S)) → ∃ bs : List (List Str), SetsV K G1 (kvs.map fun x => x.2.1) bs ∧ kvs.map (·.1) = bs.map setKey ∧ ∀ S ∈ bs, S ∈ Ss := by
    intro kvs
    induction kvs with
    | nil => intro _; exact ⟨[], .nil, rfl, fun _ m => (nomatch m)⟩
    | cons x r ih =>
      intro h
      obtain ⟨S, hS, e1, _, e3⟩ := h x List.mem_cons_self
      obtain ⟨bs, b1, b2, b3⟩ := ih fun y m => h y (List.mem_cons_of_mem _ m)
      refine ⟨S :: bs, .cons e3 b1, by rw [List.map_cons, List.map_cons, e1, b2], fun S' m => ?_⟩
      rcases List.mem_cons.mp m with rfl | m
      · exact hS
      · exact b3 S' m
  obtain ⟨bs, b1, b2, b3⟩ := ex kvs ent
  refine ⟨bs, b1, ?_, fun S => ⟨b3 S, fun m => ?_⟩⟩
  · rw [b2] at nd
    exact List.Pairwise.imp (fun {a b} z q => z (by rw [q])) (List.pairwise_map.mp nd)
  · have := all S m
    rw [b2] at this
    obtain ⟨S', h1, h2⟩ := List.mem_map.mp this
    rw [← setKey_inj h2]; exact h1
end
def spOrder (K : PySem.W.Frag) : Sp := fun vs H Q _ => ∃ (G : Hp) (a : Addr) (xs : List V) (Ss : List (List Str)), vs = [.ref a] ∧ Same G H ∧ SqL K G a xs ∧ SetsV K G xs Ss ∧ Ss.length ≤ 10000 ∧
  ∀ l H' G' ys Zs, Gr NoM H G G' H' → SqL K G' l ys → SetsV K G' ys Zs → Zs.Pairwise (slt strO) → (∀ S, S ∈ Zs ↔ S ∈ Ss) → Q (.ref l) H'
theorem sc_in_order : FnScope ["sets", "many", "one"] ["sets"] (defScope s_in_order) := ⟨rfl, rfl, rfl, by decide +kernel, rfl, by decide +kernel, by decide +kernel⟩
section
variable {P : Program} {w : World} {K : PySem.W.Frag} {mg : Str → Option Value} {base : Heap}
theorem ok_in_order (T : Txt K mg) : Cl P w K mg base CX0 1 "in_order" (spOrder K) := by
  refine cl0 (T.F_in_order) T.g_in_order sc_in_order (fun vs H Q E h => ?_) (fun _ _ _ _ _ _ us hl => match us, hl with | [_], _ => rfl) (fun cdv A outer s H vs Q E hr h => ?_)
  · obtain ⟨G, a, xs, Ss, rfl, _⟩ := h
    rfl
  · obtain ⟨G, a, xs, Ss, rfl, s0, src, hS, hz, k⟩ := h
    refine ⟨_, (pss_one (ps_ret (pe_lc (own := [("many", 1), ("one", 2)]) rfl sc_in_order.nd (sqI (KK := K) (pe_callB (sortPr (KK := K) (u4 hr)) (by rfl) T.f_sorted (by decide +kernel) (pa_cons (pe_lc (own := [("one", 2)]) rfl sc_in_order.nd (sqI (KK := K) (pe_callTy (wListD (ww := w) rfl) (by rfl) T.f_list (by decide +kernel) (pa_cons (pe_dcw2 (u8 hr) (ow := [("one", 2)]) rfl sc_in_order.nd (sqI (KK := K) (pv 0)) (blkOk_by (by kernel_rfl)) (fun _ _ _ _ _ => (pg_name (i := 2) sc_in_order.nd rfl (by first | exact Or.inl rfl | exact Or.inr rfl))) (fun _ _ _ _ _ => pts_nil) (fun _ _ _ _ _ => (pv 2)) (fun _ _ _ _ _ => pe_bl)) pa_nil))) (blkOk_by (by kernel_rfl)) (fun _ _ _ _ _ => (pg_name (i := 2) sc_in_order.nd rfl (by first | exact Or.inl rfl | exact Or.inr rfl))) (fun _ _ _ _ _ => pts_nil) (fun _ _ _ _ _ => (pe_tup (pa_cons (pe_callB (lenQ (KK := K)) (by rfl) T.f_len (by decide +kernel) (pa_cons (pv 2) pa_nil)) (pa_cons (pv 2) pa_nil))))) pa_nil))) (blkOk_by (by kernel_rfl)) (fun _ _ _ _ _ => (tupG (KK := K) (n := 2) (by rfl) (pgs_cons (pg_name (i := 1) sc_in_order.nd rfl (by first | exact Or.inl rfl | exact Or.inr rfl)) (pgs_cons (pg_name (i := 2) sc_in_order.nd rfl (by first | exact Or.inl rfl | exact Or.inr rfl)) pgs_nil)))) (fun _ _ _ _ _ => pts_nil) (fun _ _ _ _ _ => (pv 2))))), ?_⟩
    refine ⟨_, rfl, a, rfl, .inl ⟨⟨xs, s0.seq src⟩, fun D hD hsm => ds_list (w := w) (j := 2) (by show 2 < 3; decide) hD hsm s0 src hS hz fun H1 kvs ep I => ?_⟩⟩
    obtain ⟨bs, b1, b2, b3⟩ := ds_sets I
    have g1 : Gr NoM H G G H1 := I.gr
    have hkl : kvs.length ≤ 10000 := Nat.le_trans I.len hz
    refine ⟨D, kvs, ep, rfl, hsm, .inl I.at_, Nat.le_trans hkl (by decide), fun L hL => ?_⟩
    have g2 := g1.newN (o := .lst (kvs.map fun x => x.2.1)) hL
    have hGL := g1.sub.free hL
    have u2 : Same G (upd G L (.lst (kvs.map fun x => x.2.1))) := Same.upd_none hGL
    have b1' := b1.same u2
    have hbl : (kvs.map fun x => x.2.1).length = bs.length := Paired.length b1
    have hGLs : SqL K (upd G L (.lst (kvs.map fun x => x.2.1))) L (kvs.map fun x => x.2.1) := SqL.of upd_same
    generalize upd G L (.lst (kvs.map fun x => x.2.1)) = G2 at g2 u2 b1' hGLs
    generalize upd H1 L (.lst (kvs.map fun x => x.2.1)) = H2 at g2
    refine ⟨L, rfl, .inl ⟨⟨_, g2.sub.seq hGLs⟩, fun P0 hP0 => lc_gl (M := NoM) (G1 := G2) (K := K) (fun i acc G' => ∃ ps : List PS', acc = ps.map (·.1) ∧ ps.map (·.2) = bs.take i ∧ ∀ b ∈ ps, ∃ t o, b.1 = V.ref t ∧ SqT K G' t [.int (b.2.length : Nat), o] ∧ Dp K G' o (setD b.2)) hP0 (fun z => z) g2.sub hGLs (by rw [List.length_map]; exact Nat.le_trans hkl (by decide)) ⟨[], rfl, by simp, fun _ m => (nomatch m)⟩ ?_ ?_⟩⟩
    · rintro i x acc G3 H3 hx g3 hl ⟨ps, rfl, hps, hall⟩
      intro Ky Kn ky kn
      obtain ⟨S, hSi, hSd⟩ := paired_get b1' hx
      refine ⟨rfl, y_te ?_⟩
      have dx := dp_mono (g3.up.trans g3.sub) hSd
      have hst : ∃ t, x = .ref t ∧ SqT K H3 t (S.map V.str) := by
        unfold setD at dx
        cases dx with
        | @tup t ys _ hs ha =>
          refine ⟨t, rfl, ?_⟩
          have e : ys = S.map V.str := by
            have : ∀ {ys : List V} {S : List Str}, DpAll K H3 ys (S.map .str) → ys = S.map V.str := by
              intro ys S
              induction S generalizing ys with
              | nil => intro h; cases h; rfl
              | cons a r ih =>
                intro h
                cases h with
                | cons h1 h2 =>
                  have h1 : Dp K H3 _ (.str a) := h1
                  cases h1
                  rw [ih h2]; rfl
            exact this ha
          rw [← e]; exact hs
      obtain ⟨t, rfl, hst⟩ := hst
      refine ⟨_, rfl, t, _, rfl, .inr hst, _, rfl, by show 2 ≤ sizeLine; decide, fun q hq => ?_⟩
      have e1 : (S.map V.str).length = S.length := List.length_map ..
      rw [e1]
      have g4 := (Gr.start (M := NoM) g3.sub).newN (o := .tup [.int (S.length : Nat), .ref t]) hq
      have hG3q := g3.sub.free hq
      refine ky (.ref q) _ _ g4 ⟨ps ++ [(.ref q, S)], by rw [List.map_append]; rfl, ?_, fun b m => ?_⟩
      · rw [List.map_append, hps, List.take_succ, hSi]; rfl
      · rcases List.mem_append.mp m with m | m
        · obtain ⟨t', o, e, h1, h2⟩ := hall b m
          exact ⟨t', o, e, (Same.upd_none hG3q).tp h1, dp_mono (Same.upd_none hG3q) h2⟩
        · rw [List.mem_singleton.mp m]
          exact ⟨q, .ref t, rfl, SqT.of upd_same, dp_mono (g3.up.trans (Same.upd_none hG3q)) hSd⟩
    · rintro acc G3 H3 g3 hg hl ⟨ps, rfl, hps, hall⟩
      rw [hbl, List.take_length] at hps
      have hall' : ∀ b ∈ ps, ∃ t o, b.1 = V.ref t ∧ SqT K (upd G3 P0 (.lst (ps.map (·.1)))) t [.int (b.2.length : Nat), o] ∧ Dp K (upd G3 P0 (.lst (ps.map (·.1)))) o (setD b.2) := fun b m => by
        obtain ⟨t', o, e, h1, h2⟩ := hall b m
        exact ⟨t', o, e, (Same.upd_none hg).tp h1, dp_mono (Same.upd_none hg) h2⟩
      have hP : SqL K (upd G3 P0 (.lst (ps.map (·.1)))) P0 (ps.map (·.1)) := SqL.of upd_same
      generalize upd G3 P0 (.lst (ps.map (·.1))) = G4 at g3 hall' hP
      have hpd : ∀ b ∈ ps, Dp K G4 b.1 (pairD b.2) := fun b m => by
        obtain ⟨t', o, e, h1, h2⟩ := hall' b m
        rw [e]
        exact .tup h1 (.cons (.int _) (.cons h2 .nil))
      refine ⟨P0, ps, rfl, g3.sub.seq hP, fun b m => dp_mono g3.sub (hpd b m), fun zs L2 hperm hpw hL2 => ?_⟩
      have g5 := (g2.trans g3).newN (o := .lst (zs.map (·.1))) hL2
      have hG4L2 := g3.sub.free hL2
      have u5 : Same G4 (upd G4 L2 (.lst (zs.map (·.1)))) := Same.upd_none hG4L2
      have hLs : SqL K (upd G4 L2 (.lst (zs.map (·.1)))) L2 (zs.map (·.1)) := SqL.of upd_same
      have hzl : zs.length = bs.length := by rw [hperm.length_eq, ← hps, List.length_map]
      have hzn : (zs.map (·.2)).Nodup := (hperm.map (·.2)).nodup_iff.mpr (by rw [hps]; exact b2)
      have hzp : (zs.map (·.2)).Pairwise (slt strO) := srt_of (O := sOrd strO) hzn (List.pairwise_map.mpr hpw)
      have hzm : ∀ S, S ∈ zs.map (·.2) ↔ S ∈ Ss := fun S => by
        rw [(hperm.map (·.2)).mem_iff, hps]; exact b3 S
      generalize upd G4 L2 (.lst (zs.map (·.1))) = G5 at g5 u5 hLs
      refine ⟨L2, rfl, .inl ⟨⟨_, g5.sub.seq hLs⟩, fun R0 hR0 => lc_gl (M := NoM) (G1 := G5) (K := K) (fun i acc G' => SetsV K G' acc ((zs.map (·.2)).take i)) hR0 (fun z => z) g5.sub hLs (by rw [List.length_map, hzl, ← hbl, List.length_map]; exact Nat.le_trans hkl (by decide)) .nil ?_ ?_⟩⟩
      · rintro i x acc G6 H6 hx g6 hl6 hacc
        intro Ky Kn ky kn
        rw [List.getElem?_map, Option.map_eq_some_iff] at hx
        obtain ⟨b, hb, rfl⟩ := hx
        obtain ⟨t', o, e, h1, h2⟩ := hall' b (hperm.mem_iff.mp (List.mem_of_getElem? hb))
        rw [e]
        refine ⟨t', _, rfl, (u5.trans (g6.up.trans g6.sub)).tp h1, rfl, ⟨_, _, rfl, ⟨_, _, rfl, ⟨rfl, rfl, y_te ⟨_, rfl, ?_⟩⟩⟩⟩⟩
        refine ky o H6 G6 (Gr.start g6.sub) ?_
        show SetsV K G6 (acc ++ [o]) ((zs.map (·.2)).take (i + 1))
        rw [List.take_succ, List.getElem?_map, hb]
        exact pair_snoc (P := fun v S => Dp K G6 v (setD S)) (dp_mono (u5.trans g6.up) h2) hacc
      · rintro acc G6 H6 g6 hg6 hl6 hacc
        rw [List.length_map, ← List.length_map (f := fun b : PS' => b.2), List.take_length] at hacc
        exact k R0 H6 _ acc _ (g5.trans g6) (SqL.of upd_same) (SetsV.same (Same.upd_none hg6) hacc) hzp hzm
end
end K8
-- K8Join
set_option maxRecDepth 100000
set_option maxHeartbeats 4000000
namespace K8
open PySem PySem.Spec PyProof.Rows L2
section
variable {X : Cx} {KK : PySem.W.Frag}
theorem catA (hK : X.K = KK := by rfl) : OpR X (binaryOp .Add) (rCatA KK) := by subst hK; exact op_catA
end
/-! ### least_of -/
theorem setV_tup {K : PySem.W.Frag} {G : Hp} {v : V} {S : List Str} (h : Dp K G v (setD S)) : ∃ t, v = .ref t ∧ SqT K G t (S.map V.str) := by
  unfold setD at h
  cases h with
  | @tup t ys _ hs ha =>
    refine ⟨t, rfl, ?_⟩
    have : ∀ {ys : List V} {S : List Str}, DpAll K G ys (S.map .str) → ys = S.map V.str := by
      intro ys S
      induction S generalizing ys with
      | nil => intro h; cases h; rfl
      | cons a r ih =>
        intro h
        cases h with
        | cons h1 h2 =>
          have h1 : Dp K G _ (.str a) := h1
          cases h1
          rw [ih h2]; rfl
    rw [← this ha]; exact hs
theorem strs_dp {K : PySem.W.Frag} {G : Hp} : ∀ (S : List Str), DpAll K G (S.map V.str) (S.map .str)
  | [] => .nil
  | a :: r => .cons (.str a) (strs_dp r)
theorem tup_setV {K : PySem.W.Frag} {G : Hp} {t : Addr} {S : List Str} (h : SqT K G t (S.map V.str)) : Dp K G (.ref t) (setD S) := .tup h (strs_dp S)
def spLeast (K : PySem.W.Frag) : Sp := fun vs H Q _ => ∃ (G : Hp) (a : Addr) (xs : List V) (Ss : List (List Str)), vs = [.ref a] ∧ Same G H ∧ SqL K G a xs ∧ SetsV K G xs Ss ∧ Ss.length ≤ 10000 ∧ (∀ S ∈ Ss, S.length ≤ 1000) ∧
  ∀ F H' G' ys Zs Ls, Gr NoM H G G' H' → H F = none → G' F = none → H' F = some (.lst ys) → SetsV K G' ys Ls → Zs.Pairwise (slt strO) → (∀ S, S ∈ Zs ↔ S ∈ Ss) → Ls = least Zs → Q (.ref F) H'
theorem sc_least_of : FnScope ["sets", "found", "one", "elder"] ["sets"] (defScope s_least_of) := ⟨rfl, rfl, rfl, by decide +kernel, rfl, by decide +kernel, by decide +kernel⟩
theorem sc_joined : FnScope ["bars", "rules", "rule"] ["bars", "rules"] (defScope s_joined) := ⟨rfl, rfl, rfl, by decide +kernel, rfl, by decide +kernel, by decide +kernel⟩
section
variable {P : Program} {w : World} {K : PySem.W.Frag} {mg : Str → Option Value} {base : Heap}
theorem ok_least_of (T : Txt K mg) : Cl P w K mg base CX0 2 "least_of" (spLeast K) := by
  refine cl0 (T.F_least_of) T.g_least_of sc_least_of (fun vs H Q E h => ?_) (fun _ _ _ _ _ _ us hl => match us, hl with | [_], _ => rfl) (fun cdv A outer s H vs Q E hr h => ?_)
  · obtain ⟨G, a, xs, Ss, rfl, _⟩ := h
    rfl
  · obtain ⟨G, a, xs, Ss, rfl, s0, src, hS, hz, hsh, k⟩ := h
    refine ⟨_, (pss_cons (ps_set (i := 1) sc_least_of.nd rfl (by first | exact Or.inl rfl | exact Or.inr rfl) (pe_lst pa_nil))
      (pss_cons (ps_for PassesOwn.never rfl (sqI (KK := K) (pe_cl (ok_in_order T) hr (by decide) pass0 (pa_cons (pv 0) pa_nil))) (pg_name (i := 2) sc_least_of.nd rfl (by first | exact Or.inl rfl | exact Or.inr rfl))
        (pss_one (ps_if (pt_not (pt_val (pe_callB (anyK (KK := K) rfl) (by rfl) T.f_any (by decide +kernel) (pa_cons (pe_lc (own := [("elder", 3)]) rfl sc_least_of.nd (sqI (KK := K) (pv 1)) (blkOk_by (by kernel_rfl)) (fun _ _ _ _ _ => (pg_name (i := 3) sc_least_of.nd rfl (by first | exact Or.inl rfl | exact Or.inr rfl))) (fun _ _ _ _ _ => pts_nil) (fun _ _ _ _ _ => (pe_cl (ok_is_part T) hr (by decide) pass0 (pa_cons (pv 3) (pa_cons (pv 2) pa_nil))))) pa_nil))))
          (pss_one (ps_expr (pe_bm PySem.F.plainAttrs_list PySem.F.slot_list_append PySem.F.type_list_append mt_append (pv 1) (pa_cons (pv 2) pa_nil))))
          pss_nil)))
      (pss_one (ps_ret (pv 1))))), ?_⟩
    refine ⟨by show 0 ≤ sizeLine; decide, fun F hF => ?_⟩
    dsimp only [tNext, tRet, tOp, tSeq, gName, tAsg]
    have hGF := s0.free hF
    have g0 : Gr NoM H G G (upd H F (.lst [])) := (Gr.start s0).mine hF
    refine ⟨_, rfl, G, a, xs, Ss, rfl, g0.sub, src, hS, hz, fun l H1 G1 ys Zs g1 hl hys hpw hmem => ?_⟩
    have gA := g0.trans g1
    have hF1 : H1 F = some (.lst []) := g1.keep upd_same
    have hG1F : G1 F = none := g1.out upd_same hGF
    have hyl : ys.length = Zs.length := Paired.length hys
    refine ⟨l, rfl, .inl ⟨⟨_, g1.sub.seq hl⟩, fl_G (K := K) (a := l) (xs := ys) (fun i σ H' => ∃ o2 o3 G2 zs, σ = [some (.ref a), some (.ref F), o2, o3] ∧ Gr NoM H G G2 H' ∧ Same G1 G2 ∧ H' F = some (.lst zs) ∧ G2 F = none ∧ SetsV K G2 zs (least (Zs.take i))) G1 hl ⟨_, _, G1, [], rfl, gA, Same.refl _, hF1, hG1F, .nil⟩ (fun i σ H' ⟨_, _, _, _, _, gr, sm, _⟩ => sm.trans gr.sub) ?_ ?_⟩⟩
    · rintro i v σ H' hv ⟨o2, o3, G2, zs, rfl, g2, s12, hHF, hG2F, hzs⟩
      obtain ⟨S, hSi, hSd⟩ := paired_get hys hv
      have hSm : S.length ≤ 1000 := hsh S ((hmem S).mp (List.mem_of_getElem? hSi))
      obtain ⟨t, rfl, hst⟩ := setV_tup (dp_mono s12 hSd)
      have hzl : zs.length = (least (Zs.take i)).length := Paired.length hzs
      have tk : Zs.take (i + 1) = Zs.take i ++ [S] := by rw [List.take_succ, hSi]; rfl
      have il := (List.getElem?_eq_some_iff.mp hSi).1
      have hll : (least (Zs.take i)).length ≤ Zs.length := by
        have h1 := (least_sublist (Zs.take i)).length_le
        rw [List.length_take] at h1
        omega
      have hZl : Zs.length ≤ Ss.length := nodup_len (hpw.imp fun {a b} q e => by subst e; exact slt_irr _ q) fun S m => (hmem S).mp m
      have hsub : ∀ S' ∈ least (Zs.take i), S'.length ≤ 1000 := fun S' m => hsh S' ((hmem S').mp (List.mem_of_mem_take ((least_sublist _).subset m)))
      refine cb1 (lc_any (M := NoM) (.ref F) H' (fun n acc _ => acc = ((least (Zs.take i)).take n).map fun y => V.bl (part y S)) (fun R' r => ⟨_, rfl, r⟩) rfl (fun _ _ z => z) (Same.refl H') (.inl (SqL.of hHF)) (by rw [hzl]; exact Nat.le_trans (Nat.le_trans hll (Nat.le_trans hZl hz)) (by decide)) rfl ?_ ?_)
      · rintro D hD n x acc G5 H5 hx g5 hl5 rfl
        intro Ky Kn ky kn
        refine ⟨rfl, y_te ?_⟩
        obtain ⟨y, hy, hyd⟩ := paired_get hzs hx
        obtain ⟨ty, rfl, hty⟩ := setV_tup (dp_mono (g2.sub.trans g5.same') hyd)
        refine ⟨_, rfl, _, rfl, ty, t, y, S, rfl, .inr hty, hsub y (List.mem_of_getElem? hy), .inl (.inr ((g2.sub.trans g5.same').tp hst)), fun H6 s6 => ?_⟩
        exact ky _ H6 G5 (Gr.of g5.sub s6) (by show _ = _; rw [all_snoc (f := fun y => V.bl (part y S)) hy])
      · rintro D acc G5 H5 hD g5 hg5 hl5 rfl
        rw [hzl, List.take_length] at g5
        have s5 : Same H' H5 := g5.same
        refine ⟨D, (least (Zs.take i)).map fun y => part y S, rfl, SqL.of (by rw [g5.sub D _ upd_same, List.map_map]; rfl), _, rfl, ?_⟩
        have gB := g2.trans (Gr.of g2.sub s5)
        have hF5 := s5 _ _ hHF
        have eany : ((least (Zs.take i)).map fun y => part y S).any id = (least (Zs.take i)).any fun y => part y S := by rw [List.any_map]; rfl
        rw [eany]
        have els : least (Zs.take (i + 1)) = if (least (Zs.take i)).any (fun y => part y S) then least (Zs.take i) else least (Zs.take i) ++ [S] := by rw [tk, least_snoc]; rfl
        cases hc : (least (Zs.take i)).any fun y => part y S with
        | true =>
          rw [hc, if_pos rfl] at els
          refine ite_n (by rfl) ?_
          exact ⟨_, _, G2, zs, rfl, gB, s12, hF5, hG2F, by rw [els]; exact hzs⟩
        | false =>
          rw [hc, if_neg Bool.false_ne_true] at els
          refine ite_y (by rfl) ?_
          refine ⟨_, rfl, .inl ⟨rfl, _, SqL.of hF5⟩, ⟨_, rfl, F, zs, .ref t, rfl, rfl, hF5, by rw [hzl]; exact Nat.lt_of_le_of_lt (Nat.le_trans hll (Nat.le_trans hZl hz)) (by decide), ?_⟩⟩
          exact ⟨_, _, G2, zs ++ [.ref t], rfl, gB.chg (.inl hF) hG2F, s12, upd_same, hG2F, by rw [els]; exact pair_snoc (P := fun v S => Dp K G2 v (setD S)) (dp_mono s12 hSd) hzs⟩
    · rintro σ H' ⟨o2, o3, G2, zs, rfl, g2, s12, hHF, hG2F, hzs⟩
      rw [hyl, List.take_length] at hzs
      exact ⟨_, rfl, k F H' G2 zs Zs _ g2 hF hG2F hHF hzs hpw hmem rfl⟩
/-- both of two sets -/
def spJoin (K : PySem.W.Frag) : Sp := fun vs H Q _ => ∃ (G : Hp) (a b : Addr) (xs ys names : List Str), vs = [.ref a, .ref b] ∧ Same G H ∧ SqT K G a (xs.map V.str) ∧ SqT K G b (ys.map V.str) ∧ Sub xs names ∧ Sub ys names ∧ names.length ≤ 40 ∧ xs.length ≤ 1000 ∧ ys.length ≤ 1000 ∧
  ∀ t H' G' zs, Gr NoM H G G' H' → SqT K G' t (List.map V.str zs) → Srt strO zs → (∀ x, x ∈ zs ↔ x ∈ xs ∨ x ∈ ys) → Q (.ref t) H'
theorem onceK_strs (bs : List Str) : ∃ rs : List Str, (onceK (bs.map (Sum.inr (α := Int)))).map (·.1) = rs.map Sum.inr ∧ rs.Nodup ∧ (∀ x, x ∈ rs ↔ x ∈ bs) := strs_once bs
theorem ok_joined (T : Txt K mg) : Cl P w K mg base CX0 1 "joined" (spJoin K) := by
  refine cl0 (T.F_joined) T.g_joined sc_joined (fun vs H Q E h => ?_) (fun _ _ _ _ _ _ us hl => match us, hl with | [_, _], _ => rfl) (fun cdv A outer s H vs Q E hr h => ?_)
  · obtain ⟨G, a, b, xs, ys, names, rfl, _⟩ := h
    rfl
  · obtain ⟨G, a, b, xs, ys, names, rfl, s0, ha, hb, sx, sy, hn, lx, ly, k⟩ := h
    refine ⟨_, (pss_one (ps_ret (pe_callTy (tupQ (KK := K)) (by rfl) T.f_tuple (by decide +kernel) (pa_cons (pe_callB (call_sortedD rfl) (by rfl) T.f_sorted (by decide +kernel) (pa_cons (pe_dc (own := [("rule", 2)]) rfl sc_joined.nd (sqI (KK := K) (pe_op (catA (KK := K)) (pv 0) (pv 1))) (blkOk_by (by kernel_rfl)) (fun _ _ _ _ _ => (pg_name (i := 2) sc_joined.nd rfl (by first | exact Or.inl rfl | exact Or.inr rfl))) (fun _ _ _ _ _ => pts_nil) (fun _ _ _ _ _ => (pv 2)) (fun _ _ _ _ _ => pe_bl)) pa_nil)) pa_nil)))), ?_⟩
    have e : (xs.map V.str) ++ (ys.map V.str) = (xs ++ ys).map V.str := (List.map_append ..).symm
    have k' : ∀ t H' G' zs, Gr NoM H G G' H' → SqT K G' t (List.map V.str zs) → Srt strO zs → (∀ x, x ∈ zs ↔ x ∈ xs ++ ys) → Q (.ref t) H' := fun t H' G' zs g h1 h2 h3 => k t H' G' zs g h1 h2 fun x => (h3 x).trans List.mem_append
    have cat : ∀ (R : VK), (∀ c H1 G1, Gr NoM H G G1 H1 → SqT K G1 c ((xs ++ ys).map V.str) → R (.ref c) H1) → rCatA K (.ref a) (.ref b) H R := fun R r => by
      refine ⟨a, b, _, _, rfl, rfl, s0.tp ha, s0.tp hb, by rw [List.length_map, List.length_map]; exact Nat.le_trans (Nat.add_le_add lx ly) (by decide), fun ex => ?_, fun _ ey => ?_, fun _ _ p hp => ?_⟩
      · refine r b H G (Gr.start s0) ?_
        rw [← e, ex]; exact hb
      · refine r a H G (Gr.start s0) ?_
        rw [← e, ey, List.append_nil]; exact ha
      · refine r p _ _ ((Gr.start s0).newN hp) ?_
        rw [← e]; exact SqT.of upd_same
    refine ⟨_, rfl, _, rfl, cat _ fun c H1 G1 g1 hc => ⟨c, rfl, .inr ⟨⟨_, g1.sub.tp hc⟩, fun D hD => ?_⟩⟩⟩
    have hsub : Sub (xs ++ ys) names := fun x m => (List.mem_append.mp m).elim (sx x) (sy x)
    have hl : (xs ++ ys).length ≤ 2000 := by rw [List.length_append]; omega
    generalize xs ++ ys = cs at hc k' hsub hl
    refine dk_it (M := NoM) (G1 := G1) (walk_tup (K := K) (a := c) (xs := cs.map V.str)) (fun _ _ _ _ y => y.1) (fun i kvs _ => kvs = onceK ((cs.take i).map Sum.inr)) hD (fun z => z) g1.sub (fun G H gr => (gr.up.trans gr.sub).tp hc) (by rw [List.length_map]; omega) rfl ?_ ?_
    · rintro i x kvs G2 H2 hi ⟨_, hx⟩ g2 rfl
      intro Ky Kn ky kn
      rw [List.getElem?_map, Option.map_eq_some_iff] at hx
      obtain ⟨b, hb, rfl⟩ := hx
      refine ⟨rfl, y_te ⟨_, rfl, ?_⟩⟩
      refine ky (.inr b) (.bl true) H2 G2 (Gr.start g2.sub) ?_
      show _ = _
      rw [all_snoc (f := fun b => (Sum.inr b : Key)) hb, onceK_snoc]
    · rintro kvs G2 H2 g2 hg2 hl2 rfl
      rw [List.length_map, List.take_length] at g2
      obtain ⟨rs, er, rnd, rmem⟩ := onceK_strs cs
      have hrl := Nat.le_trans (nodup_len rnd fun x m => hsub x ((rmem x).mp m)) hn
      have hDd := g2.sub D _ upd_same
      refine ⟨D, _, rs, rfl, .inl hDd, er, by omega, fun zs p hperm hsort hp => ?_⟩
      refine ⟨p, _, rfl, .inl ⟨SqL.of upd_same, fun l hl' => ?_⟩⟩
      have g3 := (g1.trans g2).newN (o := .lst (zs.map V.str)) hp
      exact k' l _ _ zs (g3.newN (o := .tup (zs.map V.str)) hl') (SqT.of upd_same) (srt_sortedS (hperm.nodup_iff.mpr rnd) hsort) fun x => hperm.mem_iff.trans (rmem x)
end
end K8
-- K8Barring
set_option maxRecDepth 100000
set_option maxHeartbeats 4000000
namespace K8
open PySem PySem.Spec PyProof.Rows L2
def rowsT (T : List Trow) : Rows NestedKey Str := T.map rowE
def spBarring (K : PySem.W.Frag) (w : World) : Sp := fun vs H Q E => ∃ (G : Hp) (pl : Addr) (u : V) (d : D) (T : List Trow) (bad : List Nat) (names : List Str), vs = [.ref pl, u] ∧ Same G H ∧ PlayIs K w G pl T bad ∧ Fit T names ∧ T.length ≤ 1000 ∧ Closed T ∧ Dq K G u d ∧ fineD d ∧
  (∀ ds s, d = .sq ds → behindD (adjQ (fun _ => true) T) d = .ok s → ∀ l H' G' zs B v, Go (rowsT T) (ds.map keyD) v B → Srt strO zs → (∀ x, x ∈ zs ↔ x ∈ B) → Gr NoM H G G' H' → H l = none → G' l = none → H' l = some (.lst (zs.map V.str)) → Q (.ref l) H') ∧
  (∀ i, behindD (adjQ (fun _ => true) T) d = .error i → ∀ dd H', Same H H' → H' dd = some (xdI (i : Nat)) → E (.ref (He.ga K "BadWord")) (some dd) H')
theorem sc_barring : FnScope ["play", "run", "here", "found", "word", "step"] ["play", "run"] (defScope s_barring) := ⟨rfl, rfl, rfl, by decide +kernel, rfl, by decide +kernel, by decide +kernel⟩
section
variable {P : Program} {w : World} {K : PySem.W.Frag} {mg : Str → Option Value} {base : Heap}
/-- the row of a play at a stand -/
theorem PlayIs.row {G H : Hp} {pl : Addr} {T : List Trow} {bad : List Nat} (h : PlayIs K w G pl T bad) (s : Same G H) {u : Nat} (hu : u < T.length) : ∃ dx tl bl as a kvs ep, H pl = some (.ins (aPlay K) dx [("own_table", .ref tl), ("own_bad", .ref bl)]) ∧ SqL K H tl as ∧ as[u]? = some (V.ref a) ∧ WD K w H a kvs ep ∧ RowK K H kvs (rowAt T u) := by
  obtain ⟨dx, tl, bl, hpl, ⟨as, has, pas⟩, _⟩ := h.ex
  obtain ⟨a, ha⟩ : ∃ a, as[u]? = some a := ⟨_, List.getElem?_eq_getElem (by rw [Paired.length pas]; exact hu)⟩
  obtain ⟨row, hrow, kvs, ep, wd, rk⟩ := paired_get pas ha
  refine ⟨dx, tl, bl, _, a, kvs, ep, s _ _ hpl, s.seq has, by rw [List.getElem?_map, ha]; rfl, wd.same s, ?_⟩
  rw [rowAt_some hrow]
  exact rk.same s
/-- the step with a word -/
theorem step_at {T : List Trow} {here nx : Nat} {k : NestedKey} {kvs : List WE} {G : Hp} {a : Addr} {ep : Nat} (h : stepTo (rowAt (adjQ (fun _ => true) T) here) k = some nx) (wd : WD K w G a kvs ep) (rk : RowK K G kvs (rowAt T here)) :
    ∃ p v, p ∈ rowAt T here ∧ p.1.oth = nx ∧ keyD p.1.wd = k ∧ wV kvs k = some v ∧ KS K G v p.1 p.2 := by
  have hm := stepTo_mem h
  unfold adjQ at hm
  rw [rowAt_adjOf] at hm
  obtain ⟨R, m, _⟩ := mem_keepRow.mp hm
  rw [rowAt_map rowE rfl] at m
  obtain ⟨p, hp, e⟩ := List.mem_map.mp m
  injection e with e1 e2
  injection e2 with e2 e3
  obtain ⟨n, hn⟩ := List.getElem?_of_mem hp
  obtain ⟨x, hx⟩ : ∃ x, kvs[n]? = some x := ⟨_, List.getElem?_eq_getElem (by rw [Paired.length rk]; exact (List.getElem?_eq_some_iff.mp hn).1)⟩
  obtain ⟨p', hp', ek, ks⟩ := paired_get rk hx
  rw [hn] at hp'
  cases hp'
  refine ⟨p, x.2.2, hp, e2, e1, ?_, ks⟩
  refine wV_at wd.nd (i := n) (x := x.2.1) ?_
  rw [hx, ← e1, ← ek]
theorem mem_flat_row {T : List Trow} {u : Nat} {p : Stp × List Str} (h : p ∈ rowAt T u) : p ∈ T.flatten := by
  cases hr : T[u]? with
  | none => rw [rowAt_none hr] at h; cases h
  | some row =>
    rw [rowAt_some hr] at h
    exact List.mem_flatten.mpr ⟨row, List.mem_of_getElem? hr, h⟩
theorem mem_rowsT {T : List Trow} {u : Nat} {p : Stp × List Str} (h : p ∈ rowAt T u) : (keyD p.1.wd, p.1.oth, p.2) ∈ rowAt (rowsT T) u := by
  unfold rowsT
  rw [rowAt_map rowE rfl]
  exact List.mem_map.mpr ⟨p, h, rfl⟩
theorem ok_barring (T : Txt K mg) : Cl P w K mg base (L2.CX P w) 7 "barring" (spBarring K w) := by
  refine clX (T.F_barring) T.g_barring sc_barring (fun vs H Q E h => ?_) (fun _ _ _ _ _ _ us hl => match us, hl with | [_, _], _ => rfl) (fun cdv A outer s H vs Q E hr h => ?_)
  · obtain ⟨G, pl, u, d, Tb, bad, names, rfl, _⟩ := h
    rfl
  · obtain ⟨G, pl, u, d, Tb, bad, names, rfl, s0, play, fit, hT, hc, hd, hf, k, kE⟩ := h
    refine ⟨_, (pss_cons (ps_expr (pe_cl (ok_stand_behind T) hr (by decide) (passes_call (takes_of rfl rfl rfl rfl) fun _ _ _ _ h => h) (pa_cons (pv 0) (pa_cons (pe_lst pa_nil) (pa_cons (pv 1) pa_nil)))))
      (pss_cons (ps_asg (pe_tup (pa_cons pe_int (pa_cons (pe_tup pa_nil) pa_nil))) (tupG (KK := K) (n := 2) (by rfl) (pgs_cons (pg_name (i := 2) sc_barring.nd rfl (by first | exact Or.inl rfl | exact Or.inr rfl)) (pgs_cons (pg_name (i := 3) sc_barring.nd rfl (by first | exact Or.inl rfl | exact Or.inr rfl)) pgs_nil))))
      (pss_cons (ps_for (passes_of rfl) rfl (sqI (KK := K) (pv 1)) (pg_name (i := 4) sc_barring.nd rfl (by first | exact Or.inl rfl | exact Or.inr rfl))
        (pss_cons (ps_set (i := 5) sc_barring.nd rfl (by first | exact Or.inl rfl | exact Or.inr rfl) (wGet (KK := K) (ww := w) (u9 hr) (pe_ix (ixQ (KK := K)) (fldK (KK := K) (pv 0) rfl) (pv 2) (fun _ _ => rfl)) (pe_cl (ok_as_word T 3) hr (by decide) pass0 (pa_cons (pv 4) pa_nil)) (fun _ _ => rfl)))
        (pss_one (ps_par (i := 2) (j := 3) (by rfl) sc_barring.nd rfl rfl (by decide) rfl rfl (pa_cons (pe_ix (ixQ (KK := K)) (pv 5) pe_int (fun _ _ => rfl)) (pa_cons (pe_cl (ok_joined T) hr (by decide) pass0 (pa_cons (pv 3) (pa_cons (pe_ix (ixQ (KK := K)) (pv 5) pe_int (fun _ _ => rfl)) pa_nil))) pa_nil)) (by rfl)))))
      (pss_one (ps_ret (pe_callTy (listQ (KK := K)) (by rfl) T.f_list (by decide +kernel) (pa_cons (pv 3) pa_nil))))))), ?_⟩
    refine ⟨_, rfl, by show 0 ≤ sizeLine; decide, fun q hq => ⟨_, rfl, ?_⟩⟩
    have g1 := (Gr.start (M := NoM) s0).newN (o := .lst []) hq
    have u1 : Same G (upd G q (.lst [])) := Same.upd_none (s0.free hq)
    have hqL : Dq K (upd G q (.lst [])) (.ref q) (.sq []) := .lst (SqL.of upd_same) .nil
    generalize upd G q (.lst []) = G1 at g1 u1 hqL
    generalize upd H q (.lst []) = H1 at g1
    refine ⟨G1, pl, .ref q, u, d, Tb, bad, names, rfl, g1.sub, play.same u1, hqL, fit, hT, hc, Dq.mono u1 _ _ hd, hf, fun s hs v H2 s2 => ?_, fun i hi dd H2 s2 hx => kE i hi dd H2 (g1.same.trans s2) hx⟩
    obtain ⟨ds, rfl⟩ : ∃ l, d = .sq l := by
      cases d with
      | sq l => exact ⟨l, rfl⟩
      | lf v => cases hs
    have k := k ds s rfl hs
    have hs : behindE (adjQ (fun _ => true) Tb) 0 0 ds = .ok s := hs
    obtain ⟨a0, xs, rfl, src, ha⟩ := hd.seq
    have g2 : Gr NoM H G G1 H2 := g1.trans (Gr.of g1.sub s2)
    refine ⟨by show 0 ≤ sizeLine; decide, fun t0 ht0 => ⟨by show 2 ≤ sizeLine; decide, fun t1 ht1 => ⟨t1, _, rfl, SqT.of upd_same, rfl, ⟨_, _, rfl, ⟨_, _, rfl, ⟨rfl, ?_⟩⟩⟩⟩⟩⟩
    have g3 := (g2.newN (o := .tup []) ht0).mine (o := .tup [.int 0, .ref t0]) ht1
    have u2 : Same G1 (upd G1 t0 (.tup [])) := Same.upd_none (g2.sub.free ht0)
    have ht0G : SqT K (upd G1 t0 (.tup [])) t0 (([] : List Str).map V.str) := SqT.of upd_same
    generalize upd G1 t0 (.tup []) = G3 at g3 u2 ht0G
    have hG3 : Same G G3 := u1.trans u2
    have hlen : xs.length = ds.length := ha.length
    dsimp only [tNext, tRet, tOp, tSeq, gName, tAsg]
    refine for_sqG (K := K) (a := a0) (xs := xs) (fun i σ H' => ∃ (o4 o5 : Option V) (here : Nat) (t : Addr) (zs B : List Str) (G4 : Hp), σ = [some (.ref pl), some (.ref a0), some (.int (here : Nat)), some (.ref t), o4, o5] ∧ Gr NoM H G G4 H' ∧ Same G3 G4 ∧ SqT K G4 t (zs.map V.str) ∧ Srt strO zs ∧ (∀ x, x ∈ zs ↔ x ∈ B) ∧ Sub zs names ∧ Go (rowsT Tb) ((ds.take i).map keyD) here B ∧ here < Tb.length ∧ behindE (adjQ (fun _ => true) Tb) i here (ds.drop i) = .ok s) G3 (fun R' r => ⟨_, rfl, r⟩) g3.sub ((hG3.q src)) ⟨_, _, 0, t0, [], [], G3, rfl, g3, Same.refl _, ht0G, .nil, fun x => Iff.rfl, (fun x m => (nomatch m)), .nil, hc.1, hs⟩ (fun i σ H' ⟨_, _, _, _, _, _, _, _, gr, sm, _⟩ => sm.trans gr.sub) ?_ ?_
    · rintro i v σ H' hx ⟨o4, o5, here, t, zs, B, G4, rfl, g4, s34, ht, hz, hzB, hzn, go, hlt, hbe⟩
      obtain ⟨d, hd', hq'⟩ := ha.get hx
      have hdrop : ds.drop i = d :: ds.drop (i + 1) := by
        obtain ⟨hi, e⟩ := List.getElem?_eq_some_iff.mp hd'
        rw [List.drop_eq_getElem_cons hi, e]
      rw [hdrop] at hbe
      unfold behindE at hbe
      have hm : d ∈ ds := List.mem_of_getElem? hd'
      obtain ⟨fd1, fd2⟩ := hf.2 d hm
      by_cases hw : isWord d = true
      · rw [if_pos hw] at hbe
        cases hst : stepTo (rowAt (adjQ (fun _ => true) Tb) here) (keyD d) with
        | none => rw [hst] at hbe; cases hbe
        | some nx =>
          rw [hst] at hbe
          obtain ⟨dx, tl, bl, as, a, kvs, ep, hpl, hls, haa, wd, rk⟩ := play.row (hG3.trans s34) hlt
          obtain ⟨p, vv, hp, eo, ek, hv, ks⟩ := step_at hst wd rk
          have d8 : (keyD d).depth ≤ 8 := by have := key_depth d; omega
          refine ⟨_, rfl, pl, aPlay K, dx, _, .ref tl, rfl, g4.sub _ _ hpl, T.p_cl, T.p_nT, rfl, _, rfl, tl, as, _, _, rfl, rfl, .inl (g4.sub.seq hls), atI_nat haa, ?_⟩
          refine ⟨_, rfl, G4, v, d, rfl, g4.sub, Dq.mono (hG3.trans s34) _ _ hq', hw, fd1, fd2, fun v1 H5 G5 g5 dp5 => ?_⟩
          have gg := g4.trans g5
          refine ⟨a, kvs, ep, keyD d, vv, rfl, wd.same g5.same', dp_mono g5.sub dp5, d8, hv, ?_⟩
          obtain ⟨tt, w', rt, sd', rfl, htup, hdp, hrt, _⟩ := ks.ex
          dsimp only [tNext, tRet, tOp, tSeq, gName, tAsg]
          have hpf := mem_flat_row hp
          have hzl := Nat.le_trans (nodup_len hz.nodup hzn) fit.nm
          refine ⟨_, rfl, tt, _, 2, .int (p.1.oth : Nat), rfl, rfl, .inr (g5.same'.tp htup), atI_nat (j := 2) rfl, ?_⟩
          refine ⟨_, rfl, _, rfl, tt, _, 3, .ref rt, rfl, rfl, .inr (g5.same'.tp htup), atI_nat (j := 3) rfl, ?_⟩
          refine ⟨G5, t, rt, zs, p.2, names, rfl, g5.sub, g5.up.tp ht, g5.up.tp hrt, hzn, fit.sub p hpf, fit.nm, by omega, Nat.le_trans (fit.len hpf) (by decide), fun t2 H6 G6 zs2 g6 ht2 hz2 hm2 => ⟨_, _, rfl, ?_⟩⟩
          have hgo : Go (rowsT Tb) ((ds.take (i + 1)).map keyD) nx (B ++ p.2) := by
            rw [List.take_succ, hd', List.map_append]
            have := Go.snoc go (mem_rowsT hp)
            rw [eo, ek] at this
            exact this
          have hnx : nx < Tb.length := by
            have h1 := stepTo_mem hst
            exact adj_lt hc h1
          refine ⟨_, _, nx, t2, zs2, B ++ p.2, G6, by rw [eo]; rfl, gg.trans g6, (s34.trans g5.up).trans g6.up, ht2, hz2, fun x => ?_, fun x m => ?_, hgo, hnx, hbe⟩
          · rw [hm2, List.mem_append, hzB]
          · rcases (hm2 x).mp m with m | m
            · exact hzn x m
            · exact fit.sub p hpf x m
      · rw [if_neg hw] at hbe
        cases hbe
    · rintro σ H' ⟨o4, o5, here, t, zs, B, G4, rfl, g4, s34, ht, hz, hzB, hzn, go, hlt, hbe⟩
      rw [hlen, List.take_length] at go
      have hHt : SqT K H' t (zs.map V.str) := g4.sub.tp ht
      refine ⟨_, rfl, t, _, rfl, .inr hHt, fun l hl => ?_⟩
      have hGl := g4.sub.free hl
      exact k l _ G4 zs B here go hz hzB (g4.mine hl) (g4.same.free hl) hGl upd_same
end
end K8
-- K8Bars
/-! The least barrings, level by level: what the search keeps, what it has found in the end. Plain Lean. -/
set_option autoImplicit false
namespace K8
section
variable {W α : Type} [DecidableEq α]
/-- all sets of some names -/
def subs : List α → List (List α)
  | [] => [[]]
  | a :: r => subs r ++ (subs r).map (a :: ·)
theorem subs_len : ∀ l : List α, (subs l).length = 2 ^ l.length
  | [] => rfl
  | a :: r => by
    rw [subs, List.length_append, List.length_map, subs_len r, List.length_cons, Nat.pow_succ]
    omega
theorem mem_subs {O : SOrd α} : ∀ {l x : List α}, Srt O l → Srt O x → Sub x l → x ∈ subs l
  | [], x, _, _, h => by
    cases x with
    | nil => exact List.mem_cons_self
    | cons b t => exact absurd (h b List.mem_cons_self) (fun z => nomatch z)
  | a :: r, x, hl, hx, h => by
    obtain ⟨l1, l2⟩ := List.pairwise_cons.mp hl
    rw [subs]
    cases x with
    | nil => exact List.mem_append.mpr (.inl (mem_subs l2 hx fun y m => nomatch m))
    | cons b t =>
      obtain ⟨x1, x2⟩ := List.pairwise_cons.mp hx
      by_cases e : b = a
      · subst e
        refine List.mem_append.mpr (.inr (List.mem_map.mpr ⟨t, mem_subs l2 x2 fun y m => ?_, rfl⟩))
        rcases List.mem_cons.mp (h y (List.mem_cons_of_mem _ m)) with q | q
        · exact absurd (x1 y m) (by rw [q]; exact O.irr _)
        · exact q
      · refine List.mem_append.mpr (.inl (mem_subs l2 hx fun y m => ?_))
        have hb : b ∈ r := (List.mem_cons.mp (h b List.mem_cons_self)).resolve_left e
        rcases List.mem_cons.mp (h y m) with q | q
        · rcases List.mem_cons.mp m with z | z
          · exact absurd (z.symm.trans q) e
          · have h1 := x1 y z
            rw [q] at h1
            exact absurd (O.tr (l1 b hb) h1) (O.irr _)
        · exact q
abbrev Ent (α : Type) := Nat × List α
def pairsOf' (n : Nat) (names : List α) : List (Ent α) := (List.range n).flatMap fun v => (subs names).map fun s => (v, s)
theorem pairs_len (n : Nat) (names : List α) : (pairsOf' n names).length = n * 2 ^ names.length := by
  unfold pairsOf'
  induction n with
  | zero => simp
  | succ n ih =>
    rw [List.range_succ, List.flatMap_append, List.length_append, ih]
    simp [subs_len, Nat.succ_mul]
def lvl (psh : List (Ent α)) (k : Nat) : List (Ent α) := psh.filter fun e => e.2.length == k
def atV (log : List (Ent α)) (v : Nat) : List (List α) := (log.filter fun e => e.1 == v).map (·.2)
theorem mem_atV {log : List (Ent α)} {v : Nat} {S : List α} : S ∈ atV log v ↔ (v, S) ∈ log := by
  unfold atV
  rw [List.mem_map]
  constructor
  · rintro ⟨⟨v', S'⟩, m, e⟩
    obtain ⟨m1, m2⟩ := List.mem_filter.mp m
    have e : S' = S := e
    have m2 : v' = v := by simpa using m2
    subst e m2
    exact m1
  · intro m
    exact ⟨(v, S), List.mem_filter.mpr ⟨m, by simp⟩, rfl⟩
theorem lvl_snoc (psh : List (Ent α)) (e : Ent α) (k : Nat) : lvl (psh ++ [e]) k = if e.2.length = k then lvl psh k ++ [e] else lvl psh k := by
  unfold lvl
  rw [List.filter_append]
  by_cases c : e.2.length = k
  · rw [if_pos c]; simp [c]
  · rw [if_neg c]; simp [c]
theorem atV_snoc (log : List (Ent α)) (e : Ent α) (v : Nat) : atV (log ++ [e]) v = if e.1 = v then atV log v ++ [e.2] else atV log v := by
  unfold atV
  rw [List.filter_append, List.map_append]
  by_cases c : e.1 = v
  · rw [if_pos c]; simp [c]
  · rw [if_neg c]; simp [c]
abbrev Cur (α : Type) := Option (Ent α × Nat)
def remC (D : Nat) : Cur α → Nat
  | none => 0
  | some (_, j) => D - j
def OkE (O : SOrd α) (rows : Rows W α) (n : Nat) (names : List α) (e : Ent α) : Prop := e.1 < n ∧ Srt O e.2 ∧ Sub e.2 names ∧ ∃ ws R, Go rows ws e.1 R ∧ ∀ x, x ∈ e.2 ↔ x ∈ R
structure LB (O : SOrd α) (rows : Rows W α) (n D : Nat) (names : List α) (log psh : List (Ent α)) (k at_ : Nat) (cur : Cur α) : Prop where
  head : (0, []) ∈ psh
  nd : log.Nodup
  okL : ∀ e ∈ log, OkE O rows n names e
  okP : ∀ e ∈ psh, OkE O rows n names e
  c2 : ∀ e ∈ log, ∀ i r, (rowAt rows e.1)[i]? = some r → (∀ j, cur = some (e, j) → i < j) → ∃ e' ∈ log ++ psh, e'.1 = r.2.1 ∧ Sub e'.2 (e.2 ++ r.2.2)
  c3 : ∀ k' i e, (lvl psh k')[i]? = some e → (k' < k ∨ (k' = k ∧ i < at_)) → ∃ e' ∈ log, e'.1 = e.1 ∧ Sub e'.2 e.2
  sz : psh.length + remC D cur ≤ 1 + D * log.length
  cu : ∀ e j, cur = some (e, j) → e ∈ log ∧ e.2.length = k
variable {O : SOrd α} {rows : Rows W α} {n D : Nat} {names : List α} {log psh : List (Ent α)} {k at_ : Nat} {cur : Cur α}
theorem LB.start (h0 : 0 < n) : LB O rows n D names [] [(0, [])] 0 0 none where
  head := List.mem_cons_self
  nd := List.nodup_nil
  okL := fun _ m => nomatch m
  okP := fun e m => by
    rw [List.mem_singleton.mp m]
    exact ⟨h0, .nil, (fun x m => nomatch m), [], [], .nil, fun x => Iff.rfl⟩
  c2 := fun _ m => nomatch m
  c3 := fun k' i e h q => by rcases q with q | ⟨_, q⟩ <;> exact absurd q (Nat.not_lt_zero _)
  sz := Nat.le_refl _
  cu := fun _ _ h => nomatch h
theorem LB.few (b : LB O rows n D names log psh k at_ cur) (hn : Srt O names) : log.length ≤ n * 2 ^ names.length := by
  rw [← pairs_len]
  refine nodup_len b.nd fun e m => ?_
  obtain ⟨h1, h2, h3, _⟩ := b.okL e m
  unfold pairsOf'
  exact List.mem_flatMap.mpr ⟨e.1, List.mem_range.mpr h1, List.mem_map.mpr ⟨e.2, mem_subs hn h2 h3, rfl⟩⟩
theorem LB.many (b : LB O rows n D names log psh k at_ cur) (hn : Srt O names) : psh.length ≤ 1 + D * (n * 2 ^ names.length) := by
  have h1 := b.sz
  have h2 := Nat.mul_le_mul_left D (b.few hn)
  omega
theorem lvl_len (psh : List (Ent α)) (k : Nat) : (lvl psh k).length ≤ psh.length := List.length_filter_le ..
/-- what is covered already -/
theorem LB.skip (b : LB O rows n D names log psh k at_ none) {e : Ent α} (he : (lvl psh k)[at_]? = some e) (hc : ∃ S ∈ atV log e.1, Sub S e.2) : LB O rows n D names log psh k (at_ + 1) none where
  head := b.head
  nd := b.nd
  okL := b.okL
  okP := b.okP
  c2 := b.c2
  c3 := fun k' i e' h q => by
    rcases q with q | ⟨q, q2⟩
    · exact b.c3 k' i e' h (.inl q)
    · by_cases z : i < at_
      · exact b.c3 k' i e' h (.inr ⟨q, z⟩)
      · have : i = at_ := by omega
        subst this q
        rw [he] at h
        cases h
        obtain ⟨S, hS, hs⟩ := hc
        exact ⟨(e.1, S), mem_atV.mp hS, rfl, hs⟩
  sz := b.sz
  cu := b.cu
theorem LB.add (b : LB O rows n D names log psh k at_ none) {e : Ent α} (he : (lvl psh k)[at_]? = some e) (hc : ¬ ∃ S ∈ atV log e.1, Sub S e.2) : LB O rows n D names (log ++ [e]) psh k (at_ + 1) (some (e, 0)) where
  head := b.head
  nd := by
    rw [List.nodup_append]
    refine ⟨b.nd, by simp, fun x hx y hy q => ?_⟩
    have hy : y = e := by simpa using hy
    rw [q, hy] at hx
    exact hc ⟨e.2, mem_atV.mpr hx, Sub.refl _⟩
  okL := fun x m => by
    rcases List.mem_append.mp m with m | m
    · exact b.okL x m
    · rw [List.mem_singleton.mp m]
      exact b.okP e (List.mem_filter.mp (List.mem_of_getElem? he)).1
  okP := b.okP
  c2 := fun x m i r hr hj => by
    rcases List.mem_append.mp m with m | m
    · obtain ⟨e', m', h'⟩ := b.c2 x m i r hr fun j z => nomatch z
      refine ⟨e', ?_, h'⟩
      rcases List.mem_append.mp m' with m' | m'
      · exact List.mem_append.mpr (.inl (List.mem_append.mpr (.inl m')))
      · exact List.mem_append.mpr (.inr m')
    · rw [List.mem_singleton.mp m] at hj
      exact absurd (hj 0 rfl) (Nat.not_lt_zero _)
  c3 := fun k' i e' h q => by
    have old : (∃ e'' ∈ log, e''.1 = e'.1 ∧ Sub e''.2 e'.2) → ∃ e'' ∈ log ++ [e], e''.1 = e'.1 ∧ Sub e''.2 e'.2 := fun ⟨x, m, z⟩ => ⟨x, List.mem_append.mpr (.inl m), z⟩
    rcases q with q | ⟨q, q2⟩
    · exact old (b.c3 k' i e' h (.inl q))
    · by_cases z : i < at_
      · exact old (b.c3 k' i e' h (.inr ⟨q, z⟩))
      · have : i = at_ := by omega
        subst this q
        rw [he] at h
        cases h
        exact ⟨e, by simp, rfl, Sub.refl _⟩
  sz := by
    have := b.sz
    rw [List.length_append]
    show psh.length + (D - 0) ≤ 1 + D * (log.length + 1)
    have : psh.length + 0 ≤ 1 + D * log.length := this
    rw [Nat.mul_add, Nat.mul_one]
    omega
  cu := fun e' j h => by
    cases h
    refine ⟨by simp, ?_⟩
    have := (List.mem_filter.mp (List.mem_of_getElem? he)).2
    simpa using this
theorem LB.cov {e : Ent α} {j : Nat} {r : W × Nat × List α} (b : LB O rows n D names log psh k at_ (some (e, j))) (hr : (rowAt rows e.1)[j]? = some r) (hD : j < D) {more : List α} (hm : ∀ x, x ∈ more ↔ x ∈ e.2 ∨ x ∈ r.2.2) (hc : ∃ S ∈ atV log r.2.1, Sub S more) : LB O rows n D names log psh k at_ (some (e, j + 1)) where
  head := b.head
  nd := b.nd
  okL := b.okL
  okP := b.okP
  c2 := fun x m i r' hr' hj => by
    by_cases z : x = e ∧ i = j
    · obtain ⟨rfl, rfl⟩ := z
      rw [hr] at hr'
      cases hr'
      obtain ⟨S, hS, hs⟩ := hc
      exact ⟨(r.2.1, S), List.mem_append.mpr (.inl (mem_atV.mp hS)), rfl, fun y my => List.mem_append.mpr ((hm y).mp (hs y my))⟩
    · refine b.c2 x m i r' hr' fun j' q => ?_
      cases q
      have := hj (j + 1) rfl
      have : i ≠ j := fun q => z ⟨rfl, q⟩
      omega
  c3 := b.c3
  sz := by
    have := b.sz
    have h1 : psh.length + (D - j) ≤ 1 + D * log.length := this
    show psh.length + (D - (j + 1)) ≤ _
    omega
  cu := fun e' j' h => by cases h; exact b.cu e j rfl
theorem LB.push {e : Ent α} {j : Nat} {r : W × Nat × List α} (b : LB O rows n D names log psh k at_ (some (e, j))) (hr : (rowAt rows e.1)[j]? = some r) (hD : j < D) (hrn : r.2.1 < n) (hrs : Sub r.2.2 names) (hat : at_ ≤ (lvl psh k).length) {more : List α} (hs : Srt O more) (hm : ∀ x, x ∈ more ↔ x ∈ e.2 ∨ x ∈ r.2.2) : LB O rows n D names log (psh ++ [(r.2.1, more)]) k at_ (some (e, j + 1)) := by
  obtain ⟨eL, ek⟩ := b.cu e j rfl
  obtain ⟨o1, o2, o3, ws, R, go, hR⟩ := b.okL e eL
  have hk : k ≤ more.length := by
    rw [← ek]
    exact nodup_len o2.nodup fun x m => (hm x).mpr (.inl m)
  refine ⟨List.mem_append.mpr (.inl b.head), b.nd, b.okL, fun x m => ?_, fun x m i r' hr' hj => ?_, fun k' i e' h q => ?_, ?_, fun e' j' h => by cases h; exact b.cu e j rfl⟩
  · rcases List.mem_append.mp m with m | m
    · exact b.okP x m
    · rw [List.mem_singleton.mp m]
      refine ⟨hrn, hs, fun y my => ((hm y).mp my).elim (o3 y) (hrs y), ws ++ [r.1], R ++ r.2.2, .snoc go (List.mem_of_getElem? hr), fun y => ?_⟩
      show y ∈ more ↔ _
      rw [hm, List.mem_append, hR]
  · by_cases z : x = e ∧ i = j
    · obtain ⟨rfl, rfl⟩ := z
      rw [hr] at hr'
      cases hr'
      exact ⟨(r.2.1, more), by simp, rfl, fun y my => List.mem_append.mpr ((hm y).mp my)⟩
    · obtain ⟨e', m', h'⟩ := b.c2 x m i r' hr' fun j' q => by
        cases q
        have := hj (j + 1) rfl
        have : i ≠ j := fun q => z ⟨rfl, q⟩
        omega
      refine ⟨e', ?_, h'⟩
      rcases List.mem_append.mp m' with m' | m'
      · exact List.mem_append.mpr (.inl m')
      · exact List.mem_append.mpr (.inr (List.mem_append.mpr (.inl m')))
  · refine b.c3 k' i e' ?_ q
    rw [lvl_snoc] at h
    by_cases c : more.length = k'
    · have c' : ((r.2.1, more) : Ent α).2.length = k' := c
      rw [if_pos c'] at h
      have hi : i < (lvl psh k').length := by
        rcases q with q | ⟨q, q2⟩
        · omega
        · subst q; omega
      rwa [List.getElem?_append_left hi] at h
    · have c' : ¬ ((r.2.1, more) : Ent α).2.length = k' := c
      rwa [if_neg c'] at h
  · have h1 : psh.length + (D - j) ≤ 1 + D * log.length := b.sz
    rw [List.length_append]
    show psh.length + 1 + (D - (j + 1)) ≤ _
    omega
theorem LB.done {e : Ent α} {j : Nat} (b : LB O rows n D names log psh k at_ (some (e, j))) (hj : (rowAt rows e.1).length ≤ j) : LB O rows n D names log psh k at_ none where
  head := b.head
  nd := b.nd
  okL := b.okL
  okP := b.okP
  c2 := fun x m i r hr _ => b.c2 x m i r hr fun j' q => by
    cases q
    exact Nat.lt_of_lt_of_le (List.getElem?_eq_some_iff.mp hr).1 hj
  c3 := b.c3
  sz := by
    have h1 : psh.length + (D - j) ≤ 1 + D * log.length := b.sz
    show psh.length + 0 ≤ _
    omega
  cu := fun _ _ h => nomatch h
theorem LB.next (b : LB O rows n D names log psh k at_ none) (h : (lvl psh k).length ≤ at_) : LB O rows n D names log psh (k + 1) 0 none where
  head := b.head
  nd := b.nd
  okL := b.okL
  okP := b.okP
  c2 := b.c2
  c3 := fun k' i e he q => by
    rcases q with q | ⟨_, q⟩
    · rcases Nat.lt_or_ge k' k with z | z
      · exact b.c3 k' i e he (.inl z)
      · have : k' = k := by omega
        subst this
        exact b.c3 k' i e he (.inr ⟨rfl, Nat.lt_of_lt_of_le (List.getElem?_eq_some_iff.mp he).1 h⟩)
    · exact absurd q (Nat.not_lt_zero _)
  sz := b.sz
  cu := fun _ _ h => nomatch h
/-- all levels are done: each run is covered -/
theorem LB.all (b : LB O rows n D names log psh k at_ none) (hk : names.length < k) {ws : List W} {v : Nat} {R : List α} (g : Go rows ws v R) : ∃ S ∈ atV log v, Sub S R := by
  have cov : ∀ e ∈ psh, ∃ e' ∈ log, e'.1 = e.1 ∧ Sub e'.2 e.2 := fun e m => by
    obtain ⟨_, h2, h3, _⟩ := b.okP e m
    have hl : e.2.length ≤ names.length := nodup_len h2.nodup h3
    have hm : e ∈ lvl psh e.2.length := List.mem_filter.mpr ⟨m, by simp⟩
    obtain ⟨i, hi⟩ := List.getElem?_of_mem hm
    exact b.c3 _ i e hi (.inl (by omega))
  have cov2 : ∀ e ∈ log ++ psh, ∃ e' ∈ log, e'.1 = e.1 ∧ Sub e'.2 e.2 := fun e m => by
    rcases List.mem_append.mp m with m | m
    · exact ⟨e, m, rfl, Sub.refl _⟩
    · exact cov e m
  induction g with
  | nil =>
    obtain ⟨⟨v, S⟩, m, e1, e2⟩ := cov _ b.head
    have e1 : v = 0 := e1
    subst e1
    exact ⟨S, mem_atV.mpr m, e2⟩
  | @snoc ws u B w v R _ mr ih =>
    obtain ⟨S, hS, hs⟩ := ih
    obtain ⟨i, hi⟩ := List.getElem?_of_mem mr
    obtain ⟨e, m, e1, e2⟩ := b.c2 (u, S) (mem_atV.mp hS) i _ hi fun j q => nomatch q
    obtain ⟨⟨v', S'⟩, m', f1, f2⟩ := cov2 e m
    have f1 : v' = e.1 := f1
    rw [e1] at f1
    subst f1
    refine ⟨S', mem_atV.mpr m', fun x mx => ?_⟩
    rcases List.mem_append.mp (e2 x (f2 x mx)) with q | q
    · exact List.mem_append.mpr (.inl (hs x q))
    · exact List.mem_append.mpr (.inr q)
end
end K8
-- K8LeastB
set_option maxRecDepth 100000
set_option maxHeartbeats 4000000
namespace K8
open PySem PySem.Spec PyProof.Rows L2
section
variable {K : PySem.W.Frag} {w : World}
/-- new lists, as many as told: not in the ground -/
theorem new_lists {s n : Nat} {σ : L2.St} {H1 G : Hp} {D : Addr} {Qd : Hp → Prop} (hD : H1 D = none) (hs : s < σ.length) (hn : n ≤ 1000) (sG : Same G H1)
    (hd : ∀ H2 (as : List Addr), Gr NoM H1 G (upd G D (.lst (as.map V.ref))) H2 → as.length = n → as.Nodup → (∀ a ∈ as, H1 a = none ∧ a ≠ D ∧ H2 a = some (.lst [])) → Qd H2) :
    ∃ W : Nat → Nat → Hp → Prop, (∃ m, W 0 m (upd H1 D (.lst []))) ∧ ∀ i m H, W i m H → ((Itr 0 n).stop i H ∧ Qd H) ∨ ((Itr 0 n).go i H ∧ ∃ Nx : Hp → Prop, (∀ H', Nx H' → ∃ m', m' < m ∧ W (i + 1) m' H') ∧
      ∀ x H', (Itr 0 n).yld i H x H' → gName s x (wipe σ [s]) H' fun σ2 H2 => wipe σ2 [s] = wipe σ [s] ∧ tYes σ2 H2 fun b H3 =>
        if b = true then tLst tNil σ2 H3 fun y H4 => ∃ acc, H4 D = some (.lst acc) ∧ acc.length < sizeLine ∧ Nx (upd H4 D (.lst (acc ++ [y]))) else Nx H3) := by
  refine lc_gr (M := NoM) (G1 := G) (n := n) (lo := 0) (fun i acc G2 => ∃ as : List Addr, acc = as.map V.ref ∧ as.length = i ∧ as.Nodup ∧ ∀ a ∈ as, G2 a = some (.lst []) ∧ H1 a = none) hD (fun z => z) sG (Nat.le_trans hn (by decide)) ⟨[], rfl, rfl, List.nodup_nil, fun _ m => (nomatch m)⟩ ?_ ?_
  · rintro i acc G2 H2 hi gr hacc ⟨as, rfl, hlen, hnd, hall⟩
    intro Ky Kn ky kn
    refine ⟨by show (((σ.set s none).set s _).set s none) = σ.set s none; rw [List.set_set, List.set_set], y_te ?_⟩
    refine ⟨by show 0 ≤ sizeLine; decide, fun p hp => ?_⟩
    refine ky _ _ (upd G2 p (.lst [])) ((Gr.start gr.sub).newN hp) ⟨as ++ [p], by rw [List.map_append]; rfl, by rw [List.length_append, hlen]; rfl, ?_, fun a m => ?_⟩
    · rw [List.nodup_append]
      refine ⟨hnd, by simp, fun a ha b hb e => ?_⟩
      have hb : b = p := by simpa using hb
      have h1 := gr.sub _ _ (hall a ha).1
      rw [e, hb, hp] at h1
      cases h1
    · rcases List.mem_append.mp m with m | m
      · obtain ⟨h1, h2⟩ := hall a m
        refine ⟨?_, h2⟩
        rw [upd_ne (ne_sn (gr.sub _ _ h1) hp)]
        exact h1
      · obtain rfl := List.mem_singleton.mp m
        exact ⟨upd_same, gr.same.free hp⟩
  · rintro acc G2 H2 gr hg hacc ⟨as, rfl, hlen, hnd, hall⟩
    have hHD2 := gr.sub D _ upd_same
    have hGD : G D = none := sG.free hD
    have hAD : ∀ a ∈ as, a ≠ D := fun a m => ne_sn (hall a m).1 hg
    have a1 : Gr NoM H1 G G H2 := ⟨Same.refl _, sG.trans gr.same, fun b o e _ => gr.same b o e, fun _ _ e => e⟩
    exact hd H2 as (a1.give hD (fun z => z) hGD hHD2) hlen hnd fun a m => ⟨(hall a m).2, hAD a m, gr.sub _ _ (by rw [upd_ne (hAD a m)]; exact (hall a m).1)⟩
def EntV (K : PySem.W.Frag) (G : Hp) (v : V) (e : Ent Str) : Prop := ∃ p t, v = .ref p ∧ SqT K G p [.int (e.1 : Nat), .ref t] ∧ SqT K G t (e.2.map V.str)
theorem EntV.same {G H : Hp} {v : V} {e : Ent Str} (s : Same G H) (h : EntV K G v e) : EntV K H v e := let ⟨p, t, a, b, c⟩ := h; ⟨p, t, a, s.tp b, s.tp c⟩
abbrev EntsV (K : PySem.W.Frag) (G : Hp) (vs : List V) (es : List (Ent Str)) : Prop := Paired (EntV K G) vs es
structure LBH (K : PySem.W.Frag) (H G G4 H' : Hp) (fa za : List Addr) (F Z : Addr) (log psh : List (Ent Str)) (fv zv : Nat → List V) : Prop where
  gr : Gr NoM H G G4 H'
  F : SqL K G4 F (fa.map V.ref)
  Z : SqL K G4 Z (za.map V.ref)
  fo : ∀ j a, fa[j]? = some a → G4 a = none ∧ H' a = some (.lst (fv j))
  zo : ∀ j a, za[j]? = some a → G4 a = none ∧ H' a = some (.lst (zv j))
  fs : ∀ v, SetsV K G4 (fv v) (atV log v)
  zs : ∀ k, EntsV K G4 (zv k) (lvl psh k)
structure LBA (H : Hp) (fa za : List Addr) : Prop where
  fn : fa.Nodup
  zn : za.Nodup
  ap : ∀ a ∈ fa, a ∉ za
  fH : ∀ a ∈ fa, H a = none
  zH : ∀ a ∈ za, H a = none
variable {H G G4 G5 H' H5 : Hp} {fa za : List Addr} {F Z : Addr} {log psh : List (Ent Str)} {fv zv : Nat → List V}
theorem LBH.step (h : LBH K H G G4 H' fa za F Z log psh fv zv) (g : Gr NoM H' G4 G5 H5) : LBH K H G G5 H5 fa za F Z log psh fv zv where
  gr := h.gr.trans g
  F := g.up.seq h.F
  Z := g.up.seq h.Z
  fo := fun j a e => let ⟨x, y⟩ := h.fo j a e; ⟨g.out y x, g.keep y⟩
  zo := fun j a e => let ⟨x, y⟩ := h.zo j a e; ⟨g.out y x, g.keep y⟩
  fs := fun v => (h.fs v).same g.up
  zs := fun k => pair_imp (fun _ _ => EntV.same g.up) (h.zs k)
theorem LBH.addF (A : LBA H fa za) (h : LBH K H G G4 H' fa za F Z log psh fv zv) {j : Nat} {a t : Addr} {S : List Str} (ha : fa[j]? = some a) (ht : SqT K G4 t (S.map V.str)) :
    LBH K H G G4 (upd H' a (.lst (fv j ++ [.ref t]))) fa za F Z (log ++ [(j, S)]) psh (fun i => if i = j then fv j ++ [.ref t] else fv i) zv where
  gr := h.gr.chg (.inl (A.fH a (List.mem_of_getElem? ha))) (h.fo j a ha).1
  F := h.F
  Z := h.Z
  fo := fun i b hb => by
    refine ⟨(h.fo i b hb).1, ?_⟩
    by_cases e : i = j
    · subst e
      rw [ha] at hb
      cases hb
      rw [upd_same, if_pos rfl]
    · have : b ≠ a := fun z => by subst z; exact e (nodup_idx A.fn hb ha)
      rw [upd_ne this, if_neg e]
      exact (h.fo i b hb).2
  zo := fun i b hb => by
    have : b ≠ a := fun z => by subst z; exact A.ap _ (List.mem_of_getElem? ha) (List.mem_of_getElem? hb)
    rw [upd_ne this]
    exact h.zo i b hb
  fs := fun v => by
    rw [atV_snoc]
    by_cases e : v = j
    · subst e
      rw [if_pos rfl, if_pos rfl]
      exact pair_snoc (P := fun v S => Dp K G4 v (setD S)) (tup_setV ht) (h.fs v)
    · have : ¬ j = v := fun z => e z.symm
      rw [if_neg e, if_neg this]
      exact h.fs v
  zs := h.zs
theorem LBH.addZ (A : LBA H fa za) (h : LBH K H G G4 H' fa za F Z log psh fv zv) {a p t : Addr} {e : Ent Str} (ha : za[e.2.length]? = some a) (hp : SqT K G4 p [.int (e.1 : Nat), .ref t]) (ht : SqT K G4 t (e.2.map V.str)) :
    LBH K H G G4 (upd H' a (.lst (zv e.2.length ++ [.ref p]))) fa za F Z log (psh ++ [e]) fv (fun i => if i = e.2.length then zv e.2.length ++ [.ref p] else zv i) where
  gr := h.gr.chg (.inl (A.zH a (List.mem_of_getElem? ha))) (h.zo _ a ha).1
  F := h.F
  Z := h.Z
  fo := fun i b hb => by
    have : b ≠ a := fun z => by subst z; exact A.ap _ (List.mem_of_getElem? hb) (List.mem_of_getElem? ha)
    rw [upd_ne this]
    exact h.fo i b hb
  zo := fun i b hb => by
    refine ⟨(h.zo i b hb).1, ?_⟩
    by_cases c : i = e.2.length
    · subst c
      rw [ha] at hb
      cases hb
      rw [upd_same, if_pos rfl]
    · have : b ≠ a := fun z => by subst z; exact c (nodup_idx A.zn hb ha)
      rw [upd_ne this, if_neg c]
      exact (h.zo i b hb).2
  fs := h.fs
  zs := fun k => by
    rw [lvl_snoc]
    by_cases c : k = e.2.length
    · subst c
      rw [if_pos rfl, if_pos rfl]
      exact pair_snoc (P := EntV K G4) ⟨p, t, rfl, hp, ht⟩ (h.zs _)
    · have : ¬ e.2.length = k := fun z => c z.symm
      rw [if_neg c, if_neg this]
      exact h.zs k
end
def spLB (K : PySem.W.Frag) (w : World) : Sp := fun vs H Q _ => ∃ (G : Hp) (pl : Addr) (T : List Trow) (bad : List Nat) (names : List Str), vs = [.ref pl] ∧ Same G H ∧ PlayIs K w G pl T bad ∧ Fit T names ∧ names.length ≤ 6 ∧ T.length ≤ 20 ∧ Closed T ∧ (∀ row ∈ T, row.length ≤ 10) ∧ (∀ p ∈ T.flatten, Srt strO p.2) ∧
  ∀ F H' G' (fa : List Addr) (fv : Nat → List V) (Ls : Nat → List (List Str)), Gr NoM H G G' H' → SqL K G' F (fa.map V.ref) → fa.length = T.length → (∀ v a, fa[v]? = some a → SqL K G' a (fv v)) → (∀ v, SetsV K G' (fv v) (Ls v)) → (∀ v, (Ls v).length ≤ 1280) →
    (∀ v, ∀ S ∈ Ls v, Srt strO S ∧ Sub S names ∧ ∃ ws R, Go (rowsT T) ws v R ∧ ∀ x, x ∈ S ↔ x ∈ R) → (∀ ws v R, Go (rowsT T) ws v R → ∃ S ∈ Ls v, Sub S R) → Q (.ref F) H'
theorem sc_least_barrings : FnScope ["play", "found", "sizes", "waiting", "at", "here", "bars", "step", "more", "_", "one"] ["play"] (defScope s_least_barrings) := ⟨rfl, rfl, rfl, by decide +kernel, rfl, by decide +kernel, by decide +kernel⟩
section
variable {P : Program} {w : World} {K : PySem.W.Frag} {mg : Str → Option Value} {base : Heap}
theorem ok_least_barrings (T : Txt K mg) : Cl P w K mg base CX0 5 "least_barrings" (spLB K w) := by
  refine cl0 (T.F_least_barrings) T.g_least_barrings sc_least_barrings (fun vs H Q E h => ?_) (fun _ _ _ _ _ _ us hl => match us, hl with | [_], _ => rfl) (fun cdv A outer s H vs Q E hr h => ?_)
  · obtain ⟨G, pl, Tb, bad, names, rfl, _⟩ := h
    rfl
  · obtain ⟨G, pl, Tb, bad, names0, rfl, s0, play, fit, hn6, hT, hc, hrow, hbs, k⟩ := h
    refine ⟨_, (pss_cons (ps_par (i := 1) (j := 2) (by rfl) sc_least_barrings.nd rfl rfl (by decide) rfl rfl (pa_cons (pe_lc (own := [("_", 9)]) rfl sc_least_barrings.nd (pi_range1 (by rfl) T.f_range (pa_cons (pe_callB (call_lenO (ok_lenP T) hr (by decide) pass0 T.p_ml) (by rfl) T.f_len (by decide +kernel) (pa_cons (pv 0) pa_nil)) pa_nil)) (blkOk_by (by kernel_rfl)) (fun _ _ _ _ _ => (pg_name (i := 9) sc_least_barrings.nd rfl (by first | exact Or.inl rfl | exact Or.inr rfl))) (fun _ _ _ _ _ => pts_nil) (fun _ _ _ _ _ => (pe_lst pa_nil))) (pa_cons (pe_lc (own := [("_", 9)]) rfl sc_least_barrings.nd (pi_range1 (by rfl) T.f_range (pa_cons (pe_op op_add (pe_callB (lenQ (KK := K)) (by rfl) T.f_len (by decide +kernel) (pa_cons (mCall0 (ok_rules T) hr (by decide) pass0 (pv 0) T.p_cl T.p_mr) pa_nil)) pe_int) pa_nil)) (blkOk_by (by kernel_rfl)) (fun _ _ _ _ _ => (pg_name (i := 9) sc_least_barrings.nd rfl (by first | exact Or.inl rfl | exact Or.inr rfl))) (fun _ _ _ _ _ => pts_nil) (fun _ _ _ _ _ => (pe_lst pa_nil))) pa_nil)) (by rfl))
      (pss_cons (ps_expr (pe_bm PySem.F.plainAttrs_list PySem.F.slot_list_append PySem.F.type_list_append mt_append (pe_ix (ixQ (KK := K)) (pv 2) pe_int (fun _ _ => rfl)) (pa_cons (pe_tup (pa_cons pe_int (pa_cons (pe_tup pa_nil) pa_nil))) pa_nil)))
      (pss_cons (ps_for PassesOwn.never rfl (sqI (KK := K) (pv 2)) (pg_name (i := 3) sc_least_barrings.nd rfl (by first | exact Or.inl rfl | exact Or.inr rfl))
        (pss_cons (ps_set (i := 4) sc_least_barrings.nd rfl (by first | exact Or.inl rfl | exact Or.inr rfl) pe_int)
        (pss_one (ps_while PassesOwn.never (pt_cmpR op_lt (pv 4) (pe_callB (lenQ (KK := K)) (by rfl) T.f_len (by decide +kernel) (pa_cons (pv 3) pa_nil)) (nomark _))
          (pss_cons (ps_asg (pe_ix (ixQ (KK := K)) (pv 3) (pv 4) (fun _ _ => rfl)) (tupG (KK := K) (n := 2) (by rfl) (pgs_cons (pg_name (i := 5) sc_least_barrings.nd rfl (by first | exact Or.inl rfl | exact Or.inr rfl)) (pgs_cons (pg_name (i := 6) sc_least_barrings.nd rfl (by first | exact Or.inl rfl | exact Or.inr rfl)) pgs_nil))))
          (pss_cons (ps_aug (i := 4) sc_least_barrings.nd rfl (by first | exact Or.inl rfl | exact Or.inr rfl) pe_int ip_add)
          (pss_one (ps_if (pt_not (pt_val (pe_callB (anyK (KK := K) rfl) (by rfl) T.f_any (by decide +kernel) (pa_cons (pe_lc (own := [("one", 10)]) rfl sc_least_barrings.nd (sqI (KK := K) (pe_ix (ixQ (KK := K)) (pv 1) (pv 5) (fun _ _ => rfl))) (blkOk_by (by kernel_rfl)) (fun _ _ _ _ _ => (pg_name (i := 10) sc_least_barrings.nd rfl (by first | exact Or.inl rfl | exact Or.inr rfl))) (fun _ _ _ _ _ => pts_nil) (fun _ _ _ _ _ => (pe_cl (ok_is_part T) hr (by decide) pass0 (pa_cons (pv 10) (pa_cons (pv 6) pa_nil))))) pa_nil))))
            (pss_cons (ps_expr (pe_bm PySem.F.plainAttrs_list PySem.F.slot_list_append PySem.F.type_list_append mt_append (pe_ix (ixQ (KK := K)) (pv 1) (pv 5) (fun _ _ => rfl)) (pa_cons (pv 6) pa_nil)))
            (pss_one (ps_for PassesOwn.never rfl (sqI (KK := K) (pe_callTy (wListV (ww := w) rfl) (by rfl) T.f_list (by decide +kernel) (pa_cons (wVals (ww := w) (pe_ix (ixQ (KK := K)) (fldK (KK := K) (pv 0) rfl) (pv 5) (fun _ _ => rfl)) rfl) pa_nil))) (pg_name (i := 7) sc_least_barrings.nd rfl (by first | exact Or.inl rfl | exact Or.inr rfl))
              (pss_cons (ps_set (i := 8) sc_least_barrings.nd rfl (by first | exact Or.inl rfl | exact Or.inr rfl) (pe_cl (ok_joined T) hr (by decide) pass0 (pa_cons (pv 6) (pa_cons (pe_ix (ixQ (KK := K)) (pv 7) pe_int (fun _ _ => rfl)) pa_nil))))
              (pss_one (ps_if (pt_not (pt_val (pe_callB (anyK (KK := K) rfl) (by rfl) T.f_any (by decide +kernel) (pa_cons (pe_lc (own := [("one", 10)]) rfl sc_least_barrings.nd (sqI (KK := K) (pe_ix (ixQ (KK := K)) (pv 1) (pe_ix (ixQ (KK := K)) (pv 7) pe_int (fun _ _ => rfl)) (fun _ _ => rfl))) (blkOk_by (by kernel_rfl)) (fun _ _ _ _ _ => (pg_name (i := 10) sc_least_barrings.nd rfl (by first | exact Or.inl rfl | exact Or.inr rfl))) (fun _ _ _ _ _ => pts_nil) (fun _ _ _ _ _ => (pe_cl (ok_is_part T) hr (by decide) pass0 (pa_cons (pv 10) (pa_cons (pv 8) pa_nil))))) pa_nil))))
                (pss_one (ps_expr (pe_bm PySem.F.plainAttrs_list PySem.F.slot_list_append PySem.F.type_list_append mt_append (pe_ix (ixQ (KK := K)) (pv 2) (pe_callB (lenQ (KK := K)) (by rfl) T.f_len (by decide +kernel) (pa_cons (pv 8) pa_nil)) (fun _ _ => rfl)) (pa_cons (pe_tup (pa_cons (pe_ix (ixQ (KK := K)) (pv 7) pe_int (fun _ _ => rfl)) (pa_cons (pv 8) pa_nil))) pa_nil))))
                pss_nil))))))
            pss_nil))))))))
      (pss_one (ps_ret (pv 1)))))), ?_⟩
    obtain ⟨dx, tl, bl, hpl, _⟩ := play.ex
    refine ⟨_, rfl, pl, dx, _, rfl, s0 _ _ hpl, ⟨pl, Tb, bad, rfl, play.same s0, Tb.length, rfl, by omega, ?_⟩⟩
    refine ⟨(Tb.length : Nat), rfl, by omega, by omega, fun F hFn => ?_⟩
    refine new_lists (s := 9) (n := Tb.length) hFn (by show 9 < 11; decide) (by omega) s0 fun H1 fa g1 hfl hfn hfa => ?_
    have hGF : G F = none := s0.free hFn
    refine ⟨_, rfl, pl, dx, _, rfl, g1.same _ _ (s0 _ _ hpl), by rfl, ?_⟩
    have u1 : Same G (upd G F (.lst (fa.map V.ref))) := Same.upd_none hGF
    have hF1 : SqL K (upd G F (.lst (fa.map V.ref))) F (fa.map V.ref) := SqL.of upd_same
    have hfaG : ∀ a ∈ fa, upd G F (.lst (fa.map V.ref)) a = none := fun a m => by
      obtain ⟨h1, h2, _⟩ := hfa a m
      rw [upd_ne h2]
      exact s0.free h1
    generalize upd G F (.lst (fa.map V.ref)) = G1 at g1 u1 hF1 hfaG
    refine ⟨G1, pl, Tb, bad, names0, rfl, g1.sub, play.same u1, fit, fun l H2 G2 rs g2 hl hrs hrm => ?_⟩
    have gA := g1.trans g2
    have hsub : Sub rs names0 := fun x m => by
      obtain ⟨q, hq, hx⟩ := mem_barsOf.mp ((hrm x).mp m)
      exact fit.sub q hq x hx
    have hm6 : rs.length ≤ 6 := Nat.le_trans (nodup_len hrs.nodup hsub) hn6
    refine ⟨l, _, rfl, .inl (g2.sub.seq hl), (rs.length : Nat), 1, by rw [List.length_map], rfl, ?_⟩
    refine ⟨((rs.length + 1 : Nat) : Int), rfl, by omega, by omega, fun Z hZn => ?_⟩
    refine new_lists (s := 9) (n := rs.length + 1) hZn (by show 9 < 11; decide) (by omega) g2.sub fun H3 za g3 hzl hzn hza => ?_
    refine ⟨_, _, rfl, ?_⟩
    dsimp only [tNext, tRet, tOp, tSeq, gName, tAsg]
    have hG2Z : G2 Z = none := g2.sub.free hZn
    have u3 : Same G2 (upd G2 Z (.lst (za.map V.ref))) := Same.upd_none hG2Z
    have hZ3 : SqL K (upd G2 Z (.lst (za.map V.ref))) Z (za.map V.ref) := SqL.of upd_same
    have hzaG : ∀ a ∈ za, upd G2 Z (.lst (za.map V.ref)) a = none := fun a m => by
      obtain ⟨h1, h2, _⟩ := hza a m
      rw [upd_ne h2]
      exact g2.sub.free h1
    have hfaZ : ∀ a ∈ fa, a ≠ Z := fun a m => ne_sn (g2.keep (hfa a m).2.2) hZn
    have hfaG3 : ∀ a ∈ fa, upd G2 Z (.lst (za.map V.ref)) a = none := fun a m => by
      rw [upd_ne (hfaZ a m)]
      exact g2.out (hfa a m).2.2 (hfaG a m)
    generalize upd G2 Z (.lst (za.map V.ref)) = G3 at g3 u3 hZ3 hzaG hfaG3
    have gB := gA.trans g3
    have s12 : Same H H2 := gA.same
    have hap : ∀ a ∈ fa, a ∉ za := fun a m m2 => by
      have h1 := g2.keep (hfa a m).2.2
      rw [(hza a m2).1] at h1
      cases h1
    have A : LBA H fa za := ⟨hfn, hzn, hap, fun a m => (hfa a m).1, fun a m => s12.free (hza a m).1⟩
    -- the first entry
    obtain ⟨z0, hz0⟩ : ∃ z0, za[0]? = some z0 := ⟨_, List.getElem?_eq_getElem (by omega)⟩
    refine ⟨_, rfl, Z, _, 0, .ref z0, rfl, rfl, .inl (g3.sub.seq hZ3), atI_nat (j := 0) (by rw [List.getElem?_map, hz0]; rfl), .inl ⟨rfl, [], SqL.of (hza z0 (List.mem_of_getElem? hz0)).2.2⟩, ?_⟩
    have base : LBH K H G G3 H3 fa za F Z [] [] (fun _ => []) (fun _ => []) := ⟨gB, (g2.up.trans u3).seq hF1, hZ3, fun j a e => ⟨hfaG3 a (List.mem_of_getElem? e), g3.keep (g2.keep (hfa a (List.mem_of_getElem? e)).2.2)⟩, fun j a e => ⟨hzaG a (List.mem_of_getElem? e), (hza a (List.mem_of_getElem? e)).2.2⟩, fun v => .nil, fun k => .nil⟩
    refine ⟨by show 0 ≤ sizeLine; decide, fun t0 ht0 => ⟨by show 2 ≤ sizeLine; decide, fun p0 hp0 => ?_⟩⟩
    have g5 := ((Gr.start (M := NoM) g3.sub).newN (o := .tup []) ht0).newN (o := .tup [.int 0, .ref t0]) hp0
    have ht0p : t0 ≠ p0 := ne_sn upd_same hp0
    have ht5 : SqT K (upd (upd G3 t0 (.tup [])) p0 (.tup [.int 0, .ref t0])) t0 (([] : List Str).map V.str) := SqT.of (by rw [upd_ne ht0p, upd_same]; rfl)
    have hp5 : SqT K (upd (upd G3 t0 (.tup [])) p0 (.tup [.int 0, .ref t0])) p0 [.int ((0 : Nat) : Int), .ref t0] := SqT.of upd_same
    generalize upd (upd G3 t0 (.tup [])) p0 (.tup [.int 0, .ref t0]) = G5 at g5 ht5 hp5
    generalize upd (upd H3 t0 (.tup [])) p0 (.tup [.int 0, .ref t0]) = H5 at g5
    have base5 := base.step g5
    refine ⟨z0, [], .ref p0, rfl, rfl, (base5.zo 0 z0 hz0).2, by decide, ?_⟩
    have base6 := base5.addZ A (e := ((0, []) : Ent Str)) hz0 hp5 ht5
    have lb0 : LB strO (rowsT Tb) Tb.length 10 rs [] [(0, [])] 0 0 none := LB.start hc.1
    have hpw : 2 ^ rs.length ≤ 64 := Nat.le_trans (Nat.pow_le_pow_right (by decide) hm6) (by decide)
    have bnd : ∀ {log psh : List (Ent Str)} {k at_ : Nat} {cur : Cur Str}, LB strO (rowsT Tb) Tb.length 10 rs log psh k at_ cur → psh.length ≤ 12801 ∧ log.length ≤ 1280 := fun b => by
      have h1 := b.many hrs
      have h2 := b.few hrs
      have h3 : Tb.length * 2 ^ rs.length ≤ 20 * 64 := Nat.mul_le_mul hT hpw
      omega
    have hbr : ∀ u, ∀ p ∈ rowAt Tb u, Sub p.2 rs := fun u p hp x hx => (hrm x).mpr (mem_barsOf.mpr ⟨p, mem_flat_row hp, hx⟩)
    refine ⟨_, rfl, Z, rfl, .inl ⟨⟨_, base6.gr.sub.seq base6.Z⟩, for_it (walk_list (K := K) (a := Z) (xs := za.map V.ref)) (fun k σ H' => ∃ o3 o4 o5 o6 o7 o8 G4 log psh fv zv, σ = [some (.ref pl), some (.ref F), some (.ref Z), o3, o4, o5, o6, o7, o8, none, none] ∧ LBH K H G G4 H' fa za F Z log psh fv zv ∧ LB strO (rowsT Tb) Tb.length 10 rs log psh k 0 none) ⟨_, _, _, _, _, _, G5, [], _, _, _, rfl, base6, lb0⟩ (fun k σ H' _ ⟨_, _, _, _, _, _, _, _, _, _, _, _, b, _⟩ => b.gr.sub.seq b.Z) ?_ ?_⟩⟩
    · rintro k' x σ H6 H6' hk' ⟨o3, o4, o5, o6, o7, o8, G4, log, psh, fv, zv, rfl, bh, lb⟩ ⟨rfl, hx⟩
      rw [List.getElem?_map, Option.map_eq_some_iff] at hx
      obtain ⟨z, hz, rfl⟩ := hx
      dsimp only [tNext, tRet, tOp, tSeq, gName, tAsg]
      refine ⟨fun m σ H' => ∃ (at_ : Nat) (o5 o6 o7 o8 : Option V) (G4 : Hp) (log psh : List (Ent Str)) (fv zv : Nat → List V), σ = [some (.ref pl), some (.ref F), some (.ref Z), some (.ref z), some (.int (at_ : Nat)), o5, o6, o7, o8, none, none] ∧ LBH K H G G4 H' fa za F Z log psh fv zv ∧ LB strO (rowsT Tb) Tb.length 10 rs log psh k' at_ none ∧ at_ ≤ (lvl psh k').length ∧ m = 20000 - at_, ⟨20000, 0, _, _, _, _, G4, log, psh, fv, zv, rfl, bh, lb, Nat.zero_le _, rfl⟩, ?_⟩
      rintro m σ H7 ⟨at_, o5, o6, o7, o8, G4, log, psh, fv, zv, rfl, bh, lb, hat, rfl⟩
      have hzl : (zv k').length = (lvl psh k').length := Paired.length (bh.zs k')
      obtain ⟨b1, b2⟩ := bnd lb
      have hlv := lvl_len psh k'
      refine ⟨_, rfl, _, rfl, z, _, rfl, .inl (SqL.of (bh.zo k' z hz).2), (at_ : Int), ((lvl psh k').length : Int), rfl, by rw [hzl], _, rfl, ?_⟩
      by_cases hlt : at_ < (lvl psh k').length
      · refine ite_y (decide_eq_true (by omega)) ⟨fun σ' H'' => ∃ (o5 o6 o7 o8 : Option V) (G4 : Hp) (log psh : List (Ent Str)) (fv zv : Nat → List V), σ' = [some (.ref pl), some (.ref F), some (.ref Z), some (.ref z), some (.int ((at_ + 1 : Nat) : Int)), o5, o6, o7, o8, none, none] ∧ LBH K H G G4 H'' fa za F Z log psh fv zv ∧ LB strO (rowsT Tb) Tb.length 10 rs log psh k' (at_ + 1) none ∧ at_ + 1 ≤ (lvl psh k').length, fun σ' H'' ⟨o5, o6, o7, o8, G4, log, psh, fv, zv, e, c1, c2, c3⟩ => ⟨20000 - (at_ + 1), by omega, at_ + 1, o5, o6, o7, o8, G4, log, psh, fv, zv, e, c1, c2, c3, rfl⟩, ?_⟩
        obtain ⟨e, he⟩ : ∃ e, (lvl psh k')[at_]? = some e := ⟨_, List.getElem?_eq_getElem hlt⟩
        obtain ⟨v, hv⟩ : ∃ v, (zv k')[at_]? = some v := ⟨_, List.getElem?_eq_getElem (by omega)⟩
        obtain ⟨e', he', p, t, rfl, hp, ht⟩ := paired_get (bh.zs k') hv
        rw [he] at he'
        cases he'
        have heP := lb.okP e (List.mem_filter.mp (List.mem_of_getElem? he)).1
        obtain ⟨en, es, eb, _⟩ := heP
        obtain ⟨fh, hfh⟩ : ∃ a, fa[e.1]? = some a := ⟨_, List.getElem?_eq_getElem (by rw [hfl]; exact en)⟩
        have hesl : e.2.length ≤ 6 := Nat.le_trans (nodup_len es.nodup eb) hm6
        refine ⟨_, rfl, _, rfl, z, _, (at_ : Int), .ref p, rfl, rfl, .inl (SqL.of (bh.zo k' z hz).2), atI_nat hv, p, _, rfl, bh.gr.sub.tp hp, rfl, ⟨_, _, rfl, ⟨_, _, rfl, ⟨rfl, ?_⟩⟩⟩⟩
        dsimp only [tNext, tRet, tOp, tSeq, gName, tAsg]
        refine ⟨_, rfl, (at_ : Int), 1, rfl, rfl, ?_⟩
        have hfr : (fa.map V.ref)[e.1]? = some (.ref fh) := by rw [List.getElem?_map, hfh]; rfl
        have hfvl : (fv e.1).length = (atV log e.1).length := Paired.length (bh.fs e.1)
        have hatl : (atV log e.1).length ≤ log.length := by unfold atV; rw [List.length_map]; exact List.length_filter_le ..
        dsimp only [tNext, tRet, tOp, tSeq, gName, tAsg]
        refine cb1 (lc_any (M := NoM) (.ref fh) H7 (fun n acc _ => acc = ((atV log e.1).take n).map fun y => V.bl (part y e.2)) (fun R' r => ⟨_, rfl, _, rfl, F, _, (e.1 : Int), .ref fh, rfl, rfl, .inl (bh.gr.sub.seq bh.F), atI_nat hfr, r⟩) rfl (fun _ _ z => z) (Same.refl H7) (.inl (SqL.of (bh.fo _ fh hfh).2)) (by rw [hfvl]; exact Nat.le_trans (Nat.le_trans hatl b2) (by decide)) rfl ?_ ?_)
        · rintro D hD n x acc G5 H8 hx g5 hl5 rfl
          intro Ky Kn ky kn
          refine ⟨rfl, y_te ?_⟩
          obtain ⟨y, hy, hyd⟩ := paired_get (bh.fs e.1) hx
          obtain ⟨ty, rfl, hty⟩ := setV_tup (dp_mono (bh.gr.sub.trans g5.same') hyd)
          obtain ⟨_, ys, yb, _⟩ := lb.okL (e.1, y) (mem_atV.mp (List.mem_of_getElem? hy))
          refine ⟨_, rfl, _, rfl, ty, t, y, e.2, rfl, .inr hty, Nat.le_trans (nodup_len ys.nodup yb) (Nat.le_trans hm6 (by decide)), .inl (.inr ((bh.gr.sub.trans g5.same').tp ht)), fun H9 s9 => ?_⟩
          exact ky _ H9 G5 (Gr.of g5.sub s9) (by show _ = _; rw [all_snoc (f := fun y => V.bl (part y e.2)) hy])
        · rintro D acc G5 H8 hD g5 hg5 hl5 rfl
          rw [hfvl, List.take_length] at g5
          have bh8 := bh.step (Gr.of bh.gr.sub g5.same)
          refine ⟨D, (atV log e.1).map fun y => part y e.2, rfl, SqL.of (by rw [g5.sub D _ upd_same, List.map_map]; rfl), _, rfl, ?_⟩
          have eany : ((atV log e.1).map fun y => part y e.2).any id = (atV log e.1).any fun y => part y e.2 := by rw [List.any_map]; rfl
          rw [eany]
          have iff1 : (atV log e.1).any (fun y => part y e.2) = true ↔ ∃ y ∈ atV log e.1, Sub y e.2 := any_part
          cases hcov : (atV log e.1).any fun y => part y e.2 with
          | true =>
            refine ite_n (by rfl) ?_
            exact ⟨_, _, _, _, G4, log, psh, fv, zv, rfl, bh8, lb.skip he (iff1.mp hcov), hlt⟩
          | false =>
            refine ite_y (by rfl) ?_
            have lb1 := lb.add he (fun z => by rw [iff1.mpr z] at hcov; cases hcov)
            refine ⟨_, rfl, _, rfl, F, _, (e.1 : Int), .ref fh, rfl, rfl, .inl (bh8.gr.sub.seq bh8.F), atI_nat hfr, .inl ⟨rfl, _, SqL.of (bh8.fo _ fh hfh).2⟩, ⟨_, rfl, fh, _, .ref t, rfl, rfl, (bh8.fo _ fh hfh).2, by rw [hfvl]; exact Nat.lt_of_le_of_lt (Nat.le_trans hatl b2) (by decide), ?_⟩⟩
            have bh9 := bh8.addF A hfh ht
            generalize upd H8 fh (.lst (fv e.1 ++ [.ref t])) = H9 at bh9 ⊢
            have sGG : Same G G4 := bh.gr.up
            obtain ⟨dx', tl', bl', as, ra, kvs, ep, hpl', hls, haa, wd, rk⟩ := play.row sGG en
            have sb := bh9.gr.sub
            refine ⟨_, rfl, pl, aPlay K, dx', _, .ref tl', rfl, sb _ _ hpl', T.p_cl, T.p_nT, rfl, _, rfl, tl', as, (e.1 : Int), .ref ra, rfl, rfl, .inl (sb.seq hls), atI_nat haa, ra, kvs, ep, rfl, wd.sm, (wd.same sb).rd, fun pv hpv => ?_⟩
            have h10 := (Gr.start (M := NoM) sb).newN (o := vwO pv ra) hpv
            refine ⟨pv, ra, kvs, ep, rfl, upd_same, (wd.same (sb.to_upd hpv)).rd, wd.sz, fun q hq => ?_⟩
            have h11 := h10.newN (o := .lst (kvs.map fun x => x.2.2)) hq
            have hqG : SqL K (upd (upd G4 pv (vwO pv ra)) q (.lst (kvs.map fun x => x.2.2))) q (kvs.map fun x => x.2.2) := SqL.of upd_same
            generalize upd (upd G4 pv (vwO pv ra)) q (.lst (kvs.map fun x => x.2.2)) = Gq at h11 hqG
            generalize upd (upd H9 pv (vwO pv ra)) q (.lst (kvs.map fun x => x.2.2)) = Hq at h11 ⊢
            have bhq := bh9.step h11
            have htq := h11.up.tp ht
            have rkq := rk.same h11.up
            have hrl : kvs.length = (rowAt Tb e.1).length := Paired.length rk
            have hr10 : (rowAt Tb e.1).length ≤ 10 := by
              cases hr : Tb[e.1]? with
              | none => rw [rowAt_none hr]; exact Nat.zero_le _
              | some row => rw [rowAt_some hr]; exact hrow row (List.mem_of_getElem? hr)
            refine ⟨q, rfl, .inl ⟨⟨_, h11.sub.seq hqG⟩, fl_G (K := K) (a := q) (xs := kvs.map fun x => x.2.2) (fun j σ H' => ∃ (o7 o8 : Option V) (G6 : Hp) (log psh : List (Ent Str)) (fv zv : Nat → List V), σ = [some (.ref pl), some (.ref F), some (.ref Z), some (.ref z), some (.int ((at_ + 1 : Nat) : Int)), some (.int (e.1 : Nat)), some (.ref t), o7, o8, none, none] ∧ LBH K H G G6 H' fa za F Z log psh fv zv ∧ Same Gq G6 ∧ LB strO (rowsT Tb) Tb.length 10 rs log psh k' (at_ + 1) (some (e, j)) ∧ at_ + 1 ≤ (lvl psh k').length) Gq hqG ⟨_, _, Gq, _, _, _, _, rfl, bhq, Same.refl _, lb1, hlt⟩ (fun j σ H' ⟨_, _, _, _, _, _, _, _, b, sm, _⟩ => sm.trans b.gr.sub) ?_ ?_⟩⟩
            · rintro j x σ Ha hx ⟨o7, o8, G6, log, psh, fv, zv, rfl, bh, sq6, lb, hat1⟩
              obtain ⟨b1, b2⟩ := bnd lb
              rw [List.getElem?_map, Option.map_eq_some_iff] at hx
              obtain ⟨en', hen, rfl⟩ := hx
              obtain ⟨pr, hpr, ekd, ks⟩ := paired_get rkq hen
              have hprm := List.mem_of_getElem? hpr
              obtain ⟨tt, w', rt, sd', ev, htup, hdp, hrt, _⟩ := (ks.same sq6).ex
              rw [ev]
              have hj10 : j < 10 := by have := (List.getElem?_eq_some_iff.mp hpr).1; omega
              have hrr : (rowAt (rowsT Tb) e.1)[j]? = some (keyD pr.1.wd, pr.1.oth, pr.2) := by
                unfold rowsT
                rw [rowAt_map rowE rfl]
                unfold rowE
                rw [List.getElem?_map, hpr]
                rfl
              have hoth : pr.1.oth < Tb.length := by
                cases hr : Tb[e.1]? with
                | none => rw [rowAt_none hr] at hprm; cases hprm
                | some row => rw [rowAt_some hr] at hprm; exact hc.2 row (List.mem_of_getElem? hr) pr hprm
              have hpf := mem_flat_row hprm
              have hpn := hbr e.1 pr hprm
              dsimp only [tNext, tRet, tOp, tSeq, gName, tAsg]
              refine ⟨_, rfl, _, rfl, tt, _, 3, .ref rt, rfl, rfl, .inr (bh.gr.sub.tp htup), atI_nat (j := 3) rfl, ?_⟩
              refine ⟨G6, t, rt, e.2, pr.2, names0, rfl, bh.gr.sub, sq6.tp htq, hrt, eb.trans hsub, fit.sub pr hpf, fit.nm, by omega, Nat.le_trans (fit.len hpf) (by decide), fun t2 Hb G7 zs2 g7 ht2 hz2 hm2 => ?_⟩
              have bh7 := bh.step g7
              have sq7 := sq6.trans g7.up
              have htup7 := g7.up.tp htup
              obtain ⟨fo, hfo⟩ : ∃ a, fa[pr.1.oth]? = some a := ⟨_, List.getElem?_eq_getElem (by rw [hfl]; exact hoth)⟩
              have hfor : (fa.map V.ref)[pr.1.oth]? = some (.ref fo) := by rw [List.getElem?_map, hfo]; rfl
              have hfvl : (fv pr.1.oth).length = (atV log pr.1.oth).length := Paired.length (bh7.fs pr.1.oth)
              have hatl : (atV log pr.1.oth).length ≤ log.length := by unfold atV; rw [List.length_map]; exact List.length_filter_le ..
              have hz2n : Sub zs2 rs := fun x m => ((hm2 x).mp m).elim (eb x) (hpn x)
              have hz2l : zs2.length ≤ rs.length := nodup_len hz2.nodup hz2n
              dsimp only [tNext, tRet, tOp, tSeq, gName, tAsg]
              refine cb1 (lc_any (M := NoM) (.ref fo) Hb (fun n acc _ => acc = ((atV log pr.1.oth).take n).map fun y => V.bl (part y zs2)) (fun R' r => ⟨_, rfl, _, rfl, tt, _, 2, .int (pr.1.oth : Nat), rfl, rfl, .inr (bh7.gr.sub.tp htup7), atI_nat (j := 2) rfl, F, _, (pr.1.oth : Int), .ref fo, rfl, rfl, .inl (bh7.gr.sub.seq bh7.F), atI_nat hfor, r⟩) rfl (fun _ _ z => z) (Same.refl Hb) (.inl (SqL.of (bh7.fo _ fo hfo).2)) (by rw [hfvl]; exact Nat.le_trans (Nat.le_trans hatl b2) (by decide)) rfl ?_ ?_)
              · rintro D hD n x acc G8 Hc hx g8 hl8 rfl
                intro Ky Kn ky kn
                refine ⟨rfl, y_te ?_⟩
                obtain ⟨y, hy, hyd⟩ := paired_get (bh7.fs pr.1.oth) hx
                obtain ⟨ty, rfl, hty⟩ := setV_tup (dp_mono (bh7.gr.sub.trans g8.same') hyd)
                obtain ⟨_, ys, yb, _⟩ := lb.okL (pr.1.oth, y) (mem_atV.mp (List.mem_of_getElem? hy))
                refine ⟨_, rfl, _, rfl, ty, t2, y, zs2, rfl, .inr hty, Nat.le_trans (nodup_len ys.nodup yb) (Nat.le_trans hm6 (by decide)), .inl (.inr ((bh7.gr.sub.trans g8.same').tp ht2)), fun Hd s9 => ?_⟩
                exact ky _ Hd G8 (Gr.of g8.sub s9) (by show _ = _; rw [all_snoc (f := fun y => V.bl (part y zs2)) hy])
              · rintro D acc G8 Hc hD g8 hg8 hl8 rfl
                rw [hfvl, List.take_length] at g8
                have bh8 := bh7.step (Gr.of bh7.gr.sub g8.same)
                refine ⟨D, (atV log pr.1.oth).map fun y => part y zs2, rfl, SqL.of (by rw [g8.sub D _ upd_same, List.map_map]; rfl), _, rfl, ?_⟩
                have eany : ((atV log pr.1.oth).map fun y => part y zs2).any id = (atV log pr.1.oth).any fun y => part y zs2 := by rw [List.any_map]; rfl
                rw [eany]
                have iff1 : (atV log pr.1.oth).any (fun y => part y zs2) = true ↔ ∃ y ∈ atV log pr.1.oth, Sub y zs2 := any_part
                cases hcov : (atV log pr.1.oth).any fun y => part y zs2 with
                | true =>
                  refine ite_n (by rfl) ?_
                  exact ⟨_, _, G7, log, psh, fv, zv, rfl, bh8, sq7, lb.cov hrr hj10 hm2 (iff1.mp hcov), hat1⟩
                | false =>
                  refine ite_y (by rfl) ?_
                  have lb2 := lb.push hrr hj10 hoth hpn hat1 hz2 hm2
                  obtain ⟨zz, hzz⟩ : ∃ a, za[zs2.length]? = some a := ⟨_, List.getElem?_eq_getElem (by omega)⟩
                  have hzr : (za.map V.ref)[zs2.length]? = some (.ref zz) := by rw [List.getElem?_map, hzz]; rfl
                  have ez2 : (zs2.map V.str).length = zs2.length := List.length_map ..
                  have hzvl : (zv zs2.length).length = (lvl psh zs2.length).length := Paired.length (bh8.zs _)
                  have hlv2 := lvl_len psh zs2.length
                  refine ⟨_, rfl, _, rfl, t2, _, rfl, .inr (bh8.gr.sub.tp ht2), Z, _, (zs2.length : Int), .ref zz, rfl, by rw [ez2], .inl (bh8.gr.sub.seq bh8.Z), atI_nat hzr, .inl ⟨rfl, _, SqL.of (bh8.zo _ zz hzz).2⟩, ⟨_, rfl, tt, _, 2, .int (pr.1.oth : Nat), rfl, rfl, .inr (bh8.gr.sub.tp htup7), atI_nat (j := 2) rfl, _, rfl, by show 2 ≤ sizeLine; decide, fun pp hpp => ?_⟩⟩
                  have g9 := (Gr.start (M := NoM) bh8.gr.sub).newN (o := .tup [.int (pr.1.oth : Nat), .ref t2]) hpp
                  have hppG : SqT K (upd G7 pp (.tup [.int (pr.1.oth : Nat), .ref t2])) pp [.int (pr.1.oth : Nat), .ref t2] := SqT.of upd_same
                  have sq9 := sq7.trans g9.up
                  have ht29 := g9.up.tp ht2
                  generalize upd G7 pp (.tup [.int (pr.1.oth : Nat), .ref t2]) = G9 at g9 hppG sq9 ht29
                  have bh9 := bh8.step g9
                  refine ⟨zz, _, .ref pp, rfl, rfl, (bh9.zo _ zz hzz).2, by rw [hzvl]; exact Nat.lt_of_le_of_lt (Nat.le_trans hlv2 b1) (by decide), ?_⟩
                  have bhA := bh9.addZ A (e := ((pr.1.oth, zs2) : Ent Str)) hzz hppG ht29
                  refine ⟨_, _, G9, log, _, fv, _, rfl, bhA, sq9, lb2, ?_⟩
                  rw [lvl_snoc]
                  by_cases c : ((pr.1.oth, zs2) : Ent Str).2.length = k'
                  · rw [if_pos c, List.length_append]; omega
                  · rw [if_neg c]; exact hat1
            · rintro σ Ha ⟨o7, o8, G6, log, psh, fv, zv, rfl, bh, sq6, lb, hat1⟩
              refine ⟨_, _, _, _, G6, log, psh, fv, zv, rfl, bh, lb.done ?_, hat1⟩
              unfold rowsT
              rw [rowAt_map rowE rfl]
              unfold rowE
              rw [List.length_map, List.length_map]
              omega
      · refine ite_n (decide_eq_false (by omega)) ?_
        have e : at_ = (lvl psh k').length := by omega
        exact ⟨_, _, _, _, _, _, G4, log, psh, fv, zv, rfl, bh, lb.next (by omega)⟩
    · rintro σ H6 ⟨o3, o4, o5, o6, o7, o8, G4, log, psh, fv, zv, rfl, bh, lb⟩
      rw [List.length_map, hzl] at lb
      obtain ⟨b1, b2⟩ := bnd lb
      obtain ⟨Ge, ge, se, he⟩ := bh.gr.giveMany fa hfn fun a m => by
        obtain ⟨j, hj⟩ := List.getElem?_of_mem m
        obtain ⟨p1, p2⟩ := bh.fo j a hj
        exact ⟨p1, A.fH a m, fun z => z, _, p2⟩
      refine ⟨_, rfl, k F H6 Ge fa fv (atV log) ge (se.seq bh.F) hfl (fun v a ha => ?_) (fun v => (bh.fs v).same se) (fun v => ?_) (fun v S hS => ?_) (fun ws v R g => lb.all (Nat.lt_succ_self _) g)⟩
      · exact SqL.of ((he a (List.mem_of_getElem? ha)).trans (bh.fo v a ha).2)
      · unfold atV; rw [List.length_map]
        exact Nat.le_trans (List.length_filter_le ..) b2
      · obtain ⟨_, q1, q2, q3⟩ := lb.okL (v, S) (mem_atV.mp hS)
        exact ⟨q1, q2.trans hsub, q3⟩
end
end K8
-- K8Threats
set_option maxRecDepth 100000
set_option maxHeartbeats 4000000
namespace K8
open PySem PySem.Spec PyProof.Rows L2
/-- the least barrings of ways to bad stands -/
def ThrOk (rows : Rows NestedKey Str) (bad : List Nat) (names : List Str) (Ls : List (List Str)) : Prop := ∃ Zs, Ls = least Zs ∧ Zs.Pairwise (slt strO) ∧ (∀ S ∈ Zs, Srt strO S ∧ Sub S names ∧ ∃ ws v R, v ∈ bad ∧ Go rows ws v R ∧ ∀ x, x ∈ S ↔ x ∈ R) ∧ (∀ ws v R, v ∈ bad → Go rows ws v R → ∃ S ∈ Zs, Sub S R)
def spThreats (K : PySem.W.Frag) (w : World) : Sp := fun vs H Q _ => ∃ (G : Hp) (pl : Addr) (T : List Trow) (bad : List Nat) (names : List Str), vs = [.ref pl] ∧ Same G H ∧ PlayIs K w G pl T bad ∧ Fit T names ∧ names.length ≤ 6 ∧ T.length ≤ 20 ∧ Closed T ∧ (∀ row ∈ T, row.length ≤ 10) ∧ (∀ p ∈ T.flatten, Srt strO p.2) ∧ (∀ b ∈ bad, b < T.length) ∧ bad.length ≤ 7 ∧
  ∀ F H' G' ys Ls, Gr NoM H G G' H' → H F = none → G' F = none → H' F = some (.lst ys) → SetsV K G' ys Ls → ThrOk (rowsT T) bad names Ls → Q (.ref F) H'
theorem sc_threats : FnScope ["play", "known", "found", "stand"] ["play"] (defScope s_threats) := ⟨rfl, rfl, rfl, by decide +kernel, rfl, by decide +kernel, by decide +kernel⟩
section
variable {P : Program} {w : World} {K : PySem.W.Frag} {mg : Str → Option Value} {base : Heap}
theorem flat_len {α : Type} {f : Nat → List α} {n : Nat} (h : ∀ v, (f v).length ≤ n) : ∀ {l : List Nat}, (l.flatMap f).length ≤ n * l.length
  | [] => by simp
  | v :: r => by
    have ih := flat_len h (l := r)
    have h1 := h v
    rw [List.flatMap_cons, List.length_append, List.length_cons, Nat.mul_succ]
    omega
theorem paired_app {α β : Type} {P : α → β → Prop} : ∀ {xs xs' : List α} {ys ys' : List β}, Paired P xs ys → Paired P xs' ys' → Paired P (xs ++ xs') (ys ++ ys')
  | _, _, _, _, .nil, h => h
  | _, _, _, _, .cons a t, h => .cons a (paired_app t h)
theorem sets_flat {G : Hp} {fv : Nat → List V} {Ls : Nat → List (List Str)} (h : ∀ v, SetsV K G (fv v) (Ls v)) : ∀ l : List Nat, SetsV K G (l.flatMap fv) (l.flatMap Ls)
  | [] => .nil
  | v :: r => by
    rw [List.flatMap_cons, List.flatMap_cons]
    exact paired_app (h v) (sets_flat h r)
theorem ok_threats (T : Txt K mg) : Cl P w K mg base CX0 6 "threats" (spThreats K w) := by
  refine cl0 (T.F_threats) T.g_threats sc_threats (fun vs H Q E h => ?_) (fun _ _ _ _ _ _ us hl => match us, hl with | [_], _ => rfl) (fun cdv A outer s H vs Q E hr h => ?_)
  · obtain ⟨G, pl, Tb, bad, names, rfl, _⟩ := h
    rfl
  · obtain ⟨G, pl, Tb, bad, names, rfl, s0, play, fit, hn6, hT, hc, hrow, hbs, hbd, hbl, k⟩ := h
    refine ⟨_, (pss_cons (ps_par (i := 1) (j := 2) (by rfl) sc_threats.nd rfl rfl (by decide) rfl rfl (pa_cons (pe_cl (ok_least_barrings T) hr (by decide) pass0 (pa_cons (pv 0) pa_nil)) (pa_cons (pe_lst pa_nil) pa_nil)) (by rfl))
      (pss_cons (ps_for PassesOwn.never rfl (sqI (KK := K) (fldK (KK := K) (pv 0) rfl)) (pg_name (i := 3) sc_threats.nd rfl (by first | exact Or.inl rfl | exact Or.inr rfl))
        (pss_one (ps_expr (pe_bm PySem.F.plainAttrs_list PySem.F.slot_list_extend PySem.F.type_list_extend (mtExtQ (KK := K)) (pv 2) (pa_cons (pe_ix (ixQ (KK := K)) (pv 1) (pv 3) (fun _ _ => rfl)) pa_nil)))))
      (pss_one (ps_ret (pe_cl (ok_least_of T) hr (by decide) pass0 (pa_cons (pv 2) pa_nil)))))), ?_⟩
    refine ⟨_, rfl, G, pl, Tb, bad, names, rfl, s0, play, fit, hn6, hT, hc, hrow, hbs, fun F H1 G1 fa fv Ls g1 hF hfl hfa hfv hLl hsnd hcmp => ?_⟩
    refine ⟨by show 0 ≤ sizeLine; decide, fun f hf => ⟨_, _, rfl, ?_⟩⟩
    dsimp only [tNext, tRet, tOp, tSeq, gName, tAsg]
    have g2 := g1.mine (o := .lst []) hf
    have hfH : H f = none := g1.same.free hf
    have hfG : G1 f = none := g1.sub.free hf
    have hf2 : upd H1 f (.lst []) f = some (.lst []) := upd_same
    generalize upd H1 f (.lst []) = H2 at g2 hf2 ⊢
    obtain ⟨dx, tl, bl, hpl, _, hbG⟩ := play.ex
    have hpl1 := g1.up _ _ hpl
    have hb1 : SqL K G1 bl (bad.map natV) := g1.up.seq hbG
    refine ⟨_, rfl, pl, aPlay K, dx, _, .ref bl, rfl, g2.sub _ _ hpl1, T.p_cl, T.p_nB, rfl, bl, rfl, .inl ⟨⟨_, g2.sub.seq hb1⟩, fl_G (K := K) (a := bl) (xs := bad.map natV) (fun i σ H' => ∃ (o3 : Option V), σ = [some (.ref pl), some (.ref F), some (.ref f), o3] ∧ Gr NoM H G G1 H' ∧ H' f = some (.lst ((bad.take i).flatMap fv))) G1 hb1 ⟨_, rfl, g2, hf2⟩ (fun i σ H' ⟨_, _, g, _⟩ => g.sub) ?_ ?_⟩⟩
    · rintro i x σ Ha hx ⟨o3, rfl, g3, hfa3⟩
      rw [List.getElem?_map, Option.map_eq_some_iff] at hx
      obtain ⟨v, hv, rfl⟩ := hx
      have hvm := List.mem_of_getElem? hv
      have hvn : v < fa.length := by rw [hfl]; exact hbd v hvm
      have hva : (fa.map V.ref)[v]? = some (.ref fa[v]) := by rw [List.getElem?_map, List.getElem?_eq_getElem hvn]; rfl
      have hav := hfa v _ (List.getElem?_eq_getElem hvn)
      have hil : i ≤ 7 := by have := (List.getElem?_eq_some_iff.mp hv).1; omega
      refine ⟨_, rfl, .inl ⟨rfl, _, SqL.of hfa3⟩, _, rfl, _, rfl, F, _, (v : Int), .ref fa[v], rfl, rfl, .inl (g3.sub.seq hF), atI_nat hva, f, fa[v], _, _, rfl, rfl, hfa3, .inl (g3.sub.seq hav), ?_, ?_⟩
      · have h1 : ((bad.take i).flatMap fv).length ≤ 1280 * (bad.take i).length := flat_len fun v => by rw [Paired.length (hfv v)]; exact hLl v
        have h2 := hLl v
        rw [← Paired.length (hfv v)] at h2
        rw [List.length_take] at h1
        have : min i bad.length ≤ 7 := by omega
        have h3 := Nat.mul_le_mul_left 1280 this
        omega
      · refine ⟨_, rfl, g3.chg (.inl hfH) hfG, ?_⟩
        rw [upd_same, List.take_succ, hv, List.flatMap_append]
        simp
    · rintro σ Ha ⟨o3, rfl, g3, hfa3⟩
      rw [List.length_map, List.take_length] at hfa3
      have g4 := g3.give hfH (fun z => z) hfG hfa3
      have hfG4 : SqL K (upd G1 f (.lst (bad.flatMap fv))) f (bad.flatMap fv) := SqL.of upd_same
      have u4 : Same G1 (upd G1 f (.lst (bad.flatMap fv))) := Same.upd_none hfG
      generalize upd G1 f (.lst (bad.flatMap fv)) = G4 at g4 hfG4 u4
      have hset : SetsV K G4 (bad.flatMap fv) (bad.flatMap Ls) := (sets_flat hfv bad).same u4
      have hmS : ∀ S, S ∈ bad.flatMap Ls ↔ ∃ v ∈ bad, S ∈ Ls v := fun S => List.mem_flatMap
      refine ⟨_, rfl, G4, f, _, _, rfl, g4.sub, hfG4, hset, ?_, fun S m => ?_, fun F2 H3 G5 ys Zs Ls2 g5 h1 h2 h3 h4 h5 h6 h7 => ?_⟩
      · have h1 : (bad.flatMap Ls).length ≤ 1280 * bad.length := flat_len fun v => hLl v
        have h3 := Nat.mul_le_mul_left 1280 hbl
        omega
      · obtain ⟨v, _, m⟩ := (hmS S).mp m
        obtain ⟨q1, q2, _⟩ := hsnd v S m
        exact Nat.le_trans (nodup_len q1.nodup q2) (Nat.le_trans hn6 (by decide))
      · refine k F2 H3 G5 ys Ls2 (g4.trans g5) (g4.same.free h1) h2 h3 h4 ⟨Zs, h7, h5, fun S m => ?_, fun ws v R hv g => ?_⟩
        · obtain ⟨v, hv, m⟩ := (hmS S).mp ((h6 S).mp m)
          obtain ⟨q1, q2, ws, R, q3, q4⟩ := hsnd v S m
          exact ⟨q1, q2, ws, v, R, hv, q3, q4⟩
        · obtain ⟨S, m, q⟩ := hcmp ws v R g
          exact ⟨S, (h6 S).mpr ((hmS S).mpr ⟨v, hv, m⟩), q⟩
end
end K8
-- K8Draw
set_option maxRecDepth 100000
set_option maxHeartbeats 4000000
namespace K8
open PySem PySem.Spec PyProof.Rows L2
/-- the spring of draws -/
structure Strm (H : Hp) (s l : Addr) (c : Nat) : Prop where
  ne : s ≠ l
  ex : ∃ (cs : List Int) (p q : Int), H l = some (.lst (cs.map V.int)) ∧ cs.length ≤ 63 ∧ 0 ≤ p ∧ 0 ≤ q ∧ q < 2147483647 ∧ H s = some (.lst [.ref l, .int p, .int (c : Nat), .int q])
abbrev SM (s l : Addr) : Addr → Prop := fun b => b = s ∨ b = l
theorem Strm.like {H H' : Hp} {s l : Addr} {c : Nat} (h : Strm H s l c) (h1 : H' s = H s) (h2 : H' l = H l) : Strm H' s l c := ⟨h.ne, let ⟨cs, p, q, a, b, d, e, f, g⟩ := h.ex; ⟨cs, p, q, h2.trans a, b, d, e, f, h1.trans g⟩⟩
theorem Strm.s {H : Hp} {s l : Addr} {c : Nat} (h : Strm H s l c) : H s ≠ none := by
  obtain ⟨cs, p, q, a, b, d, e, f, g⟩ := h.ex
  rw [g]; exact fun z => nomatch z
theorem Strm.l {H : Hp} {s l : Addr} {c : Nat} (h : Strm H s l c) : H l ≠ none := by
  obtain ⟨cs, p, q, a, b, d, e, f, g⟩ := h.ex
  rw [a]; exact fun z => nomatch z
/-- something new or of one's own that is written does not touch the spring -/
theorem Strm.upd {H : Hp} {s l a : Addr} {o : HO} {c : Nat} (h : Strm H s l c) (h1 : a ≠ s) (h2 : a ≠ l) : Strm (upd H a o) s l c := h.like (upd_ne (Ne.symm h1)) (upd_ne (Ne.symm h2))
theorem Strm.new {H : Hp} {s l a : Addr} {o : HO} {c : Nat} (h : Strm H s l c) (h1 : H a = none) : Strm (L2.upd H a o) s l c := h.upd (fun e => h.s (e ▸ h1)) (fun e => h.l (e ▸ h1))
theorem Strm.not {H : Hp} {s l a : Addr} {c : Nat} (h : Strm H s l c) (h1 : H a = none) : ¬ SM s l a := fun z => z.elim (fun e => h.s (e ▸ h1)) fun e => h.l (e ▸ h1)
theorem Strm.of {H H' G G' : Hp} {s l : Addr} {c : Nat} (h : Strm H s l c) (g : Gr NoM H G G' H') : Strm H' s l c := ⟨h.ne, let ⟨cs, p, q, a, b, d, e, f, k⟩ := h.ex; ⟨cs, p, q, g.same _ _ a, b, d, e, f, g.same _ _ k⟩⟩
def spDraw : Sp := fun vs H Q _ => ∃ (G : Hp) (s l : Addr) (c n : Nat), vs = [.ref s, .int (n : Nat)] ∧ Same G H ∧ G s = none ∧ G l = none ∧ Strm H s l c ∧ c < 1099511627776 ∧ 1 ≤ n ∧ n ≤ 1000000 ∧
  ∀ d H', d < n → Gr (SM s l) H G G H' → Strm H' s l (c + 1) → Q (.int (d : Nat)) H'
theorem sc_z_draw : FnScope ["_law_stream", "_law_many", "_law_cell", "_law_digit", "_law_mixed_here"] ["_law_stream", "_law_many"] (defScope s_z_draw) := ⟨rfl, rfl, rfl, by decide +kernel, rfl, by decide +kernel, by decide +kernel⟩
section
variable {P : Program} {w : World} {K : PySem.W.Frag} {mg : Str → Option Value} {base : Heap}
theorem nat_of {x : Int} (h : 0 ≤ x) : ∃ n : Nat, x = (n : Int) := ⟨x.toNat, by omega⟩
theorem seqIx {i n : Nat} (h : i < n) : seqIndex? (i : Nat) n = some i := by
  have h1 : ¬ ((i : Nat) : Int) < 0 := by omega
  have h2 : (decide ((0 : Int) ≤ (i : Nat)) && decide (((i : Nat) : Int) < (n : Nat))) = true := by
    rw [decide_eq_true (by omega), decide_eq_true (by omega)]; rfl
  unfold seqIndex?
  show (if (decide ((0 : Int) ≤ if ((i : Nat) : Int) < 0 then _ else _) && decide ((if ((i : Nat) : Int) < 0 then _ else _) < ((n : Nat) : Int))) = true then some (Int.toNat (if ((i : Nat) : Int) < 0 then _ else _)) else none) = _
  rw [if_neg h1, if_pos h2]
  rfl
theorem setL_rd {H : Hp} {p : Addr} {xs ys : List V} {k : Int} {j : Nat} {v : V} {Q : Hp → Prop} (hp : H p = some (.lst xs)) (hk : ixN xs.length k = some j) (he : xs.set j v = ys) (h : Q (upd H p (.lst ys))) : rSetL (.ref p) (.int k) v H Q := by
  refine ⟨p, xs, k, j, rfl, rfl, hp, hk, ?_⟩
  rw [he]
  exact h
theorem tand_rd {tA tB : TT} {σ : L2.St} {H : Hp} {b1 b2 : Bool} {P : Hp → Prop} {R : Bool → Hp → Prop} (h0 : P H) (hA : ∀ R : Bool → Hp → Prop, R b1 H → tA σ H R) (hB : ∀ R : Bool → Hp → Prop, (∀ H', P H' → R b2 H') → tB σ H R) (h : ∀ H', P H' → R (b1 && b2) H') : tAnd tA tB σ H R := by
  refine hA _ ?_
  cases b1 with
  | false => exact h H h0
  | true => exact hB _ fun H' p => h H' p
theorem ok_z_draw (T : Txt K mg) : Cl P w K mg base CX0 1 "_law_draw" spDraw := by
  refine cl0 (T.F_z_draw) T.g_z_draw sc_z_draw (fun vs H Q E h => ?_) (fun _ _ _ _ _ _ us hl => match us, hl with | [_, _], _ => rfl) (fun cdv A outer s H vs Q E hr h => ?_)
  · obtain ⟨G, s, l, c, n, rfl, _⟩ := h
    rfl
  · obtain ⟨G, s, l, c, n, rfl, s0, gs, gl, st, hc, hn, hn2, k⟩ := h
    refine ⟨_, (pss_cons (ps_asg (pe_op op_add (pe_ix (ixQ (KK := K)) (pv 0) pe_int (fun _ _ => rfl)) pe_int) (pg_sub (pv 0) pe_int set_list))
      (pss_cons (ps_while PassesOwn.never (PW.pt (pw_and (pt_cmpR op_eq (pe_ix (ixQ (KK := K)) (pv 0) pe_int (fun _ _ => rfl)) pe_int (nomark _)) (pw_and1 (pt_cmpR (neNil (KK := K) (u1 hr)) (pe_ix (ixQ (KK := K)) (pv 0) pe_int (fun _ _ => rfl)) (pe_lst pa_nil) (nomark _)))))
        (pss_cons (ps_set (i := 2) sc_z_draw.nd rfl (by first | exact Or.inl rfl | exact Or.inr rfl) (pe_bm PySem.F.plainAttrs_list PySem.F.slot_list_pop PySem.F.type_list_pop mt_popAt (pe_ix (ixQ (KK := K)) (pv 0) pe_int (fun _ _ => rfl)) (pa_cons pe_int pa_nil)))
        (pss_cons (ps_asg (pe_op op_modN (pe_callTy call_int1 (by rfl) T.f_int (by decide +kernel) (pa_cons (pe_op op_add (pe_op op_add (pe_op op_mul (pe_ix (ixQ (KK := K)) (pv 0) pe_int (fun _ _ => rfl)) pe_int) (pv 2)) pe_int) pa_nil)) pe_int) (pg_sub (pv 0) pe_int set_list))
        (pss_one (ps_asg (pe_ifExp (pt_cmpR op_ge (pv 2) (pe_op op_pow pe_int pe_int) (nomark _)) (pv 2) pe_int) (pg_sub (pv 0) pe_int set_list))))))
      (pss_cons (ps_if (pt_cmpR op_gt (pe_ix (ixQ (KK := K)) (pv 0) pe_int (fun _ _ => rfl)) pe_int (nomark _))
        (pss_cons (ps_set (i := 3) sc_z_draw.nd rfl (by first | exact Or.inl rfl | exact Or.inr rfl) (pe_op op_modN (pe_callTy call_int1 (by rfl) T.f_int (by decide +kernel) (pa_cons (pe_ix (ixQ (KK := K)) (pv 0) pe_int (fun _ _ => rfl)) pa_nil)) (pv 1)))
        (pss_cons (ps_asg (pe_op op_fdivN (pe_ix (ixQ (KK := K)) (pv 0) pe_int (fun _ _ => rfl)) (pv 1)) (pg_sub (pv 0) pe_int set_list))
        (pss_one (ps_ret (pv 3)))))
        pss_nil)
      (pss_cons (ps_set (i := 4) sc_z_draw.nd rfl (by first | exact Or.inl rfl | exact Or.inr rfl) (pe_op op_modN (pe_callTy call_int1 (by rfl) T.f_int (by decide +kernel) (pa_cons (pe_op op_pow (pe_op op_add (pe_op op_add (pe_ix (ixQ (KK := K)) (pv 0) pe_int (fun _ _ => rfl)) (pe_op op_mul pe_int (pe_ix (ixQ (KK := K)) (pv 0) pe_int (fun _ _ => rfl)))) pe_int) pe_int) pa_nil)) pe_int))
      (pss_one (ps_ret (pe_op op_modN (pe_op op_modN (pe_callTy call_int1 (by rfl) T.f_int (by decide +kernel) (pa_cons (pe_op op_pow (pe_op op_add (pe_op op_add (pe_op op_mul (pv 4) pe_int) (pe_op op_mul pe_int (pe_ix (ixQ (KK := K)) (pv 0) pe_int (fun _ _ => rfl)))) pe_int) pe_int) pa_nil)) pe_int) (pv 1)))))))), ?_⟩
    obtain ⟨ne, cs, p, q, hl, hlen, hp, hq, hq2, hs⟩ := st
    refine ⟨_, rfl, s, _, 2, .int (c : Nat), rfl, rfl, .inl (SqL.of hs), atI_nat (j := 2) rfl, ?_⟩
    refine ⟨_, _, rfl, rfl, ⟨_, rfl, setL_rd hs (j := 2) rfl (ys := [.ref l, .int p, .int ((c + 1 : Nat) : Int), .int q]) rfl ?_⟩⟩
    have gA := ((Gr.start (M := SM s l) s0).chg (l := s) (o := .lst [.ref l, .int p, .int ((c + 1 : Nat) : Int), .int q]) (.inr (.inl rfl)) gs)
    have hl' : upd H s (.lst [.ref l, .int p, .int ((c + 1 : Nat) : Int), .int q]) l = some (.lst (cs.map V.int)) := by rw [upd_ne (Ne.symm ne)]; exact hl
    have hs' : upd H s (.lst [.ref l, .int p, .int ((c + 1 : Nat) : Int), .int q]) s = some (.lst [.ref l, .int p, .int ((c + 1 : Nat) : Int), .int q]) := upd_same
    generalize upd H s (.lst [.ref l, .int p, .int ((c + 1 : Nat) : Int), .int q]) = H1 at gA hl' hs' ⊢
    dsimp only [tNext, tRet, tOp, tSeq, gName, tAsg]
    refine ⟨fun m σ H' => ∃ (o2 : Option V) (cs : List Int) (p q : Int), σ = [some (.ref s), some (.int (n : Nat)), o2, none, none] ∧ Gr (SM s l) H G G H' ∧ H' l = some (.lst (cs.map V.int)) ∧ cs.length ≤ 63 ∧ 0 ≤ p ∧ 0 ≤ q ∧ q < 2147483647 ∧ H' s = some (.lst [.ref l, .int p, .int ((c + 1 : Nat) : Int), .int q]) ∧ m = cs.length, ⟨_, _, cs, p, q, rfl, gA, hl', hlen, hp, hq, hq2, hs', rfl⟩, ?_⟩
    clear hl hlen hp hq hq2 hs hl' hs' gA
    rintro m σ H2 ⟨o2, cs, p, q, rfl, g2, hl, hlen, hp, hq, hq2, hs, rfl⟩
    refine tand_rd (b1 := decide (V.int p = V.int 0)) (b2 := !(cs.map V.int).isEmpty) (P := fun H' => Gr (SM s l) H G G H' ∧ H' l = some (.lst (cs.map V.int)) ∧ H' s = some (.lst [.ref l, .int p, .int ((c + 1 : Nat) : Int), .int q])) ⟨g2, hl, hs⟩ (fun R r => ⟨_, rfl, s, _, 1, .int p, rfl, rfl, .inl (SqL.of hs), atI_nat (j := 1) rfl, rfl, _, rfl, r⟩) (fun R r => ?_) ?_
    · refine ⟨_, rfl, s, _, 0, .ref l, rfl, rfl, .inl (SqL.of hs), atI_nat (j := 0) rfl, ?_⟩
      refine ⟨by show 0 ≤ sizeLine; decide, fun a ha => ⟨l, a, _, rfl, rfl, SqL.of ?_, SqL.of upd_same, ⟨_, rfl, r _ ⟨g2.mine ha, ?_, ?_⟩⟩⟩⟩
      · rw [upd_ne (ne_sn hl ha)]; exact hl
      · rw [upd_ne (ne_sn hl ha)]; exact hl
      · rw [upd_ne (ne_sn hs ha)]; exact hs
    clear hl hs g2
    rintro H2 ⟨g2, hl, hs⟩
    cases hb : decide (V.int p = V.int 0) && !(cs.map V.int).isEmpty with
    | true =>
      refine ite_y rfl ?_
      cases cs with
      | nil => simp at hb
      | cons x cs =>
        refine ⟨fun σ' H' => ∃ (o2 : Option V) (cs' : List Int) (p q : Int), σ' = [some (.ref s), some (.int (n : Nat)), o2, none, none] ∧ Gr (SM s l) H G G H' ∧ H' l = some (.lst (cs'.map V.int)) ∧ cs'.length ≤ 63 ∧ 0 ≤ p ∧ 0 ≤ q ∧ q < 2147483647 ∧ H' s = some (.lst [.ref l, .int p, .int ((c + 1 : Nat) : Int), .int q]) ∧ cs'.length = cs.length, fun σ' H' ⟨o2, cs', p, q, e1, e2, e3, e4, e5, e6, e7, e8, e9⟩ => ⟨cs'.length, by rw [e9]; exact Nat.lt_succ_self _, _, cs', p, q, e1, e2, e3, e4, e5, e6, e7, e8, rfl⟩, ?_⟩
        refine ⟨_, rfl, s, _, 0, .ref l, rfl, rfl, .inl (SqL.of hs), atI_nat (j := 0) rfl, .inl ⟨rfl, _, SqL.of hl⟩, ⟨l, _, 0, 0, .int x, rfl, rfl, hl, by decide, by decide, seqIx (i := 0) (Nat.succ_pos _), rfl, ?_⟩⟩
        have g3 := g2.chg (l := l) (o := .lst (cs.map V.int)) (.inr (.inr rfl)) gl
        have hl3 : upd H2 l (.lst (cs.map V.int)) l = some (.lst (cs.map V.int)) := upd_same
        have hs3 : upd H2 l (.lst (cs.map V.int)) s = some (.lst [.ref l, .int p, .int ((c + 1 : Nat) : Int), .int q]) := by rw [upd_ne ne]; exact hs
        show tSeq _ _ _ _ (upd H2 l (.lst (cs.map V.int)))
        generalize upd H2 l (.lst (cs.map V.int)) = H3 at g3 hl3 hs3 ⊢
        dsimp only [tNext, tRet, tOp, tSeq, gName, tAsg]
        have hlen' : cs.length ≤ 63 := Nat.le_of_succ_le hlen
        refine ⟨_, rfl, s, _, 3, .int q, rfl, rfl, .inl (SqL.of hs3), atI_nat (j := 3) rfl, q, 8191, rfl, rfl, .inr (by decide), _, rfl, _, _, rfl, rfl, _, _, rfl, rfl, .inl ⟨_, rfl, _, _, rfl, rfl, by show (2147483647 : Int) ≠ 0; decide, ⟨_, rfl, setL_rd hs3 (j := 3) rfl (ys := [.ref l, .int p, .int ((c + 1 : Nat) : Int), .int ((q * 8191 + x + 3).fmod 2147483647)]) rfl ?_⟩⟩⟩
        have hq' : 0 ≤ (q * 8191 + x + 3).fmod 2147483647 ∧ (q * 8191 + x + 3).fmod 2147483647 < 2147483647 := ⟨Int.fmod_nonneg_of_pos _ (by decide), Int.fmod_lt_of_pos _ (by decide)⟩
        generalize (q * 8191 + x + 3).fmod 2147483647 = q' at hq'
        have g4 := g3.chg (l := s) (o := .lst [.ref l, .int p, .int ((c + 1 : Nat) : Int), .int q']) (.inr (.inl rfl)) gs
        have hl4 : upd H3 s (.lst [.ref l, .int p, .int ((c + 1 : Nat) : Int), .int q']) l = some (.lst (cs.map V.int)) := by rw [upd_ne (Ne.symm ne)]; exact hl3
        have hs4 : upd H3 s (.lst [.ref l, .int p, .int ((c + 1 : Nat) : Int), .int q']) s = some (.lst [.ref l, .int p, .int ((c + 1 : Nat) : Int), .int q']) := upd_same
        generalize upd H3 s (.lst [.ref l, .int p, .int ((c + 1 : Nat) : Int), .int q']) = H4 at g4 hl4 hs4 ⊢
        dsimp only [tNext, tRet, tOp, tSeq, gName, tAsg]
        refine ⟨_, rfl, _, _, rfl, rfl, ⟨by decide, by decide, by decide⟩, ?_⟩
        refine ⟨_, _, rfl, rfl, _, rfl, ite_b (fun hx => ?_) (fun hx => ?_)⟩
        · have hx0 : 0 ≤ x := Int.le_trans (by decide) (of_decide_eq_true hx)
          exact ⟨_, rfl, ⟨_, rfl, setL_rd hs4 (j := 1) rfl (ys := [.ref l, .int x, .int ((c + 1 : Nat) : Int), .int q']) rfl ⟨_, cs, x, q', rfl, g4.chg (.inr (.inl rfl)) gs, by rw [upd_ne (Ne.symm ne)]; exact hl4, hlen', hx0, hq'.1, hq'.2, upd_same, rfl⟩⟩⟩
        · exact ⟨_, rfl, setL_rd hs4 (j := 1) rfl (ys := [.ref l, .int 0, .int ((c + 1 : Nat) : Int), .int q']) rfl ⟨_, cs, 0, q', rfl, g4.chg (.inr (.inl rfl)) gs, by rw [upd_ne (Ne.symm ne)]; exact hl4, hlen', Int.le_refl _, hq'.1, hq'.2, upd_same, rfl⟩⟩
    | false =>
      refine ite_n rfl ?_
      clear hb
      have hn0 : (n : Int) ≠ 0 := by omega
      refine ⟨_, rfl, s, _, 1, .int p, rfl, rfl, .inl (SqL.of hs), atI_nat (j := 1) rfl, _, _, rfl, rfl, _, rfl, ite_b (fun hx => ?_) (fun hx => ?_)⟩
      · have hx0 : 0 < p := of_decide_eq_true hx
        refine ⟨_, rfl, s, _, 1, .int p, rfl, rfl, .inl (SqL.of hs), atI_nat (j := 1) rfl, .inl ⟨_, rfl, _, rfl, _, _, rfl, rfl, hn0, ?_⟩⟩
        dsimp only [tNext, tRet, tOp, tSeq, gName, tAsg]
        have hd : 0 ≤ p.fmod (n : Int) ∧ p.fmod (n : Int) < n := ⟨Int.fmod_nonneg_of_pos _ (by omega), Int.fmod_lt_of_pos _ (by omega)⟩
        obtain ⟨d, hd'⟩ := nat_of hd.1
        rw [hd'] at hd ⊢
        have hf : 0 ≤ p.fdiv (n : Int) := Int.fdiv_nonneg hp (by omega)
        refine ⟨_, rfl, s, _, 1, .int p, rfl, rfl, .inl (SqL.of hs), atI_nat (j := 1) rfl, _, rfl, _, _, rfl, rfl, ⟨hn0, by omega⟩, ⟨_, rfl, setL_rd hs (j := 1) rfl (ys := [.ref l, .int (p.fdiv (n : Int)), .int ((c + 1 : Nat) : Int), .int q]) rfl ?_⟩⟩
        refine ⟨_, rfl, k d _ (by omega) (g2.chg (.inr (.inl rfl)) gs) ⟨ne, cs, _, q, ?_, hlen, hf, hq, hq2, upd_same⟩⟩
        rw [upd_ne (Ne.symm ne)]; exact hl
      · refine ⟨_, rfl, s, _, 3, .int q, rfl, rfl, .inl (SqL.of hs), atI_nat (j := 3) rfl, ?_⟩
        refine ⟨_, rfl, s, _, 2, .int ((c + 1 : Nat) : Int), rfl, rfl, .inl (SqL.of hs), atI_nat (j := 2) rfl, _, _, rfl, rfl, .inl (by decide), _, _, rfl, rfl, _, _, rfl, rfl, _, _, rfl, rfl, ⟨by decide, by decide, by omega⟩, .inl ⟨_, rfl, _, _, rfl, rfl, by show (2147483629 : Int) ≠ 0; decide, ?_⟩⟩
        dsimp only [tNext, tRet, tOp, tSeq, gName, tAsg]
        generalize hb : ((q + 7919 * ((c + 1 : Nat) : Int) + 104729) ^ (5 : Int).toNat) = big
        have hm : 0 ≤ big.fmod 2147483629 ∧ big.fmod 2147483629 < 2147483629 := ⟨Int.fmod_nonneg_of_pos _ (by decide), Int.fmod_lt_of_pos _ (by decide)⟩
        generalize big.fmod 2147483629 = mx at hm ⊢
        refine ⟨_, rfl, _, _, rfl, rfl, .inr (by decide), ?_⟩
        refine ⟨_, rfl, s, _, 2, .int ((c + 1 : Nat) : Int), rfl, rfl, .inl (SqL.of hs), atI_nat (j := 2) rfl, _, _, rfl, rfl, .inl (by decide), _, _, rfl, rfl, _, _, rfl, rfl, _, _, rfl, rfl, ⟨by decide, by decide, by omega⟩, .inl ⟨_, rfl, _, _, rfl, rfl, by show (1000000007 : Int) ≠ 0; decide, ?_⟩⟩
        refine ⟨_, rfl, _, _, rfl, rfl, hn0, ?_⟩
        show Q (V.int ((((mx * 48271 + 30011 * ((c + 1 : Nat) : Int) + 29) ^ (3 : Int).toNat).fmod 1000000007).fmod (n : Int))) H2
        generalize ((mx * 48271 + 30011 * ((c + 1 : Nat) : Int) + 29) ^ (3 : Int).toNat).fmod 1000000007 = big2
        have hd : 0 ≤ big2.fmod (n : Int) ∧ big2.fmod (n : Int) < n := ⟨Int.fmod_nonneg_of_pos _ (by omega), Int.fmod_lt_of_pos _ (by omega)⟩
        obtain ⟨d, hd'⟩ := nat_of hd.1
        rw [hd'] at hd
        rw [hd']
        exact k d _ (by omega) g2 ⟨ne, cs, p, q, hl, hlen, hp, hq, hq2, hs⟩
end
end K8
-- K8Mix
set_option maxRecDepth 100000
set_option maxHeartbeats 4000000
namespace K8
open PySem PySem.Spec PyProof.Rows L2
/-! ### comprehensions whose turns write to things of one's own -/
def LcTurnS (M : Addr → Prop) (g : TG) (tt : TT) (te : TE) (vs : List Nat) (σ : L2.St) (R : Nat → List V → Hp → Hp → Prop) (i : Nat) (x : V) (acc : List V) (G H : Hp) : Prop :=
  ∀ (Ky : VK) (Kn : Hp → Prop), (∀ y H4 G', Gr M H G G' H4 → R (i + 1) (acc ++ [y]) G' H4 → Ky y H4) → (∀ H3 G', Gr M H G G' H3 → R (i + 1) acc G' H3 → Kn H3) →
    g x (wipe σ vs) H fun σ2 H2 => wipe σ2 vs = wipe σ vs ∧ tt σ2 H2 fun b H3 => if b = true then te σ2 H3 Ky else Kn H3
section
variable {K : PySem.W.Frag} {M : Addr → Prop} {a : Addr} {xs : List V} {g : TG} {tt : TT} {te : TE} {vs : List Nat} {σ : L2.St} {H1 G1 : Hp} {D : Addr} {Qd : Hp → Prop} {R : Nat → List V → Hp → Hp → Prop}
def LcInvS (M : Addr → Prop) (H1 G1 : Hp) (D : Addr) (R : Nat → List V → Hp → Hp → Prop) (i : Nat) (H : Hp) : Prop :=
  ∃ acc G, Gr M H1 G1 G H ∧ H D = some (.lst acc) ∧ G D = none ∧ acc.length ≤ i ∧ R i acc G H
/-- what is told of the heap stays when the list to come is written -/
def Stays (H1 : Hp) (D : Addr) (R : Nat → List V → Hp → Hp → Prop) : Prop := ∀ i acc G H o, R i acc G H → R i acc G (upd H D o)
theorem lcS_turn {i : Nat} {x : V} {H : Hp} (hD : H1 D = none) (hm : ¬ M D) (hst : Stays H1 D R) (hz : i < sizeLine)
    (hs : ∀ acc G, Gr M H1 G1 G H → acc.length ≤ i → R i acc G H → LcTurnS M g tt te vs σ R i x acc G H) (p : LcInvS M H1 G1 D R i H) :
    g x (wipe σ vs) H fun σ2 H2 => wipe σ2 vs = wipe σ vs ∧ tt σ2 H2 fun b H3 => if b = true then te σ2 H3 fun y H4 => ∃ acc, H4 D = some (.lst acc) ∧ acc.length < sizeLine ∧ LcInvS M H1 G1 D R (i + 1) (upd H4 D (.lst (acc ++ [y]))) else LcInvS M H1 G1 D R (i + 1) H3 := by
  obtain ⟨acc, G, gr, hd, hg, hl, r⟩ := p
  refine hs acc G gr hl r _ _ (fun y H4 G' gr' r' => ?_) (fun H3 G' gr' r' => ?_)
  · refine ⟨acc, gr'.old D _ hd hm, Nat.lt_of_le_of_lt hl hz, acc ++ [y], G', (gr.trans gr').chg (.inl hD) (gr'.out hd hg), upd_same, gr'.out hd hg, ?_, hst _ _ _ _ _ r'⟩
    rw [List.length_append]
    exact Nat.succ_le_succ hl
  · exact ⟨acc, G', gr.trans gr', gr'.old D _ hd hm, gr'.out hd hg, Nat.le_succ_of_le hl, r'⟩
theorem lcS_end {H : Hp} {i : Nat} (hD : H1 D = none) (hm : ¬ M D) (p : LcInvS M H1 G1 D R i H)
    (hd : ∀ acc G, Gr M H1 G1 (upd G D (.lst acc)) H → G D = none → acc.length ≤ i → R i acc G H → Qd H) : Qd H := by
  obtain ⟨acc, G, gr, h, hg, hl, r⟩ := p
  exact hd acc G (gr.give hD hm hg h) hg hl r
theorem lcS_w {J : It} {n : Nat} {Gd : Hp → Prop} {Y : Nat → Hp → V → Hp → Prop} (wk : Walk J n Gd Y) (hY : ∀ i H x H', Y i H x H' → H' = H) (R : Nat → List V → Hp → Hp → Prop) (hD : H1 D = none) (hm : ¬ M D) (hst : Stays H1 D R) (s : Same G1 H1) (hGd : ∀ G H, Gr M H1 G1 G H → Gd H) (hz : n ≤ sizeLine) (r0 : R 0 [] G1 (upd H1 D (.lst [])))
    (hs : ∀ i x acc G H, i < n → Y i H x H → Gr M H1 G1 G H → acc.length ≤ i → R i acc G H → LcTurnS M g tt te vs σ R i x acc G H)
    (hd : ∀ acc G H, Gr M H1 G1 (upd G D (.lst acc)) H → G D = none → acc.length ≤ n → R n acc G H → Qd H) :
    ∃ W : Nat → Nat → Hp → Prop, (∃ m, W 0 m (upd H1 D (.lst []))) ∧ ∀ i m H, W i m H →
      (J.stop i H ∧ Qd H) ∨ (J.go i H ∧ ∃ Nx : Hp → Prop, (∀ H', Nx H' → ∃ m', m' < m ∧ W (i + 1) m' H') ∧ ∀ x H', J.yld i H x H' → g x (wipe σ vs) H' fun σ2 H2 => wipe σ2 vs = wipe σ vs ∧ tt σ2 H2 fun b H3 =>
        if b = true then te σ2 H3 fun y H4 => ∃ acc, H4 D = some (.lst acc) ∧ acc.length < sizeLine ∧ Nx (upd H4 D (.lst (acc ++ [y]))) else Nx H3) :=
  lc_it wk (LcInvS M H1 G1 D R) ⟨[], G1, (Gr.start s).mine hD, upd_same, s.free hD, Nat.le_refl _, r0⟩ (fun i H _ ⟨_, G, gr, _⟩ => hGd G H gr)
    (fun i x H H' hi p y => by
      obtain rfl := hY i H x H' y
      exact lcS_turn hD hm hst (Nat.lt_of_lt_of_le hi hz) (fun acc G gr hl r => hs i x acc G _ hi y gr hl r) p)
    (fun H p => lcS_end hD hm p fun acc G gr hg hl r => hd acc G H gr hg hl r)
theorem lcS_gr {lo : Int} {n : Nat} (R : Nat → List V → Hp → Hp → Prop) (hD : H1 D = none) (hm : ¬ M D) (hst : Stays H1 D R) (s : Same G1 H1) (hz : n ≤ sizeLine) (r0 : R 0 [] G1 (upd H1 D (.lst [])))
    (hs : ∀ i acc G H, i < n → Gr M H1 G1 G H → acc.length ≤ i → R i acc G H → LcTurnS M g tt te vs σ R i (.int (lo + i)) acc G H)
    (hd : ∀ acc G H, Gr M H1 G1 (upd G D (.lst acc)) H → G D = none → acc.length ≤ n → R n acc G H → Qd H) :
    ∃ W : Nat → Nat → Hp → Prop, (∃ m, W 0 m (upd H1 D (.lst []))) ∧ ∀ i m H, W i m H →
      ((Itr lo n).stop i H ∧ Qd H) ∨ ((Itr lo n).go i H ∧ ∃ Nx : Hp → Prop, (∀ H', Nx H' → ∃ m', m' < m ∧ W (i + 1) m' H') ∧ ∀ x H', (Itr lo n).yld i H x H' → g x (wipe σ vs) H' fun σ2 H2 => wipe σ2 vs = wipe σ vs ∧ tt σ2 H2 fun b H3 =>
        if b = true then te σ2 H3 fun y H4 => ∃ acc, H4 D = some (.lst acc) ∧ acc.length < sizeLine ∧ Nx (upd H4 D (.lst (acc ++ [y]))) else Nx H3) :=
  lc_range (LcInvS M H1 G1 D R) ⟨[], G1, (Gr.start s).mine hD, upd_same, s.free hD, Nat.le_refl _, r0⟩
    (fun i H hi p => lcS_turn hD hm hst (Nat.lt_of_lt_of_le hi hz) (fun acc G gr hl r => hs i acc G H hi gr hl r) p)
    (fun H p => lcS_end hD hm p fun acc G gr hg hl r => hd acc G H gr hg hl r)
theorem lcS_any {tl : TE} {Q : VK} {H : Hp} (v : V) (G1 : Hp) (R : Nat → List V → Hp → Hp → Prop) (hv : ∀ R', (R' v H) → tl σ H R') (ha : v = .ref a) (hm : ∀ b, H b = none → ¬ M b) (hst : ∀ D, H D = none → Stays H D R) (s : Same G1 H) (src : Sq K G1 a xs) (hz : xs.length ≤ sizeLine) (r0 : R 0 [] G1 H)
    (hs : ∀ D, H D = none → ∀ i x acc G H', xs[i]? = some x → Gr M H G1 G H' → acc.length ≤ i → R i acc G H' → LcTurnS M g tt te vs σ R i x acc G H')
    (hd : ∀ D acc G H', H D = none → Gr M H G1 (upd G D (.lst acc)) H' → G D = none → acc.length ≤ xs.length → R xs.length acc G H' → Q (.ref D) H') : tLc (iSq K tl) g tt te vs σ H Q := by
  refine hv _ ⟨a, ha, ?_⟩
  rcases src with src | src
  · exact .inl ⟨⟨xs, s.seq src⟩, fun D hD => lc_list (LcInvS M H G1 D R) ⟨[], G1, (Gr.start s).mine hD, upd_same, s.free hD, Nat.le_refl _, hst D hD _ _ _ _ _ r0⟩ (fun i H _ ⟨_, _, gr, _⟩ => (gr.up.trans gr.sub).seq src)
      (fun i x H' hx p => lcS_turn hD (hm D hD) (hst D hD) (Nat.lt_of_lt_of_le (List.getElem?_eq_some_iff.mp hx).1 hz) (fun acc G gr hl r => hs D hD i x acc G H' hx gr hl r) p)
      (fun H' p => lcS_end hD (hm D hD) p fun acc G gr hg hl r => hd D acc G H' hD gr hg hl r)⟩
  · exact .inr ⟨⟨xs, s.tp src⟩, fun D hD => lc_tup (LcInvS M H G1 D R) ⟨[], G1, (Gr.start s).mine hD, upd_same, s.free hD, Nat.le_refl _, hst D hD _ _ _ _ _ r0⟩ (fun i H _ ⟨_, _, gr, _⟩ => (gr.up.trans gr.sub).tp src)
      (fun i x H' hx p => lcS_turn hD (hm D hD) (hst D hD) (Nat.lt_of_lt_of_le (List.getElem?_eq_some_iff.mp hx).1 hz) (fun acc G gr hl r => hs D hD i x acc G H' hx gr hl r) p)
      (fun H' p => lcS_end hD (hm D hD) p fun acc G gr hg hl r => hd D acc G H' hD gr hg hl r)⟩
end
theorem bmK {X : Cx} {KK : PySem.W.Frag} {e : Expr} {to : TE} {t : TA} {Tn : String} {r : V → List V → Hp → VK → Prop} (h : PE X e (tBM X.K Tn r to t)) (hK : X.K = KK := by rfl) : PE X e (tBM KK Tn r to t) := by
  subst hK
  exact h
/-! ### start, pick, mixed -/
def spStart (K : PySem.W.Frag) : Sp := fun vs H Q _ => ∃ (a : Addr) (cs : List Int), vs = [.ref a] ∧ Sq K H a (cs.map V.int) ∧ cs.length ≤ 63 ∧ ∀ s l H', Same H H' → H s = none → H l = none → Strm H' s l 0 → Q (.ref s) H'
def spPick (K : PySem.W.Frag) : Sp := fun vs H Q _ => ∃ (G : Hp) (s l : Addr) (c : Nat) (a : Addr) (xs : List V), vs = [.ref s, .ref a] ∧ Same G H ∧ G s = none ∧ G l = none ∧ Strm H s l c ∧ c < 1099511627776 ∧ Sq K G a xs ∧ 1 ≤ xs.length ∧ xs.length ≤ 1000 ∧
  ∀ (j : Nat) (x : V) H', xs[j]? = some x → Gr (SM s l) H G G H' → Strm H' s l (c + 1) → Q x H'
def spMixed (K : PySem.W.Frag) : Sp := fun vs H Q _ => ∃ (G : Hp) (s l : Addr) (c : Nat) (a : Addr) (xs : List V), vs = [.ref s, .ref a] ∧ Same G H ∧ G s = none ∧ G l = none ∧ Strm H s l c ∧ c + xs.length < 1099511627776 ∧ Sq K G a xs ∧ xs.length ≤ 1000 ∧
  ∀ b H' G' ys, ys.Perm xs → Gr (SM s l) H G G' H' → SqL K G' b ys → Strm H' s l (c + xs.length) → Q (.ref b) H'
theorem sc_z_start : FnScope ["_law_script"] ["_law_script"] (defScope s_z_start) := ⟨rfl, rfl, rfl, by decide +kernel, rfl, by decide +kernel, by decide +kernel⟩
theorem sc_z_pick : FnScope ["_law_stream", "_law_some"] ["_law_stream", "_law_some"] (defScope s_z_pick) := ⟨rfl, rfl, rfl, by decide +kernel, rfl, by decide +kernel, by decide +kernel⟩
theorem sc_z_mixed : FnScope ["_law_stream", "_law_some", "_law_left", "_law_k"] ["_law_stream", "_law_some"] (defScope s_z_mixed) := ⟨rfl, rfl, rfl, by decide +kernel, rfl, by decide +kernel, by decide +kernel⟩
section
variable {P : Program} {w : World} {K : PySem.W.Frag} {mg : Str → Option Value} {base : Heap}
theorem ok_z_start (T : Txt K mg) : Cl P w K mg base CX0 1 "_law_start" (spStart K) := by
  refine cl0 (T.F_z_start) T.g_z_start sc_z_start (fun vs H Q E h => ?_) (fun _ _ _ _ _ _ us hl => match us, hl with | [_], _ => rfl) (fun cdv A outer s H vs Q E hr h => ?_)
  · obtain ⟨a, cs, rfl, _⟩ := h
    rfl
  · obtain ⟨a, cs, rfl, hq, hl, k⟩ := h
    refine ⟨_, (pss_one (ps_ret (pe_lst (pa_cons (pe_callTy (listQ (KK := K)) (by rfl) T.f_list (by decide +kernel) (pa_cons (pv 0) pa_nil)) (pa_cons pe_int (pa_cons pe_int (pa_cons pe_int pa_nil))))))), ?_⟩
    refine ⟨_, rfl, a, _, rfl, hq, fun l hl' => ?_⟩
    refine ⟨by show 4 ≤ sizeLine; decide, fun s hs => ?_⟩
    refine k s l _ ((Same.upd_none hl').trans (Same.upd_none hs)) ?_ hl' ⟨?_, cs, 0, 11, ?_, hl, by decide, by decide, by decide, upd_same⟩
    · exact (Same.upd_none hl').free hs
    · intro e
      rw [e, upd_same] at hs
      cases hs
    · rw [upd_ne (ne_sn upd_same hs)]; exact upd_same
theorem ok_z_pick (T : Txt K mg) : Cl P w K mg base CX0 2 "_law_pick" (spPick K) := by
  refine cl0 (T.F_z_pick) T.g_z_pick sc_z_pick (fun vs H Q E h => ?_) (fun _ _ _ _ _ _ us hl => match us, hl with | [_, _], _ => rfl) (fun cdv A outer s H vs Q E hr h => ?_)
  · obtain ⟨G, s, l, c, a, xs, rfl, _⟩ := h
    rfl
  · obtain ⟨G, s, l, c, a, xs, rfl, s0, gs, gl, st, hc, hq, h1, h2, k⟩ := h
    refine ⟨_, (pss_one (ps_ret (pe_ix (ixQ (KK := K)) (pv 1) (pe_cl (ok_z_draw T) hr (by decide) pass0 (pa_cons (pv 0) (pa_cons (pe_callB (lenQ (KK := K)) (by rfl) T.f_len (by decide +kernel) (pa_cons (pv 1) pa_nil)) pa_nil))) (fun _ _ => rfl)))), ?_⟩
    refine ⟨_, rfl, _, rfl, _, rfl, a, xs, rfl, s0.q hq, ?_⟩
    refine ⟨G, s, l, c, xs.length, rfl, s0, gs, gl, st, hc, h1, by omega, fun d H1 hd g1 st1 => ?_⟩
    obtain ⟨x, hx⟩ : ∃ x, xs[d]? = some x := ⟨_, List.getElem?_eq_getElem hd⟩
    exact ⟨a, xs, _, x, rfl, rfl, g1.sub.q hq, atI_nat hx, k d x _ hx g1 st1⟩
theorem erase_perm {α : Type} : ∀ {l : List α} {d : Nat} {y : α}, l[d]? = some y → (y :: l.eraseIdx d).Perm l
  | [], d, y, h => by simp at h
  | x :: r, 0, y, h => by
    simp at h
    subst h
    exact List.Perm.refl _
  | x :: r, d + 1, y, h => by
    have ih := erase_perm (l := r) (d := d) (y := y) (by simpa using h)
    exact (List.Perm.swap x y _).trans (ih.cons x)
/-- what was new at the start may be forgotten -/
theorem Gr.less {M : Addr → Prop} {H G G' H' : Hp} {f : Addr} {o : HO} (g : Gr (fun b => b = f ∨ M b) (upd H f o) G G' H') (h : H f = none) : Gr M H G G' H' where
  up := g.up
  sub := g.sub
  old := fun b o' e n => by
    have hb : b ≠ f := ne_sn e h
    exact g.old b o' (by rw [upd_ne hb]; exact e) fun z => z.elim hb n
  new := fun b hb e => g.new b (by
    rcases hb with hb | hb
    · left
      by_cases z : b = f
      · rw [z, upd_same]; exact fun z => nomatch z
      · rw [upd_ne z]; exact hb
    · exact .inr (.inr hb)) e
theorem ok_z_mixed (T : Txt K mg) : Cl P w K mg base CX0 2 "_law_mixed" (spMixed K) := by
  refine cl0 (T.F_z_mixed) T.g_z_mixed sc_z_mixed (fun vs H Q E h => ?_) (fun _ _ _ _ _ _ us hl => match us, hl with | [_, _], _ => rfl) (fun cdv A outer s H vs Q E hr h => ?_)
  · obtain ⟨G, s, l, c, a, xs, rfl, _⟩ := h
    rfl
  · obtain ⟨G, s, l, c, a, xs, rfl, s0, gs, gl, st, hc, hq, h2, k⟩ := h
    refine ⟨_, (pss_cons (ps_set (i := 2) sc_z_mixed.nd rfl (by first | exact Or.inl rfl | exact Or.inr rfl) (pe_callTy (listQ (KK := K)) (by rfl) T.f_list (by decide +kernel) (pa_cons (pv 1) pa_nil)))
      (pss_one (ps_ret (pe_lc (own := [("_law_k", 3)]) rfl sc_z_mixed.nd (pi_range1 (by rfl) T.f_range (pa_cons (pe_callB (lenQ (KK := K)) (by rfl) T.f_len (by decide +kernel) (pa_cons (pv 2) pa_nil)) pa_nil)) (blkOk_by (by kernel_rfl)) (fun _ _ _ _ _ => (pg_name (i := 3) sc_z_mixed.nd rfl (by first | exact Or.inl rfl | exact Or.inr rfl))) (fun _ _ _ _ _ => pts_nil) (fun _ _ _ _ _ => (bmK (KK := K) (pe_bm PySem.F.plainAttrs_list PySem.F.slot_list_pop PySem.F.type_list_pop mt_popAt (pv 2) (pa_cons (pe_cl (ok_z_draw T) hr (by decide) pass0 (pa_cons (pv 0) (pa_cons (pe_callB (lenQ (KK := K)) (by rfl) T.f_len (by decide +kernel) (pa_cons (pv 2) pa_nil)) pa_nil))) pa_nil)))))))), ?_⟩
    refine ⟨_, rfl, a, xs, rfl, s0.q hq, fun f hf => ?_⟩
    have gf := s0.free hf
    have s1 : Same G (upd H f (.lst xs)) := s0.mut gf
    have st1 : Strm (upd H f (.lst xs)) s l c := st.new hf
    have hfs := st.not hf
    dsimp only [tNext, tRet, tOp, tSeq, gName, tAsg]
    refine ⟨_, rfl, f, xs, rfl, .inl (SqL.of upd_same), (xs.length : Nat), rfl, by omega, by omega, fun D hD => ?_⟩
    refine lcS_gr (n := xs.length) (M := fun b => b = f ∨ SM s l b) (G1 := G) (fun i acc G' H' => G' = G ∧ ∃ rest, H' f = some (.lst rest) ∧ (acc ++ rest).Perm xs ∧ acc.length = i ∧ Strm H' s l (c + i)) hD (fun z => ?_) ?_ s1 (Nat.le_trans h2 (by decide)) ⟨rfl, xs, ?_, List.Perm.refl _, rfl, st1.new hD⟩ ?_ ?_
    · rcases z with z | z
      · rw [z, upd_same] at hD; cases hD
      · exact st1.not hD z
    · rintro i acc G' H' o ⟨e, rest, h3, h4, h5, h6⟩
      refine ⟨e, rest, ?_, h4, h5, h6.upd (fun e => st1.s (e ▸ hD)) (fun e => st1.l (e ▸ hD))⟩
      rw [upd_ne (ne_sn upd_same hD)]; exact h3
    · rw [upd_ne (ne_sn upd_same hD)]; exact upd_same
    · rintro i acc G' H' hi g2 hl ⟨rfl, rest, h3, h4, h5, h6⟩
      intro Ky Kn ky kn
      refine ⟨rfl, y_te ?_⟩
      have hr : (acc ++ rest).length = xs.length := h4.length_eq
      rw [List.length_append] at hr
      refine ⟨_, rfl, .inl ⟨rfl, _, SqL.of h3⟩, _, rfl, _, rfl, f, rest, rfl, .inl (SqL.of h3), ?_⟩
      refine ⟨G', s, l, c + i, rest.length, rfl, g2.sub, gs, gl, h6, by omega, by omega, by omega, fun d H3 hd g3 st3 => ?_⟩
      have h3' : H3 f = some (.lst rest) := g3.old _ _ h3 hfs
      obtain ⟨y, hy⟩ : ∃ y, rest[d]? = some y := ⟨_, List.getElem?_eq_getElem hd⟩
      refine ⟨f, rest, _, d, y, rfl, rfl, h3', by omega, by omega, seqIx hd, hy, ?_⟩
      refine ky y _ G' ⟨Same.refl _, g3.sub.mut gf, fun b o e n => ?_, fun b hb e => e⟩ ⟨rfl, rest.eraseIdx d, upd_same, ?_, by rw [List.length_append]; simp [h5], ?_⟩
      · rw [upd_ne (fun z => n (.inl z))]
        exact g3.old b o e fun z => n (.inr z)
      · refine List.Perm.trans ?_ h4
        rw [List.append_assoc]
        refine List.Perm.append_left acc ?_
        exact erase_perm hy
      · exact st3.upd (fun e => hfs (.inl e)) (fun e => hfs (.inr e))
    · rintro acc G' H' g2 hg hl ⟨rfl, rest, h3, h4, h5, h6⟩
      have hr : (acc ++ rest).length = xs.length := h4.length_eq
      rw [List.length_append, h5] at hr
      have : rest = [] := List.eq_nil_of_length_eq_zero (by omega)
      rw [this, List.append_nil] at h4
      exact k D H' _ acc h4 (g2.less hf) (SqL.of upd_same) h6
end
end K8
-- K8Tbl
set_option maxRecDepth 100000
set_option maxHeartbeats 400000
namespace K8
open PySem PySem.Spec PyProof.Rows L2
/-! ### drawn plays, tables of steps -/
/-- a drawn step -/
def StepV (K : PySem.W.Frag) (G : Hp) (v : V) (s : Stp) : Prop := ∃ t w' rl, v = .ref t ∧ SqT K G t [w', .int (s.one : Nat), .int (s.oth : Nat), .ref rl, .ref s.sd] ∧ Dp K G w' (keyD s.wd).data ∧ SqL K G rl (s.bars.map V.str)
theorem StepV.same {K : PySem.W.Frag} {G H : Hp} {v : V} {x : Stp} (s : Same G H) (h : StepV K G v x) : StepV K H v x := let ⟨t, w', rl, e, a, b, c⟩ := h; ⟨t, w', rl, e, s.tp a, dp_mono s b, s.seq c⟩
def StepsV (K : PySem.W.Frag) (G : Hp) (xs : List V) (ss : List Stp) : Prop := Paired (StepV K G) xs ss
theorem StepsV.same {K : PySem.W.Frag} {G H : Hp} {xs : List V} {ss : List Stp} (s : Same G H) (h : StepsV K G xs ss) : StepsV K H xs ss := pair_imp (fun _ _ => StepV.same s) h
/-- a triple of a table -/
def TripV (K : PySem.W.Frag) (G : Hp) (v : V) (e : NestedKey × Nat × List Str) : Prop := ∃ t w' rl, v = .ref t ∧ SqT K G t [w', .int (e.2.1 : Nat), .ref rl] ∧ Dp K G w' e.1.data ∧ Sq K G rl (e.2.2.map V.str)
theorem TripV.same {K : PySem.W.Frag} {G H : Hp} {v : V} {x : NestedKey × Nat × List Str} (s : Same G H) (h : TripV K G v x) : TripV K H v x := let ⟨t, w', rl, e, a, b, c⟩ := h; ⟨t, w', rl, e, s.tp a, dp_mono s b, s.q c⟩
def RowV (K : PySem.W.Frag) (G : Hp) (v : V) (row : Row NestedKey Str) : Prop := ∃ a xs, v = .ref a ∧ SqL K G a xs ∧ Paired (TripV K G) xs row
theorem RowV.same {K : PySem.W.Frag} {G H : Hp} {v : V} {x : Row NestedKey Str} (s : Same G H) (h : RowV K G v x) : RowV K H v x := let ⟨a, xs, e, b, c⟩ := h; ⟨a, xs, e, s.seq b, pair_imp (fun _ _ => TripV.same s) c⟩
def TblV (K : PySem.W.Frag) (G : Hp) (a : Addr) (rows : Rows NestedKey Str) : Prop := ∃ xs, SqL K G a xs ∧ Paired (RowV K G) xs rows
theorem TblV.same {K : PySem.W.Frag} {G H : Hp} {a : Addr} {x : Rows NestedKey Str} (s : Same G H) (h : TblV K G a x) : TblV K H a x := let ⟨xs, b, c⟩ := h; ⟨xs, s.seq b, pair_imp (fun _ _ => RowV.same s) c⟩
def trip (s : Stp) : NestedKey × Nat × List Str := (keyD s.wd, s.oth, s.bars)
/-- the law's own table -/
def tblOf (n : Nat) (ss : List Stp) : Rows NestedKey Str := (List.range n).map fun j => (stepsAt ss j).map trip
def spTable (K : PySem.W.Frag) : Sp := fun vs H Q _ => ∃ (G : Hp) (n : Nat) (a : Addr) (xs : List V) (ss : List Stp), vs = [.int (n : Nat), .ref a] ∧ Same G H ∧ SqL K G a xs ∧ StepsV K G xs ss ∧ n ≤ 1000 ∧ ss.length ≤ 1000 ∧
  ∀ b H' G', Gr NoM H G G' H' → TblV K G' b (tblOf n ss) → Q (.ref b) H'
def PairV (K : PySem.W.Frag) (G : Hp) (v : V) (e : NestedKey × Nat) : Prop := ∃ t w', v = .ref t ∧ SqT K G t [w', .int (e.2 : Nat)] ∧ Dp K G w' e.1.data
theorem PairV.same {K : PySem.W.Frag} {G H : Hp} {v : V} {x : NestedKey × Nat} (s : Same G H) (h : PairV K G v x) : PairV K H v x := let ⟨t, w', e, a, b⟩ := h; ⟨t, w', e, s.tp a, dp_mono s b⟩
def spNext (K : PySem.W.Frag) : Sp := fun vs H Q _ => ∃ (G : Hp) (tb ra : Addr) (u : Nat) (rows : Rows NestedKey Str) (rs : List Str), vs = [.ref tb, .ref ra, .int (u : Nat)] ∧ Same G H ∧ TblV K G tb rows ∧ Sq K G ra (rs.map V.str) ∧ u < rows.length ∧ (∀ row ∈ rows, row.length ≤ 1000 ∧ ∀ e ∈ row, e.2.2.length ≤ 1000) ∧
  ∀ l H' G' ys, Gr NoM H G G' H' → SqL K G' l ys → Paired (PairV K G') ys (keepRow (fun r => !decide (r ∈ rs)) (rowAt rows u)) → Q (.ref l) H'
theorem sc_z_table : FnScope ["_law_many", "_law_steps", "_law_here", "_law_word", "_law_one", "_law_other", "_law_rules", "_law_sights"] ["_law_many", "_law_steps"] (defScope s_z_table) := ⟨rfl, rfl, rfl, by decide +kernel, rfl, by decide +kernel, by decide +kernel⟩
theorem sc_z_next : FnScope ["_law_table_here", "_law_rules", "_law_here", "_law_word", "_law_other", "_law_bars", "_law_rule"] ["_law_table_here", "_law_rules", "_law_here"] (defScope s_z_next) := ⟨rfl, rfl, rfl, by decide +kernel, rfl, by decide +kernel, by decide +kernel⟩
section
variable {P : Program} {w : World} {K : PySem.W.Frag} {mg : Str → Option Value} {base : Heap}
theorem ok_z_table (T : Txt K mg) : Cl P w K mg base CX0 1 "_law_table" (spTable K) := by
  refine cl0 (T.F_z_table) T.g_z_table sc_z_table (fun vs H Q E h => ?_) (fun _ _ _ _ _ _ us hl => match us, hl with | [_, _], _ => rfl) (fun cdv A outer s H vs Q E hr h => ?_)
  · obtain ⟨G, n, a, xs, ss, rfl, _⟩ := h
    rfl
  · obtain ⟨G, n, a, xs, ss, rfl, s0, src, hss, hn, hl, k⟩ := h
    refine ⟨_, (pss_one (ps_ret (pe_lc (own := [("_law_here", 2)]) rfl sc_z_table.nd (pi_range1 (by rfl) T.f_range (pa_cons (pv 0) pa_nil)) (blkOk_by (by kernel_rfl)) (fun _ _ _ _ _ => (pg_name (i := 2) sc_z_table.nd rfl (by first | exact Or.inl rfl | exact Or.inr rfl))) (fun _ _ _ _ _ => pts_nil) (fun _ _ _ _ _ => (pe_lc (own := [("_law_word", 3), ("_law_one", 4), ("_law_other", 5), ("_law_rules", 6), ("_law_sights", 7)]) rfl sc_z_table.nd (sqI (KK := K) (pv 1)) (blkOk_by (by kernel_rfl)) (fun _ _ _ _ _ => (tupG (KK := K) (n := 5) (by rfl) (pgs_cons (pg_name (i := 3) sc_z_table.nd rfl (by first | exact Or.inl rfl | exact Or.inr rfl)) (pgs_cons (pg_name (i := 4) sc_z_table.nd rfl (by first | exact Or.inl rfl | exact Or.inr rfl)) (pgs_cons (pg_name (i := 5) sc_z_table.nd rfl (by first | exact Or.inl rfl | exact Or.inr rfl)) (pgs_cons (pg_name (i := 6) sc_z_table.nd rfl (by first | exact Or.inl rfl | exact Or.inr rfl)) (pgs_cons (pg_name (i := 7) sc_z_table.nd rfl (by first | exact Or.inl rfl | exact Or.inr rfl)) pgs_nil))))))) (fun _ _ _ _ _ => (pts_one (pt_cmpR op_eq (pv 4) (pv 2) (nomark _)))) (fun _ _ _ _ _ => (pe_tup (pa_cons (pv 3) (pa_cons (pv 5) (pa_cons (pv 6) pa_nil)))))))))), ?_⟩
    refine ⟨_, rfl, (n : Int), rfl, by omega, by omega, fun D hD => ?_⟩
    refine lc_gr (n := n) (M := NoM) (G1 := G) (fun i acc G' => Paired (RowV K G') acc ((tblOf n ss).take i)) hD (fun z => z) s0 (Nat.le_trans hn (by decide)) .nil ?_ ?_
    · rintro i acc G1 H1 hi g1 hl1 hp
      intro Ky Kn ky kn
      refine ⟨rfl, y_te ?_⟩
      refine lc_any (M := NoM) (.ref a) G1 (fun j acc2 G2 => Paired (RowV K G2) acc ((tblOf n ss).take i) ∧ Paired (TripV K G2) acc2 ((stepsAt (ss.take j) i).map trip)) (fun R' r => ⟨_, rfl, r⟩) rfl (fun _ _ z => z) g1.sub (.inl (g1.up.seq src)) (by rw [Paired.length hss]; exact Nat.le_trans hl (by decide)) ⟨hp, .nil⟩ ?_ ?_
      · rintro D2 hD2 j x acc2 G2 H2 hx g2 hl2 ⟨hp2, hq2⟩
        intro Ky2 Kn2 ky2 kn2
        obtain ⟨st, hst, hsv⟩ := paired_get hss hx
        obtain ⟨t, w', rl, rfl, htG, hw, hr⟩ := hsv.same (g1.up.trans g2.up)
        have ht := g2.sub.tp htG
        refine ⟨t, _, rfl, ht, rfl, ⟨_, _, rfl, ⟨_, _, rfl, ⟨_, _, rfl, ⟨_, _, rfl, ⟨_, _, rfl, ?_⟩⟩⟩⟩⟩⟩
        refine ⟨rfl, ?_⟩
        simp only [L2.wipe, L2.start, List.map_cons, List.map_nil, List.set_cons_zero, List.set_cons_succ, List.length_cons, List.length_nil, List.cons_append, List.nil_append, Nat.reduceAdd, Nat.reduceSub, List.replicate]
        refine ⟨trivial, ?_⟩
        refine ⟨_, rfl, _, rfl, rfl, _, rfl, ?_⟩
        have e1 : stepsAt (ss.take (j + 1)) i = stepsAt (ss.take j) i ++ if st.one == i then [st] else [] := by
          unfold stepsAt
          rw [List.take_succ, hst, List.filter_append]
          congr 1
          by_cases c : (st.one == i) = true
          · rw [if_pos c]; simp only [Option.toList, List.filter_cons, List.filter_nil]; rw [if_pos c]
          · rw [if_neg c]; simp only [Option.toList, List.filter_cons, List.filter_nil]; rw [if_neg c]
        have e2 : (decide (V.int (st.one : Nat) = V.int ((0 : Int) + (i : Nat)))) = (st.one == i) := by
          by_cases c : st.one = i
          · subst c; simp
          · have h1 : ¬ (V.int (st.one : Nat) = V.int ((0 : Int) + (i : Nat))) := fun z => by
              injection z with z
              omega
            rw [decide_eq_false h1]
            simp [c]
        rw [e2]
        cases c : st.one == i with
        | true =>
          refine ite_y rfl ?_
          rw [c, if_pos rfl] at e1
          refine ⟨_, rfl, _, rfl, _, rfl, by show 3 ≤ sizeLine; decide, fun p hp3 => ?_⟩
          have g3 := (Gr.start (M := NoM) g2.sub).newN (o := .tup [w', .int (st.oth : Nat), .ref rl]) hp3
          refine ky2 _ _ _ g3 ⟨pair_imp (fun _ _ => RowV.same g3.up) hp2, ?_⟩
          rw [e1, List.map_append]
          refine pair_snoc (P := TripV K _) ?_ (pair_imp (fun _ _ => TripV.same g3.up) hq2)
          exact ⟨p, w', rl, rfl, SqT.of upd_same, dp_mono g3.up hw, .inl (g3.up.seq hr)⟩
        | false =>
          refine ite_n rfl ?_
          rw [c] at e1
          refine kn2 _ _ (Gr.start g2.sub) ⟨hp2, ?_⟩
          rw [e1]
          simpa using hq2
      · rintro D2 acc2 G2 H2 hD2 g2 hgD hl2 ⟨hp2, hq2⟩
        rw [Paired.length hss, List.take_length] at hq2
        have u := (Same.upd_none (o := .lst acc2) hgD)
        refine ky _ _ _ g2 ?_
        have e3 : (tblOf n ss).take (i + 1) = (tblOf n ss).take i ++ [(stepsAt ss i).map trip] := by
          rw [List.take_succ]
          congr 1
          unfold tblOf
          rw [List.getElem?_map, List.getElem?_range hi]
          rfl
        show Paired _ _ (List.take (i + 1) (tblOf n ss))
        rw [e3]
        exact pair_snoc (P := RowV K _) ⟨D2, acc2, rfl, SqL.of upd_same, pair_imp (fun _ _ => TripV.same u) hq2⟩ (pair_imp (fun _ _ => RowV.same u) hp2)
    · rintro acc G1 H1 g1 hg1 hl1 hp
      have e4 : (tblOf n ss).take n = tblOf n ss := List.take_of_length_le (by unfold tblOf; rw [List.length_map, List.length_range]; exact Nat.le_refl _)
      rw [e4] at hp
      exact k D H1 _ g1 ⟨acc, SqL.of upd_same, pair_imp (fun _ _ => RowV.same (Same.upd_none hg1)) hp⟩
theorem ok_z_next (T : Txt K mg) : Cl P w K mg base CX0 1 "_law_next" (spNext K) := by
  refine cl0 (T.F_z_next) T.g_z_next sc_z_next (fun vs H Q E h => ?_) (fun _ _ _ _ _ _ us hl => match us, hl with | [_, _, _], _ => rfl) (fun cdv A outer s H vs Q E hr h => ?_)
  · obtain ⟨G, tb, ra, u, rows, rs, rfl, _⟩ := h
    rfl
  · obtain ⟨G, tb, ra, u, rows, rs, rfl, s0, ⟨as, has, prow⟩, hra, hu, hb, k⟩ := h
    refine ⟨_, (pss_one (ps_ret (pe_lc (own := [("_law_word", 3), ("_law_other", 4), ("_law_bars", 5)]) rfl sc_z_next.nd (sqI (KK := K) (pe_ix (ixQ (KK := K)) (pv 0) (pv 2) (fun _ _ => rfl))) (blkOk_by (by kernel_rfl)) (fun _ _ _ _ _ => (tupG (KK := K) (n := 3) (by rfl) (pgs_cons (pg_name (i := 3) sc_z_next.nd rfl (by first | exact Or.inl rfl | exact Or.inr rfl)) (pgs_cons (pg_name (i := 4) sc_z_next.nd rfl (by first | exact Or.inl rfl | exact Or.inr rfl)) (pgs_cons (pg_name (i := 5) sc_z_next.nd rfl (by first | exact Or.inl rfl | exact Or.inr rfl)) pgs_nil))))) (fun _ _ _ _ _ => (pts_one (pt_not (pt_val (pe_callB (anyK (KK := K) rfl) (by rfl) T.f_any (by decide +kernel) (pa_cons (pe_lc (own := [("_law_rule", 6)]) rfl sc_z_next.nd (sqI (KK := K) (pv 5)) (blkOk_by (by kernel_rfl)) (fun _ _ _ _ _ => (pg_name (i := 6) sc_z_next.nd rfl (by first | exact Or.inl rfl | exact Or.inr rfl))) (fun _ _ _ _ _ => pts_nil) (fun _ _ _ _ _ => (pe_cmpR (inX (KK := K) (u1 hr)) (pv 6) (pv 1) (by rfl)))) pa_nil)))))) (fun _ _ _ _ _ => (pe_tup (pa_cons (pv 3) (pa_cons (pv 4) pa_nil))))))), ?_⟩
    obtain ⟨va, hva⟩ : ∃ v, as[u]? = some v := ⟨_, List.getElem?_eq_getElem (by rw [Paired.length prow]; exact hu)⟩
    obtain ⟨row, hrow, a, xs, rfl, hxs, ptr⟩ := paired_get prow hva
    obtain ⟨hb1, hb2⟩ := hb row (List.mem_of_getElem? hrow)
    rw [rowAt_some hrow] at k
    refine lc_any (M := NoM) (.ref a) G (fun j acc G' => Paired (PairV K G') acc (keepRow (fun r => !decide (r ∈ rs)) (row.take j))) (fun R' r => ⟨_, rfl, _, rfl, tb, as, (u : Int), .ref a, rfl, rfl, .inl (s0.seq has), atI_nat hva, r⟩) rfl (fun _ _ z => z) s0 (.inl hxs) (by rw [Paired.length ptr]; exact Nat.le_trans hb1 (by decide)) .nil ?_ ?_
    · rintro D hD j x acc G1 H1 hx g1 hl1 hp
      intro Ky Kn ky kn
      obtain ⟨e, he, hev⟩ := paired_get ptr hx
      obtain ⟨t, w', rl, rfl, htG, hw, hr⟩ := hev.same g1.up
      refine ⟨t, _, rfl, g1.sub.tp htG, rfl, ⟨_, _, rfl, ⟨_, _, rfl, ⟨_, _, rfl, ⟨rfl, ?_⟩⟩⟩⟩⟩
      simp only [L2.wipe, L2.start, List.map_cons, List.map_nil, List.set_cons_zero, List.set_cons_succ, List.length_cons, List.length_nil, List.cons_append, List.nil_append, Nat.reduceAdd, Nat.reduceSub, List.replicate]
      refine ⟨trivial, ?_⟩
      have e1 : keepRow (fun r => !decide (r ∈ rs)) (row.take (j + 1)) = keepRow (fun r => !decide (r ∈ rs)) (row.take j) ++ if e.2.2.all (fun r => !decide (r ∈ rs)) = true then [(e.1, e.2.1)] else [] := by
        unfold keepRow
        rw [List.take_succ, he, List.filter_append, List.map_append]
        congr 1
        by_cases c : e.2.2.all (fun r => !decide (r ∈ rs)) = true
        · rw [if_pos c]; simp only [Option.toList, List.filter_cons, List.filter_nil]; rw [if_pos c]; rfl
        · rw [if_neg c]; simp only [Option.toList, List.filter_cons, List.filter_nil]; rw [if_neg c]; rfl
      have hbl := hb2 e (List.mem_of_getElem? he)
      refine cb1 (lc_any (M := NoM) (.ref rl) G1 (fun i acc2 G2 => Paired (PairV K G2) acc (keepRow (fun r => !decide (r ∈ rs)) (row.take j)) ∧ acc2 = (e.2.2.take i).map fun r => V.bl (decide (r ∈ rs))) (fun R' r => ⟨_, rfl, r⟩) rfl (fun _ _ z => z) g1.sub hr (by rw [List.length_map]; exact Nat.le_trans hbl (by decide)) ⟨hp, rfl⟩ ?_ ?_)
      · rintro D2 hD2 i y acc2 G2 H2 hy g2 hl2 ⟨hp2, rfl⟩
        intro Ky2 Kn2 ky2 kn2
        refine ⟨rfl, y_te ?_⟩
        rw [List.getElem?_map, Option.map_eq_some_iff] at hy
        obtain ⟨r, hr2, rfl⟩ := hy
        refine ⟨_, rfl, _, rfl, ra, _, rfl, .inl ⟨rs.map V.str, (g1.up.trans g2.same').q hra, rfl, ?_, rfl⟩, ?_⟩
        · rw [List.all_map]; exact List.all_eq_true.mpr fun _ _ => rfl
        · rw [inV_strs]
          refine ky2 _ _ _ (Gr.start g2.sub) ⟨hp2, ?_⟩
          rw [all_snoc (f := fun r => V.bl (decide (r ∈ rs))) hr2]
          rfl
      · rintro D2 acc2 G2 H2 hD2 g2 hgD hl2 ⟨hp2, rfl⟩
        rw [List.length_map, List.take_length] at g2
        have u2 := Same.upd_none (o := .lst (e.2.2.map fun r => V.bl (decide (r ∈ rs)))) hgD
        refine ⟨D2, e.2.2.map fun r => decide (r ∈ rs), rfl, SqL.of (by rw [g2.sub D2 _ upd_same, List.map_map]; rfl), _, rfl, ?_⟩
        have e2 : (e.2.2.map fun r => decide (r ∈ rs)).any id = !(e.2.2.all (fun r => !decide (r ∈ rs))) := by
          rw [List.any_map, List.all_eq_not_any_not, Bool.not_not]
          congr 1
          funext r
          simp
        rw [e2]
        cases c : e.2.2.all (fun r => !decide (r ∈ rs)) with
        | true =>
          refine ite_y rfl ?_
          rw [c] at e1
          rw [if_pos rfl] at e1
          refine ⟨_, rfl, _, rfl, by show 2 ≤ sizeLine; decide, fun p hp3 => ?_⟩
          have g3 := g2.newN (o := .tup [w', .int (e.2.1 : Nat)]) hp3
          refine ky _ _ _ g3 ?_
          show Paired _ _ (keepRow _ (List.take (j + 1) row))
          rw [e1]
          refine pair_snoc (P := PairV K _) ?_ (pair_imp (fun _ _ => PairV.same g3.up) hp)
          exact ⟨p, w', rfl, SqT.of upd_same, dp_mono g3.up hw⟩
        | false =>
          refine ite_n rfl ?_
          rw [c] at e1
          refine kn _ _ g2 ?_
          show Paired _ _ (keepRow _ (List.take (j + 1) row))
          rw [e1]
          simpa using pair_imp (fun _ _ => PairV.same g2.up) hp
    · rintro D acc G1 H1 hD g1 hg1 hl1 hp
      rw [Paired.length ptr, List.take_length] at hp
      exact k D H1 _ _ g1 (SqL.of upd_same) (pair_imp (fun _ _ => PairV.same (Same.upd_none hg1)) hp)
end
end K8
-- K8Lev
set_option maxRecDepth 100000
set_option maxHeartbeats 400000
namespace K8
open PySem PySem.Spec PyProof.Rows L2
abbrev LFnd := List (Nat × Nat)
def lkv (e : Nat × Nat) : Key × V := (natK e.1, natV e.2)
/-- a table whose steps lead within -/
def Shut (rows : Rows NestedKey Str) : Prop := 0 < rows.length ∧ rows.length ≤ 1000 ∧ ∀ row ∈ rows, row.length ≤ 1000 ∧ ∀ e ∈ row, e.2.2.length ≤ 1000 ∧ e.2.1 < rows.length
theorem Shut.bd {rows : Rows NestedKey Str} (h : Shut rows) : ∀ row ∈ rows, row.length ≤ 1000 ∧ ∀ e ∈ row, e.2.2.length ≤ 1000 := fun row m => ⟨(h.2.2 row m).1, fun e me => ((h.2.2 row m).2 e me).1⟩
theorem Shut.lt {rows : Rows NestedKey Str} (h : Shut rows) {q : Str → Bool} {u : Nat} {e : NestedKey × Nat} (m : e ∈ rowAt (adjOf q rows) u) : e.2 < rows.length := by
  rw [rowAt_adjOf] at m
  obtain ⟨w, v⟩ := e
  obtain ⟨R, m, _⟩ := mem_keepRow.mp m
  cases hr : rows[u]? with
  | none => rw [rowAt_none hr] at m; cases m
  | some row =>
    rw [rowAt_some hr] at m
    exact ((h.2.2 row (List.mem_of_getElem? hr)).2 _ m).2
theorem lkv_keys {found : LFnd} : (found.map lkv).map (·.1) = found.map fun e => natK e.1 := by rw [List.map_map]; rfl
theorem mem_lkv {found : LFnd} {v : Nat} : natK v ∈ (found.map lkv).map (·.1) ↔ v ∈ found.map (·.1) := by
  rw [lkv_keys]
  constructor
  · intro m
    obtain ⟨e, he, q⟩ := List.mem_map.mp m
    rw [← natK_inj q]
    exact List.mem_map.mpr ⟨e, he, rfl⟩
  · intro m
    obtain ⟨e, he, q⟩ := List.mem_map.mp m
    exact List.mem_map.mpr ⟨e, he, by rw [← q]⟩
structure LvH (H G G2 H' : Hp) (p nw : Addr) (found : LFnd) (now : List Nat) : Prop where
  gr : Gr NoM H G G2 H'
  pH : H' p = some (.dK (found.map lkv))
  gp : G2 p = none
  nH : H' nw = some (.lst (now.map natV))
  gn : G2 nw = none
  hn : H nw = none
theorem LvH.mine {H G G2 H' : Hp} {p nw a : Addr} {found : LFnd} {now : List Nat} {o : HO} (h : LvH H G G2 H' p nw found now) (ha : H' a = none) : LvH H G G2 (upd H' a o) p nw found now :=
  ⟨h.gr.mine ha, by rw [upd_ne (ne_sn h.pH ha)]; exact h.pH, h.gp, by rw [upd_ne (ne_sn h.nH ha)]; exact h.nH, h.gn, h.hn⟩
theorem LvH.step {H G G2 G3 H' H2 : Hp} {p nw : Addr} {found : LFnd} {now : List Nat} (h : LvH H G G2 H' p nw found now) (g : Gr NoM H' G2 G3 H2) : LvH H G G3 H2 p nw found now :=
  ⟨h.gr.trans g, g.same _ _ h.pH, g.out h.pH h.gp, g.same _ _ h.nH, g.out h.nH h.gn, h.hn⟩
theorem lev_few {found : LFnd} {n : Nat} (h : (found.map (·.1)).Nodup) (hl : ∀ e ∈ found, e.1 < n) : found.length ≤ n := by
  have := nodup_lt h fun x m => by
    obtain ⟨e, he, rfl⟩ := List.mem_map.mp m
    exact hl e he
  rwa [List.length_map] at this
def spLevels (K : PySem.W.Frag) : Sp := fun vs H Q _ => ∃ (G : Hp) (tb ra : Addr) (rows : Rows NestedKey Str) (rs : List Str), vs = [.ref tb, .ref ra] ∧ Same G H ∧ TblV K G tb rows ∧ Sq K G ra (rs.map V.str) ∧ Shut rows ∧
  ∀ p H' G' (found : LFnd) m, Gr NoM H G G' H' → G' p = some (.dK (found.map lkv)) → Lev (adjOf (fun r => !decide (r ∈ rs)) rows) found m [] → (∀ e ∈ found, e.1 < rows.length) → Q (.ref p) H'
theorem sc_z_levels : FnScope ["_law_table_here", "_law_rules", "_law_found", "_law_now", "_law_many", "_law_later", "_law_here", "_law_word", "_law_other"] ["_law_table_here", "_law_rules"] (defScope s_z_levels) := ⟨rfl, rfl, rfl, by decide +kernel, rfl, by decide +kernel, by decide +kernel⟩
section
variable {P : Program} {w : World} {K : PySem.W.Frag} {mg : Str → Option Value} {base : Heap}
theorem ok_z_levels (T : Txt K mg) : Cl P w K mg base CX0 2 "_law_levels" (spLevels K) := by
  refine cl0 (T.F_z_levels) T.g_z_levels sc_z_levels (fun vs H Q E h => ?_) (fun _ _ _ _ _ _ us hl => match us, hl with | [_, _], _ => rfl) (fun cdv A outer s H vs Q E hr h => ?_)
  · obtain ⟨G, tb, ra, rows, rs, rfl, _⟩ := h
    rfl
  · obtain ⟨G, tb, ra, rows, rs, rfl, s0, htb, hra, shut, k⟩ := h
    refine ⟨_, (pss_cons (ps_par3 (i := 2) (j := 3) (l := 4) (by rfl) sc_z_levels.nd rfl rfl rfl (by decide) (by decide) (by decide) rfl rfl rfl (pa_cons (pe_disp (pps_cons pe_int pe_int pps_nil) (by rfl) (by rfl) (fun z => nomatch z) (by decide)) (pa_cons (pe_lst (pa_cons pe_int pa_nil)) (pa_cons pe_int pa_nil))) (by rfl))
      (pss_cons (ps_while PassesOwn.never (pt_cmpR (neNil (KK := K) (u1 hr)) (pv 3) (pe_lst pa_nil) (nomark _))
        (pss_cons (ps_par (i := 4) (j := 5) (by rfl) sc_z_levels.nd rfl rfl (by decide) rfl rfl (pa_cons (pe_op op_add (pv 4) pe_int) (pa_cons (pe_lst pa_nil) pa_nil)) (by rfl))
        (pss_cons (ps_for PassesOwn.never rfl (sqI (KK := K) (pv 3)) (pg_name (i := 6) sc_z_levels.nd rfl (by first | exact Or.inl rfl | exact Or.inr rfl))
          (pss_one (ps_for PassesOwn.never rfl (sqI (KK := K) (pe_cl (ok_z_next T) hr (by decide) pass0 (pa_cons (pv 0) (pa_cons (pv 1) (pa_cons (pv 6) pa_nil))))) (tupG (KK := K) (n := 2) (by rfl) (pgs_cons (pg_name (i := 7) sc_z_levels.nd rfl (by first | exact Or.inl rfl | exact Or.inr rfl)) (pgs_cons (pg_name (i := 8) sc_z_levels.nd rfl (by first | exact Or.inl rfl | exact Or.inr rfl)) pgs_nil)))
            (pss_one (ps_if (pt_cmpR (notInX (KK := K) (u1 hr)) (pv 8) (pv 2) (by rfl))
              (pss_cons (ps_dput (u1 hr) (pv 2) (pv 8) (pv 4) rfl)
              (pss_one (ps_expr (pe_bm PySem.F.plainAttrs_list PySem.F.slot_list_append PySem.F.type_list_append mt_append (pv 5) (pa_cons (pv 8) pa_nil)))))
              pss_nil)))))
        (pss_one (ps_set (i := 3) sc_z_levels.nd rfl (by first | exact Or.inl rfl | exact Or.inr rfl) (pv 5))))))
      (pss_one (ps_ret (pv 2))))), ?_⟩
    generalize hadj : adjOf (fun r => !decide (r ∈ rs)) rows = adj at k
    intro p hp
    refine ⟨upd_same, [(natK 0, natV 0)], rfl, by show 1 ≤ 15; decide, ?_⟩
    have gp0 := s0.free hp
    have g1 := ((Gr.start (M := NoM) s0).mine (o := .dK []) hp).chg (o := .dK ([((0 : Nat), (0 : Nat))].map lkv)) (.inl hp) gp0
    have hp1 : upd (upd H p (.dK [])) p (.dK ([((0 : Nat), (0 : Nat))].map lkv)) p = some (.dK ([((0 : Nat), (0 : Nat))].map lkv)) := upd_same
    refine ⟨by show 1 ≤ sizeLine; decide, fun nw hnw => ?_⟩
    have g2 := g1.mine (o := .lst [.int 0]) hnw
    have hp2 : upd (upd (upd H p (.dK [])) p (.dK ([((0 : Nat), (0 : Nat))].map lkv))) nw (.lst [.int 0]) p = some (.dK ([((0 : Nat), (0 : Nat))].map lkv)) := by rw [upd_ne (ne_sn hp1 hnw)]; exact hp1
    have hn2 : upd (upd (upd H p (.dK [])) p (.dK ([((0 : Nat), (0 : Nat))].map lkv))) nw (.lst [.int 0]) nw = some (.lst ([(0 : Nat)].map natV)) := upd_same
    have hHn : H nw = none := g1.same.free hnw
    have hGn : G nw = none := g1.sub.free hnw
    refine ⟨_, _, _, rfl, ?_⟩
    change upd (upd H p (HO.dK [])) p (HO.dK ([((0 : Nat), (0 : Nat))].map lkv)) nw = none at hnw
    have hbase : LvH H G G (upd (upd (upd H p (.dK [])) p (.dK ([((0 : Nat), (0 : Nat))].map lkv))) nw (.lst [.int 0])) p nw [(0, 0)] [0] := ⟨g2, hp2, gp0, hn2, hGn, hHn⟩
    dsimp only [tNext, tRet, tOp, tSeq, gName, tAsg]
    show tWhile _ _ _ _ (upd (upd (upd H p (.dK [])) p (.dK ([((0 : Nat), (0 : Nat))].map lkv))) nw (.lst [.int 0]))
    generalize upd (upd (upd H p (.dK [])) p (.dK ([((0 : Nat), (0 : Nat))].map lkv))) nw (.lst [.int 0]) = H1 at hbase ⊢
    clear g1 g2 hp1 hp2 hn2 hHn hGn hnw
    refine ⟨fun z σ H' => ∃ (G2 : Hp) (nw m : Nat) (o5 o6 o7 o8 : Option V) (found : LFnd) (now : List Nat), σ = [some (.ref tb), some (.ref ra), some (.ref p), some (.ref nw), some (.int (m : Nat)), o5, o6, o7, o8] ∧ LvH H G G2 H' p nw found now ∧ Lev adj found m now ∧ (∀ e ∈ found, e.1 < rows.length) ∧ z = 2 * (rows.length - found.length) + (if now = [] then 0 else 1), ⟨_, G, nw, 0, _, _, _, _, [(0, 0)], [0], rfl, hbase, Lev.start adj, fun e m => by rw [List.mem_singleton.mp m]; exact shut.1, rfl⟩, ?_⟩
    clear hbase
    rintro z σ H2 ⟨G2, nw, m, o5, o6, o7, o8, found, now, rfl, lh, lev, hlt, rfl⟩
    refine ⟨_, rfl, by show 0 ≤ sizeLine; decide, fun ea hea => ⟨nw, ea, now.map natV, rfl, rfl, SqL.of ?_, SqL.of upd_same, ⟨_, rfl, ?_⟩⟩⟩
    · rw [upd_ne (ne_sn lh.nH hea)]; exact lh.nH
    have lh := lh.mine (o := .lst []) hea
    generalize upd H2 ea (.lst []) = H3 at lh ⊢
    cases now with
    | nil =>
      refine ite_n (by rfl) ?_
      have gE := lh.gr.give hp (fun z => z) lh.gp lh.pH
      exact ⟨_, rfl, k p H3 _ found m gE upd_same lev hlt⟩
    | cons n0 nr =>
      refine ite_y (by rfl) ?_
      generalize hnow : n0 :: nr = now at lh lev
      refine ⟨fun σ' H' => ∃ (G3 : Hp) (lt : Addr) (o6 o7 o8 : Option V) (found2 : LFnd) (later : List Nat), σ' = [some (.ref tb), some (.ref ra), some (.ref p), some (.ref lt), some (.int ((m + 1 : Nat) : Nat)), some (.ref lt), o6, o7, o8] ∧ LvH H G G3 H' p lt found2 later ∧ Lev adj found2 (m + 1) later ∧ (∀ e ∈ found2, e.1 < rows.length) ∧ found2.length = found.length + later.length, fun σ' H' ⟨G3, lt, o6, o7, o8, found2, later, e1, e2, e3, e4, e5⟩ => ⟨_, ?_, G3, lt, m + 1, _, o6, o7, o8, found2, later, e1, e2, e3, e4, rfl⟩, ?_⟩
      · have hf2 : found2.length ≤ rows.length := lev_few e3.nd e4
        have h0 : ¬ (now = []) := by rw [← hnow]; exact fun z => nomatch z
        rw [if_neg h0]
        by_cases c : later = []
        · rw [if_pos c]; subst c; simp at e5; omega
        · rw [if_neg c]
          have : 0 < later.length := List.length_pos_iff.mpr c
          omega
      refine ⟨_, rfl, _, _, rfl, rfl, by show 0 ≤ sizeLine; decide, fun lt hlt2 => ⟨_, _, rfl, ?_⟩⟩
      have hHl : H lt = none := lh.gr.same.free hlt2
      have gl0 : G2 lt = none := lh.gr.sub.free hlt2
      have hnl : nw ≠ lt := ne_sn lh.nH hlt2
      have hpl : p ≠ lt := ne_sn lh.pH hlt2
      have hnp : nw ≠ p := fun e => by
        have h1 := lh.nH
        rw [e, lh.pH] at h1
        cases h1
      have lh := lh.mine (o := .lst []) hlt2
      have hl0 : upd H3 lt (.lst []) lt = some (.lst (([] : List Nat).map natV)) := upd_same
      generalize upd H3 lt (.lst []) = H4 at lh hl0 ⊢
      have g4 := lh.gr.give lh.hn (fun z => z) lh.gn lh.nH
      have hnG : SqL K (upd G2 nw (.lst (now.map natV))) nw (now.map natV) := SqL.of upd_same
      have gp4 : upd G2 nw (.lst (now.map natV)) p = none := by rw [upd_ne (Ne.symm hnp)]; exact lh.gp
      have gl4 : upd G2 nw (.lst (now.map natV)) lt = none := by rw [upd_ne (Ne.symm hnl)]; exact gl0
      generalize upd G2 nw (.lst (now.map natV)) = G4 at g4 hnG gp4 gl4
      dsimp only [tNext, tRet, tOp, tSeq, gName, tAsg]
      refine ⟨_, rfl, nw, rfl, .inl ⟨⟨_, g4.sub.seq hnG⟩, fl_G (K := K) (a := nw) (xs := now.map natV) (fun i σ H' => ∃ (G5 : Hp) (o6 o7 o8 : Option V) (fd : LFnd) (later : List Nat), σ = [some (.ref tb), some (.ref ra), some (.ref p), some (.ref nw), some (.int ((m + 1 : Nat) : Nat)), some (.ref lt), o6, o7, o8] ∧ LvH H G G5 H' p lt fd later ∧ Same G4 G5 ∧ LevIn adj fd m now later i 0 ∧ (∀ e ∈ fd, e.1 < rows.length) ∧ fd.length = found.length + later.length) G4 hnG ⟨G4, _, _, _, found, [], rfl, ⟨g4, lh.pH, gp4, hl0, gl4, hHl⟩, Same.refl _, lev.enter, hlt, rfl⟩ (fun i σ H' ⟨_, _, _, _, _, _, _, l5, sm, _⟩ => sm.trans l5.gr.sub) ?_ ?_⟩⟩
      · rintro i x σ H5 hx ⟨G5, o6, o7, o8, fd, later, rfl, l5, sm, li, hlt5, hfl⟩
        rw [List.getElem?_map, Option.map_eq_some_iff] at hx
        obtain ⟨u, hu, rfl⟩ := hx
        have hul : u < rows.length := hlt5 _ ((li.now_ u).mp (List.mem_of_getElem? hu))
        refine ⟨_, rfl, _, rfl, _, rfl, G5, tb, ra, u, rows, rs, rfl, l5.gr.sub, htb.same l5.gr.up, l5.gr.up.q hra, hul, shut.bd, fun l H6 G6 ys g6 hl6 hys => ?_⟩
        have hrow : keepRow (fun r => !decide (r ∈ rs)) (rowAt rows u) = rowAt adj u := by rw [← hadj, rowAt_adjOf]
        rw [hrow] at hys
        refine ⟨l, rfl, .inl ⟨⟨_, g6.sub.seq hl6⟩, fl_G (K := K) (a := l) (xs := ys) (fun j σ H' => ∃ (G7 : Hp) (o7 o8 : Option V) (fd : LFnd) (later : List Nat), σ = [some (.ref tb), some (.ref ra), some (.ref p), some (.ref nw), some (.int ((m + 1 : Nat) : Nat)), some (.ref lt), some (natV u), o7, o8] ∧ LvH H G G7 H' p lt fd later ∧ Same G6 G7 ∧ LevIn adj fd m now later i j ∧ (∀ e ∈ fd, e.1 < rows.length) ∧ fd.length = found.length + later.length) G6 hl6 ⟨G6, _, _, fd, later, rfl, l5.step g6, Same.refl _, li, hlt5, hfl⟩ (fun j σ H' ⟨_, _, _, _, _, _, l7, sm7, _⟩ => sm7.trans l7.gr.sub) ?_ ?_⟩⟩
        · rintro j x σ H7 hx ⟨G7, o7, o8, fd, later, rfl, l7, sm7, li, hlt5, hfl⟩
          obtain ⟨⟨kk, nx⟩, hj, t, w', rfl, ht, hw⟩ := paired_get hys hx
          have hnx : nx < rows.length := by
            rw [← hadj] at hj
            exact shut.lt (List.mem_of_getElem? hj)
          refine ⟨t, _, rfl, (sm7.trans l7.gr.sub).tp ht, rfl, ⟨_, _, rfl, ⟨_, _, rfl, ⟨rfl, ?_⟩⟩⟩⟩
          refine ⟨_, rfl, _, rfl, p, _, rfl, .inr ⟨fd.map lkv, natK nx, .inl l7.pH, rfl, rfl⟩, _, rfl, ?_⟩
          have hvm : (valV (fd.map lkv) (natK nx)).isSome = true ↔ nx ∈ fd.map (·.1) := by rw [valV_mem, mem_lkv]
          have hfd := lev_few li.nd hlt5
          show if (!(valV (fd.map lkv) (natK nx)).isSome) = true then _ else _
          refine ite_b (fun hno => ?_) (fun hin => ?_)
          · have hnin : nx ∉ fd.map (·.1) := fun m => by rw [hvm.mpr m] at hno; cases hno
            have hll : later.length ≤ 1000 := by have := shut.2.1; omega
            have hpl7 : lt ≠ p := Ne.symm hpl
            have hpH : H p = none := hp
            refine ⟨_, rfl, _, rfl, _, rfl, p, _, rfl, .inl ⟨fd.map lkv, natK nx, l7.pH, rfl, by rw [List.length_map]; exact Nat.lt_of_le_of_lt (Nat.le_trans hfd shut.2.1) (by decide), rfl⟩, ?_⟩
            rw [K8.putK_new (by rw [mem_lkv]; exact hnin)]
            have hl8 : upd H7 p (.dK (fd.map lkv ++ [(natK nx, V.int ((m + 1 : Nat) : Nat))])) lt = some (.lst (later.map natV)) := by rw [upd_ne hpl7]; exact l7.nH
            refine ⟨_, rfl, .inl ⟨rfl, _, SqL.of hl8⟩, ⟨_, rfl, lt, _, natV nx, rfl, rfl, hl8, by rw [List.length_map]; exact Nat.lt_of_le_of_lt hll (by decide), ?_⟩⟩
            refine ⟨G7, _, _, fd ++ [(nx, m + 1)], later ++ [nx], rfl, ⟨(l7.gr.chg (.inl hpH) l7.gp).chg (.inl hHl) l7.gn, ?_, l7.gp, ?_, l7.gn, hHl⟩, sm7, li.add hu hj hnin, fun e me => ?_, by rw [List.length_append, List.length_append, hfl]; rfl⟩
            · rw [upd_ne hpl, upd_same, List.map_append]; rfl
            · rw [upd_same, List.map_append]; rfl
            · rcases List.mem_append.mp me with me | me
              · exact hlt5 e me
              · rw [List.mem_singleton.mp me]; exact hnx
          · have hin2 : nx ∈ fd.map (·.1) := hvm.mp (by simpa using hin)
            exact ⟨G7, _, _, fd, later, rfl, l7, sm7, li.skip hu hj hin2, hlt5, hfl⟩
        · rintro σ H7 ⟨G7, o7, o8, fd, later, rfl, l7, sm7, li, hlt5, hfl⟩
          exact ⟨G7, _, _, _, fd, later, rfl, l7, (sm.trans g6.up).trans sm7, li.next hu (Nat.le_of_eq (Paired.length hys).symm), hlt5, hfl⟩
      · rintro σ H5 ⟨G5, o6, o7, o8, fd, later, rfl, l5, sm, li, hlt5, hfl⟩
        exact ⟨_, rfl, G5, lt, _, _, _, fd, later, rfl, l5, li.leave (by rw [List.length_map]; exact Nat.le_refl _), hlt5, hfl⟩
end
end K8
-- K8Lx
set_option maxRecDepth 100000
set_option maxHeartbeats 400000
namespace K8
open PySem PySem.Spec PyProof.Rows L2
def spXin (K : PySem.W.Frag) : Sp := fun vs H Q _ => ∃ (a p : Addr) (xs ys : List Str), vs = [.ref a, .ref p] ∧ Sq K H a (xs.map V.str) ∧ xs.length ≤ 1000 ∧ Sq K H p (ys.map V.str) ∧ ∀ H', Same H H' → Q (.bl (part xs ys)) H'
def spXleast (K : PySem.W.Frag) : Sp := fun vs H Q _ => ∃ (G : Hp) (a : Addr) (xs : List V) (Ss : List (List Str)), vs = [.ref a] ∧ Same G H ∧ SqL K G a xs ∧ SetsV K G xs Ss ∧ Ss.length ≤ 10000 ∧ (∀ S ∈ Ss, S.length ≤ 1000) ∧
  ∀ F H' G' ys, Gr NoM H G G' H' → SqL K G' F ys → SetsV K G' ys (least Ss) → Q (.ref F) H'
theorem sc_x_in : FnScope ["_law_one", "_law_other", "_law_thing"] ["_law_one", "_law_other"] (defScope s_x_in) := ⟨rfl, rfl, rfl, by decide +kernel, rfl, by decide +kernel, by decide +kernel⟩
theorem sc_x_least : FnScope ["_law_sets", "_law_found", "_law_one", "_law_some"] ["_law_sets"] (defScope s_x_least) := ⟨rfl, rfl, rfl, by decide +kernel, rfl, by decide +kernel, by decide +kernel⟩
section
variable {P : Program} {w : World} {K : PySem.W.Frag} {mg : Str → Option Value} {base : Heap}
theorem ok_x_in (T : Txt K mg) : Cl P w K mg base CX0 1 "_law_x_in" (spXin K) := by
  refine cl0 (T.F_x_in) T.g_x_in sc_x_in (fun vs H Q E h => ?_) (fun _ _ _ _ _ _ us hl => match us, hl with | [_, _], _ => rfl) (fun cdv A outer s H vs Q E hr h => ?_)
  · obtain ⟨a, p, xs, ys, rfl, _⟩ := h
    rfl
  · obtain ⟨a, p, xs, ys, rfl, ha, hl, hp, k⟩ := h
    refine ⟨_, (pss_one (ps_ret (pe_callB (allK (KK := K) rfl) (by rfl) T.f_all (by decide +kernel) (pa_cons (pe_lc (own := [("_law_thing", 2)]) rfl sc_x_in.nd (sqI (KK := K) (pv 0)) (blkOk_by (by kernel_rfl)) (fun _ _ _ _ _ => (pg_name (i := 2) sc_x_in.nd rfl (by first | exact Or.inl rfl | exact Or.inr rfl))) (fun _ _ _ _ _ => pts_nil) (fun _ _ _ _ _ => (pe_cmpR (inX (KK := K) (u1 hr)) (pv 2) (pv 1) (by rfl)))) pa_nil)))), ?_⟩
    refine cb1 (lc_any (M := NoM) (.ref a) H (fun i acc _ => acc = (xs.take i).map fun x => V.bl (decide (x ∈ ys))) (fun R' r => ⟨_, rfl, r⟩) rfl (fun _ _ z => z) (Same.refl H) ha (by rw [List.length_map]; exact Nat.le_trans hl (by decide)) rfl ?_ ?_)
    · rintro D hD i v acc G H3 hx gr hl3 rfl
      intro Ky Kn ky kn
      refine ⟨rfl, y_te ?_⟩
      rw [List.getElem?_map, Option.map_eq_some_iff] at hx
      obtain ⟨x, hx', rfl⟩ := hx
      refine ⟨_, rfl, _, rfl, Has.rd (.inl (gr.same'.q hp)) ?_⟩
      exact ky _ H3 G (Gr.start gr.sub) (by show _ = _; rw [all_snoc (f := fun x => V.bl (decide (x ∈ ys))) hx'])
    · rintro D acc G H3 hD gr hg hl3 rfl
      rw [List.length_map, List.take_length] at gr
      refine ⟨D, xs.map fun x => decide (x ∈ ys), rfl, SqL.of (by rw [gr.sub D _ upd_same, List.map_map]; rfl), ?_⟩
      have q := k H3 gr.same
      have e : part xs ys = (xs.map fun x => decide (x ∈ ys)).all id := by
        unfold part
        rw [List.all_map]; rfl
      rw [e] at q
      exact q
theorem ok_x_least (T : Txt K mg) : Cl P w K mg base CX0 2 "_law_x_least" (spXleast K) := by
  refine cl0 (T.F_x_least) T.g_x_least sc_x_least (fun vs H Q E h => ?_) (fun _ _ _ _ _ _ us hl => match us, hl with | [_], _ => rfl) (fun cdv A outer s H vs Q E hr h => ?_)
  · obtain ⟨G, a, xs, Ss, rfl, _⟩ := h
    rfl
  · obtain ⟨G, a, xs, Ss, rfl, s0, src, hS, hz, hsh, k⟩ := h
    refine ⟨_, (pss_cons (ps_set (i := 1) sc_x_least.nd rfl (by first | exact Or.inl rfl | exact Or.inr rfl) (pe_lst pa_nil))
      (pss_cons (ps_for PassesOwn.never rfl (sqI (KK := K) (pv 0)) (pg_name (i := 2) sc_x_least.nd rfl (by first | exact Or.inl rfl | exact Or.inr rfl))
        (pss_one (ps_if (pt_not (pt_val (pe_callB (anyK (KK := K) rfl) (by rfl) T.f_any (by decide +kernel) (pa_cons (pe_lc (own := [("_law_some", 3)]) rfl sc_x_least.nd (sqI (KK := K) (pv 1)) (blkOk_by (by kernel_rfl)) (fun _ _ _ _ _ => (pg_name (i := 3) sc_x_least.nd rfl (by first | exact Or.inl rfl | exact Or.inr rfl))) (fun _ _ _ _ _ => pts_nil) (fun _ _ _ _ _ => (pe_cl (ok_x_in T) hr (by decide) pass0 (pa_cons (pv 3) (pa_cons (pv 2) pa_nil))))) pa_nil))))
          (pss_one (ps_expr (pe_bm PySem.F.plainAttrs_list PySem.F.slot_list_append PySem.F.type_list_append mt_append (pv 1) (pa_cons (pv 2) pa_nil))))
          pss_nil)))
      (pss_one (ps_ret (pv 1))))), ?_⟩
    refine ⟨by show 0 ≤ sizeLine; decide, fun F hF => ?_⟩
    dsimp only [tNext, tRet, tOp, tSeq, gName, tAsg]
    have hGF := s0.free hF
    have g0 : Gr NoM H G G (upd H F (.lst [])) := (Gr.start s0).mine hF
    have hxl : xs.length = Ss.length := Paired.length hS
    refine ⟨_, rfl, a, rfl, .inl ⟨⟨_, g0.sub.seq src⟩, fl_G (K := K) (a := a) (xs := xs) (fun i σ H' => ∃ o2 o3 G2 zs, σ = [some (.ref a), some (.ref F), o2, o3] ∧ Gr NoM H G G2 H' ∧ H' F = some (.lst zs) ∧ G2 F = none ∧ SetsV K G2 zs (least (Ss.take i))) G src ⟨_, _, G, [], rfl, g0, upd_same, hGF, .nil⟩ (fun i σ H' ⟨_, _, _, _, _, gr, _⟩ => gr.same') ?_ ?_⟩⟩
    · rintro i v σ H' hv ⟨o2, o3, G2, zs, rfl, g2, hHF, hG2F, hzs⟩
      obtain ⟨S, hSi, hSd⟩ := paired_get hS hv
      have hSm : S.length ≤ 1000 := hsh S (List.mem_of_getElem? hSi)
      obtain ⟨t, rfl, hst⟩ := setV_tup (dp_mono g2.up hSd)
      have hzl : zs.length = (least (Ss.take i)).length := Paired.length hzs
      have tk : Ss.take (i + 1) = Ss.take i ++ [S] := by rw [List.take_succ, hSi]; rfl
      have hll : (least (Ss.take i)).length ≤ Ss.length := by
        have h1 := (least_sublist (Ss.take i)).length_le
        rw [List.length_take] at h1
        omega
      have hsub : ∀ S' ∈ least (Ss.take i), S'.length ≤ 1000 := fun S' m => hsh S' (List.mem_of_mem_take ((least_sublist _).subset m))
      refine cb1 (lc_any (M := NoM) (.ref F) H' (fun n acc _ => acc = ((least (Ss.take i)).take n).map fun y => V.bl (part y S)) (fun R' r => ⟨_, rfl, r⟩) rfl (fun _ _ z => z) (Same.refl H') (.inl (SqL.of hHF)) (by rw [hzl]; exact Nat.le_trans (Nat.le_trans hll hz) (by decide)) rfl ?_ ?_)
      · rintro D hD n x acc G5 H5 hx g5 hl5 rfl
        intro Ky Kn ky kn
        refine ⟨rfl, y_te ?_⟩
        obtain ⟨y, hy, hyd⟩ := paired_get hzs hx
        obtain ⟨ty, rfl, hty⟩ := setV_tup (dp_mono (g2.sub.trans g5.same') hyd)
        refine ⟨_, rfl, _, rfl, ty, t, y, S, rfl, .inr hty, hsub y (List.mem_of_getElem? hy), .inr ((g2.sub.trans g5.same').tp hst), fun H6 s6 => ?_⟩
        exact ky _ H6 G5 (Gr.of g5.sub s6) (by show _ = _; rw [all_snoc (f := fun y => V.bl (part y S)) hy])
      · rintro D acc G5 H5 hD g5 hg5 hl5 rfl
        rw [hzl, List.take_length] at g5
        have s5 : Same H' H5 := g5.same
        refine ⟨D, (least (Ss.take i)).map fun y => part y S, rfl, SqL.of (by rw [g5.sub D _ upd_same, List.map_map]; rfl), _, rfl, ?_⟩
        have gB := g2.trans (Gr.of g2.sub s5)
        have hF5 := s5 _ _ hHF
        have eany : ((least (Ss.take i)).map fun y => part y S).any id = (least (Ss.take i)).any fun y => part y S := by rw [List.any_map]; rfl
        rw [eany]
        have els : least (Ss.take (i + 1)) = if (least (Ss.take i)).any (fun y => part y S) then least (Ss.take i) else least (Ss.take i) ++ [S] := by rw [tk, least_snoc]; rfl
        cases hc : (least (Ss.take i)).any fun y => part y S with
        | true =>
          rw [hc, if_pos rfl] at els
          refine ite_n (by rfl) ?_
          exact ⟨_, _, G2, zs, rfl, gB, hF5, hG2F, by rw [els]; exact hzs⟩
        | false =>
          rw [hc, if_neg Bool.false_ne_true] at els
          refine ite_y (by rfl) ?_
          refine ⟨_, rfl, .inl ⟨rfl, _, SqL.of hF5⟩, ⟨_, rfl, F, zs, .ref t, rfl, rfl, hF5, by rw [hzl]; exact Nat.lt_of_le_of_lt (Nat.le_trans hll hz) (by decide), ?_⟩⟩
          exact ⟨_, _, G2, zs ++ [.ref t], rfl, gB.chg (.inl hF) hG2F, upd_same, hG2F, by rw [els]; exact pair_snoc (P := fun v S => Dp K G2 v (setD S)) (dp_mono g2.up hSd) hzs⟩
    · rintro σ H' ⟨o2, o3, G2, zs, rfl, g2, hHF, hG2F, hzs⟩
      rw [hxl, List.take_length] at hzs
      exact ⟨_, rfl, k F H' _ zs (g2.give hF (fun z => z) hG2F hHF) (SqL.of upd_same) (hzs.same (Same.upd_none hG2F))⟩
end
end K8
-- K8Lall
set_option maxRecDepth 100000
set_option maxHeartbeats 400000
namespace K8
open PySem PySem.Spec PyProof.Rows L2
def ltS (a b : Str) : Bool := decide (a.cps.toList < b.cps.toList)
theorem ltS_iff (a b : Str) : ltS a b = true ↔ strO.lt a b := decide_eq_true_iff
def spXall (K : PySem.W.Frag) : Sp := fun vs H Q _ => ∃ (G : Hp) (a : Addr) (names : List Str), vs = [.ref a] ∧ Same G H ∧ SqL K G a (names.map V.str) ∧ Srt strO names ∧ names.length ≤ 6 ∧ (∀ x ∈ names, PyData.strOk x = true) ∧
  ∀ F H' G' ys, Gr NoM H G G' H' → SqL K G' F ys → SetsV K G' ys (levelsUpTo ltS names names.length) → Q (.ref F) H'
theorem eqv_nil (S : List Str) : (setD S).eqv (setD []) = S.isEmpty := by
  cases S with
  | nil => rfl
  | cons a r => rfl
theorem dep_strs (S : List Str) : PyData.depthAll (S.map PyData.str) = 0 := by
  induction S with
  | nil => rfl
  | cons a r ih =>
    show max (PyData.depth (.str a)) (PyData.depthAll (r.map PyData.str)) = 0
    rw [ih]; rfl
theorem lay_strs {S : List Str} (h : ∀ x ∈ S, PyData.strOk x = true) : PyData.canLayAll0 (S.map PyData.str) = true := by
  induction S with
  | nil => rfl
  | cons a r ih =>
    show (PyData.strOk a && PyData.canLayAll0 (r.map PyData.str)) = true
    rw [ih fun x m => h x (List.mem_cons_of_mem _ m), h a List.mem_cons_self]; rfl
theorem shaped_set {S : List Str} (h : ∀ x ∈ S, PyData.strOk x = true) : SeqAt.shaped (setD S) = true := by
  have h1 : (setD S).canLay0 = true := lay_strs h
  have h2 : (setD S).depth = 1 := by
    show PyData.depthAll (S.map PyData.str) + 1 = 1
    rw [dep_strs]
  unfold SeqAt.shaped
  rw [h1, h2]
  rfl
theorem last_at {one : List Str} {l : Str} (h : one.getLast? = some l) : atI (one.map V.str) (-1) = some (.str l) := by
  have hl : 1 ≤ one.length := by
    cases one with
    | nil => cases h
    | cons a r => exact Nat.succ_le_succ (Nat.zero_le _)
  unfold atI ixN
  rw [List.length_map, if_neg (by decide), if_pos (by omega)]
  have e : ((-1 : Int) + (one.length : Nat)).toNat = one.length - 1 := by omega
  show (List.map V.str one)[((-1 : Int) + (one.length : Nat)).toNat]? = _
  rw [e, List.getElem?_map, ← List.getLast?_eq_getElem?, h]
  rfl
theorem level_len {names : List Str} (h : names.length ≤ 6) : ∀ k, (level ltS names k).length ≤ 6 ^ k
  | 0 => Nat.le_refl _
  | k + 1 => by
    have ih := level_len h k
    have fl : ∀ l : List (List Str), (l.flatMap (grow ltS names)).length ≤ 6 * l.length := by
      intro l
      induction l with
      | nil => simp
      | cons x r ihr =>
        have h1 : (grow ltS names x).length ≤ 6 := by
          unfold grow
          rw [List.length_map]
          exact Nat.le_trans (List.length_filter_le ..) h
        rw [List.flatMap_cons, List.length_append, List.length_cons]
        omega
    have := fl (level ltS names k)
    show ((level ltS names k).flatMap (grow ltS names)).length ≤ _
    rw [Nat.pow_succ]
    omega
theorem levels_len {names : List Str} (h : names.length ≤ 6) : ∀ k, (levelsUpTo ltS names k).length ≤ 6 ^ (k + 1)
  | 0 => by show 1 ≤ 6; decide
  | k + 1 => by
    have ih := levels_len h k
    have h2 := level_len h (k + 1)
    rw [levelsUpTo_succ, List.length_append]
    have : 6 ^ (k + 1 + 1) = 6 ^ (k + 1) * 6 := Nat.pow_succ ..
    omega
theorem tor_rd {tA tB : TT} {σ : L2.St} {H : Hp} {b1 b2 : Bool} {P : Hp → Prop} {R : Bool → Hp → Prop} (hA : ∀ R : Bool → Hp → Prop, (∀ H', P H' → R b1 H') → tA σ H R) (hB : b1 = false → ∀ H', P H' → ∀ R : Bool → Hp → Prop, (∀ H'', P H'' → R b2 H'') → tB σ H' R) (h : ∀ H', P H' → R (b1 || b2) H') : tOr tA tB σ H R := by
  refine hA _ fun H' p => ?_
  cases b1 with
  | true => exact h H' p
  | false => exact hB rfl H' p _ h
theorem sc_x_all : FnScope ["_law_names", "_law_found", "_law_level", "_law_k", "_law_longer", "_law_one", "_law_name"] ["_law_names"] (defScope s_x_all) := ⟨rfl, rfl, rfl, by decide +kernel, rfl, by decide +kernel, by decide +kernel⟩
section
variable {P : Program} {w : World} {K : PySem.W.Frag} {mg : Str → Option Value} {base : Heap}
theorem ok_x_all (T : Txt K mg) : Cl P w K mg base CX0 1 "_law_x_all" (spXall K) := by
  refine cl0 (T.F_x_all) T.g_x_all sc_x_all (fun vs H Q E h => ?_) (fun _ _ _ _ _ _ us hl => match us, hl with | [_], _ => rfl) (fun cdv A outer s H vs Q E hr h => ?_)
  · obtain ⟨G, a, names, rfl, _⟩ := h
    rfl
  · obtain ⟨G, a, names, rfl, s0, src, hn, h6, hok, k⟩ := h
    refine ⟨_, (pss_cons (ps_par (i := 1) (j := 2) (by rfl) sc_x_all.nd rfl rfl (by decide) rfl rfl (pa_cons (pe_lst (pa_cons (pe_tup pa_nil) pa_nil)) (pa_cons (pe_lst (pa_cons (pe_tup pa_nil) pa_nil)) pa_nil)) (by rfl))
      (pss_cons (ps_for PassesOwn.never rfl (pi_range1 (by rfl) T.f_range (pa_cons (pe_callB (lenQ (KK := K)) (by rfl) T.f_len (by decide +kernel) (pa_cons (pv 0) pa_nil)) pa_nil)) (pg_name (i := 3) sc_x_all.nd rfl (by first | exact Or.inl rfl | exact Or.inr rfl))
        (pss_cons (ps_set (i := 4) sc_x_all.nd rfl (by first | exact Or.inl rfl | exact Or.inr rfl) (pe_lst pa_nil))
        (pss_cons (ps_for PassesOwn.never rfl (sqI (KK := K) (pv 2)) (pg_name (i := 5) sc_x_all.nd rfl (by first | exact Or.inl rfl | exact Or.inr rfl))
          (pss_one (ps_expr (pe_bm PySem.F.plainAttrs_list PySem.F.slot_list_extend PySem.F.type_list_extend (mtExtQ (KK := K)) (pv 4) (pa_cons (pe_lc (own := [("_law_name", 6)]) rfl sc_x_all.nd (sqI (KK := K) (pv 0)) (blkOk_by (by kernel_rfl)) (fun _ _ _ _ _ => (pg_name (i := 6) sc_x_all.nd rfl (by first | exact Or.inl rfl | exact Or.inr rfl))) (fun _ _ _ _ _ => (pts_one (PW.pt (pw_or (pt_cmpR (eqDD (KK := K) (u64 hr)) (pv 5) (pe_tup pa_nil) (nomark _)) (pw_or1 (pt_cmpR op_gt_str (pv 6) (pe_ix (ixQ (KK := K)) (pv 5) (pe_un un_neg pe_int) (fun _ _ => rfl)) (nomark _))))))) (fun _ _ _ _ _ => (pe_op (catA (KK := K)) (pv 5) (pe_tup (pa_cons (pv 6) pa_nil))))) pa_nil)))))
        (pss_cons (ps_expr (pe_bm PySem.F.plainAttrs_list PySem.F.slot_list_extend PySem.F.type_list_extend (mtExtQ (KK := K)) (pv 1) (pa_cons (pv 4) pa_nil)))
        (pss_one (ps_set (i := 2) sc_x_all.nd rfl (by first | exact Or.inl rfl | exact Or.inr rfl) (pv 4)))))))
      (pss_one (ps_ret (pv 1))))), ?_⟩
    refine ⟨by show 0 ≤ sizeLine; decide, fun t0 ht0 => ⟨by show 1 ≤ sizeLine; decide, fun F hF => ⟨by show 0 ≤ sizeLine; decide, fun t1 ht1 => ⟨by show 1 ≤ sizeLine; decide, fun L hL => ⟨_, _, rfl, ?_⟩⟩⟩⟩⟩
    have g1 := (Gr.start (M := NoM) s0).newN (o := .tup []) ht0
    have hT0 : SqT K (upd G t0 (.tup [])) t0 (([] : List Str).map V.str) := SqT.of upd_same
    generalize upd G t0 (.tup []) = G1 at g1 hT0
    generalize upd H t0 (.tup []) = H1 at g1 hF ht1 hL ⊢
    have hFH : H F = none := g1.same.free hF
    have hFG1 : G1 F = none := g1.sub.free hF
    have g2 := g1.mine (o := .lst [.ref t0]) hF
    have hF2 : upd H1 F (.lst [.ref t0]) F = some (.lst [.ref t0]) := upd_same
    generalize upd H1 F (.lst [.ref t0]) = H2 at g2 hF2 ht1 hL ⊢
    have hFt : F ≠ t1 := ne_sn hF2 ht1
    have g3 := g2.newN (o := .tup []) ht1
    have hT1 : SqT K (upd G1 t1 (.tup [])) t1 (([] : List Str).map V.str) := SqT.of upd_same
    have hT0 := (Same.upd_none (o := .tup []) (g2.sub.free ht1)).tp hT0
    have hFG2 : upd G1 t1 (.tup []) F = none := by rw [upd_ne hFt]; exact hFG1
    have hF3 : upd H2 t1 (.tup []) F = some (.lst [.ref t0]) := by rw [upd_ne hFt]; exact hF2
    generalize upd G1 t1 (.tup []) = G2 at g3 hT0 hT1 hFG2
    generalize upd H2 t1 (.tup []) = H3 at g3 hF3 hL ⊢
    have hFL : F ≠ L := ne_sn hF3 hL
    have hLH : H L = none := g3.same.free hL
    have hLG2 : G2 L = none := g3.sub.free hL
    have g4 := g3.mine (o := .lst [.ref t1]) hL
    have hF4 : upd H3 L (.lst [.ref t1]) F = some (.lst [.ref t0]) := by rw [upd_ne hFL]; exact hF3
    have hL4 : upd H3 L (.lst [.ref t1]) L = some (.lst [.ref t1]) := upd_same
    generalize upd H3 L (.lst [.ref t1]) = H4 at g4 hF4 hL4 ⊢
    dsimp only [tNext, tRet, tOp, tSeq, gName, tAsg]
    refine ⟨_, rfl, a, _, rfl, .inl (g4.same'.seq src), ?_⟩
    refine ⟨(names.length : Nat), by rw [List.length_map], by omega, by omega, for_range (n := names.length) (fun i σ H' => ∃ (G5 : Hp) (L : Addr) (o3 o4 o5 : Option V) (fs ls : List V), σ = [some (.ref a), some (.ref F), some (.ref L), o3, o4, o5, none] ∧ F ≠ L ∧ Gr NoM H G G5 H' ∧ H' F = some (.lst fs) ∧ G5 F = none ∧ SetsV K G5 fs (levelsUpTo ltS names i) ∧ H' L = some (.lst ls) ∧ G5 L = none ∧ H L = none ∧ SetsV K G5 ls (level ltS names i)) ⟨G2, L, _, _, _, _, _, rfl, hFL, g4, hF4, hFG2, .cons (tup_setV hT0) .nil, hL4, hLG2, hLH, .cons (tup_setV hT1) .nil⟩ ?_ ?_⟩
    · rintro i σ H5 hi ⟨G5, L, o3, o4, o5, fs, ls, rfl, hFL', g5, hF5, hGF, hfs, hL5, hGL, hHL, hls⟩
      have hlev6 : (level ltS names i).length ≤ 6 ^ i := level_len h6 i
      have hpow : 6 ^ i ≤ 7776 := Nat.le_trans (Nat.pow_le_pow_right (by decide) (show i ≤ 5 by omega)) (by decide)
      refine ⟨by show 0 ≤ sizeLine; decide, fun X hX => ?_⟩
      have hXH : H X = none := g5.same.free hX
      have hXG : G5 X = none := g5.sub.free hX
      have hFX : F ≠ X := ne_sn hF5 hX
      have hLX : L ≠ X := ne_sn hL5 hX
      have g6 := g5.mine (o := .lst []) hX
      have hF6 : upd H5 X (.lst []) F = some (.lst fs) := by rw [upd_ne hFX]; exact hF5
      have hL6 : upd H5 X (.lst []) L = some (.lst ls) := by rw [upd_ne hLX]; exact hL5
      have hX6 : upd H5 X (.lst []) X = some (.lst []) := upd_same
      generalize upd H5 X (.lst []) = H6 at g6 hF6 hL6 hX6 ⊢
      have g7 := g6.give hHL (fun z => z) hGL hL6
      have u7 : Same G5 (upd G5 L (.lst ls)) := Same.upd_none hGL
      have hLG : SqL K (upd G5 L (.lst ls)) L ls := SqL.of upd_same
      have hGF7 : upd G5 L (.lst ls) F = none := by rw [upd_ne hFL']; exact hGF
      have hGX7 : upd G5 L (.lst ls) X = none := by rw [upd_ne (Ne.symm hLX)]; exact hXG
      have hfs := hfs.same u7
      have hls := hls.same u7
      generalize upd G5 L (.lst ls) = G7 at g7 hLG hGF7 hGX7 hfs hls
      dsimp only [tNext, tRet, tOp, tSeq, gName, tAsg]
      have hlsl : ls.length = (level ltS names i).length := Paired.length hls
      refine ⟨_, rfl, L, rfl, .inl ⟨⟨_, g7.sub.seq hLG⟩, fl_G (K := K) (a := L) (xs := ls) (fun j σ H' => ∃ (G8 : Hp) (o5 : Option V) (xs : List V), σ = [some (.ref a), some (.ref F), some (.ref L), some (.int ((0 : Int) + (i : Nat))), some (.ref X), o5, none] ∧ Gr NoM H G G8 H' ∧ Same G7 G8 ∧ H' F = some (.lst fs) ∧ G8 F = none ∧ H' X = some (.lst xs) ∧ G8 X = none ∧ SetsV K G8 xs (((level ltS names i).take j).flatMap (grow ltS names))) G7 hLG ⟨G7, _, [], rfl, g7, Same.refl _, hF6, hGF7, hX6, hGX7, .nil⟩ (fun j σ H' ⟨_, _, _, _, g, sm, _⟩ => sm.trans g.sub) ?_ ?_⟩⟩
      · rintro j v σ H8 hv ⟨G8, o5, xs, rfl, g8, s78, hF8, hGF8, hX8, hGX8, hxs⟩
        obtain ⟨S, hSj, hSd⟩ := paired_get hls hv
        obtain ⟨hS1, hS2, hS3⟩ := (mem_level (O := strO) ltS_iff (names := names) i S).mp (List.mem_of_getElem? hSj)
        obtain ⟨t, rfl, hst⟩ := setV_tup (dp_mono s78 hSd)
        have hxl : xs.length = (((level ltS names i).take j).flatMap (grow ltS names)).length := Paired.length hxs
        refine ⟨_, rfl, .inl ⟨rfl, _, SqL.of hX8⟩, ?_⟩
        refine lc_any (M := NoM) (.ref a) G8 (fun n acc G' => SetsV K G' acc (((names.take n).filter (mayFollow ltS S)).map fun nm => S ++ [nm])) (fun R' r => ⟨_, rfl, r⟩) rfl (fun _ _ z => z) g8.sub (.inl (g8.up.seq src)) (by rw [List.length_map]; exact Nat.le_trans h6 (by decide)) .nil ?_ ?_
        · rintro D hD n x acc G9 H9 hx g9 hl9 hacc
          rw [List.getElem?_map, Option.map_eq_some_iff] at hx
          obtain ⟨nm, hnm, rfl⟩ := hx
          intro Ky Kn ky kn
          refine ⟨rfl, ?_⟩
          have htG := (g9.up).tp hst
          have tk : ((names.take (n + 1)).filter (mayFollow ltS S)).map (fun nm => S ++ [nm]) = ((names.take n).filter (mayFollow ltS S)).map (fun nm => S ++ [nm]) ++ if mayFollow ltS S nm = true then [S ++ [nm]] else [] := by
            rw [List.take_succ, hnm, List.filter_append, List.map_append]
            congr 1
            by_cases c : mayFollow ltS S nm = true
            · rw [if_pos c]; simp only [Option.toList, List.filter_cons, List.filter_nil]; rw [if_pos c]; rfl
            · rw [if_neg c]; simp only [Option.toList, List.filter_cons, List.filter_nil]; rw [if_neg c]; rfl
          refine tor_rd (b1 := S.isEmpty) (b2 := mayFollow ltS S nm) (P := fun H' => Gr NoM H9 G9 G9 H') (fun R r => ?_) (fun hne H' p R r => ?_) (fun H' p => ?_)
          · refine ⟨_, rfl, by show 0 ≤ sizeLine; decide, fun e he => ?_⟩
            have ge := (Gr.start (M := NoM) g9.sub).mine (o := .tup []) he
            refine ⟨setD S, setD [], tup_setV (ge.sub.tp htG), tup_setV (SqT.of upd_same), shaped_set (fun x m => hok x (hS3 x m)), shaped_set (fun _ m => (nomatch m)), _, rfl, ?_⟩
            rw [eqv_nil]
            exact r _ ge
          · cases hl : S.getLast? with
            | none =>
              rw [List.getLast?_eq_none_iff.mp hl] at hne
              cases hne
            | some l =>
              refine ⟨_, rfl, _, rfl, 1, rfl, t, _, -1, .str l, rfl, rfl, .inr (p.sub.tp htG), last_at hl, _, _, rfl, rfl, _, rfl, ?_⟩
              have e1 : mayFollow ltS S nm = ltS l nm := by
                unfold mayFollow
                rw [hl]
              rw [e1] at r
              exact r _ p
          · have e2 : (S.isEmpty || mayFollow ltS S nm) = mayFollow ltS S nm := by
              cases S with
              | nil => rfl
              | cons y r => rfl
            rw [e2]
            cases c : mayFollow ltS S nm with
            | true =>
              rw [c] at tk
              rw [if_pos rfl] at tk
              refine ite_y rfl ?_
              refine ⟨_, rfl, _, rfl, by show 1 ≤ sizeLine; decide, fun q hq => ?_⟩
              have gq := p.newN (o := .tup [.str nm]) hq
              have hqG : SqT K (upd G9 q (.tup [.str nm])) q (([nm] : List Str).map V.str) := SqT.of upd_same
              have uq : Same G9 (upd G9 q (.tup [.str nm])) := Same.upd_none (p.sub.free hq)
              generalize upd G9 q (.tup [.str nm]) = Gq at gq hqG uq
              generalize upd H' q (.tup [.str nm]) = Hq at gq ⊢
              have ky' : ∀ c' Hc Gc, Gr NoM H9 G9 Gc Hc → SqT K Gc c' ((S ++ [nm]).map V.str) → Ky (.ref c') Hc := fun c' Hc Gc gc hc => by
                refine ky _ Hc Gc gc ?_
                show SetsV K Gc _ (((names.take (n + 1)).filter (mayFollow ltS S)).map fun nm => S ++ [nm])
                rw [tk]
                refine pair_snoc (P := fun v S => Dp K Gc v (setD S)) (tup_setV hc) (SetsV.same gc.up hacc)
              refine ⟨t, q, _, _, rfl, rfl, gq.sub.tp (uq.tp htG), gq.sub.tp hqG, by rw [List.length_map]; show S.length + 1 ≤ sizeLine; exact Nat.le_trans (show S.length + 1 ≤ 100 by omega) (by decide), fun ex => ?_, fun _ ey => (nomatch ey), fun _ _ pp hpp => ?_⟩
              · have : S = [] := by
                  cases S with
                  | nil => rfl
                  | cons y r => cases ex
                refine ky' q Hq Gq gq ?_
                rw [this]; exact hqG
              · refine ky' pp _ _ (gq.newN hpp) ?_
                rw [List.map_append]; exact SqT.of upd_same
            | false =>
              rw [c] at tk
              refine ite_n rfl ?_
              refine kn _ G9 p ?_
              show SetsV K G9 _ (((names.take (n + 1)).filter (mayFollow ltS S)).map fun nm => S ++ [nm])
              rw [tk]
              simpa using hacc
        · rintro D acc G9 H9 hD g9 hGD hl9 hacc
          rw [List.length_map, List.take_length] at hacc
          have hacc : SetsV K G9 acc (grow ltS names S) := hacc
          have u9 : Same G9 (upd G9 D (.lst acc)) := Same.upd_none hGD
          have hX9 := g9.keep hX8
          have hF9 := g9.keep hF8
          have hGX9 := g9.out hX8 hGX8
          have hGF9 := g9.out hF8 hGF8
          have hDL : SqL K (upd G9 D (.lst acc)) D acc := SqL.of upd_same
          have haccl : acc.length ≤ 6 := by
            rw [Paired.length hacc]
            unfold grow
            rw [List.length_map]
            exact Nat.le_trans (List.length_filter_le ..) h6
          have hacc := hacc.same u9
          have tk2 : ((level ltS names i).take (j + 1)).flatMap (grow ltS names) = ((level ltS names i).take j).flatMap (grow ltS names) ++ grow ltS names S := by
            rw [List.take_succ, hSj, List.flatMap_append]
            simp
          have hfl : (((level ltS names i).take j).flatMap (grow ltS names)).length ≤ 6 ^ (i + 1) := by
            refine Nat.le_trans ?_ (level_len h6 (i + 1))
            show _ ≤ ((level ltS names i).flatMap (grow ltS names)).length
            conv => rhs; rw [← List.take_append_drop j (level ltS names i), List.flatMap_append, List.length_append]
            exact Nat.le_add_right _ _
          have hp2 : 6 ^ (i + 1) ≤ 46656 := Nat.le_trans (Nat.pow_le_pow_right (by decide) (show i + 1 ≤ 6 by omega)) (by decide)
          refine ⟨X, D, xs, acc, rfl, rfl, hX9, .inl (g9.sub.seq hDL), by omega, ?_⟩
          have gA := g8.trans g9
          have hXF : F ≠ X := hFX
          refine ⟨_, _, xs ++ acc, rfl, gA.chg (.inl hXH) hGX9, (s78.trans g9.up), ?_, hGF9, upd_same, hGX9, ?_⟩
          · rw [upd_ne hXF]; exact hF9
          · rw [tk2]
            exact paired_app (hxs.same g9.up) hacc
      · rintro σ H8 ⟨G8, o5, xs, rfl, g8, s78, hF8, hGF8, hX8, hGX8, hxs⟩
        rw [hlsl, List.take_length] at hxs
        have hxs : SetsV K G8 xs (level ltS names (i + 1)) := hxs
        have hfsl := Paired.length hfs
        have hll := levels_len h6 i
        have hll2 := level_len h6 (i + 1)
        have hxl := Paired.length hxs
        have hp2 : 6 ^ (i + 1) ≤ 46656 := Nat.le_trans (Nat.pow_le_pow_right (by decide) (show i + 1 ≤ 6 by omega)) (by decide)
        refine ⟨_, rfl, .inl ⟨rfl, _, SqL.of hF8⟩, ⟨_, rfl, F, X, fs, xs, rfl, rfl, hF8, .inl (SqL.of hX8), by omega, ?_⟩⟩
        refine ⟨_, rfl, G8, X, _, _, _, fs ++ xs, xs, rfl, hFX, g8.chg (.inl hFH) hGF8, upd_same, hGF8, ?_, ?_, hGX8, hXH, hxs⟩
        · rw [levelsUpTo_succ]
          exact paired_app (hfs.same s78) hxs
        · rw [upd_ne (Ne.symm hFX)]; exact hX8
    · rintro σ H5 ⟨G5, L, o3, o4, o5, fs, ls, rfl, hFL', g5, hF5, hGF, hfs, hL5, hGL, hHL, hls⟩
      exact ⟨_, rfl, k F H5 _ fs (g5.give hFH (fun z => z) hGF hF5) (SqL.of upd_same) (hfs.same (Same.upd_none hGF))⟩
end
end K8
-- K8Key
namespace K8
open PySem PySem.Spec PyProof.Rows L2
mutual
theorem eqvK : ∀ k k' : NestedKey, k.data.eqv k'.data = true ↔ k = k'
  | .none, .none => by simp [NestedKey.data, PyData.eqv]
  | .none, .num _ => by simp [NestedKey.data, PyData.eqv]
  | .none, .text _ => by simp [NestedKey.data, PyData.eqv]
  | .none, .tup _ => by simp [NestedKey.data, PyData.eqv]
  | .num _, .none => by simp [NestedKey.data, PyData.eqv]
  | .num _, .num _ => by simp [NestedKey.data, PyData.eqv]
  | .num _, .text _ => by simp [NestedKey.data, PyData.eqv]
  | .num _, .tup _ => by simp [NestedKey.data, PyData.eqv]
  | .text _, .none => by simp [NestedKey.data, PyData.eqv]
  | .text _, .num _ => by simp [NestedKey.data, PyData.eqv]
  | .text _, .text _ => by simp [NestedKey.data, PyData.eqv]
  | .text _, .tup _ => by simp [NestedKey.data, PyData.eqv]
  | .tup _, .none => by simp [NestedKey.data, PyData.eqv]
  | .tup _, .num _ => by simp [NestedKey.data, PyData.eqv]
  | .tup _, .text _ => by simp [NestedKey.data, PyData.eqv]
  | .tup a, .tup b => by
    have h := eqvKs a b
    simp only [NestedKey.data, PyData.eqv]
    rw [h]
    exact ⟨fun e => by rw [e], fun e => by injection e⟩
theorem eqvKs : ∀ ks ks' : List NestedKey, PyData.eqvAll (NestedKey.datas ks) (NestedKey.datas ks') = true ↔ ks = ks'
  | [], [] => by simp [NestedKey.datas, PyData.eqvAll]
  | [], _ :: _ => by simp [NestedKey.datas, PyData.eqvAll]
  | _ :: _, [] => by simp [NestedKey.datas, PyData.eqvAll]
  | a :: r, b :: t => by
    have h1 := eqvK a b
    have h2 := eqvKs r t
    simp only [NestedKey.datas, PyData.eqvAll, Bool.and_eq_true]
    rw [h1, h2]
    exact ⟨fun ⟨x, y⟩ => by rw [x, y], fun e => by injection e with x y; exact ⟨x, y⟩⟩
end
theorem eqvKd (k k' : NestedKey) : k.data.eqv k'.data = decide (k = k') := by
  rw [Bool.eq_iff_iff, eqvK, decide_eq_true_iff]
/-- words that no drawn step has -/
def oddKeys : List NestedKey := [.text "never", .num 99, .tup [.text "do", .text "b"], .tup [.tup [.text "x"]]]
/-- a key that == may meet, that repr shows shortly -/
def okK (k : NestedKey) : Prop := SeqAt.shaped k.data = true ∧ k ∉ oddKeys ∧ k.data.showable = true ∧ k.data.shown.length ≤ 100 ∧ k.data.hasDict = false ∧ k.data.depth ≤ 8
end K8
-- K8Lb
set_option maxRecDepth 100000
set_option maxHeartbeats 400000
namespace K8
open PySem PySem.Spec PyProof.Rows L2
/-! ### drawn plays -/
def base6 : List Str := ["hold", "look", "order", "r9", "wait", "a1"]
structure PlayOk (n : Nat) (ss : List Stp) (bs : List Nat) : Prop where
  n1 : 1 ≤ n
  n20 : n ≤ 20
  few : ss.length ≤ 60
  row : ∀ j, (stepsAt ss j).length ≤ 10
  wd : ∀ s ∈ ss, isWord s.wd = true ∧ dep s.wd < 3 ∧ wide s.wd ≤ 1000 ∧ okK (keyD s.wd)
  one : ∀ s ∈ ss, s.one < n
  oth : ∀ s ∈ ss, s.oth < n
  bars : ∀ s ∈ ss, s.bars.Nodup ∧ Sub s.bars base6
  apart : Apart ss
  bad : ∀ b ∈ bs, b < n
  bnd : bs.Nodup
  bfew : bs.length ≤ 6
def SidesV (G : Hp) (ss : List Stp) : Prop := ∀ s ∈ ss, ∃ kvs, G s.sd = some (.dK kvs) ∧ SideOk kvs
theorem SidesV.same {G H : Hp} {ss : List Stp} (s : Same G H) (h : SidesV G ss) : SidesV H ss := fun x m => let ⟨k, a, b⟩ := h x m; ⟨k, s _ _ a, b⟩
def DrawnV (K : PySem.W.Frag) (G : Hp) (t : Addr) (n : Nat) (ss : List Stp) (bs : List Nat) : Prop := ∃ sl bl xs, SqT K G t [.int (n : Nat), .ref sl, .ref bl] ∧ SqL K G sl xs ∧ StepsV K G xs ss ∧ SqL K G bl (bs.map natV) ∧ SidesV G ss
theorem DrawnV.same {K : PySem.W.Frag} {G H : Hp} {t : Addr} {n : Nat} {ss : List Stp} {bs : List Nat} (s : Same G H) (h : DrawnV K G t n ss bs) : DrawnV K H t n ss bs := let ⟨sl, bl, xs, a, b, c, d, e⟩ := h; ⟨sl, bl, xs, s.tp a, s.seq b, c.same s, s.seq d, e.same s⟩
def allBars (ss : List Stp) : List Str := (ss.map (·.bars)).flatten
theorem mem_allBars {ss : List Stp} {x : Str} : x ∈ allBars ss ↔ ∃ s ∈ ss, x ∈ s.bars := by
  unfold allBars
  simp only [List.mem_flatten, List.mem_map]
  constructor
  · rintro ⟨r, ⟨p, hp, rfl⟩, hx⟩; exact ⟨p, hp, hx⟩
  · rintro ⟨p, hp, hx⟩; exact ⟨_, ⟨p, hp, rfl⟩, hx⟩
/-- what is new of some is added -/
def addNew (fs bars : List Str) : List Str := fs ++ bars.filter fun x => !decide (x ∈ fs)
theorem mem_addNew {fs bars : List Str} {x : Str} : x ∈ addNew fs bars ↔ x ∈ fs ∨ x ∈ bars := by
  unfold addNew
  rw [List.mem_append, List.mem_filter]
  by_cases h : x ∈ fs
  · simp [h]
  · simp [h]
theorem addNew_nodup {fs bars : List Str} (h1 : fs.Nodup) (h2 : bars.Nodup) : (addNew fs bars).Nodup := by
  unfold addNew
  refine List.nodup_append.mpr ⟨h1, h2.filter _, fun a ha b hb e => ?_⟩
  subst e
  have := (List.mem_filter.mp hb).2
  simp [ha] at this
def spXnames (K : PySem.W.Frag) : Sp := fun vs H Q _ => ∃ (G : Hp) (t : Addr) (n : Nat) (ss : List Stp) (bs : List Nat), vs = [.ref t] ∧ Same G H ∧ DrawnV K G t n ss bs ∧ PlayOk n ss bs ∧
  ∀ F H' G' rs, Gr NoM H G G' H' → G' F = some (.lst (List.map V.str rs)) → Srt strO rs → (∀ x, x ∈ rs ↔ x ∈ allBars ss) → Q (.ref F) H'
theorem sc_x_names : FnScope ["_law_drawn", "_law_found", "_law_word", "_law_one", "_law_other", "_law_rules", "_law_sights", "_law_rule"] ["_law_drawn"] (defScope s_x_names) := ⟨rfl, rfl, rfl, by decide +kernel, rfl, by decide +kernel, by decide +kernel⟩
section
variable {P : Program} {w : World} {K : PySem.W.Frag} {mg : Str → Option Value} {base : Heap}
theorem base6_len : base6.length = 6 := rfl
theorem take_len_base {fs : List Str} (h1 : fs.Nodup) (h2 : Sub fs base6) : fs.length ≤ 6 := nodup_len h1 h2
/-- [rule for rule in rules if rule not in found], told as a list -/
theorem new_rd {G H : Hp} {σ : L2.St} {i r n : Nat} {F rl : Addr} {fs bars : List Str} {Q : VK} (hr : ∀ R : VK, R (.ref rl) H → tVar r σ H R)
    (h1 : ∀ (x : V) (H' : Hp) (R : VK), R x H' → tVar n ((wipe σ [n]).set n (some x)) H' R) (h2 : ∀ (x : V) (H' : Hp) (R : VK), R (.ref F) H' → tVar i ((wipe σ [n]).set n (some x)) H' R) (h3 : ∀ x : V, wipe ((wipe σ [n]).set n (some x)) [n] = wipe σ [n])
    (s0 : Same G H) (hb : Sq K G rl (bars.map V.str)) (hf : Sq K H F (fs.map V.str)) (hbl : bars.length ≤ 1000)
    (k : ∀ D H' G', Gr NoM H G G' H' → SqL K G' D ((bars.filter fun x => !decide (x ∈ fs)).map V.str) → Q (.ref D) H') :
    tLc (iSq K (tVar r)) (gName n) (tTest (tOp (rInX K true) (tVar n) (tVar i))) (tVar n) [n] σ H Q := by
  refine lc_any (M := NoM) (.ref rl) G (fun j acc G' => acc = ((bars.take j).filter fun x => !decide (x ∈ fs)).map V.str) hr rfl (fun _ _ z => z) s0 hb (by rw [List.length_map]; exact Nat.le_trans hbl (by decide)) rfl ?_ ?_
  · rintro D hD j v acc G' H' hv g hl rfl
    rw [List.getElem?_map, Option.map_eq_some_iff] at hv
    obtain ⟨x, hx, rfl⟩ := hv
    intro Ky Kn ky kn
    refine ⟨h3 _, ?_⟩
    unfold tTest tOp
    refine h1 _ _ _ ?_
    refine h2 _ _ _ ?_
    refine ⟨F, decide (x ∈ fs), rfl, .inl ⟨fs.map V.str, g.same.q hf, rfl, flat_strs fs, (inV_strs x fs).symm⟩, _, rfl, ?_⟩
    have tk : ((bars.take (j + 1)).filter fun x => !decide (x ∈ fs)).map V.str = ((bars.take j).filter fun x => !decide (x ∈ fs)).map V.str ++ if (!decide (x ∈ fs)) = true then [V.str x] else [] := by
      rw [List.take_succ, hx, List.filter_append, List.map_append]
      congr 1
      by_cases c : (!decide (x ∈ fs)) = true
      · rw [if_pos c]; simp only [Option.toList, List.filter_cons, List.filter_nil]; rw [if_pos c]; rfl
      · rw [if_neg c]; simp only [Option.toList, List.filter_cons, List.filter_nil]; rw [if_neg c]; rfl
    show if (!decide (x ∈ fs)) = true then _ else _
    cases c : !decide (x ∈ fs) with
    | true =>
      rw [c] at tk
      rw [if_pos rfl] at tk
      refine ite_y rfl (h1 _ _ _ (ky _ _ _ (Gr.start g.sub) tk.symm))
    | false =>
      rw [c] at tk
      rw [if_neg Bool.false_ne_true, List.append_nil] at tk
      refine ite_n rfl (kn _ _ (Gr.start g.sub) tk.symm)
  · rintro D acc G' H' hD g hg hl rfl
    rw [List.length_map, List.take_length] at g
    exact k D H' _ g (SqL.of upd_same)
theorem ok_x_names (T : Txt K mg) : Cl P w K mg base CX0 1 "_law_x_names" (spXnames K) := by
  refine cl0 (T.F_x_names) T.g_x_names sc_x_names (fun vs H Q E h => ?_) (fun _ _ _ _ _ _ us hl => match us, hl with | [_], _ => rfl) (fun cdv A outer s H vs Q E hr h => ?_)
  · obtain ⟨G, t, n, ss, bs, rfl, _⟩ := h
    rfl
  · obtain ⟨G, t, n, ss, bs, rfl, s0, ⟨sl, bl, xs, ht, hsl, hxs, hbl, hsd⟩, ok, k⟩ := h
    refine ⟨_, (pss_cons (ps_set (i := 1) sc_x_names.nd rfl (by first | exact Or.inl rfl | exact Or.inr rfl) (pe_lst pa_nil))
      (pss_cons (ps_for PassesOwn.never rfl (sqI (KK := K) (pe_ix (ixQ (KK := K)) (pv 0) pe_int (fun _ _ => rfl))) (tupG (KK := K) (n := 5) (by rfl) (pgs_cons (pg_name (i := 2) sc_x_names.nd rfl (by first | exact Or.inl rfl | exact Or.inr rfl)) (pgs_cons (pg_name (i := 3) sc_x_names.nd rfl (by first | exact Or.inl rfl | exact Or.inr rfl)) (pgs_cons (pg_name (i := 4) sc_x_names.nd rfl (by first | exact Or.inl rfl | exact Or.inr rfl)) (pgs_cons (pg_name (i := 5) sc_x_names.nd rfl (by first | exact Or.inl rfl | exact Or.inr rfl)) (pgs_cons (pg_name (i := 6) sc_x_names.nd rfl (by first | exact Or.inl rfl | exact Or.inr rfl)) pgs_nil))))))
        (pss_one (ps_expr (pe_bm PySem.F.plainAttrs_list PySem.F.slot_list_extend PySem.F.type_list_extend (mtExtQ (KK := K)) (pv 1) (pa_cons (pe_lc (own := [("_law_rule", 7)]) rfl sc_x_names.nd (sqI (KK := K) (pv 5)) (blkOk_by (by kernel_rfl)) (fun _ _ _ _ _ => (pg_name (i := 7) sc_x_names.nd rfl (by first | exact Or.inl rfl | exact Or.inr rfl))) (fun _ _ _ _ _ => (pts_one (pt_cmpR (notInX (KK := K) (u1 hr)) (pv 7) (pv 1) (by rfl)))) (fun _ _ _ _ _ => (pv 7))) pa_nil)))))
      (pss_one (ps_ret (pe_callB (sortQ (KK := K)) (by rfl) T.f_sorted (by decide +kernel) (pa_cons (pv 1) pa_nil)))))), ?_⟩
    refine ⟨by show 0 ≤ sizeLine; decide, fun F hF => ?_⟩
    have g1 := (Gr.start (M := NoM) s0).mine (o := .lst []) hF
    have hGF := s0.free hF
    have hF1 : upd H F (.lst []) F = some (.lst (([] : List Str).map V.str)) := upd_same
    generalize upd H F (.lst []) = H1 at g1 hF1
    dsimp only [tNext, tRet, tOp, tSeq, gName, tAsg]
    refine ⟨_, rfl, t, _, 1, .ref sl, rfl, rfl, .inr (g1.sub.tp ht), atI_nat (j := 1) rfl, sl, rfl, .inl ⟨⟨_, g1.sub.seq hsl⟩, fl_G (K := K) (a := sl) (xs := xs) (fun i σ H' => ∃ (o2 o3 o4 o5 o6 : Option V) (fs : List Str), σ = [some (.ref t), some (.ref F), o2, o3, o4, o5, o6, none] ∧ Gr NoM H G G H' ∧ H' F = some (.lst (fs.map V.str)) ∧ fs.Nodup ∧ (∀ x, x ∈ fs ↔ x ∈ allBars (ss.take i))) G hsl ⟨_, _, _, _, _, [], rfl, g1, hF1, List.nodup_nil, fun x => Iff.rfl⟩ (fun i σ H' ⟨_, _, _, _, _, _, _, g, _⟩ => g.sub) ?_ ?_⟩⟩
    · rintro i v σ H2 hv ⟨o2, o3, o4, o5, o6, fs, rfl, g2, hF2, hnd, hmem⟩
      obtain ⟨st, hst, t2, w', rl, rfl, ht2, hw, hr2⟩ := paired_get hxs hv
      have hstm := List.mem_of_getElem? hst
      obtain ⟨b1, b2⟩ := ok.bars st hstm
      have hsub : Sub fs base6 := fun x m => by
        obtain ⟨s', hs', hx⟩ := mem_allBars.mp ((hmem x).mp m)
        exact (ok.bars s' (List.mem_of_mem_take hs')).2 x hx
      have hf6 := take_len_base hnd hsub
      have hb6 := take_len_base b1 b2
      refine ⟨t2, _, rfl, g2.sub.tp ht2, rfl, ⟨_, _, rfl, ⟨_, _, rfl, ⟨_, _, rfl, ⟨_, _, rfl, ⟨_, _, rfl, ⟨rfl, ?_⟩⟩⟩⟩⟩⟩⟩
      refine ⟨_, rfl, .inl ⟨rfl, _, SqL.of hF2⟩, ?_⟩
      refine new_rd (G := G) (F := F) (rl := rl) (fs := fs) (bars := st.bars) (fun R r => ⟨_, rfl, r⟩) (fun x H' R r => ⟨_, rfl, r⟩) (fun x H' R r => ⟨_, rfl, r⟩) (fun x => rfl) g2.sub (.inl hr2) (.inl (SqL.of hF2)) (by omega) fun D H3 G3 g3 hD3 => ?_
      have hF3 := g3.keep hF2
      have hl3 := List.length_filter_le (fun x => !decide (x ∈ fs)) st.bars
      refine ⟨F, D, _, _, rfl, rfl, hF3, .inl (g3.sub.seq hD3), by rw [List.length_map, List.length_map]; omega, ?_⟩
      refine ⟨_, _, _, _, _, addNew fs st.bars, rfl, ?_, ?_, addNew_nodup hnd b1, fun x => ?_⟩
      · exact (g2.trans (Gr.of g2.sub g3.same)).chg (.inl hF) hGF
      · rw [upd_same]; unfold addNew; rw [List.map_append]
      · rw [mem_addNew, hmem, mem_allBars, mem_allBars, List.take_succ, hst]
        constructor
        · rintro (⟨s', m, hx⟩ | hx)
          · exact ⟨s', List.mem_append.mpr (.inl m), hx⟩
          · exact ⟨st, List.mem_append.mpr (.inr (List.mem_singleton.mpr rfl)), hx⟩
        · rintro ⟨s', m, hx⟩
          rcases List.mem_append.mp m with m | m
          · exact .inl ⟨s', m, hx⟩
          · rw [List.mem_singleton.mp m] at hx; exact .inr hx
    · rintro σ H2 ⟨o2, o3, o4, o5, o6, fs, rfl, g2, hF2, hnd, hmem⟩
      rw [Paired.length hxs, List.take_length] at hmem
      have hsub : Sub fs base6 := fun x m => by
        obtain ⟨s', hs', hx⟩ := mem_allBars.mp ((hmem x).mp m)
        exact (ok.bars s' hs').2 x hx
      have hf6 := take_len_base hnd hsub
      refine ⟨_, rfl, F, fs, rfl, .inl (SqL.of hF2), by omega, fun ys p hperm hsort hp => ?_⟩
      exact k p _ _ ys (g2.newN hp) upd_same (srt_sortedS (hperm.nodup_iff.mpr hnd) hsort) fun x => hperm.mem_iff.trans (hmem x)
end
end K8
-- K8Lc
set_option maxRecDepth 100000
set_option maxHeartbeats 400000
namespace K8
open PySem PySem.Spec PyProof.Rows L2
theorem PlayOk.shut {n : Nat} {ss : List Stp} {bs : List Nat} (h : PlayOk n ss bs) : Shut (tblOf n ss) := by
  have hl : (tblOf n ss).length = n := by unfold tblOf; rw [List.length_map, List.length_range]
  refine ⟨by rw [hl]; exact h.n1, by rw [hl]; exact Nat.le_trans h.n20 (by decide), fun row m => ?_⟩
  obtain ⟨j, hj, rfl⟩ := List.mem_map.mp m
  refine ⟨by rw [List.length_map]; exact Nat.le_trans (h.row j) (by decide), fun e me => ?_⟩
  obtain ⟨s, hs, rfl⟩ := List.mem_map.mp me
  have hsm := (List.mem_filter.mp hs).1
  exact ⟨Nat.le_trans (take_len_base (h.bars s hsm).1 (h.bars s hsm).2) (by decide), by rw [hl]; exact h.oth s hsm⟩
theorem tbl_row {n : Nat} {ss : List Stp} {u : Nat} (hu : u < n) : rowAt (tblOf n ss) u = (stepsAt ss u).map trip := by
  refine rowAt_some ?_
  unfold tblOf
  rw [List.getElem?_map, List.getElem?_range hu]
  rfl
abbrev lawAdj (n : Nat) (ss : List Stp) (rs : List Str) : Adj NestedKey := adjOf (fun r => !decide (r ∈ rs)) (tblOf n ss)
def spXkeeps (K : PySem.W.Frag) : Sp := fun vs H Q _ => ∃ (G : Hp) (t ra : Addr) (n : Nat) (ss : List Stp) (bs : List Nat) (rs : List Str), vs = [.ref t, .ref ra] ∧ Same G H ∧ DrawnV K G t n ss bs ∧ PlayOk n ss bs ∧ Sq K G ra (rs.map V.str) ∧
  ∀ b H', Same H H' → (b = true ↔ ∀ ws v, Pth (lawAdj n ss rs) ws v → v ∉ bs) → Q (.bl b) H'
theorem inV_nat {v : Nat} {bs : List Nat} : inV (natV v) (bs.map natV) = decide (v ∈ bs) := by
  unfold inV
  rw [List.any_map, Bool.eq_iff_iff, List.any_eq_true, decide_eq_true_iff]
  constructor
  · rintro ⟨y, hy, z⟩
    have z : ((y : Int) == (v : Int)) = true := z
    have z := eq_of_beq z
    have : y = v := by omega
    rw [← this]; exact hy
  · intro m
    refine ⟨v, m, ?_⟩
    show ((v : Int) == (v : Int)) = true
    exact beq_self_eq_true _
theorem flat_nats (bs : List Nat) : (bs.map natV).all flatV = true := by
  rw [List.all_map]
  exact List.all_eq_true.mpr fun _ _ => rfl
/-- the law's threats -/
def LotsOk (n : Nat) (ss : List Stp) (bs : List Nat) (names : List Str) (Ls : List (List Str)) : Prop := ∃ p : List Str → Bool, Ls = least ((levelsUpTo ltS names names.length).filter p) ∧ ∀ S, Sub S names → (p S = true ↔ ∃ ws v, Pth (adjOf (fun r => decide (r ∈ S)) (tblOf n ss)) ws v ∧ v ∈ bs)
def spXthreats (K : PySem.W.Frag) : Sp := fun vs H Q _ => ∃ (G : Hp) (t : Addr) (n : Nat) (ss : List Stp) (bs : List Nat), vs = [.ref t] ∧ Same G H ∧ DrawnV K G t n ss bs ∧ PlayOk n ss bs ∧
  ∀ F H' G' ys Ls names, Gr NoM H G G' H' → SqL K G' F ys → SetsV K G' ys Ls → Srt strO names → (∀ x, x ∈ names ↔ x ∈ allBars ss) → LotsOk n ss bs names Ls → Q (.ref F) H'
theorem keepRow_congr {q q' : Str → Bool} {row : Row NestedKey Str} (h : ∀ e ∈ row, ∀ x ∈ e.2.2, q x = q' x) : keepRow q row = keepRow q' row := by
  unfold keepRow
  congr 1
  refine List.filter_congr fun e he => ?_
  rw [Bool.eq_iff_iff, List.all_eq_true, List.all_eq_true]
  exact ⟨fun z x m => by rw [← h e he x m]; exact z x m, fun z x m => by rw [h e he x m]; exact z x m⟩
theorem adjOf_congr {q q' : Str → Bool} {rows : Rows NestedKey Str} (h : ∀ row ∈ rows, ∀ e ∈ row, ∀ x ∈ e.2.2, q x = q' x) : adjOf q rows = adjOf q' rows := by
  unfold adjOf
  exact List.map_congr_left fun row m => keepRow_congr (h row m)
theorem tbl_bars {n : Nat} {ss : List Stp} {row : Row NestedKey Str} (hr : row ∈ tblOf n ss) {e : NestedKey × Nat × List Str} (he : e ∈ row) {x : Str} (hx : x ∈ e.2.2) : x ∈ allBars ss := by
  obtain ⟨j, hj, rfl⟩ := List.mem_map.mp hr
  obtain ⟨s, hs, rfl⟩ := List.mem_map.mp he
  exact mem_allBars.mpr ⟨s, (List.mem_filter.mp hs).1, hx⟩
theorem sc_x_keeps : FnScope ["_law_drawn", "_law_rules", "_law_reached", "_law_stand"] ["_law_drawn", "_law_rules"] (defScope s_x_keeps) := ⟨rfl, rfl, rfl, by decide +kernel, rfl, by decide +kernel, by decide +kernel⟩
theorem sc_x_threats : FnScope ["_law_drawn", "_law_names", "_law_some", "_law_one", "_law_name"] ["_law_drawn"] (defScope s_x_threats) := ⟨rfl, rfl, rfl, by decide +kernel, rfl, by decide +kernel, by decide +kernel⟩
section
variable {P : Program} {w : World} {K : PySem.W.Frag} {mg : Str → Option Value} {base : Heap}
theorem ok_x_keeps (T : Txt K mg) : Cl P w K mg base CX0 3 "_law_x_keeps" (spXkeeps K) := by
  refine cl0 (T.F_x_keeps) T.g_x_keeps sc_x_keeps (fun vs H Q E h => ?_) (fun _ _ _ _ _ _ us hl => match us, hl with | [_, _], _ => rfl) (fun cdv A outer s H vs Q E hr h => ?_)
  · obtain ⟨G, t, ra, n, ss, bs, rs, rfl, _⟩ := h
    rfl
  · obtain ⟨G, t, ra, n, ss, bs, rs, rfl, s0, dv, ok, hra, k⟩ := h
    obtain ⟨sl, bl, xs, ht, hsl, hxs, hbl, hsd⟩ := id dv
    refine ⟨_, (pss_cons (ps_set (i := 2) sc_x_keeps.nd rfl (by first | exact Or.inl rfl | exact Or.inr rfl) (pe_cl (ok_z_levels (K := K) T) hr (by decide) pass0 (pa_cons (pe_cl (ok_z_table (K := K) T) hr (by decide) pass0 (pa_cons (pe_ix (ixQ (KK := K)) (pv 0) pe_int (fun _ _ => rfl)) (pa_cons (pe_ix (ixQ (KK := K)) (pv 0) pe_int (fun _ _ => rfl)) pa_nil))) (pa_cons (pv 1) pa_nil))))
      (pss_one (ps_ret (pe_not (pe_callB (anyK (KK := K) rfl) (by rfl) T.f_any (by decide +kernel) (pa_cons (pe_lock (pe_lc (own := [("_law_stand", 3)]) rfl sc_x_keeps.nd (pi_keys (pv 2)) (blkOk_by (by kernel_rfl)) (fun _ _ _ _ _ => (pg_name (i := 3) sc_x_keeps.nd rfl (by first | exact Or.inl rfl | exact Or.inr rfl))) (fun _ _ _ _ _ => pts_nil) (fun _ _ _ _ _ => (pe_cmpR (inX (KK := K) (u1 hr)) (pv 3) (pe_ix (ixQ (KK := K)) (pv 0) pe_int (fun _ _ => rfl)) (by rfl))))) pa_nil)))))), ?_⟩
    refine ⟨_, rfl, t, _, 0, .int (n : Nat), rfl, rfl, .inr (s0.tp ht), atI_nat (j := 0) rfl, ?_⟩
    refine ⟨_, rfl, t, _, 1, .ref sl, rfl, rfl, .inr (s0.tp ht), atI_nat (j := 1) rfl, ?_⟩
    refine ⟨G, n, sl, xs, ss, rfl, s0, hsl, hxs, Nat.le_trans ok.n20 (by decide), Nat.le_trans ok.few (by decide), fun tb H1 G1 g1 htb => ?_⟩
    refine ⟨_, rfl, G1, tb, ra, tblOf n ss, rs, rfl, g1.sub, htb, g1.up.q hra, ok.shut, fun p H2 G2 found m g2 hp lev hlt => ?_⟩
    dsimp only [tNext, tRet, tOp, tSeq, gName, tAsg]
    have gA := g1.trans g2
    have hp2 := g2.sub _ _ hp
    refine ⟨p, _, hp2, True.intro, fun od => ?_⟩
    have htp : SqT K (upd H2 p (.frz od (.dK (found.map lkv)))) t [.int (n : Nat), .ref sl, .ref bl] := (sameS_upd (v := .frz od (.dK (found.map lkv))) hp2 True.intro).t _ _ (gA.same'.tp ht)
    have hblp : SqL K (upd H2 p (.frz od (.dK (found.map lkv)))) bl (bs.map natV) := (sameS_upd (v := .frz od (.dK (found.map lkv))) hp2 True.intro).l _ _ (gA.same'.seq hbl)
    have hfew : found.length ≤ 1000 := Nat.le_trans (lev_few lev.nd hlt) ok.shut.2.1
    refine ⟨_, rfl, p, od, rfl, .inl ⟨found.map lkv, upd_same, fun L hL => lc_w (M := NoM) (G1 := upd H2 p (.frz od (.dK (found.map lkv)))) walk_keys (fun i H x H' y => y.1) (fun i acc _ => acc = (found.take i).map fun e => V.bl (decide (e.1 ∈ bs))) hL (fun z => z) (Same.refl _) (fun G H gr => (gr.up.trans gr.sub) _ _ upd_same) (by rw [List.length_map]; exact Nat.le_trans hfew (by decide)) rfl ?_ ?_⟩⟩
    · rintro i x acc G6 H6 hi ⟨_, kk, v, hkv, rfl⟩ g6 hl rfl
      rw [List.getElem?_map, Option.map_eq_some_iff] at hkv
      obtain ⟨e, he, ev⟩ := hkv
      cases ev
      intro Ky Kn ky kn
      refine ⟨rfl, y_te ?_⟩
      refine ⟨_, rfl, _, rfl, t, _, 2, .ref bl, rfl, rfl, .inr (g6.same'.tp htp), atI_nat (j := 2) rfl, bl, decide (e.1 ∈ bs), rfl, .inl ⟨bs.map natV, .inl (g6.same'.seq hblp), rfl, flat_nats bs, inV_nat.symm⟩, ?_⟩
      exact ky _ H6 G6 (Gr.start g6.sub) (by show _ = _; rw [all_snoc (f := fun (e : Nat × Nat) => V.bl (decide (e.1 ∈ bs))) he]; rfl)
    · rintro acc G6 H6 g6 hg hl rfl
      rw [List.length_map, List.take_length] at g6
      have hfr : H6 p = some (.frz od (.dK (found.map lkv))) := g6.same _ _ upd_same
      have hLp : L ≠ p := fun e => by subst e; rw [upd_same] at hL; cases hL
      refine ⟨hfr, L, found.map fun e => decide (e.1 ∈ bs), rfl, SqL.of (by rw [upd_ne hLp, g6.sub L _ upd_same, List.map_map]; rfl), _, rfl, ?_⟩
      refine k _ _ (fun b o e => ?_) ?_
      · have e2 := gA.same b o e
        by_cases eb : b = p
        · subst eb; rw [upd_same, ← hp2]; exact e2
        · rw [upd_ne eb]; exact g6.same b o (by rw [upd_ne eb]; exact e2)
      · rw [Bool.not_eq_true', List.any_map]
        constructor
        · intro z ws v hv m
          obtain ⟨kk, hm, _⟩ := lev.all hv
          rw [List.any_eq_false] at z
          exact z _ hm (decide_eq_true m)
        · intro z
          rw [List.any_eq_false]
          intro e he c
          obtain ⟨ws, hw, _⟩ := lev.pth e he
          exact z ws e.1 hw (of_decide_eq_true c)
theorem base_ok : ∀ x ∈ base6, PyData.strOk x = true := by decide +kernel
theorem levels64 {names : List Str} (hn : Srt strO names) (h : names.length ≤ 6) : (levelsUpTo ltS names names.length).length ≤ 64 := by
  have h1 := (levelsUpTo_slt (O := strO) ltS_iff hn names.length).1
  have h2 : (levelsUpTo ltS names names.length).Nodup := h1.imp fun {a b} q e => by subst e; exact slt_irr _ q
  have h3 := nodup_len (b := subs names) h2 fun S m => by
    obtain ⟨q1, q2⟩ := (mem_levelsUpTo (O := strO) ltS_iff hn).mp m
    exact mem_subs hn q1 q2
  rw [subs_len] at h3
  exact Nat.le_trans h3 (Nat.pow_le_pow_right (by decide) h)
theorem ok_x_threats (T : Txt K mg) : Cl P w K mg base CX0 4 "_law_x_threats" (spXthreats K) := by
  refine cl0 (T.F_x_threats) T.g_x_threats sc_x_threats (fun vs H Q E h => ?_) (fun _ _ _ _ _ _ us hl => match us, hl with | [_], _ => rfl) (fun cdv A outer s H vs Q E hr h => ?_)
  · obtain ⟨G, t, n, ss, bs, rfl, _⟩ := h
    rfl
  · obtain ⟨G, t, n, ss, bs, rfl, s0, dv, ok, k⟩ := h
    refine ⟨_, (pss_cons (ps_set (i := 1) sc_x_threats.nd rfl (by first | exact Or.inl rfl | exact Or.inr rfl) (pe_cl (ok_x_names (K := K) T) hr (by decide) pass0 (pa_cons (pv 0) pa_nil)))
      (pss_cons (ps_setLc (i := 2) (own := [("_law_one", 3)]) rfl sc_x_threats.nd rfl rfl (sw_true rfl rfl rfl (by kernel_rfl)) (sqI (KK := K) (pe_cl (ok_x_all (K := K) T) hr (by decide) pass0 (pa_cons (pv 1) pa_nil))) (blkOk_by (by kernel_rfl)) (fun _ _ _ _ _ => (pg_name (i := 3) sc_x_threats.nd rfl (by first | exact Or.inl rfl | exact Or.inr rfl))) (fun _ _ _ _ _ => (pts_one (pt_not (pt_val (pe_cl (ok_x_keeps (K := K) T) hr (by decide) pass0 (pa_cons (pv 0) (pa_cons (pe_lc (own := [("_law_name", 4)]) rfl sc_x_threats.nd (sqI (KK := K) (pv 1)) (blkOk_by (by kernel_rfl)) (fun _ _ _ _ _ => (pg_name (i := 4) sc_x_threats.nd rfl (by first | exact Or.inl rfl | exact Or.inr rfl))) (fun _ _ _ _ _ => (pts_one (pt_cmpR (notInX (KK := K) (u1 hr)) (pv 4) (pv 3) (by rfl)))) (fun _ _ _ _ _ => (pv 4))) pa_nil))))))) (fun _ _ _ _ _ => (pv 3)))
      (pss_one (ps_ret (pe_cl (ok_x_least (K := K) T) hr (by decide) pass0 (pa_cons (pv 2) pa_nil)))))), ?_⟩
    refine ⟨_, rfl, G, t, n, ss, bs, rfl, s0, dv, ok, fun N H1 G1 names g1 hN0 hsrt hmem => ?_⟩
    have hN : SqL K G1 N (names.map V.str) := SqL.of hN0
    have hsub6 : Sub names base6 := fun x m => by
      obtain ⟨s', hs', hx⟩ := mem_allBars.mp ((hmem x).mp m)
      exact (ok.bars s' hs').2 x hx
    have h6 := take_len_base hsrt.nodup hsub6
    dsimp only [tNext, tRet, tOp, tSeq, gName, tAsg]
    refine ⟨_, rfl, G1, N, names, rfl, g1.sub, hN, hsrt, h6, fun x m => base_ok x (hsub6 x m), fun A2 H2 G2 ys g2 hA2 hys => ?_⟩
    have h64 := levels64 hsrt h6
    have hslt := (levelsUpTo_slt (O := strO) ltS_iff hsrt names.length).1
    have hmemL : ∀ S, S ∈ levelsUpTo ltS names names.length ↔ Srt strO S ∧ Sub S names := fun S => mem_levelsUpTo (O := strO) ltS_iff hsrt
    generalize hlv : levelsUpTo ltS names names.length = lv at hys h64 hslt hmemL
    obtain ⟨pr, hpr⟩ : ∃ pr : List Str → Bool, ∀ S, pr S = true ↔ ∃ ws v, Pth (adjOf (fun r => decide (r ∈ S)) (tblOf n ss)) ws v ∧ v ∈ bs := ⟨fun S => @decide _ (Classical.propDecidable _), fun S => @decide_eq_true_iff _ (Classical.propDecidable _)⟩
    have hN2 := g2.up.seq hN
    have dv2 := dv.same (g1.up.trans g2.up)
    refine ⟨A2, rfl, .inl ⟨⟨_, g2.sub.seq hA2⟩, fun D hD => lc_gl (M := NoM) (G1 := G2) (K := K) (fun i acc G' => SetsV K G' acc ((lv.take i).filter pr)) hD (fun z => z) g2.sub hA2 (by rw [Paired.length hys]; exact Nat.le_trans h64 (by decide)) .nil ?_ ?_⟩⟩
    · rintro i v acc G3 H3 hv g3 hl3 hacc
      obtain ⟨S, hSi, hSd⟩ := paired_get hys hv
      obtain ⟨hS1, hS2⟩ := (hmemL S).mp (List.mem_of_getElem? hSi)
      obtain ⟨tS, rfl, hst⟩ := setV_tup (dp_mono g3.up hSd)
      intro Ky Kn ky kn
      refine ⟨rfl, ?_⟩
      refine ⟨_, rfl, ?_⟩
      refine new_rd (G := G3) (F := tS) (rl := N) (fs := S) (bars := names) (fun R r => ⟨_, rfl, r⟩) (fun x H' R r => ⟨_, rfl, r⟩) (fun x H' R r => ⟨_, rfl, r⟩) (fun x => rfl) g3.sub (.inl (g3.up.seq hN2)) (.inr (g3.sub.tp hst)) (by omega) fun D2 H4 G4 g4 hD4 => ?_
      refine ⟨G4, t, D2, n, ss, bs, _, rfl, g4.sub, dv2.same (g3.up.trans g4.up), ok, .inl hD4, fun b H5 s5 hb => ⟨_, rfl, ?_⟩⟩
      have hadj : lawAdj n ss (names.filter fun x => !decide (x ∈ S)) = adjOf (fun r => decide (r ∈ S)) (tblOf n ss) := by
        refine adjOf_congr fun row hr e he x hx => ?_
        have hxn : x ∈ names := (hmem x).mpr (tbl_bars hr he hx)
        by_cases c : x ∈ S
        · have : x ∉ names.filter fun x => !decide (x ∈ S) := fun m => by
            have := (List.mem_filter.mp m).2
            simp [c] at this
          rw [decide_eq_false this, decide_eq_true c]; rfl
        · have : x ∈ names.filter fun x => !decide (x ∈ S) := List.mem_filter.mpr ⟨hxn, by simp [c]⟩
          rw [decide_eq_true this, decide_eq_false c]; rfl
      rw [hadj] at hb
      have eb : (!b) = pr S := by
        rw [Bool.eq_iff_iff, hpr, Bool.not_eq_true']
        constructor
        · intro z
          rw [← Bool.not_eq_true, hb] at z
          exact Classical.byContradiction fun c => z fun ws v hv m => c ⟨ws, v, hv, m⟩
        · rintro ⟨ws, v, hv, m⟩
          rw [← Bool.not_eq_true, hb]
          exact fun z => z ws v hv m
      have g5 : Gr NoM H3 G3 G3 H5 := Gr.of g3.sub (g4.same.trans s5)
      have tk : (lv.take (i + 1)).filter pr = (lv.take i).filter pr ++ if pr S = true then [S] else [] := by
        rw [List.take_succ, hSi, List.filter_append]
        congr 1
        by_cases c : pr S = true
        · rw [if_pos c]; simp only [Option.toList, List.filter_cons, List.filter_nil]; rw [if_pos c]
        · rw [if_neg c]; simp only [Option.toList, List.filter_cons, List.filter_nil]; rw [if_neg c]
      show if (!b) = true then _ else _
      rw [eb]
      cases c : pr S with
      | true =>
        rw [c] at tk
        rw [if_pos rfl] at tk
        refine ite_y rfl ⟨_, rfl, ky _ _ G3 g5 ?_⟩
        show SetsV K G3 _ ((lv.take (i + 1)).filter pr)
        rw [tk]
        exact pair_snoc (P := fun v S => Dp K G3 v (setD S)) (tup_setV hst) hacc
      | false =>
        rw [c] at tk
        rw [if_neg Bool.false_ne_true, List.append_nil] at tk
        refine ite_n rfl (kn _ G3 g5 ?_)
        show SetsV K G3 _ ((lv.take (i + 1)).filter pr)
        rw [tk]
        exact hacc
    · rintro acc G3 H3 g3 hg hl hacc
      rw [Paired.length hys, List.take_length] at hacc
      have hacc := hacc.same (Same.upd_none (o := .lst acc) hg)
      have hD3 : SqL K (upd G3 D (.lst acc)) D acc := SqL.of upd_same
      generalize upd G3 D (.lst acc) = G4 at g3 hacc hD3
      have hfl : (lv.filter pr).length ≤ lv.length := List.length_filter_le ..
      refine ⟨_, rfl, G4, D, acc, _, rfl, g3.sub, hD3, hacc, by omega, fun S m => ?_, fun F H5 G5 ys5 g5 hF5 hys5 => ?_⟩
      · obtain ⟨q1, q2⟩ := (hmemL S).mp (List.mem_filter.mp m).1
        exact Nat.le_trans (nodup_len q1.nodup q2) (Nat.le_trans h6 (by decide))
      · refine k F H5 G5 ys5 _ names ((g1.trans g2).trans (g3.trans g5)) hF5 hys5 hsrt hmem ⟨pr, by rw [hlv], fun S _ => hpr S⟩
end
end K8
-- K8Ld
set_option maxRecDepth 100000
set_option maxHeartbeats 400000
namespace K8
open PySem PySem.Spec PyProof.Rows L2
section
variable {W α : Type}
theorem pth_split {adj : Adj W} {ws : List W} {v : Nat} (h : Pth adj ws v) : ∀ i, i < ws.length → ∃ u nx k, ws[i]? = some k ∧ Pth adj (ws.take i) u ∧ (k, nx) ∈ rowAt adj u ∧ Pth adj (ws.take (i + 1)) nx := by
  induction h with
  | nil => intro i hi; exact absurd hi (Nat.not_lt_zero _)
  | snoc h m ih =>
    rename_i ws u w v
    intro i hi
    rw [List.length_append, List.length_singleton] at hi
    by_cases c : i < ws.length
    · obtain ⟨u', nx, k, h1, h2, h3, h4⟩ := ih i c
      refine ⟨u', nx, k, ?_, ?_, h3, ?_⟩
      · rw [List.getElem?_append_left c]; exact h1
      · rw [List.take_append_of_le_length (Nat.le_of_lt c)]; exact h2
      · rw [List.take_append_of_le_length c]; exact h4
    · have e : i = ws.length := by omega
      subst e
      refine ⟨u, v, w, ?_, ?_, m, ?_⟩
      · rw [List.getElem?_append_right (Nat.le_refl _)]; simp
      · rw [List.take_append_of_le_length (Nat.le_refl _), List.take_length]; exact h
      · rw [List.take_of_length_le (by rw [List.length_append]; exact Nat.le_refl _)]; exact .snoc h m
theorem go_split {rows : Rows W α} {ws : List W} {v : Nat} {B : List α} (h : Go rows ws v B) : ∀ i, i < ws.length → ∃ u nx k B' R, ws[i]? = some k ∧ Go rows (ws.take i) u B' ∧ (k, nx, R) ∈ rowAt rows u ∧ Go rows (ws.take (i + 1)) nx (B' ++ R) := by
  induction h with
  | nil => intro i hi; exact absurd hi (Nat.not_lt_zero _)
  | snoc h m ih =>
    rename_i ws u B w v R
    intro i hi
    rw [List.length_append, List.length_singleton] at hi
    by_cases c : i < ws.length
    · obtain ⟨u', nx, k, B', R', h1, h2, h3, h4⟩ := ih i c
      refine ⟨u', nx, k, B', R', ?_, ?_, h3, ?_⟩
      · rw [List.getElem?_append_left c]; exact h1
      · rw [List.take_append_of_le_length (Nat.le_of_lt c)]; exact h2
      · rw [List.take_append_of_le_length c]; exact h4
    · have e : i = ws.length := by omega
      subst e
      refine ⟨u, v, w, B, R, ?_, ?_, m, ?_⟩
      · rw [List.getElem?_append_right (Nat.le_refl _)]; simp
      · rw [List.take_append_of_le_length (Nat.le_refl _), List.take_length]; exact h
      · rw [List.take_of_length_le (by rw [List.length_append]; exact Nat.le_refl _)]; exact .snoc h m
theorem Pth.det {q : α → Bool} {rows : Rows W α} (hd : ∀ u, ((rowAt rows u).map (·.1)).Nodup) {ws : List W} {u u' : Nat} (a : Pth (adjOf q rows) ws u) (b : Pth (adjOf q rows) ws u') : u = u' := by
  obtain ⟨B, h1, _⟩ := pth_iff.mp a
  obtain ⟨B', h2, _⟩ := pth_iff.mp b
  exact (Go.det hd h1 h2).1
theorem filt_one {β κ : Type} [DecidableEq κ] {f : β → κ} : ∀ {l : List β}, (l.map f).Nodup → ∀ {e : β}, e ∈ l → l.filter (fun x => decide (f x = f e)) = [e]
  | [], _, _, m => nomatch m
  | x :: r, h, e, m => by
    obtain ⟨h1, h2⟩ := List.nodup_cons.mp h
    rcases List.mem_cons.mp m with rfl | m
    · rw [List.filter_cons, if_pos (decide_eq_true rfl)]
      congr 1
      rw [List.filter_eq_nil_iff]
      intro y hy c
      exact h1 (List.mem_map.mpr ⟨y, hy, of_decide_eq_true c⟩)
    · have : ¬ f x = f e := fun z => h1 (List.mem_map.mpr ⟨e, m, z.symm⟩)
      rw [List.filter_cons, if_neg (by rw [decide_eq_true_iff]; exact this)]
      exact filt_one h2 m
end
theorem PlayOk.det {n : Nat} {ss : List Stp} {bs : List Nat} (h : PlayOk n ss bs) (u : Nat) : ((rowAt (tblOf n ss) u).map (·.1)).Nodup := by
  by_cases c : u < n
  · rw [tbl_row c, List.map_map]
    have h1 : (stepsAt ss u).Pairwise fun a b => ¬ (a.one = b.one ∧ keyD a.wd = keyD b.wd) := List.Pairwise.sublist List.filter_sublist h.apart
    refine List.pairwise_map.mpr (List.Pairwise.imp_of_mem (fun {a b} ha hb z e => z ⟨?_, e⟩) h1)
    have ea := (List.mem_filter.mp ha).2
    have eb := (List.mem_filter.mp hb).2
    rw [eq_of_beq ea, eq_of_beq eb]
  · rw [rowAt_none (List.getElem?_eq_none (by unfold tblOf; rw [List.length_map, List.length_range]; omega))]
    exact List.nodup_nil
theorem PlayOk.okk {n : Nat} {ss : List Stp} {bs : List Nat} (h : PlayOk n ss bs) {u : Nat} {e : NestedKey × Nat × List Str} (m : e ∈ rowAt (tblOf n ss) u) : okK e.1 := by
  by_cases c : u < n
  · rw [tbl_row c] at m
    obtain ⟨s, hs, rfl⟩ := List.mem_map.mp m
    exact (h.wd s (List.mem_filter.mp hs).1).2.2.2
  · rw [rowAt_none (List.getElem?_eq_none (by unfold tblOf; rw [List.length_map, List.length_range]; omega))] at m
    cases m
theorem adj_key_nd {q : Str → Bool} {rows : Rows NestedKey Str} (hd : ∀ u, ((rowAt rows u).map (·.1)).Nodup) (u : Nat) : ((rowAt (adjOf q rows) u).map (·.1)).Nodup := by
  rw [rowAt_adjOf]
  unfold keepRow
  rw [List.map_map]
  exact List.Nodup.sublist (List.Sublist.map _ List.filter_sublist) (hd u)
def spWalk (K : PySem.W.Frag) : Sp := fun vs H Q _ => ∃ (G : Hp) (tb ra ru : Addr) (rows : Rows NestedKey Str) (rs : List Str) (xs : List V) (ks : List NestedKey) (v : Nat), vs = [.ref tb, .ref ra, .ref ru] ∧ Same G H ∧ TblV K G tb rows ∧ Sq K G ra (rs.map V.str) ∧ SqL K G ru xs ∧ DpAll K G xs (ks.map NestedKey.data) ∧ Shut rows ∧ (∀ u, ((rowAt rows u).map (·.1)).Nodup) ∧ (∀ u, ∀ e ∈ rowAt rows u, okK e.1) ∧
  Pth (adjOf (fun r => !decide (r ∈ rs)) rows) ks v ∧ ∀ H', Same H H' → Q (.int (v : Nat)) H'
theorem sc_z_walk : FnScope ["_law_table_here", "_law_rules", "_law_run_here", "_law_here", "_law_word", "_law_told", "_law_one", "_law_other"] ["_law_table_here", "_law_rules", "_law_run_here"] (defScope s_z_walk) := ⟨rfl, rfl, rfl, by decide +kernel, rfl, by decide +kernel, by decide +kernel⟩
section
variable {P : Program} {w : World} {K : PySem.W.Frag} {mg : Str → Option Value} {base : Heap}
theorem ok_z_walk (T : Txt K mg) : Cl P w K mg base CX0 2 "_law_walk" (spWalk K) := by
  refine cl0 (T.F_z_walk) T.g_z_walk sc_z_walk (fun vs H Q E h => ?_) (fun _ _ _ _ _ _ us hl => match us, hl with | [_, _, _], _ => rfl) (fun cdv A outer s H vs Q E hr h => ?_)
  · obtain ⟨G, tb, ra, ru, rows, rs, xs, ks, v, rfl, _⟩ := h
    rfl
  · obtain ⟨G, tb, ra, ru, rows, rs, xs, ks, v, rfl, s0, htb, hra, hru, hxs, shut, det, okk, hpth, k⟩ := h
    refine ⟨_, (pss_cons (ps_set (i := 3) sc_z_walk.nd rfl (by first | exact Or.inl rfl | exact Or.inr rfl) pe_int)
      (pss_cons (ps_for PassesOwn.never rfl (sqI (KK := K) (pv 2)) (pg_name (i := 4) sc_z_walk.nd rfl (by first | exact Or.inl rfl | exact Or.inr rfl))
        (pss_cons (ps_setLc (i := 5) (own := [("_law_one", 6), ("_law_other", 7)]) rfl sc_z_walk.nd rfl rfl (sw_true rfl rfl rfl (by kernel_rfl)) (sqI (KK := K) (pe_cl (ok_z_next (K := K) T) hr (by decide) pass0 (pa_cons (pv 0) (pa_cons (pv 1) (pa_cons (pv 3) pa_nil))))) (blkOk_by (by kernel_rfl)) (fun _ _ _ _ _ => (tupG (KK := K) (n := 2) (by rfl) (pgs_cons (pg_name (i := 6) sc_z_walk.nd rfl (by first | exact Or.inl rfl | exact Or.inr rfl)) (pgs_cons (pg_name (i := 7) sc_z_walk.nd rfl (by first | exact Or.inl rfl | exact Or.inr rfl)) pgs_nil)))) (fun _ _ _ _ _ => (pts_one (pt_cmpR (eqDD (KK := K) (u64 hr)) (pv 6) (pv 4) (nomark _)))) (fun _ _ _ _ _ => (pv 7)))
        (pss_cons (ps_if (pt_cmpR (eqNil (KK := K) (u1 hr)) (pv 5) (pe_lst pa_nil) (nomark _))
          (pss_one (ps_ret pe_non))
          pss_nil)
        (pss_one (ps_set (i := 3) sc_z_walk.nd rfl (by first | exact Or.inl rfl | exact Or.inr rfl) (pe_ix (ixQ (KK := K)) (pv 5) pe_int (fun _ _ => rfl)))))))
      (pss_one (ps_ret (pv 3))))), ?_⟩
    have hxl : xs.length = ks.length := by rw [dpA_length hxs, List.length_map]
    refine ⟨_, rfl, ru, rfl, .inl ⟨⟨_, s0.seq hru⟩, fl_G (K := K) (a := ru) (xs := xs) (fun i σ H' => ∃ (here : Nat) (o4 o5 : Option V) (G2 : Hp), σ = [some (.ref tb), some (.ref ra), some (.ref ru), some (.int (here : Nat)), o4, o5, none, none] ∧ Gr NoM H G G2 H' ∧ Pth (adjOf (fun r => !decide (r ∈ rs)) rows) (ks.take i) here ∧ here < rows.length) G hru ⟨0, _, _, G, rfl, Gr.start s0, .nil, shut.1⟩ (fun i σ H' ⟨_, _, _, _, _, g, _⟩ => g.same') ?_ ?_⟩⟩
    · rintro i x σ H2 hx ⟨here, o4, o5, G2, rfl, g2, hp, hlt⟩
      have hil : i < ks.length := by rw [← hxl]; exact (List.getElem?_eq_some_iff.mp hx).1
      obtain ⟨u, nx, kk, hki, hpu, hrow, hpn⟩ := pth_split hpth i hil
      have := Pth.det det hp hpu
      subst this
      obtain ⟨dx, hdx, hxd⟩ := dpA_get hxs hx
      rw [List.getElem?_map, hki] at hdx
      cases hdx
      have hkok : okK kk := by
        have hrow' := hrow
        rw [rowAt_adjOf] at hrow'
        obtain ⟨R, m, _⟩ := mem_keepRow.mp hrow'
        exact okk here _ m
      have hnx : nx < rows.length := shut.lt hrow
      refine ⟨_, rfl, _, rfl, _, rfl, G2, tb, ra, here, rows, rs, rfl, g2.sub, htb.same g2.up, g2.up.q hra, hlt, shut.bd, fun l H3 G3 ys g3 hl hys => ⟨l, rfl, .inl ⟨⟨_, g3.sub.seq hl⟩, fun D hD => ?_⟩⟩⟩
      have hylen : ys.length ≤ 1000 := by
        have h1 : (keepRow (fun r => !decide (r ∈ rs)) (rowAt rows here)).length ≤ (rowAt rows here).length := by
          unfold keepRow
          rw [List.length_map]
          exact List.length_filter_le ..
        rw [Paired.length hys]
        refine Nat.le_trans h1 ?_
        rw [rowAt_some (List.getElem?_eq_getElem hlt)]
        exact (shut.bd _ (List.getElem_mem hlt)).1
      have hrw : keepRow (fun r => !decide (r ∈ rs)) (rowAt rows here) = rowAt (adjOf (fun r => !decide (r ∈ rs)) rows) here := (rowAt_adjOf _ _ _).symm
      rw [hrw] at hys
      have hadd := adj_key_nd (q := fun r => !decide (r ∈ rs)) det here
      have hokrow : ∀ e ∈ rowAt (adjOf (fun r => !decide (r ∈ rs)) rows) here, okK e.1 := fun e me => by
        rw [rowAt_adjOf] at me
        obtain ⟨w1, v1⟩ := e
        obtain ⟨R, m, _⟩ := mem_keepRow.mp me
        exact okk here _ m
      generalize rowAt (adjOf (fun r => !decide (r ∈ rs)) rows) here = row at hys hrow hadd hokrow
      refine lc_gl (M := NoM) (G1 := G3) (K := K) (fun j acc _ => acc = ((row.take j).filter fun e => decide (e.1 = kk)).map fun e => natV e.2) hD (fun z => z) g3.sub hl (Nat.le_trans hylen (by decide)) rfl ?_ ?_
      · rintro j y acc G4 H4 hy g4 hl4 rfl
        obtain ⟨e, he, t, w', rfl, ht, hw⟩ := paired_get hys hy
        intro Ky Kn ky kn
        refine ⟨t, _, rfl, g4.same'.tp ht, rfl, ⟨_, _, rfl, ⟨_, _, rfl, ⟨rfl, ⟨rfl, ?_⟩⟩⟩⟩⟩
        have hok1 := hokrow e (List.mem_of_getElem? he)
        refine ⟨_, rfl, _, rfl, e.1.data, kk.data, dp_mono g4.same' hw, dp_mono ((g2.trans g3).up.trans g4.same') hxd, hok1.1, hkok.1, _, rfl, ?_⟩
        rw [eqvKd]
        have tk : ((row.take (j + 1)).filter fun e => decide (e.1 = kk)).map (fun e => natV e.2) = ((row.take j).filter fun e => decide (e.1 = kk)).map (fun e => natV e.2) ++ if decide (e.1 = kk) = true then [natV e.2] else [] := by
          rw [List.take_succ, he, List.filter_append, List.map_append]
          congr 1
          by_cases c : decide (e.1 = kk) = true
          · rw [if_pos c]; simp only [Option.toList, List.filter_cons, List.filter_nil]; rw [if_pos c]; rfl
          · rw [if_neg c]; simp only [Option.toList, List.filter_cons, List.filter_nil]; rw [if_neg c]; rfl
        cases c : decide (e.1 = kk) with
        | true =>
          rw [c] at tk
          rw [if_pos rfl] at tk
          exact ite_y rfl ⟨_, rfl, ky _ _ G4 (Gr.start g4.sub) tk.symm⟩
        | false =>
          rw [c] at tk
          rw [if_neg Bool.false_ne_true, List.append_nil] at tk
          exact ite_n rfl (kn _ G4 (Gr.start g4.sub) tk.symm)
      · rintro acc G4 H4 g4 hg hl4 rfl
        rw [Paired.length hys, List.take_length] at g4
        have e1 : row.filter (fun e => decide (e.1 = kk)) = [(kk, nx)] := filt_one (f := fun e : NestedKey × Nat => e.1) hadd hrow
        rw [e1] at g4
        have hD4 : SqL K (upd G4 D (.lst [natV nx])) D [natV nx] := SqL.of upd_same
        change Gr NoM H3 G3 (upd G4 D (.lst [natV nx])) H4 at g4
        generalize upd G4 D (.lst [natV nx]) = G5 at g4 hD4
        dsimp only [tNext, tRet, tOp, tSeq, gName, tAsg]
        refine ⟨_, rfl, by show 0 ≤ sizeLine; decide, fun e he => ⟨D, e, _, rfl, rfl, (g4.sub.to_upd he).seq hD4, SqL.of upd_same, ⟨_, rfl, ?_⟩⟩⟩
        refine ite_n rfl ?_
        have g6 := g4.mine (o := .lst []) he
        refine ⟨_, rfl, D, _, 0, natV nx, rfl, rfl, .inl (g6.sub.seq hD4), atI_nat (j := 0) rfl, ?_⟩
        exact ⟨nx, _, _, G5, rfl, (g2.trans g3).trans g6, hpn, hnx⟩
    · rintro σ H2 ⟨here, o4, o5, G2, rfl, g2, hp, hlt⟩
      rw [hxl, List.take_length] at hp
      have := Pth.det det hp hpth
      subst this
      exact ⟨_, rfl, k _ g2.same⟩
end
end K8
-- K8Le
set_option maxRecDepth 100000
set_option maxHeartbeats 400000
namespace K8
open PySem PySem.Spec PyProof.Rows L2
def spXbars (K : PySem.W.Frag) : Sp := fun vs H Q _ => ∃ (G : Hp) (t ru : Addr) (n : Nat) (ss : List Stp) (bs : List Nat) (xs : List V) (ks : List NestedKey) (v : Nat) (B : List Str), vs = [.ref t, .ref ru] ∧ Same G H ∧ DrawnV K G t n ss bs ∧ PlayOk n ss bs ∧ SqL K G ru xs ∧ DpAll K G xs (ks.map NestedKey.data) ∧ Go (tblOf n ss) ks v B ∧
  ∀ F H' G' zs, Gr NoM H G G' H' → SqL K G' F (List.map V.str zs) → Srt strO zs → (∀ x, x ∈ zs ↔ x ∈ B) → Q (.ref F) H'
theorem go_sub {n : Nat} {ss : List Stp} {bs : List Nat} (ok : PlayOk n ss bs) {ks : List NestedKey} {v : Nat} {B : List Str} (g : Go (tblOf n ss) ks v B) : Sub B base6 := by
  induction g with
  | nil => exact fun _ m => nomatch m
  | snoc g m ih =>
    intro x hx
    rcases List.mem_append.mp hx with hx | hx
    · exact ih x hx
    · rename_i ws' u B' w v R hx0
      by_cases c : u < n
      · rw [tbl_row c] at m
        obtain ⟨s, hs, e⟩ := List.mem_map.mp m
        cases e
        exact (ok.bars s (List.mem_filter.mp hs).1).2 x hx
      · rw [rowAt_none (List.getElem?_eq_none (by unfold tblOf; rw [List.length_map, List.length_range]; omega))] at m
        cases m
theorem tbl_len {n : Nat} {ss : List Stp} : (tblOf n ss).length = n := by unfold tblOf; rw [List.length_map, List.length_range]
theorem go_lt {n : Nat} {ss : List Stp} {bs : List Nat} (ok : PlayOk n ss bs) {ks : List NestedKey} {v : Nat} {B : List Str} (g : Go (tblOf n ss) ks v B) : v < n := by
  have h := Go.lt ok.shut.1 (fun u e m => by
    cases hr : (tblOf n ss)[u]? with
    | none => rw [rowAt_none hr] at m; cases m
    | some row =>
      rw [rowAt_some hr] at m
      exact ((ok.shut.2.2 row (List.mem_of_getElem? hr)).2 e m).2) g
  rwa [tbl_len] at h
theorem sc_x_bars : FnScope ["_law_drawn", "_law_run_here", "_law_here", "_law_found", "_law_word", "_law_one", "_law_other", "_law_rules", "_law_row", "_law_rule"] ["_law_drawn", "_law_run_here"] (defScope s_x_bars) := ⟨rfl, rfl, rfl, by decide +kernel, rfl, by decide +kernel, by decide +kernel⟩
section
variable {P : Program} {w : World} {K : PySem.W.Frag} {mg : Str → Option Value} {base : Heap}
theorem ok_x_bars (T : Txt K mg) : Cl P w K mg base CX0 2 "_law_x_bars" (spXbars K) := by
  refine cl0 (T.F_x_bars) T.g_x_bars sc_x_bars (fun vs H Q E h => ?_) (fun _ _ _ _ _ _ us hl => match us, hl with | [_, _], _ => rfl) (fun cdv A outer s H vs Q E hr h => ?_)
  · obtain ⟨G, t, ru, n, ss, bs, xs, ks, v, B, rfl, _⟩ := h
    rfl
  · obtain ⟨G, t, ru, n, ss, bs, xs, ks, v, B, rfl, s0, dv, ok, hru, hxs, hgo, k⟩ := h
    obtain ⟨sl, bl, sv, ht, hsl, hss, hbl, hsd⟩ := id dv
    refine ⟨_, (pss_cons (ps_asg (pe_tup (pa_cons pe_int (pa_cons (pe_lst pa_nil) pa_nil))) (tupG (KK := K) (n := 2) (by rfl) (pgs_cons (pg_name (i := 2) sc_x_bars.nd rfl (by first | exact Or.inl rfl | exact Or.inr rfl)) (pgs_cons (pg_name (i := 3) sc_x_bars.nd rfl (by first | exact Or.inl rfl | exact Or.inr rfl)) pgs_nil))))
      (pss_cons (ps_for PassesOwn.never rfl (sqI (KK := K) (pv 1)) (pg_name (i := 4) sc_x_bars.nd rfl (by first | exact Or.inl rfl | exact Or.inr rfl))
        (pss_one (ps_for PassesOwn.never rfl (sqI (KK := K) (pe_lc (own := [("_law_row", 8)]) rfl sc_x_bars.nd (sqI (KK := K) (pe_ix (ixQ (KK := K)) (pe_cl (ok_z_table (K := K) T) hr (by decide) pass0 (pa_cons (pe_ix (ixQ (KK := K)) (pv 0) pe_int (fun _ _ => rfl)) (pa_cons (pe_ix (ixQ (KK := K)) (pv 0) pe_int (fun _ _ => rfl)) pa_nil))) (pv 2) (fun _ _ => rfl))) (blkOk_by (by kernel_rfl)) (fun _ _ _ _ _ => (pg_name (i := 8) sc_x_bars.nd rfl (by first | exact Or.inl rfl | exact Or.inr rfl))) (fun _ _ _ _ _ => (pts_one (pt_cmpR (eqDD (KK := K) (u64 hr)) (pe_ix (ixQ (KK := K)) (pv 8) pe_int (fun _ _ => rfl)) (pv 4) (nomark _)))) (fun _ _ _ _ _ => (pv 8)))) (tupG (KK := K) (n := 3) (by rfl) (pgs_cons (pg_name (i := 5) sc_x_bars.nd rfl (by first | exact Or.inl rfl | exact Or.inr rfl)) (pgs_cons (pg_name (i := 6) sc_x_bars.nd rfl (by first | exact Or.inl rfl | exact Or.inr rfl)) (pgs_cons (pg_name (i := 7) sc_x_bars.nd rfl (by first | exact Or.inl rfl | exact Or.inr rfl)) pgs_nil))))
          (pss_cons (ps_set (i := 2) sc_x_bars.nd rfl (by first | exact Or.inl rfl | exact Or.inr rfl) (pv 6))
          (pss_one (ps_expr (pe_bm PySem.F.plainAttrs_list PySem.F.slot_list_extend PySem.F.type_list_extend (mtExtQ (KK := K)) (pv 3) (pa_cons (pe_lc (own := [("_law_rule", 9)]) rfl sc_x_bars.nd (sqI (KK := K) (pv 7)) (blkOk_by (by kernel_rfl)) (fun _ _ _ _ _ => (pg_name (i := 9) sc_x_bars.nd rfl (by first | exact Or.inl rfl | exact Or.inr rfl))) (fun _ _ _ _ _ => (pts_one (pt_cmpR (notInX (KK := K) (u1 hr)) (pv 9) (pv 3) (by rfl)))) (fun _ _ _ _ _ => (pv 9))) pa_nil))))))))
      (pss_one (ps_ret (pe_callB (sortQ (KK := K)) (by rfl) T.f_sorted (by decide +kernel) (pa_cons (pv 3) pa_nil)))))), ?_⟩
    have hxl : xs.length = ks.length := by rw [dpA_length hxs, List.length_map]
    refine ⟨by show 0 ≤ sizeLine; decide, fun F hF => ⟨by show 2 ≤ sizeLine; decide, fun tt htt => ⟨tt, _, rfl, SqT.of upd_same, rfl, ⟨_, _, rfl, ⟨_, _, rfl, ⟨rfl, ?_⟩⟩⟩⟩⟩⟩
    have g1 := (Gr.start (M := NoM) s0).mine (o := .lst []) hF
    have hGF := s0.free hF
    have hF1 : upd H F (.lst []) F = some (.lst (([] : List Str).map V.str)) := upd_same
    generalize upd H F (.lst []) = H0 at g1 hF1 htt ⊢
    have g1 := g1.mine (o := .tup [.int 0, .ref F]) htt
    have hF1 : upd H0 tt (.tup [.int 0, .ref F]) F = some (.lst (([] : List Str).map V.str)) := by rw [upd_ne (ne_sn hF1 htt)]; exact hF1
    generalize upd H0 tt (.tup [.int 0, .ref F]) = H1 at g1 hF1
    dsimp only [tNext, tRet, tOp, tSeq, gName, tAsg]
    refine ⟨_, rfl, ru, rfl, .inl ⟨⟨_, g1.sub.seq hru⟩, fl_G (K := K) (a := ru) (xs := xs) (fun i σ H' => ∃ (here : Nat) (o4 o5 o6 o7 : Option V) (fs B' : List Str) (G2 : Hp), σ = [some (.ref t), some (.ref ru), some (.int (here : Nat)), some (.ref F), o4, o5, o6, o7, none, none] ∧ Gr NoM H G G2 H' ∧ G2 F = none ∧ H' F = some (.lst (fs.map V.str)) ∧ fs.Nodup ∧ (∀ x, x ∈ fs ↔ x ∈ B') ∧ Go (tblOf n ss) (ks.take i) here B') G hru ⟨0, _, _, _, _, [], [], G, rfl, g1, hGF, hF1, List.nodup_nil, fun x => Iff.rfl, .nil⟩ (fun i σ H' ⟨_, _, _, _, _, _, _, _, _, g, _⟩ => g.same') ?_ ?_⟩⟩
    · rintro i x σ H2 hx ⟨here, o4, o5, o6, o7, fs, B', G2, rfl, g2, hGF2, hF2, hnd, hmem, hgo2⟩
      have hil : i < ks.length := by rw [← hxl]; exact (List.getElem?_eq_some_iff.mp hx).1
      obtain ⟨u, nx, kk, B2, R, hki, hgu, hrow, hgn⟩ := go_split hgo i hil
      obtain ⟨e1, e2⟩ := Go.det ok.det hgo2 hgu
      subst e1 e2
      obtain ⟨dx, hdx, hxd⟩ := dpA_get hxs hx
      rw [List.getElem?_map, hki] at hdx
      cases hdx
      have hkok : okK kk := ok.okk hrow
      have hlt := go_lt ok hgo2
      have htH := g2.same'.tp ht
      refine ⟨_, rfl, t, _, 0, .int (n : Nat), rfl, rfl, .inr htH, atI_nat (j := 0) rfl, ?_⟩
      refine ⟨_, rfl, t, _, 1, .ref sl, rfl, rfl, .inr htH, atI_nat (j := 1) rfl, ?_⟩
      refine ⟨G2, n, sl, sv, ss, rfl, g2.sub, g2.up.seq hsl, hss.same g2.up, Nat.le_trans ok.n20 (by decide), Nat.le_trans ok.few (by decide), fun tb H3 G3 g3 ⟨as, has, prow⟩ => ?_⟩
      obtain ⟨va, hva⟩ : ∃ v, as[here]? = some v := ⟨_, List.getElem?_eq_getElem (by rw [Paired.length prow, tbl_len]; exact hlt)⟩
      obtain ⟨row, hrowe, a, ys, rfl, hys, ptr⟩ := paired_get prow hva
      have erow : rowAt (tblOf n ss) here = row := rowAt_some hrowe
      have hdet := ok.det here
      have hokr : ∀ e ∈ row, okK e.1 := fun e me => ok.okk (u := here) (by rw [erow]; exact me)
      rw [erow] at hrow hdet
      have hrl : row.length ≤ 1000 := (ok.shut.bd row (List.mem_of_getElem? hrowe)).1
      refine ⟨_, rfl, tb, as, _, .ref a, rfl, rfl, .inl (g3.sub.seq has), atI_nat hva, a, rfl, .inl ⟨⟨_, g3.sub.seq hys⟩, fun D hD => ?_⟩⟩
      refine lc_gl (M := NoM) (G1 := G3) (K := K) (fun j acc G' => Paired (TripV K G') acc ((row.take j).filter fun e => decide (e.1 = kk))) hD (fun z => z) g3.sub hys (by rw [Paired.length ptr]; exact Nat.le_trans hrl (by decide)) .nil ?_ ?_
      · rintro j y acc G4 H4 hy g4 hl4 hacc
        obtain ⟨e, he, hev⟩ := paired_get ptr hy
        obtain ⟨t', w', rl, rfl, ht', hw, hr'⟩ := id hev
        intro Ky Kn ky kn
        refine ⟨rfl, ?_⟩
        have hok1 := hokr e (List.mem_of_getElem? he)
        refine ⟨_, rfl, t', _, 0, w', rfl, rfl, .inr (g4.same'.tp ht'), atI_nat (j := 0) rfl, ?_⟩
        refine ⟨_, rfl, e.1.data, kk.data, dp_mono g4.same' hw, dp_mono ((g2.trans g3).up.trans g4.same') hxd, hok1.1, hkok.1, _, rfl, ?_⟩
        rw [eqvKd]
        have tk : (row.take (j + 1)).filter (fun e => decide (e.1 = kk)) = (row.take j).filter (fun e => decide (e.1 = kk)) ++ if decide (e.1 = kk) = true then [e] else [] := by
          rw [List.take_succ, he, List.filter_append]
          congr 1
          by_cases c : decide (e.1 = kk) = true
          · rw [if_pos c]; simp only [Option.toList, List.filter_cons, List.filter_nil]; rw [if_pos c]
          · rw [if_neg c]; simp only [Option.toList, List.filter_cons, List.filter_nil]; rw [if_neg c]
        cases c : decide (e.1 = kk) with
        | true =>
          rw [c] at tk
          rw [if_pos rfl] at tk
          refine ite_y rfl ⟨_, rfl, ky _ _ G4 (Gr.start g4.sub) ?_⟩
          show Paired _ _ ((row.take (j + 1)).filter fun e => decide (e.1 = kk))
          rw [tk]
          exact pair_snoc (P := TripV K G4) (hev.same g4.up) hacc
        | false =>
          rw [c] at tk
          rw [if_neg Bool.false_ne_true, List.append_nil] at tk
          refine ite_n rfl (kn _ G4 (Gr.start g4.sub) ?_)
          show Paired _ _ ((row.take (j + 1)).filter fun e => decide (e.1 = kk))
          rw [tk]
          exact hacc
      · rintro acc G4 H4 g4 hg hl4 hacc
        rw [Paired.length ptr, List.take_length] at hacc
        have e1 : row.filter (fun e => decide (e.1 = kk)) = [(kk, nx, R)] := filt_one (f := fun e : NestedKey × Nat × List Str => e.1) hdet hrow
        rw [e1] at hacc
        have hacc := pair_imp (fun _ _ => TripV.same (Same.upd_none (o := .lst acc) hg)) hacc
        have hD4 : SqL K (upd G4 D (.lst acc)) D acc := SqL.of upd_same
        generalize upd G4 D (.lst acc) = G5 at g4 hD4 hacc
        have hF4 : H4 F = some (.lst (fs.map V.str)) := (g3.trans g4).keep hF2
        have hGF5 : G5 F = none := (g3.trans g4).out hF2 hGF2
        have g5 := (g2.trans g3).trans g4
        have hacl : acc.length = 1 := Paired.length hacc
        refine ⟨D, rfl, .inl ⟨⟨_, g4.sub.seq hD4⟩, fl_G (K := K) (a := D) (xs := acc) (fun j σ H' => ∃ (o5 o6 o7 : Option V) (fs : List Str), σ = [some (.ref t), some (.ref ru), some (.int ((if j = 0 then here else nx : Nat) : Int)), some (.ref F), some x, o5, o6, o7, none, none] ∧ Gr NoM H G G5 H' ∧ H' F = some (.lst (fs.map V.str)) ∧ fs.Nodup ∧ (∀ x, x ∈ fs ↔ x ∈ if j = 0 then B' else B' ++ R)) G5 hD4 ⟨_, _, _, fs, rfl, g5, hF4, hnd, hmem⟩ (fun j σ H' ⟨_, _, _, _, _, g, _⟩ => g.sub) ?_ ?_⟩⟩
        · rintro j y σ H5 hy ⟨o5, o6, o7, fs, rfl, g6, hF5, hnd5, hmem5⟩
          have hj : j = 0 := by have := (List.getElem?_eq_some_iff.mp hy).1; omega
          subst hj
          obtain ⟨e, he, t', w', rl, rfl, ht', hw, hr'⟩ := paired_get hacc hy
          cases he
          rw [if_pos rfl] at hmem5
          obtain ⟨s1, hs1, es1⟩ : ∃ s ∈ ss, s.bars = R := by
            rw [← erow, tbl_row hlt] at hrow
            obtain ⟨s, hs, e⟩ := List.mem_map.mp hrow
            injection e with e3 e4
            injection e4 with e4 e5
            exact ⟨s, (List.mem_filter.mp hs).1, e5⟩
          obtain ⟨b1, b2⟩ := ok.bars s1 hs1
          rw [es1] at b1 b2
          have hfsub : Sub fs base6 := fun x m => go_sub ok hgo2 x ((hmem5 x).mp m)
          have hf6 := take_len_base hnd5 hfsub
          have hb6 := take_len_base b1 b2
          refine ⟨t', _, rfl, g6.sub.tp ht', rfl, ⟨_, _, rfl, ⟨_, _, rfl, ⟨_, _, rfl, ⟨rfl, ?_⟩⟩⟩⟩⟩
          refine ⟨_, rfl, ?_⟩
          refine ⟨_, rfl, .inl ⟨rfl, _, SqL.of hF5⟩, ?_⟩
          refine new_rd (G := G5) (F := F) (rl := rl) (fs := fs) (bars := R) (fun R' r => ⟨_, rfl, r⟩) (fun x H' R' r => ⟨_, rfl, r⟩) (fun x H' R' r => ⟨_, rfl, r⟩) (fun x => rfl) g6.sub hr' (.inl (SqL.of hF5)) (by omega) fun D2 H6 G6 g7 hD2 => ?_
          have hF6 := g7.keep hF5
          have hl3 := List.length_filter_le (fun x => !decide (x ∈ fs)) R
          refine ⟨F, D2, _, _, rfl, rfl, hF6, .inl (g7.sub.seq hD2), by rw [List.length_map, List.length_map]; omega, ?_⟩
          refine ⟨_, _, _, addNew fs R, rfl, (g6.trans (Gr.of g6.sub g7.same)).chg (.inl hF) hGF5, ?_, addNew_nodup hnd5 b1, fun x => ?_⟩
          · rw [upd_same]; unfold addNew; rw [List.map_append]
          · rw [mem_addNew, hmem5, if_neg (Nat.succ_ne_zero 0), List.mem_append]
        · rintro σ H5 ⟨o5, o6, o7, fs, rfl, g6, hF5, hnd5, hmem5⟩
          rw [hacl] at hmem5 ⊢
          exact ⟨nx, _, _, _, _, fs, B' ++ R, G5, rfl, g6, hGF5, hF5, hnd5, hmem5, hgn⟩
    · rintro σ H2 ⟨here, o4, o5, o6, o7, fs, B', G2, rfl, g2, hGF2, hF2, hnd, hmem, hgo2⟩
      rw [hxl, List.take_length] at hgo2
      obtain ⟨e1, e2⟩ := Go.det ok.det hgo2 hgo
      subst e1 e2
      have hfsub : Sub fs base6 := fun x m => go_sub ok hgo2 x ((hmem x).mp m)
      have hf6 := take_len_base hnd hfsub
      refine ⟨_, rfl, F, fs, rfl, .inl (SqL.of hF2), by omega, fun ys p hperm hsort hp => ?_⟩
      exact k p _ _ ys (g2.newN hp) (SqL.of upd_same) (srt_sortedS (hperm.nodup_iff.mpr hnd) hsort) fun x => hperm.mem_iff.trans (hmem x)
end
end K8
-- K8Lf
set_option maxRecDepth 100000
set_option maxHeartbeats 400000
namespace K8
open PySem PySem.Spec PyProof.Rows L2
def cutRow (rs : List Str) (row : Row NestedKey Str) : Row NestedKey Str := (row.filter fun e => part e.2.2 rs).map fun e => (e.1, e.2.1, ([] : List Str))
theorem keep_cut (rs : List Str) (row : Row NestedKey Str) : keepRow (fun r => !decide (r ∈ ([] : List Str))) (cutRow rs row) = keepRow (fun r => decide (r ∈ rs)) row := by
  unfold keepRow cutRow
  rw [List.filter_eq_self.mpr]
  · rw [List.map_map]; rfl
  · intro e he
    obtain ⟨e', _, rfl⟩ := List.mem_map.mp he
    rfl
theorem adj_cut (rs : List Str) (rows : Rows NestedKey Str) : adjOf (fun r => !decide (r ∈ ([] : List Str))) (rows.map (cutRow rs)) = adjOf (fun r => decide (r ∈ rs)) rows := by
  unfold adjOf
  rw [List.map_map]
  exact List.map_congr_left fun row _ => keep_cut rs row
theorem shut_cut {rs : List Str} {rows : Rows NestedKey Str} (h : Shut rows) : Shut (rows.map (cutRow rs)) := by
  refine ⟨by rw [List.length_map]; exact h.1, by rw [List.length_map]; exact h.2.1, fun row m => ?_⟩
  obtain ⟨r, hr, rfl⟩ := List.mem_map.mp m
  refine ⟨?_, fun e me => ?_⟩
  · unfold cutRow
    rw [List.length_map]
    exact Nat.le_trans (List.length_filter_le ..) (h.2.2 r hr).1
  · obtain ⟨e', he, rfl⟩ := List.mem_map.mp me
    refine ⟨Nat.zero_le _, ?_⟩
    rw [List.length_map]
    exact ((h.2.2 r hr).2 e' (List.mem_filter.mp he).1).2
abbrev runAdj (n : Nat) (ss : List Stp) (rs : List Str) : Adj NestedKey := adjOf (fun r => decide (r ∈ rs)) (tblOf n ss)
theorem nodup_lk {found : LFnd} (h : (found.map (·.1)).Nodup) : (found.map fun e => natK e.1).Nodup := by
  have e : (found.map fun e => natK e.1) = (found.map (·.1)).map natK := by rw [List.map_map]; rfl
  rw [e]
  exact List.pairwise_map.mpr (h.imp fun {a b} z q => z (natK_inj q))
def spShortest (K : PySem.W.Frag) : Sp := fun vs H Q _ => ∃ (G : Hp) (t ra : Addr) (n : Nat) (ss : List Stp) (bs : List Nat) (rs : List Str), vs = [.ref t, .ref ra] ∧ Same G H ∧ DrawnV K G t n ss bs ∧ PlayOk n ss bs ∧ Sq K G ra (rs.map V.str) ∧
  (∀ H', Same H H' → (∀ ws v, Pth (runAdj n ss rs) ws v → v ∉ bs) → Q .non H') ∧
  (∀ (k : Nat) H', Same H H' → (∃ ws v, Pth (runAdj n ss rs) ws v ∧ v ∈ bs ∧ ws.length = k) → (∀ ws v, Pth (runAdj n ss rs) ws v → v ∈ bs → k ≤ ws.length) → Q (.int (k : Nat)) H')
theorem sc_z_shortest : FnScope ["_law_drawn", "_law_rules", "_law_table_here", "_law_row", "_law_levels_here", "_law_found", "_law_word", "_law_other", "_law_bars", "_law_stand"] ["_law_drawn", "_law_rules"] (defScope s_z_shortest) := ⟨rfl, rfl, rfl, by decide +kernel, rfl, by decide +kernel, by decide +kernel⟩
section
variable {P : Program} {w : World} {K : PySem.W.Frag} {mg : Str → Option Value} {base : Heap}
theorem ok_z_shortest (T : Txt K mg) : Cl P w K mg base CX0 3 "_law_shortest" (spShortest K) := by
  refine cl0 (T.F_z_shortest) T.g_z_shortest sc_z_shortest (fun vs H Q E h => ?_) (fun _ _ _ _ _ _ us hl => match us, hl with | [_, _], _ => rfl) (fun cdv A outer s H vs Q E hr h => ?_)
  · obtain ⟨G, t, ra, n, ss, bs, rs, rfl, _⟩ := h
    rfl
  · obtain ⟨G, t, ra, n, ss, bs, rs, rfl, s0, dv, ok, hra, kN, kS⟩ := h
    obtain ⟨sl, bl, sv, ht, hsl, hss, hbl, hsd⟩ := id dv
    refine ⟨_, (pss_cons (ps_set (i := 2) sc_z_shortest.nd rfl (by first | exact Or.inl rfl | exact Or.inr rfl) (pe_lst pa_nil))
      (pss_cons (ps_for PassesOwn.never rfl (sqI (KK := K) (pe_cl (ok_z_table T) hr (by decide) pass0 (pa_cons (pe_ix (ixQ (KK := K)) (pv 0) pe_int (fun _ _ => rfl)) (pa_cons (pe_ix (ixQ (KK := K)) (pv 0) pe_int (fun _ _ => rfl)) pa_nil)))) (pg_name (i := 3) sc_z_shortest.nd rfl (by first | exact Or.inl rfl | exact Or.inr rfl))
        (pss_one (ps_expr (pe_bm PySem.F.plainAttrs_list PySem.F.slot_list_append PySem.F.type_list_append mt_append (pv 2) (pa_cons (pe_lc (own := [("_law_word", 6), ("_law_other", 7), ("_law_bars", 8)]) rfl sc_z_shortest.nd (sqI (KK := K) (pv 3)) (blkOk_by (by kernel_rfl)) (fun _ _ _ _ _ => (tupG (KK := K) (n := 3) (by rfl) (pgs_cons (pg_name (i := 6) sc_z_shortest.nd rfl (by first | exact Or.inl rfl | exact Or.inr rfl)) (pgs_cons (pg_name (i := 7) sc_z_shortest.nd rfl (by first | exact Or.inl rfl | exact Or.inr rfl)) (pgs_cons (pg_name (i := 8) sc_z_shortest.nd rfl (by first | exact Or.inl rfl | exact Or.inr rfl)) pgs_nil))))) (fun _ _ _ _ _ => (pts_one (pt_val (pe_cl (ok_x_in T) hr (by decide) pass0 (pa_cons (pv 8) (pa_cons (pv 1) pa_nil)))))) (fun _ _ _ _ _ => (pe_tup (pa_cons (pv 6) (pa_cons (pv 7) (pa_cons (pe_tup pa_nil) pa_nil)))))) pa_nil)))))
      (pss_cons (ps_set (i := 4) sc_z_shortest.nd rfl (by first | exact Or.inl rfl | exact Or.inr rfl) (pe_cl (ok_z_levels T) hr (by decide) pass0 (pa_cons (pv 2) (pa_cons (pe_lst pa_nil) pa_nil))))
      (pss_cons (ps_setLc (i := 5) (own := [("_law_stand", 9)]) rfl sc_z_shortest.nd rfl rfl (sw_true rfl rfl rfl (by kernel_rfl)) (sqI (KK := K) (pe_ix (ixQ (KK := K)) (pv 0) pe_int (fun _ _ => rfl))) (blkOk_by (by kernel_rfl)) (fun _ _ _ _ _ => (pg_name (i := 9) sc_z_shortest.nd rfl (by first | exact Or.inl rfl | exact Or.inr rfl))) (fun _ _ _ _ _ => (pts_one (pt_cmpR (inX (KK := K) (u1 hr)) (pv 9) (pv 4) (by rfl)))) (fun _ _ _ _ _ => (pe_dget (u1 hr) (pv 4) (pv 9) (fun _ _ => rfl))))
      (pss_one (ps_ret (pe_ifExp (pt_cmpR (neNil (KK := K) (u1 hr)) (pv 5) (pe_lst pa_nil) (nomark _)) (pe_callB (cr_min rfl) (by rfl) T.f_min (by decide +kernel) (pa_cons (pv 5) pa_nil)) pe_non))))))), ?_⟩
    refine ⟨by show 0 ≤ sizeLine; decide, fun tl htl => ?_⟩
    have g1 := (Gr.start (M := NoM) s0).mine (o := .lst []) htl
    have hGt := s0.free htl
    have ht1 : upd H tl (.lst []) tl = some (.lst []) := upd_same
    generalize upd H tl (.lst []) = H1 at g1 ht1
    dsimp only [tNext, tRet, tOp, tSeq, gName, tAsg]
    refine ⟨_, rfl, t, _, 0, .int (n : Nat), rfl, rfl, .inr (g1.sub.tp ht), atI_nat (j := 0) rfl, ?_⟩
    refine ⟨_, rfl, t, _, 1, .ref sl, rfl, rfl, .inr (g1.sub.tp ht), atI_nat (j := 1) rfl, ?_⟩
    refine ⟨G, n, sl, sv, ss, rfl, g1.sub, hsl, hss, Nat.le_trans ok.n20 (by decide), Nat.le_trans ok.few (by decide), fun tb H2 G2 g2 ⟨as, has, prow⟩ => ?_⟩
    have ht2 := g2.keep ht1
    have hGt2 := g2.out ht1 hGt
    have g2 := g1.trans g2
    have hal : as.length = n := by rw [Paired.length prow, tbl_len]
    refine ⟨tb, rfl, .inl ⟨⟨_, g2.sub.seq has⟩, fl_G (K := K) (a := tb) (xs := as) (fun i σ H' => ∃ (o3 : Option V) (vs : List V) (G3 : Hp), σ = [some (.ref t), some (.ref ra), some (.ref tl), o3, none, none, none, none, none, none] ∧ Gr NoM H G G3 H' ∧ Same G2 G3 ∧ G3 tl = none ∧ H' tl = some (.lst vs) ∧ Paired (RowV K G3) vs (((tblOf n ss).take i).map (cutRow rs))) G2 has ⟨_, [], G2, rfl, g2, Same.refl _, hGt2, ht2, .nil⟩ (fun i σ H' ⟨_, _, _, _, g, sm, _⟩ => sm.trans g.sub) ?_ ?_⟩⟩
    · rintro i x σ H3 hx ⟨o3, vs, G3, rfl, g3, s23, hGt3, ht3, hvs⟩
      obtain ⟨row, hrowe, a, ys, rfl, hys, ptr⟩ := paired_get prow hx
      obtain ⟨hrl, hrb⟩ := ok.shut.bd row (List.mem_of_getElem? hrowe)
      have hil : i < n := by rw [← hal]; exact (List.getElem?_eq_some_iff.mp hx).1
      refine ⟨_, rfl, .inl ⟨rfl, _, SqL.of ht3⟩, ?_⟩
      refine lc_any (M := NoM) (.ref a) G3 (fun j acc G' => Paired (TripV K G') acc (cutRow rs (row.take j))) (fun R r => ⟨_, rfl, r⟩) rfl (fun _ _ z => z) g3.sub (.inl (s23.seq hys)) (by rw [Paired.length ptr]; exact Nat.le_trans hrl (by decide)) .nil ?_ ?_
      · rintro D hD j y acc G4 H4 hy g4 hl4 hacc
        obtain ⟨e, he, t', w', rl, rfl, ht', hw, hr'⟩ := paired_get ptr hy
        have s4 := s23.trans g4.up
        intro Ky Kn ky kn
        refine ⟨t', _, rfl, (s4.trans g4.sub).tp ht', rfl, ⟨_, _, rfl, ⟨_, _, rfl, ⟨_, _, rfl, ⟨rfl, ⟨rfl, ?_⟩⟩⟩⟩⟩⟩
        have heb := hrb e (List.mem_of_getElem? he)
        refine ⟨_, rfl, _, rfl, rl, ra, e.2.2, rs, rfl, (s4.trans g4.sub).q hr', heb, (g3.up.trans g4.same').q hra, fun H5 s5 => ⟨_, rfl, ?_⟩⟩
        have g5 := Gr.of g4.sub s5
        have tk : cutRow rs (row.take (j + 1)) = cutRow rs (row.take j) ++ if part e.2.2 rs = true then [(e.1, e.2.1, ([] : List Str))] else [] := by
          unfold cutRow
          rw [List.take_succ, he, List.filter_append, List.map_append]
          congr 1
          by_cases c : part e.2.2 rs = true
          · rw [if_pos c]; simp only [Option.toList, List.filter_cons, List.filter_nil]; rw [if_pos c]; rfl
          · rw [if_neg c]; simp only [Option.toList, List.filter_cons, List.filter_nil]; rw [if_neg c]; rfl
        cases c : part e.2.2 rs with
        | true =>
          rw [c] at tk
          rw [if_pos rfl] at tk
          refine ite_y rfl ⟨_, rfl, _, rfl, by show 0 ≤ sizeLine; decide, fun e0 he0 => ⟨by show 3 ≤ sizeLine; decide, fun p hp => ?_⟩⟩
          have g6 := g5.newN (o := .tup []) he0
          have h0 : SqT K (upd G4 e0 (.tup [])) e0 (([] : List Str).map V.str) := SqT.of upd_same
          generalize upd G4 e0 (.tup []) = G6 at g6 h0
          generalize upd H5 e0 (.tup []) = H6 at g6 hp ⊢
          have u7 : Same G6 (upd G6 p (.tup [w', .int (e.2.1 : Nat), .ref e0])) := Same.upd_none (g6.sub.free hp)
          have g7 := g6.newN (o := .tup [w', .int (e.2.1 : Nat), .ref e0]) hp
          have h7 : SqT K (upd G6 p (.tup [w', .int (e.2.1 : Nat), .ref e0])) p [w', .int (e.2.1 : Nat), .ref e0] := SqT.of upd_same
          generalize upd G6 p (.tup [w', .int (e.2.1 : Nat), .ref e0]) = G7 at g7 h7 u7
          refine ky _ _ G7 g7 ?_
          show Paired _ _ (cutRow rs (row.take (j + 1)))
          rw [tk]
          refine pair_snoc (P := TripV K G7) ?_ (pair_imp (fun _ _ => TripV.same g7.up) hacc)
          exact ⟨p, w', e0, rfl, h7, dp_mono (s4.trans g7.up) hw, .inr (u7.tp h0)⟩
        | false =>
          rw [c] at tk
          rw [if_neg Bool.false_ne_true, List.append_nil] at tk
          refine ite_n rfl (kn _ G4 g5 ?_)
          show Paired _ _ (cutRow rs (row.take (j + 1)))
          rw [tk]
          exact hacc
      · rintro D acc G4 H4 hD g4 hg hl4 hacc
        rw [Paired.length ptr, List.take_length] at hacc
        have hacc := pair_imp (fun _ _ => TripV.same (Same.upd_none (o := .lst acc) hg)) hacc
        have hD4 : SqL K (upd G4 D (.lst acc)) D acc := SqL.of upd_same
        generalize upd G4 D (.lst acc) = G5 at g4 hacc hD4
        have hvl : vs.length ≤ n := by rw [Paired.length hvs, List.length_map, List.length_take, tbl_len]; omega
        have hn20 := ok.n20
        refine ⟨tl, vs, .ref D, rfl, rfl, g4.keep ht3, Nat.lt_of_le_of_lt (Nat.le_trans hvl hn20) (by decide), ?_⟩
        refine ⟨_, vs ++ [.ref D], G5, rfl, (g3.trans g4).chg (.inl htl) (g4.out ht3 hGt3), s23.trans g4.up, g4.out ht3 hGt3, upd_same, ?_⟩
        rw [List.take_succ, hrowe, List.map_append]
        exact pair_snoc (P := RowV K G5) ⟨D, acc, rfl, hD4, hacc⟩ (pair_imp (fun _ _ => RowV.same g4.up) hvs)
    · rintro σ H3 ⟨o3, vs, G3, rfl, g3, s23, hGt3, ht3, hvs⟩
      have e1 : (tblOf n ss).take as.length = tblOf n ss := List.take_of_length_le (by rw [tbl_len, hal]; exact Nat.le_refl _)
      rw [e1] at hvs
      have g4 := g3.give htl (fun z => z) hGt3 ht3
      have htb : TblV K (upd G3 tl (.lst vs)) tl ((tblOf n ss).map (cutRow rs)) := ⟨vs, SqL.of upd_same, pair_imp (fun _ _ => RowV.same (Same.upd_none hGt3)) hvs⟩
      generalize upd G3 tl (.lst vs) = G4 at g4 htb
      refine ⟨_, rfl, by show 0 ≤ sizeLine; decide, fun e0 he0 => ?_⟩
      have g5 := g4.newN (o := .lst []) he0
      have h0 : SqL K (upd G4 e0 (.lst [])) e0 (([] : List Str).map V.str) := SqL.of upd_same
      have htb := htb.same (Same.upd_none (o := .lst []) (g4.sub.free he0))
      generalize upd G4 e0 (.lst []) = G5 at g5 h0 htb
      generalize upd H3 e0 (.lst []) = H5 at g5 ⊢
      refine ⟨G5, tl, e0, _, [], rfl, g5.sub, htb, .inl h0, shut_cut ok.shut, fun p H6 G6 found m g6 hp lev hlt => ?_⟩
      rw [adj_cut] at lev
      rw [List.length_map] at hlt
      have g6 := g5.trans g6
      have hpH := g6.sub _ _ hp
      dsimp only [tNext, tRet, tOp, tSeq, gName, tAsg]
      refine ⟨_, rfl, t, _, 2, .ref bl, rfl, rfl, .inr (g6.same'.tp ht), atI_nat (j := 2) rfl, bl, rfl, .inl ⟨⟨_, g6.same'.seq hbl⟩, fun D hD => ?_⟩⟩
      refine lc_gl (M := NoM) (G1 := G6) (K := K) (fun j acc _ => ∃ ns : List Int, acc = ns.map V.int ∧ (∀ z, z ∈ ns ↔ ∃ b k, b ∈ bs.take j ∧ (b, k) ∈ found ∧ z = ((k : Nat) : Int))) hD (fun z => z) g6.sub (g6.up.seq hbl) (by rw [List.length_map]; exact Nat.le_trans ok.bfew (by decide)) ⟨[], rfl, fun z => ⟨fun m => (nomatch m), fun ⟨b, k, m, _⟩ => by simp at m⟩⟩ ?_ ?_
      · rintro j y acc G7 H7 hy g7 hl7 ⟨ns, rfl, hns⟩
        rw [List.getElem?_map, Option.map_eq_some_iff] at hy
        obtain ⟨b, hb, rfl⟩ := hy
        intro Ky Kn ky kn
        refine ⟨rfl, ?_⟩
        have hp7 := g7.same'  _ _ hp
        refine ⟨_, rfl, _, rfl, p, _, rfl, .inr ⟨found.map lkv, natK b, .inl hp7, rfl, rfl⟩, _, rfl, ?_⟩
        have hvm : (valV (found.map lkv) (natK b)).isSome = true ↔ b ∈ found.map (·.1) := by rw [valV_mem, mem_lkv]
        show if (valV (found.map lkv) (natK b)).isSome = true then _ else _
        refine ite_b (fun hyes => ?_) (fun hno => ?_)
        · obtain ⟨⟨b', kk⟩, hm, eb⟩ := List.mem_map.mp (hvm.mp hyes)
          have eb : b' = b := eb
          subst eb
          obtain ⟨q, hq⟩ := List.getElem?_of_mem hm
          have hval : valV (found.map lkv) (natK b') = some (natV kk) := valV_at (i := q) (by rw [lkv_keys]; exact nodup_lk lev.nd) (by rw [List.getElem?_map, hq]; rfl)
          refine ⟨_, rfl, _, rfl, p, natV kk, rfl, .inl ⟨found.map lkv, natK b', .inl hp7, rfl, hval.symm⟩, ?_⟩
          refine ky _ _ G7 (Gr.start g7.sub) ⟨ns ++ [((kk : Nat) : Int)], by rw [List.map_append]; rfl, fun z => ?_⟩
          rw [List.mem_append, hns, List.take_succ, hb]
          constructor
          · rintro (⟨b, k, m1, m2, e⟩ | m1)
            · exact ⟨b, k, List.mem_append.mpr (.inl m1), m2, e⟩
            · exact ⟨b', kk, List.mem_append.mpr (.inr (List.mem_singleton.mpr rfl)), hm, List.mem_singleton.mp m1⟩
          · rintro ⟨b, k, m1, m2, e⟩
            rcases List.mem_append.mp m1 with m1 | m1
            · exact .inl ⟨b, k, m1, m2, e⟩
            · have e2 : b = b' := List.mem_singleton.mp m1
              subst e2
              right
              have : k = kk := row_det (W := Nat) (row := found.map fun e => (e.1, e.2, ([] : List Str))) (by rw [List.map_map]; exact lev.nd) (w := b) (x := (k, [])) (y := (kk, [])) (List.mem_map.mpr ⟨_, m2, rfl⟩) (List.mem_map.mpr ⟨_, hm, rfl⟩) |> congrArg (·.1)
              rw [e, this]
              exact List.mem_singleton.mpr rfl
        · have hnin : b ∉ found.map (·.1) := fun m => by rw [hvm.mpr m] at hno; cases hno
          refine kn _ G7 (Gr.start g7.sub) ⟨ns, rfl, fun z => ?_⟩
          rw [hns, List.take_succ, hb]
          constructor
          · rintro ⟨b', k, m1, m2, e⟩
            exact ⟨b', k, List.mem_append.mpr (.inl m1), m2, e⟩
          · rintro ⟨b', k, m1, m2, e⟩
            rcases List.mem_append.mp m1 with m1 | m1
            · exact ⟨b', k, m1, m2, e⟩
            · have e2 : b' = b := List.mem_singleton.mp m1
              subst e2
              exact absurd (List.mem_map.mpr ⟨_, m2, rfl⟩) hnin
      · rintro acc G7 H7 g7 hg hl7 ⟨ns, rfl, hns⟩
        rw [List.length_map, List.take_length] at hns
        have hD7 : SqL K (upd G7 D (.lst (ns.map V.int))) D (ns.map V.int) := SqL.of upd_same
        generalize upd G7 D (.lst (ns.map V.int)) = G8 at g7 hD7
        have g8 := g6.trans g7
        refine ⟨_, rfl, by show 0 ≤ sizeLine; decide, fun e1 he1 => ⟨D, e1, ns.map V.int, rfl, rfl, (g8.sub.to_upd he1).seq hD7, SqL.of upd_same, ⟨_, rfl, ?_⟩⟩⟩
        have g9 := g8.mine (o := .lst []) he1
        cases ns with
        | nil =>
          refine ite_n rfl ?_
          refine kN _ g9.same fun ws v hp hv => ?_
          obtain ⟨kk, hm, _⟩ := lev.all hp
          exact nomatch ((hns ((kk : Nat) : Int)).mpr ⟨v, kk, hv, hm, rfl⟩)
        | cons z0 zr =>
          refine ite_y rfl ?_
          refine ⟨_, rfl, D, z0 :: zr, rfl, g9.sub.seq hD7, Nat.succ_pos _, fun mn hmn hle => ?_⟩
          obtain ⟨b, kk, hb, hm, rfl⟩ := (hns mn).mp hmn
          obtain ⟨ws, hw, hwl⟩ := lev.pth _ hm
          refine kS kk _ g9.same ⟨ws, b, hw, hb, hwl⟩ fun ws' v' hp' hv' => ?_
          obtain ⟨k2, hm2, hk2⟩ := lev.all hp'
          have := hle _ ((hns ((k2 : Nat) : Int)).mpr ⟨v', k2, hv', hm2, rfl⟩)
          omega
end
end K8
-- K8Same
set_option maxRecDepth 100000
set_option maxHeartbeats 400000
namespace K8
open PySem PySem.Spec PyProof.Rows L2
/-- alike in kinds and items -/
inductive Sm (K : PySem.W.Frag) (H : Hp) : Nat → V → V → Prop
  | int (n : Nat) (i : Int) : Sm K H (n + 1) (.int i) (.int i)
  | str (n : Nat) (x : Str) : Sm K H (n + 1) (.str x) (.str x)
  | lst {n : Nat} {a b : Addr} {xs ys : List V} : SqL K H a xs → SqL K H b ys → xs.length = ys.length → xs.length ≤ 10000 → (∀ (i : Nat) x y, xs[i]? = some x → ys[i]? = some y → Sm K H n x y) → Sm K H (n + 1) (.ref a) (.ref b)
  | tup {n : Nat} {a b : Addr} {xs ys : List V} : SqT K H a xs → SqT K H b ys → xs.length = ys.length → xs.length ≤ 10000 → (∀ (i : Nat) x y, xs[i]? = some x → ys[i]? = some y → Sm K H n x y) → Sm K H (n + 1) (.ref a) (.ref b)
theorem Sm.same {K : PySem.W.Frag} {G H : Hp} (s : Same G H) : ∀ {n : Nat} {x y : V}, Sm K G n x y → Sm K H n x y
  | _, _, _, .int n i => .int n i
  | _, _, _, .str n x => .str n x
  | _, _, _, .lst a b l m f => .lst (s.seq a) (s.seq b) l m fun i x y h1 h2 => (f i x y h1 h2).same s
  | _, _, _, .tup a b l m f => .tup (s.tp a) (s.tp b) l m fun i x y h1 h2 => (f i x y h1 h2).same s
section
variable {K : PySem.W.Frag} {M : Addr → Prop} {a b : Addr} {xs ys : List V} {g : TG} {tt : TT} {te : TE} {vs : List Nat} {σ : L2.St} {H1 G1 : Hp} {D : Addr} {Qd : Hp → Prop}
theorem walk_zipT {n : Nat} (hn : n = min xs.length ys.length) : Walk (RZ.ItzT K a b) n (fun H => SqT K H a xs ∧ SqT K H b ys) (YPair (fun i => xs[i]?) (fun i => ys[i]?)) := by
  subst hn
  refine ⟨fun i _ hi q => ?_, fun _ q => ⟨xs, ys, q.1, q.2, by omega⟩, fun i H v H' _ q y => ?_⟩
  · have h1 : i < xs.length := by omega
    have h2 : i < ys.length := by omega
    exact ⟨xs, ys, xs[i], ys[i], q.1, q.2, by simp [h1], by simp [h2]⟩
  · obtain ⟨T, x, z, h1, h2, h3, h4, h5⟩ := y
    exact ⟨T, x, z, h1, h2, h3, h4 xs q.1, h5 ys q.2⟩
/-- comprehensions over a walk that gives pairs -/
theorem lcP_w {J : It} {n : Nat} {Gd : Hp → Prop} {f1 f2 : Nat → Option V} (wk : Walk J n Gd (YPair f1 f2)) (R : Nat → List V → Hp → Prop) (hD : H1 D = none) (hm : ¬ M D) (s : Same G1 H1) (hGd : ∀ G H, Gr M H1 G1 G H → Gd H) (hz : n ≤ sizeLine) (r0 : R 0 [] G1)
    (hs : ∀ i T x y acc G H, i < n → f1 i = some x → f2 i = some y → SqT K H T [x, y] → Gr M H1 G1 G H → acc.length ≤ i → R i acc G → LcTurn M g tt te vs σ R i (.ref T) acc G H)
    (hd : ∀ acc G H, Gr M H1 G1 (upd G D (.lst acc)) H → G D = none → acc.length ≤ n → R n acc G → Qd H) :
    ∃ W : Nat → Nat → Hp → Prop, (∃ m, W 0 m (upd H1 D (.lst []))) ∧ ∀ i m H, W i m H →
      (J.stop i H ∧ Qd H) ∨ (J.go i H ∧ ∃ Nx : Hp → Prop, (∀ H', Nx H' → ∃ m', m' < m ∧ W (i + 1) m' H') ∧ ∀ x H', J.yld i H x H' → g x (wipe σ vs) H' fun σ2 H2 => wipe σ2 vs = wipe σ vs ∧ tt σ2 H2 fun b H3 =>
        if b = true then te σ2 H3 fun y H4 => ∃ acc, H4 D = some (.lst acc) ∧ acc.length < sizeLine ∧ Nx (upd H4 D (.lst (acc ++ [y]))) else Nx H3) :=
  lc_it wk (LcInv M H1 G1 D R) (lcInv_start hD s r0) (fun i H _ ⟨_, G, gr, _⟩ => hGd G H gr)
    (fun i v H H' hi p y => by
      obtain ⟨T, x, z, rfl, hT, rfl, e1, e2⟩ := y
      obtain ⟨acc, G, gr, hd', hg, hl, r⟩ := p
      have p2 : LcInv M H1 G1 D R i (upd H T (.tup [x, z])) := ⟨acc, G, gr.mine hT, by rw [upd_ne (ne_sn hd' hT)]; exact hd', hg, hl, r⟩
      exact lcInv_turn hD hm (Nat.lt_of_lt_of_le hi hz) (fun acc G gr hl r => hs i T x z acc G _ hi e1 e2 (SqT.of upd_same) gr hl r) p2)
    (fun H p => lcInv_end hD hm p fun acc G gr hg hl r => hd acc G H gr hg hl r)
theorem isi1 {v : V} {t C : String} {r : Bool} {H : Hp} {Q : VK} (ty : TyX K H v (.type t)) (hk : kitB t C = some r) (q : Q (.bl r) H) : rIsi K [v, .ty C] H Q := ⟨v, .ty C, .type t, .type C, r, rfl, .ty C, ty, kit_ty hk, q⟩
theorem isi2 {v : V} {t : String} {r : Bool} {H : Hp} {tp : Addr} {Q : VK} (htp : H tp = some (.tup [.ty "list", .ty "tuple"])) (ty : TyX K H v (.type t)) (hk : PySem.W.kitAny K (.type t) [.type "list", .type "tuple"] = some r) (q : Q (.bl r) H) : rIsiT K [v, .ref tp] H Q :=
  ⟨v, tp, _, .type t, _, r, rfl, htp, .cons (.ty _) (.cons (.ty _) .nil), ty, hk, q⟩
theorem isi4 {v : V} {H : Hp} {tp : Addr} {Q : VK} (htp : H tp = some (.tup [.ty "int", .ty "list", .ty "tuple", .ty "dict"])) (ty : TyX K H v (.type "str")) (q : Q (.bl false) H) : rIsiT K [v, .ref tp] H Q :=
  ⟨v, tp, _, .type "str", _, false, rfl, htp, .cons (.ty _) (.cons (.ty _) (.cons (.ty _) (.cons (.ty _) .nil))), ty,
    kitAny_cons (kit_ty (b := "int") (r := false) (by decide +kernel)) (fun _ => kitAny_cons (kit_ty (b := "list") (r := false) (by decide +kernel)) (fun _ => kitAny_cons (kit_ty (b := "tuple") (r := false) (by decide +kernel)) (fun _ => kitAny_cons (kit_ty (b := "dict") (r := false) (by decide +kernel)) (fun _ => kitAny_nil) (fun z => nomatch z)) (fun z => nomatch z)) (fun z => nomatch z)) (fun z => nomatch z), q⟩
end
def spSame (K : PySem.W.Frag) (n : Nat) : Sp := fun vs H Q _ => ∃ x y, vs = [x, y] ∧ Sm K H n x y ∧ ∀ H', Same H H' → Q (.bl true) H'
theorem sc_z_same : FnScope ["_law_found", "_law_due", "_law_x", "_law_y"] ["_law_found", "_law_due"] (defScope s_z_same) := ⟨rfl, rfl, rfl, by decide +kernel, rfl, by decide +kernel, by decide +kernel⟩
section
variable {P : Program} {w : World} {K : PySem.W.Frag} {mg : Str → Option Value} {base : Heap}
theorem ok_z_same (T : Txt K mg) : ∀ n, Cl P w K mg base CX0 (n + 1) "_law_same" (spSame K n)
  | 0 => (cl_never (ps := ["_law_found", "_law_due"]) T.F_z_same T.g_z_same (fun _ _ _ _ _ _ us hl => match us, hl with | [_, _], _ => rfl)).imp (Nat.zero_le _) (fun vs H Q E h => by
    obtain ⟨x, y, _, h, _⟩ := h
    cases h)
  | n + 1 => by
    have ih : Cl P w K mg base CX0 (n + 1) "_law_same" (spSame K n) := ok_z_same T n
    refine cl0 (T.F_z_same) T.g_z_same sc_z_same (fun vs H Q E h => ?_) (fun _ _ _ _ _ _ us hl => match us, hl with | [_, _], _ => rfl) (fun cdv A outer s H vs Q E hr h => ?_)
    · obtain ⟨x, y, rfl, _⟩ := h
      rfl
    · obtain ⟨x, y, rfl, hs, k⟩ := h
      refine ⟨_, (pss_cons (ps_if (pt_val (pe_callB call_isiT (by rfl) T.f_isinstance (by decide +kernel) (pa_cons (pv 1) (pa_cons (pe_tup (pa_cons (pe_bltn (v := .ty "list") (u := .type "list") (by rfl) T.f_list (by decide +kernel) rfl) (pa_cons (pe_bltn (v := .ty "tuple") (u := .type "tuple") (by rfl) T.f_tuple (by decide +kernel) rfl) pa_nil))) pa_nil))))
        (pss_cons (ps_if (PW.pt (pw_or (pt_cmpR op_ne (pe_callB call_isi (by rfl) T.f_isinstance (by decide +kernel) (pa_cons (pv 0) (pa_cons (pe_bltn (v := .ty "list") (u := .type "list") (by rfl) T.f_list (by decide +kernel) rfl) pa_nil))) (pe_callB call_isi (by rfl) T.f_isinstance (by decide +kernel) (pa_cons (pv 1) (pa_cons (pe_bltn (v := .ty "list") (u := .type "list") (by rfl) T.f_list (by decide +kernel) rfl) pa_nil))) (nomark _)) (pw_or1 (pt_cmpR op_ne (pe_callB call_isi (by rfl) T.f_isinstance (by decide +kernel) (pa_cons (pv 0) (pa_cons (pe_bltn (v := .ty "tuple") (u := .type "tuple") (by rfl) T.f_tuple (by decide +kernel) rfl) pa_nil))) (pe_callB call_isi (by rfl) T.f_isinstance (by decide +kernel) (pa_cons (pv 1) (pa_cons (pe_bltn (v := .ty "tuple") (u := .type "tuple") (by rfl) T.f_tuple (by decide +kernel) rfl) pa_nil))) (nomark _)))))
          (pss_one (ps_ret pe_bl))
          pss_nil)
        (pss_one (ps_ret (pe_and (pe_cmpR op_eq (pe_callB (lenQ (KK := K)) (by rfl) T.f_len (by decide +kernel) (pa_cons (pv 0) pa_nil)) (pe_callB (lenQ (KK := K)) (by rfl) T.f_len (by decide +kernel) (pa_cons (pv 1) pa_nil)) (nomark _)) (pe_one (pe_callB (allK (KK := K) rfl) (by rfl) T.f_all (by decide +kernel) (pa_cons (pe_lc (own := [("_law_x", 2), ("_law_y", 3)]) rfl sc_z_same.nd (RZ.pi_zipA (by rfl) T.f_zip (pa_cons (pv 0) (pa_cons (pv 1) pa_nil))) (blkOk_by (by kernel_rfl)) (fun _ _ _ _ _ => (tupG (KK := K) (n := 2) (by rfl) (pgs_cons (pg_name (i := 2) sc_z_same.nd rfl (by first | exact Or.inl rfl | exact Or.inr rfl)) (pgs_cons (pg_name (i := 3) sc_z_same.nd rfl (by first | exact Or.inl rfl | exact Or.inr rfl)) pgs_nil)))) (fun _ _ _ _ _ => pts_nil) (fun _ _ _ _ _ => (pe_cl ih hr (by omega) pass0 (pa_cons (pv 2) (pa_cons (pv 3) pa_nil))))) pa_nil)))))))
        pss_nil)
      (pss_cons (ps_if (pt_val (pe_callB call_isi (by rfl) T.f_isinstance (by decide +kernel) (pa_cons (pv 1) (pa_cons (pe_bltn (v := .ty "dict") (u := .type "dict") (by rfl) T.f_dict (by decide +kernel) rfl) pa_nil))))
        (pss_one ps_never)
        pss_nil)
      (pss_cons (ps_if (pt_val (pe_callB call_isi (by rfl) T.f_isinstance (by decide +kernel) (pa_cons (pv 1) (pa_cons (pe_bltn (v := .ty "int") (u := .type "int") (by rfl) T.f_int (by decide +kernel) rfl) pa_nil))))
        (pss_one (ps_ret (pe_and (pe_callB call_isi (by rfl) T.f_isinstance (by decide +kernel) (pa_cons (pv 0) (pa_cons (pe_bltn (v := .ty "int") (u := .type "int") (by rfl) T.f_int (by decide +kernel) rfl) pa_nil))) (pe_and (pe_cmpR op_eq (pe_callB call_isi (by rfl) T.f_isinstance (by decide +kernel) (pa_cons (pv 0) (pa_cons (pe_bltn (v := .ty "bool") (u := .type "bool") (by rfl) T.f_bool (by decide +kernel) rfl) pa_nil))) (pe_callB call_isi (by rfl) T.f_isinstance (by decide +kernel) (pa_cons (pv 1) (pa_cons (pe_bltn (v := .ty "bool") (u := .type "bool") (by rfl) T.f_bool (by decide +kernel) rfl) pa_nil))) (nomark _)) (pe_one (pe_cmpR op_eq (pv 0) (pv 1) (nomark _)))))))
        pss_nil)
      (pss_one (ps_ret (pe_and (pe_not (pe_callB call_isiT (by rfl) T.f_isinstance (by decide +kernel) (pa_cons (pv 0) (pa_cons (pe_tup (pa_cons (pe_bltn (v := .ty "int") (u := .type "int") (by rfl) T.f_int (by decide +kernel) rfl) (pa_cons (pe_bltn (v := .ty "list") (u := .type "list") (by rfl) T.f_list (by decide +kernel) rfl) (pa_cons (pe_bltn (v := .ty "tuple") (u := .type "tuple") (by rfl) T.f_tuple (by decide +kernel) rfl) (pa_cons (pe_bltn (v := .ty "dict") (u := .type "dict") (by rfl) T.f_dict (by decide +kernel) rfl) pa_nil))))) pa_nil)))) (pe_one (pe_cmpR op_eq (pv 0) (pv 1) (nomark _))))))))), ?_⟩
      refine ⟨_, rfl, by show 2 ≤ sizeLine; decide, fun tp htp => ?_⟩
      have u0 : Same H (upd H tp (.tup [.ty "list", .ty "tuple"])) := Same.upd_none htp
      have h0 : upd H tp (.tup [.ty "list", .ty "tuple"]) tp = some (.tup [.ty "list", .ty "tuple"]) := upd_same
      have hs := hs.same u0
      generalize upd H tp (.tup [.ty "list", .ty "tuple"]) = H1 at u0 h0 hs ⊢
      cases hs with
      | int n i =>
        dsimp only [tNil, tCons, tC]
        refine isi2 (K := K) h0 (.base (.int i)) (kit_no (.inr (.inr (.inl rfl)))) ?_
        refine ⟨_, rfl, ite_n rfl ?_⟩
        refine ⟨_, rfl, ?_⟩
        dsimp only [tNil, tCons, tC]
        refine isi1 (K := K) (.base (.int i)) (by decide +kernel : kitB "int" "dict" = some false) ?_
        refine ⟨_, rfl, ite_n rfl ?_⟩
        refine ⟨_, rfl, ?_⟩
        dsimp only [tNil, tCons, tC]
        refine isi1 (K := K) (.base (.int i)) (by decide +kernel : kitB "int" "int" = some true) ?_
        refine ⟨_, rfl, ite_y rfl ?_⟩
        refine ⟨_, rfl, ?_⟩
        dsimp only [tNil, tCons, tC]
        refine isi1 (K := K) (.base (.int i)) (by decide +kernel : kitB "int" "int" = some true) ?_
        refine ⟨_, rfl, ite_y rfl ?_⟩
        refine ⟨_, rfl, ?_⟩
        dsimp only [tNil, tCons, tC]
        refine isi1 (K := K) (.base (.int i)) (by decide +kernel : kitB "int" "bool" = some false) ?_
        refine ⟨_, rfl, ?_⟩
        dsimp only [tNil, tCons, tC]
        refine isi1 (K := K) (.base (.int i)) (by decide +kernel : kitB "int" "bool" = some false) ?_
        refine ⟨rfl, _, rfl, ite_y rfl ?_⟩
        refine ⟨_, rfl, _, rfl, rfl, ?_⟩
        have q := k _ u0
        show Q (.bl (decide (V.int i = V.int i))) H1
        rw [decide_eq_true rfl]
        exact q
      | str n x =>
        dsimp only [tNil, tCons, tC]
        refine isi2 (K := K) h0 (.base (.str x)) (kit_no (.inr (.inr (.inr (.inl rfl))))) ?_
        refine ⟨_, rfl, ite_n rfl ?_⟩
        refine ⟨_, rfl, ?_⟩
        dsimp only [tNil, tCons, tC]
        refine isi1 (K := K) (.base (.str x)) (by decide +kernel : kitB "str" "dict" = some false) ?_
        refine ⟨_, rfl, ite_n rfl ?_⟩
        refine ⟨_, rfl, ?_⟩
        dsimp only [tNil, tCons, tC]
        refine isi1 (K := K) (.base (.str x)) (by decide +kernel : kitB "str" "int" = some false) ?_
        refine ⟨_, rfl, ite_n rfl ?_⟩
        refine ⟨_, rfl, by show 4 ≤ sizeLine; decide, fun t4 ht4 => ?_⟩
        have u1 := u0.to_upd (o := .tup [.ty "int", .ty "list", .ty "tuple", .ty "dict"]) ht4
        have h1 : upd H1 t4 (.tup [.ty "int", .ty "list", .ty "tuple", .ty "dict"]) t4 = some (.tup [.ty "int", .ty "list", .ty "tuple", .ty "dict"]) := upd_same
        generalize upd H1 t4 (.tup [.ty "int", .ty "list", .ty "tuple", .ty "dict"]) = H2 at u1 h1 ⊢
        dsimp only [tNil, tCons, tC]
        refine isi4 (K := K) h1 (.base (.str x)) ?_
        refine ⟨_, rfl, _, rfl, ite_y rfl ?_⟩
        refine ⟨_, rfl, _, rfl, rfl, ?_⟩
        have q := k _ u1
        show Q (.bl (decide (V.str x = V.str x))) H2
        rw [decide_eq_true rfl]
        exact q
      | lst ha hb hl hm hi =>
        dsimp only [tNil, tCons, tC]
        refine isi2 (K := K) h0 (tyx_l hb) (kit_lt (.inl rfl)) ?_
        refine ⟨_, rfl, ite_y rfl ?_⟩
        refine ⟨_, rfl, ?_⟩
        dsimp only [tNil, tCons, tC]
        refine isi1 (K := K) (tyx_l ha) (by decide +kernel : kitB "list" "list" = some true) ?_
        refine ⟨_, rfl, ?_⟩
        dsimp only [tNil, tCons, tC]
        refine isi1 (K := K) (tyx_l hb) (by decide +kernel : kitB "list" "list" = some true) ?_
        refine ⟨rfl, _, rfl, ite_n rfl ?_⟩
        refine ⟨_, rfl, ?_⟩
        dsimp only [tNil, tCons, tC]
        refine isi1 (K := K) (tyx_l ha) (by decide +kernel : kitB "list" "tuple" = some false) ?_
        refine ⟨_, rfl, ?_⟩
        dsimp only [tNil, tCons, tC]
        refine isi1 (K := K) (tyx_l hb) (by decide +kernel : kitB "list" "tuple" = some false) ?_
        refine ⟨rfl, _, rfl, ite_n rfl ?_⟩
        dsimp only [tNext, tRet, tOp, tSeq, gName, tAsg]
        rename_i a b xs ys
        refine ⟨_, rfl, a, xs, rfl, .inl ha, _, rfl, b, ys, rfl, .inl hb, rfl, _, rfl, ite_y (decide_eq_true (by rw [hl])) ?_⟩
        refine cb1 ?_
        refine ⟨_, rfl, _, rfl, a, b, xs, ys, rfl, .inl ⟨ha, hb, fun D hD => ?_⟩⟩
        refine lcP_w (K := K) (M := NoM) (G1 := H1) (n := xs.length) (walk_zip (K := K) (xs := xs) (ys := ys) (by rw [← hl, Nat.min_self])) (fun i acc _ => acc = List.replicate i (V.bl true)) hD (fun z => z) (Same.refl _) (fun G H g => ⟨g.same'.seq ha, g.same'.seq hb⟩) (Nat.le_trans hm (by decide)) rfl ?_ ?_
        · rintro i T' x y acc G2 H2 hil hx hy hT g2 hl2 rfl
          intro Ky Kn ky kn
          refine ⟨T', _, rfl, hT, rfl, ⟨_, _, rfl, ⟨_, _, rfl, ⟨rfl, ⟨rfl, y_te ?_⟩⟩⟩⟩⟩
          refine ⟨_, rfl, _, rfl, x, y, rfl, (hi i x y hx hy).same g2.same', fun H3 s3 => ?_⟩
          refine ky _ _ G2 (Gr.of g2.sub s3) ?_
          show _ = List.replicate (i + 1) (V.bl true)
          rw [List.replicate_succ']
        · rintro acc G2 H2 g2 hg hl2 rfl
          refine ⟨D, List.replicate xs.length true, rfl, SqL.of (by rw [g2.sub D _ upd_same, List.map_replicate]), ?_⟩
          have q := k _ (u0.trans g2.same)
          have e : (List.replicate xs.length true).all id = true := by
            rw [List.all_eq_true]
            intro z hz
            exact (List.mem_replicate.mp hz).2
          rw [e]
          exact q
      | tup ha hb hl hm hi =>
        dsimp only [tNil, tCons, tC]
        refine isi2 (K := K) h0 (tyx_t hb) (kit_lt (.inr rfl)) ?_
        refine ⟨_, rfl, ite_y rfl ?_⟩
        refine ⟨_, rfl, ?_⟩
        dsimp only [tNil, tCons, tC]
        refine isi1 (K := K) (tyx_t ha) (by decide +kernel : kitB "tuple" "list" = some false) ?_
        refine ⟨_, rfl, ?_⟩
        dsimp only [tNil, tCons, tC]
        refine isi1 (K := K) (tyx_t hb) (by decide +kernel : kitB "tuple" "list" = some false) ?_
        refine ⟨rfl, _, rfl, ite_n rfl ?_⟩
        refine ⟨_, rfl, ?_⟩
        dsimp only [tNil, tCons, tC]
        refine isi1 (K := K) (tyx_t ha) (by decide +kernel : kitB "tuple" "tuple" = some true) ?_
        refine ⟨_, rfl, ?_⟩
        dsimp only [tNil, tCons, tC]
        refine isi1 (K := K) (tyx_t hb) (by decide +kernel : kitB "tuple" "tuple" = some true) ?_
        refine ⟨rfl, _, rfl, ite_n rfl ?_⟩
        dsimp only [tNext, tRet, tOp, tSeq, gName, tAsg]
        rename_i a b xs ys
        refine ⟨_, rfl, a, xs, rfl, .inr ha, _, rfl, b, ys, rfl, .inr hb, rfl, _, rfl, ite_y (decide_eq_true (by rw [hl])) ?_⟩
        refine cb1 ?_
        refine ⟨_, rfl, _, rfl, a, b, xs, ys, rfl, .inr ⟨ha, hb, fun D hD => ?_⟩⟩
        refine lcP_w (K := K) (M := NoM) (G1 := H1) (n := xs.length) (walk_zipT (K := K) (xs := xs) (ys := ys) (by rw [← hl, Nat.min_self])) (fun i acc _ => acc = List.replicate i (V.bl true)) hD (fun z => z) (Same.refl _) (fun G H g => ⟨g.same'.tp ha, g.same'.tp hb⟩) (Nat.le_trans hm (by decide)) rfl ?_ ?_
        · rintro i T' x y acc G2 H2 hil hx hy hT g2 hl2 rfl
          intro Ky Kn ky kn
          refine ⟨T', _, rfl, hT, rfl, ⟨_, _, rfl, ⟨_, _, rfl, ⟨rfl, ⟨rfl, y_te ?_⟩⟩⟩⟩⟩
          refine ⟨_, rfl, _, rfl, x, y, rfl, (hi i x y hx hy).same g2.same', fun H3 s3 => ?_⟩
          refine ky _ _ G2 (Gr.of g2.sub s3) ?_
          show _ = List.replicate (i + 1) (V.bl true)
          rw [List.replicate_succ']
        · rintro acc G2 H2 g2 hg hl2 rfl
          refine ⟨D, List.replicate xs.length true, rfl, SqL.of (by rw [g2.sub D _ upd_same, List.map_replicate]), ?_⟩
          have q := k _ (u0.trans g2.same)
          have e : (List.replicate xs.length true).all id = true := by
            rw [List.all_eq_true]
            intro z hz
            exact (List.mem_replicate.mp hz).2
          rw [e]
          exact q
end
end K8
-- K8Loose
set_option maxRecDepth 100000
set_option maxHeartbeats 400000
namespace K8
open PySem PySem.Spec PyProof.Rows L2
mutual
/-- how many lists and tuples -/
def sz : D → Nat
  | .lf _ => 0
  | .sq l => szL l + 1
def szL : List D → Nat
  | [] => 0
  | d :: r => sz d + szL r
end
theorem szL_snoc : ∀ (l : List D) (d : D), szL (l ++ [d]) = szL l + sz d
  | [], d => by show sz d + 0 = 0 + sz d; omega
  | x :: r, d => by
    have := szL_snoc r d
    show sz x + szL (r ++ [d]) = sz x + szL r + sz d
    omega
theorem szL_take (l : List D) (i : Nat) : szL (l.take i) ≤ szL l := by
  induction l generalizing i with
  | nil => cases i <;> exact Nat.le_refl _
  | cons x r ih =>
    cases i with
    | zero => exact Nat.zero_le _
    | succ j =>
      have := ih j
      show sz x + szL (r.take j) ≤ sz x + szL r
      omega
theorem dep_mem {d : D} : ∀ {l : List D}, d ∈ l → dep d ≤ depL l
  | x :: r, m => by
    show dep d ≤ max (dep x) (depL r)
    rcases List.mem_cons.mp m with rfl | m
    · exact Nat.le_max_left ..
    · exact Nat.le_trans (dep_mem m) (Nat.le_max_right ..)
theorem wide_mem {d : D} : ∀ {l : List D}, d ∈ l → wide d ≤ wideL l
  | x :: r, m => by
    show wide d ≤ max (wide x) (wideL r)
    rcases List.mem_cons.mp m with rfl | m
    · exact Nat.le_max_left ..
    · exact Nat.le_trans (wide_mem m) (Nat.le_max_right ..)
abbrev cLim : Nat := 1099511627776
def spLoose (K : PySem.W.Frag) (n : Nat) : Sp := fun vs H Q _ => ∃ (G : Hp) (s l : Addr) (c : Nat) (v : V) (d : D), vs = [.ref s, v] ∧ Same G H ∧ G s = none ∧ G l = none ∧ Strm H s l c ∧ c + sz d < 1099511627776 ∧ Dq K G v d ∧ dep d < n ∧ wide d ≤ 1000 ∧
  ∀ v' H' G' c', Gr (SM s l) H G G' H' → Dq K G' v' d → Strm H' s l c' → c' ≤ c + sz d → Q v' H'
theorem sc_z_loose : FnScope ["_law_stream", "_law_thing", "_law_found", "_law_part"] ["_law_stream", "_law_thing"] (defScope s_z_loose) := ⟨rfl, rfl, rfl, by decide +kernel, rfl, by decide +kernel, by decide +kernel⟩
section
variable {P : Program} {w : World} {K : PySem.W.Frag} {mg : Str → Option Value} {base : Heap}
theorem ok_z_loose (T : Txt K mg) : ∀ n, Cl P w K mg base CX0 (n + 2) "_law_loose" (spLoose K n)
  | 0 => (cl_never (ps := ["_law_stream", "_law_thing"]) T.F_z_loose T.g_z_loose (fun _ _ _ _ _ _ us hl => match us, hl with | [_, _], _ => rfl)).imp (Nat.zero_le _) (fun vs H Q E h => by
    obtain ⟨_, _, _, _, _, _, _, _, _, _, _, _, _, h, _⟩ := h
    exact absurd h (Nat.not_lt_zero _))
  | n + 1 => by
    have ih : Cl P w K mg base CX0 (n + 2) "_law_loose" (spLoose K n) := ok_z_loose T n
    refine cl0 (T.F_z_loose) T.g_z_loose sc_z_loose (fun vs H Q E h => ?_) (fun _ _ _ _ _ _ us hl => match us, hl with | [_, _], _ => rfl) (fun cdv A outer s H vs Q E hr h => ?_)
    · obtain ⟨G, s, l, c, v, d, rfl, _⟩ := h
      rfl
    · obtain ⟨G, s, l, c, v, d, rfl, s0, gs, gl, st, hc, hd, hdep, hw, k⟩ := h
      refine ⟨_, (pss_cons (ps_if (pt_not (pt_val (pe_callB call_isiT (by rfl) T.f_isinstance (by decide +kernel) (pa_cons (pv 1) (pa_cons (pe_tup (pa_cons (pe_bltn (v := .ty "list") (u := .type "list") (by rfl) T.f_list (by decide +kernel) rfl) (pa_cons (pe_bltn (v := .ty "tuple") (u := .type "tuple") (by rfl) T.f_tuple (by decide +kernel) rfl) pa_nil))) pa_nil)))))
        (pss_one (ps_ret (pv 1)))
        pss_nil)
      (pss_cons (ps_setLc (i := 2) (own := [("_law_part", 3)]) rfl sc_z_loose.nd rfl rfl (sw_true rfl rfl rfl (by kernel_rfl)) (sqI (KK := K) (pv 1)) (blkOk_by (by kernel_rfl)) (fun _ _ _ _ _ => (pg_name (i := 3) sc_z_loose.nd rfl (by first | exact Or.inl rfl | exact Or.inr rfl))) (fun _ _ _ _ _ => pts_nil) (fun _ _ _ _ _ => (pe_cl ih hr (by omega) pass0 (pa_cons (pv 0) (pa_cons (pv 3) pa_nil)))))
      (pss_one (ps_ret (pe_ifExp (pt_cmpR op_eq (pe_cl (ok_z_draw T) hr (by omega) pass0 (pa_cons (pv 0) (pa_cons pe_int pa_nil))) pe_int (nomark _)) (pv 2) (pe_callTy (tupQ (KK := K)) (by rfl) T.f_tuple (by decide +kernel) (pa_cons (pv 2) pa_nil))))))), ?_⟩
      refine ⟨_, rfl, by show 2 ≤ sizeLine; decide, fun tp htp => ?_⟩
      have g1 := (Gr.start (M := SM s l) s0).mine (o := .tup [.ty "list", .ty "tuple"]) htp
      have h0 : upd H tp (.tup [.ty "list", .ty "tuple"]) tp = some (.tup [.ty "list", .ty "tuple"]) := upd_same
      have st1 := st.new (o := .tup [.ty "list", .ty "tuple"]) htp
      generalize upd H tp (.tup [.ty "list", .ty "tuple"]) = H1 at g1 h0 st1 ⊢
      obtain ⟨t, ty, hk⟩ := isi_lt (Dq.mono g1.sub _ _ hd)
      dsimp only [tNil, tCons, tC]
      refine ⟨v, tp, _, t, _, _, rfl, h0, .cons (.ty _) (.cons (.ty _) .nil), ty, hk, _, rfl, ?_⟩
      cases hsq : isSq d with
      | false =>
        refine ite_y rfl ?_
        exact ⟨_, rfl, k v H1 G c g1 hd st1 (Nat.le_add_right _ _)⟩
      | true =>
        refine ite_n rfl ?_
        cases d with
        | lf u => cases hsq
        | sq ds =>
          obtain ⟨a, xs, rfl, src, hall⟩ := hd.seq
          have hsz : sz (.sq ds) = szL ds + 1 := rfl
          rw [hsz] at hc
          have hdl : depL ds + 1 < n + 1 := hdep
          have hwl : max ds.length (wideL ds) ≤ 1000 := hw
          dsimp only [tNext, tRet, tOp, tSeq, gName, tAsg]
          refine lcS_any (M := SM s l) (.ref a) G (fun i acc G' H' => DqAll K G' acc (ds.take i) ∧ ∃ c', Strm H' s l c' ∧ c' ≤ c + szL (ds.take i)) (fun R' r => ⟨_, rfl, r⟩) rfl (fun b hb => st1.not hb) (fun D hD i acc G' H' o ⟨h1, c', h2, h3⟩ => ⟨h1, c', h2.upd (fun e => st1.s (e ▸ hD)) (fun e => st1.l (e ▸ hD)), h3⟩) g1.sub src (by rw [hall.length]; exact Nat.le_trans (Nat.le_trans (Nat.le_max_left ..) hwl) (by decide)) ⟨.nil, c, st1, Nat.le_refl _⟩ ?_ ?_
          · rintro D hD i x acc G2 H2 hx g2 hl2 ⟨hacc, c2, st2, hc2⟩
            obtain ⟨dx, hdx, hxd⟩ := hall.get hx
            have hm := List.mem_of_getElem? hdx
            have e1 : ds.take (i + 1) = ds.take i ++ [dx] := by rw [List.take_succ, hdx]; rfl
            have e2 := szL_take ds (i + 1)
            rw [e1, szL_snoc] at e2
            intro Ky Kn ky kn
            refine ⟨rfl, y_te ?_⟩
            have d1 := dep_mem hm
            have w1 := wide_mem hm
            refine ⟨_, rfl, _, rfl, G2, s, l, c2, x, dx, rfl, g2.sub, g2.new _ (.inr (.inl rfl)) gs, g2.new _ (.inr (.inr rfl)) gl, st2, by omega, Dq.mono g2.up _ _ hxd, by omega, by omega, fun v' H3 G3 c3 g3 hv' st3 hc3 => ?_⟩
            refine ky _ _ G3 g3 ⟨?_, c3, st3, ?_⟩
            · rw [e1]; exact (DqAll.mono g3.up _ _ hacc).snoc hv'
            · rw [e1, szL_snoc]; omega
          · rintro D acc G2 H2 hD g2 hgD hl2 ⟨hacc, c2, st2, hc2⟩
            rw [hall.length, List.take_length] at hacc hc2
            have hacc := DqAll.mono (Same.upd_none (o := .lst acc) hgD) _ _ hacc
            have hDL : SqL K (upd G2 D (.lst acc)) D acc := SqL.of upd_same
            generalize upd G2 D (.lst acc) = G3 at g2 hacc hDL
            have g3 := g1.trans g2
            refine ⟨_, rfl, G3, s, l, c2, 3, rfl, g2.sub, g3.new _ (.inr (.inl rfl)) gs, g3.new _ (.inr (.inr rfl)) gl, st2, by omega, by decide, by decide, fun dd H4 hdd g4 st4 => ?_⟩
            refine ⟨rfl, _, rfl, ite_b (fun _ => ?_) (fun _ => ?_)⟩
            · exact ⟨_, rfl, k _ H4 G3 _ (g3.trans g4) (.lst hDL hacc) st4 (by rw [hsz]; omega)⟩
            · refine ⟨_, rfl, D, acc, rfl, .inl ⟨g4.sub.seq hDL, fun p hp => ?_⟩⟩
              have g5 := (g3.trans g4).newG (o := .tup acc) hp (st4.not hp) ?_
              · have u := Same.upd_none (o := .tup acc) (g4.sub.free hp)
                exact k _ _ _ _ g5 (.tup (SqT.of upd_same) (DqAll.mono u _ _ hacc)) (st4.new hp) (by rw [hsz]; omega)
              · exact (g3.trans g4).freeM hp (st4.not hp)
end
end K8
-- K8Run
set_option maxRecDepth 100000
set_option maxHeartbeats 400000
namespace K8
open PySem PySem.Spec PyProof.Rows L2
def spRun (K : PySem.W.Frag) : Sp := fun vs H Q _ => ∃ (G : Hp) (s l tb ra : Addr) (c most : Nat) (rows : Rows NestedKey Str) (rs : List Str), vs = [.ref s, .ref tb, .ref ra, .int (most : Nat)] ∧ Same G H ∧ G s = none ∧ G l = none ∧ Strm H s l c ∧ c + 1 + most < 1099511627776 ∧ TblV K G tb rows ∧ Sq K G ra (rs.map V.str) ∧ Shut rows ∧ most ≤ 1000 ∧
  ∀ F H' G' xs ks v c', Gr (SM s l) H G G' H' → SqL K G' F xs → DpAll K G' xs (List.map NestedKey.data ks) → Pth (adjOf (fun r => !decide (r ∈ rs)) rows) ks v → ks.length ≤ most → Strm H' s l c' → c' ≤ c + 1 + most → Q (.ref F) H'
theorem keepRow_len {q : Str → Bool} {row : Row NestedKey Str} : (keepRow q row).length ≤ row.length := by
  unfold keepRow
  rw [List.length_map]
  exact List.length_filter_le ..
theorem sc_z_run : FnScope ["_law_stream", "_law_table_here", "_law_rules", "_law_most", "_law_here", "_law_found", "_law_k", "_law_some", "_law_word"] ["_law_stream", "_law_table_here", "_law_rules", "_law_most"] (defScope s_z_run) := ⟨rfl, rfl, rfl, by decide +kernel, rfl, by decide +kernel, by decide +kernel⟩
section
variable {P : Program} {w : World} {K : PySem.W.Frag} {mg : Str → Option Value} {base : Heap}
theorem ok_z_run (T : Txt K mg) : Cl P w K mg base CX0 3 "_law_run" (spRun K) := by
  refine cl0 (T.F_z_run) T.g_z_run sc_z_run (fun vs H Q E h => ?_) (fun _ _ _ _ _ _ us hl => match us, hl with | [_, _, _, _], _ => rfl) (fun cdv A outer s H vs Q E hr h => ?_)
  · obtain ⟨G, s, l, tb, ra, c, most, rows, rs, rfl, _⟩ := h
    rfl
  · obtain ⟨G, s, l, tb, ra, c, most, rows, rs, rfl, s0, gs, gl, st, hc, htb, hra, shut, hmost, k⟩ := h
    refine ⟨_, (pss_cons (ps_par (i := 4) (j := 5) (by rfl) sc_z_run.nd rfl rfl (by decide) rfl rfl (pa_cons pe_int (pa_cons (pe_lst pa_nil) pa_nil)) (by rfl))
      (pss_cons (ps_for PassesOwn.never rfl (pi_range1 (by rfl) T.f_range (pa_cons (pe_cl (ok_z_draw T) hr (by decide) pass0 (pa_cons (pv 0) (pa_cons (pe_op op_add (pv 3) pe_int) pa_nil))) pa_nil)) (pg_name (i := 6) sc_z_run.nd rfl (by first | exact Or.inl rfl | exact Or.inr rfl))
        (pss_cons (ps_set (i := 7) sc_z_run.nd rfl (by first | exact Or.inl rfl | exact Or.inr rfl) (pe_cl (ok_z_next T) hr (by decide) pass0 (pa_cons (pv 1) (pa_cons (pv 2) (pa_cons (pv 4) pa_nil)))))
        (pss_cons (ps_if (pt_cmpR (eqNil (KK := K) (u1 hr)) (pv 7) (pe_lst pa_nil) (nomark _))
          (pss_one (ps_ret (pv 5)))
          pss_nil)
        (pss_cons (ps_asg (pe_cl (ok_z_pick T) hr (by decide) pass0 (pa_cons (pv 0) (pa_cons (pv 7) pa_nil))) (tupG (KK := K) (n := 2) (by rfl) (pgs_cons (pg_name (i := 8) sc_z_run.nd rfl (by first | exact Or.inl rfl | exact Or.inr rfl)) (pgs_cons (pg_name (i := 4) sc_z_run.nd rfl (by first | exact Or.inl rfl | exact Or.inr rfl)) pgs_nil))))
        (pss_one (ps_expr (pe_bm PySem.F.plainAttrs_list PySem.F.slot_list_append PySem.F.type_list_append mt_append (pv 5) (pa_cons (pv 8) pa_nil))))))))
      (pss_one (ps_ret (pv 5))))), ?_⟩
    refine ⟨by show 0 ≤ sizeLine; decide, fun F hF => ⟨_, _, rfl, ?_⟩⟩
    have g1 := (Gr.start (M := SM s l) s0).mine (o := .lst []) hF
    have hGF := s0.free hF
    have hFs := st.not hF
    have hF1 : upd H F (.lst []) F = some (.lst []) := upd_same
    have st1 := st.new (o := .lst []) hF
    generalize upd H F (.lst []) = H1 at g1 hF1 st1 ⊢
    dsimp only [tNext, tRet, tOp, tSeq, gName, tAsg]
    refine ⟨_, rfl, _, rfl, _, _, rfl, rfl, G, s, l, c, most + 1, rfl, g1.sub, gs, gl, st1, by omega, by omega, by omega, fun d H2 hd g2 st2 => ?_⟩
    have hF2 := g2.old _ _ hF1 hFs
    have g2 := g1.trans g2
    refine ⟨(d : Nat), rfl, by omega, by omega, for_range (n := d) (fun i σ H' => ∃ (here c2 : Nat) (o6 o7 o8 : Option V) (G3 : Hp) (xs : List V) (ks : List NestedKey), σ = [some (.ref s), some (.ref tb), some (.ref ra), some (.int (most : Nat)), some (.int (here : Nat)), some (.ref F), o6, o7, o8] ∧ Gr (SM s l) H G G3 H' ∧ H' F = some (.lst xs) ∧ G3 F = none ∧ DpAll K G3 xs (ks.map NestedKey.data) ∧ Pth (adjOf (fun r => !decide (r ∈ rs)) rows) ks here ∧ here < rows.length ∧ ks.length = i ∧ Strm H' s l c2 ∧ c2 ≤ c + 1 + i) ⟨0, c + 1, _, _, _, G, [], [], rfl, g2, hF2, hGF, .nil, .nil, shut.1, rfl, st2, Nat.le_refl _⟩ ?_ ?_⟩
    · rintro i σ H3 hi ⟨here, c2, o6, o7, o8, G3, xs, ks, rfl, g3, hF3, hGF3, hxs, hp, hlt, hkl, st3, hc3⟩
      refine ⟨_, rfl, _, rfl, _, rfl, G3, tb, ra, here, rows, rs, rfl, g3.sub, htb.same g3.up, g3.up.q hra, hlt, shut.bd, fun L H4 G4 ys g4 hL hys => ?_⟩
      have st4 := st3.of g4
      have hF4 := g4.keep hF3
      have hGF4 := g4.out hF3 hGF3
      have g5 : Gr (SM s l) H G G4 H4 := g3.trans (g4.lift fun b hb => hb.elim (fun e => e ▸ st3.s) fun e => e ▸ st3.l)
      have hxs4 := dpA_mono g4.up hxs
      have hyl : ys.length ≤ 1000 := by
        rw [Paired.length hys]
        refine Nat.le_trans keepRow_len ?_
        rw [rowAt_some (List.getElem?_eq_getElem hlt)]
        exact (shut.bd _ (List.getElem_mem hlt)).1
      have hrw : keepRow (fun r => !decide (r ∈ rs)) (rowAt rows here) = rowAt (adjOf (fun r => !decide (r ∈ rs)) rows) here := (rowAt_adjOf _ _ _).symm
      rw [hrw] at hys
      dsimp only [tNext, tRet, tOp, tSeq, gName, tAsg]
      refine ⟨_, rfl, by show 0 ≤ sizeLine; decide, fun e he => ⟨L, e, ys, rfl, rfl, (g5.sub.to_upd he).seq hL, SqL.of upd_same, ⟨_, rfl, ?_⟩⟩⟩
      have g6 := g5.mine (o := .lst []) he
      have st6 := st4.new (o := .lst []) he
      have hF6 : upd H4 e (.lst []) F = some (.lst xs) := by rw [upd_ne (ne_sn hF4 he)]; exact hF4
      generalize upd H4 e (.lst []) = H6 at g6 st6 hF6 ⊢
      cases ys with
      | nil =>
        refine ite_y rfl ?_
        have g7 := g6.give (by
          cases q : H F with
          | none => rfl
          | some o => rw [hF] at q; cases q) hFs hGF4 hF6
        refine ⟨_, rfl, k F H6 _ xs ks here c2 g7 (SqL.of upd_same) (dpA_mono (Same.upd_none hGF4) hxs4) hp (by omega) st6 (by omega)⟩
      | cons y0 yr =>
        refine ite_n rfl ?_
        generalize hy0 : y0 :: yr = ys at hL hys hyl
        refine ⟨_, rfl, _, rfl, G4, s, l, c2, L, ys, rfl, g6.sub, g5.new _ (.inr (.inl rfl)) gs, g5.new _ (.inr (.inr rfl)) gl, st6, by omega, .inl hL, by rw [← hy0]; exact Nat.succ_pos _, hyl, fun j y H7 hj g7 st7 => ?_⟩
        obtain ⟨⟨kk, nx⟩, hjr, t, w', rfl, ht, hw⟩ := paired_get hys hj
        have hF7 := g7.old _ _ hF6 hFs
        have hm := List.mem_of_getElem? hjr
        refine ⟨t, _, rfl, g7.sub.tp ht, rfl, ⟨_, _, rfl, ⟨_, _, rfl, ⟨rfl, ?_⟩⟩⟩⟩
        have hxl : xs.length = ks.length := by rw [dpA_length hxs4, List.length_map]
        refine ⟨_, rfl, .inl ⟨rfl, _, SqL.of hF7⟩, ⟨_, rfl, F, xs, w', rfl, rfl, hF7, Nat.lt_of_le_of_lt (show xs.length ≤ 1000 by omega) (by decide), ?_⟩⟩
        refine ⟨nx, c2 + 1, _, _, _, G4, xs ++ [w'], ks ++ [kk], rfl, (g6.trans g7).chg (.inl hF) hGF4, upd_same, hGF4, ?_, .snoc hp hm, shut.lt hm, by rw [List.length_append]; simp [hkl], ?_, by omega⟩
        · rw [List.map_append]
          exact dpA_snoc hw hxs4
        · exact st7.upd (fun e => hFs (.inl e)) fun e => hFs (.inr e)
    · rintro σ H3 ⟨here, c2, o6, o7, o8, G3, xs, ks, rfl, g3, hF3, hGF3, hxs, hp, hlt, hkl, st3, hc3⟩
      exact ⟨_, rfl, k F H3 _ xs ks here c2 (g3.give hF hFs hGF3 hF3) (SqL.of upd_same) (dpA_mono (Same.upd_none hGF3) hxs) hp (by omega) st3 (by omega)⟩
end
end K8
-- K8TryAs
set_option maxRecDepth 100000
set_option maxHeartbeats 400000
namespace K8
open PySem PySem.Spec PyProof.Rows L2
/-! ### several clauses 'except x as n' -/
/-- what they wish of an exception of the body, one behind the other -/
def wAss (K : PySem.W.Frag) (N : Nat) (Wo : WX) (D : Ends) : List (Value × Nat × (Addr → Value → Option Addr → TS)) → WX
  | [] => Wo
  | (c, i, ts) :: r => fun cl d σ H => ∃ b, PySem.W.exmOne K cl c = some b ∧
      (b = true → ∀ a, H a = none → σ.length = N → ts a cl d { nx := fun σ' H' => D.nx (σ'.set i none) H', rt := D.rt, bk := fun σ' H' => D.bk (σ'.set i none) H', ct := fun σ' H' => D.ct (σ'.set i none) H' } (σ.set i (some (.ref a))) H) ∧ (b = false → wAss K N Wo D r cl d σ H)
inductive AssOk (X : Cx) : List ExceptHandler → List (Value × Nat × (Addr → Value → Option Addr → TS)) → Prop
  | nil : AssOk X [] []
  | cons {x n : Str} {c : Value} {i : Nat} {ts : Addr → Value → Option Addr → TS} {b0 : Stmt} {su : List Stmt} {np p' : Pos} {hs : List ExceptHandler} {l : List (Value × Nat × (Addr → Value → Option Addr → TS))} (hi : X.N[i]? = some n) (hn : X.env.kindOf n = some .local) (hc : Names X x c)
      (hsu : ∀ (a : Addr) (oe : Obj) (cl : Value) (d : Option Addr) (pn : List (Addr × Obj)), Zc cl d oe → (∃ vs, oe.data = .fields vs) → PSs (X.suite a ((a, oe) :: pn)) (b0 :: su) (ts a cl d)) (r : AssOk X hs l) :
      AssOk X (.ExceptHandler (some (.Name x np)) (some n) (b0 :: su) p' :: hs) ((c, i, ts) :: l)
section
variable {X : Cx} {body : List Stmt} {h0 : ExceptHandler} {hs : List ExceptHandler} {l : List (Value × Nat × (Addr → Value → Option Addr → TS))} {pos : Pos} {tb : WX → TS} {Wo : WX}
theorem ps_try_ass (st : X.stack = X.env :: X.outer) (ff : X.env.frame = some X.env.locals) (hN : X.N.Nodup) (tk : Takes X Wo)
    (hb : ∀ (W : WX) (pn : List (Addr × Obj)) (xe : Value → Shared → Prop), Takes (X.tr pn xe) W → PassesOwn (model X.prog X.w) X.A X.env xe → PSs (X.tr pn xe) body (tb W)) (hh : AssOk X (h0 :: hs) l) :
    PS X (.Try body (h0 :: hs) [] [] pos) (fun D σ H => tb (wAss X.K X.N.length Wo D l) D σ H) := by
  refine ⟨fun pins s σ H D I h => ?_⟩
  have ok := I.ok
  have fr : X.A.frames = some (X.env :: X.outer) := by rw [ok.frames, st]
  refine wpAny_Try_except (wpAny_mono ((hb (wAss X.K X.N.length Wo D l) (X.pn ++ pins) (fun e t1 => wpAny (model X.prog X.w) X.A (noteFrame e X.env) (fun _ t2 => wpAny (model X.prog X.w) X.A (setFlight e none) (fun _ t3 => wpAny (model X.prog X.w) X.A (handleBy e X.env (h0 :: hs)) (SP X pins D) X.xe t3) X.xe t2) X.xe t1) (fun u s' z => ?_) PassesOwn.looking).run [] s σ H D (I.toTry _) h) (fun f s1 z => ?_) (fun e s1 z => z))
  · obtain ⟨a, B, sI, pins', σ', H', cl, d, rfl, J', nb, up, sky, na, os, ag, wi⟩ := z
    have J : Inv X pins σ' H' sI := J'.ofTry ok
    have sk : Sky B (X.env :: X.outer) a (Zc cl d) X.env.locals s'.heap := by rw [← st]; exact sky
    show wpAny (model X.prog X.w) X.A (noteFrame (.ref a) X.env) _ _ _
    refine Sky.land Zc.steady fr ff sk fun h3 fl3 up3 => ?_
    have J3 : Inv X pins σ' H' { s' with heap := h3 } := J.landed nb fl3.1 (up.trans up3) os ag
    obtain ⟨o3, v3, he3, hz3, hd3⟩ := fl3.there
    have nofr : a ∉ frs (X.env :: X.outer) := fun m => by
      obtain ⟨_, o', e', hnf⟩ := fl3.2.2.1.mem m
      rw [he3] at e'; cases e'; exact hnf _ hd3
    have nL : a ≠ X.env.locals := fun z => nofr (List.mem_filterMap.mpr ⟨X.env, List.mem_cons_self, by rw [ff, z]⟩)
    have nF : a ∉ X.fs := fun m => by
      obtain ⟨e, he, q⟩ := List.mem_filterMap.mp m
      exact nofr (List.mem_filterMap.mpr ⟨e, List.mem_cons_of_mem _ he, q⟩)
    have S3 := J3.suite he3 hd3 na nL nF
    suffices go : ∀ {hs' : List ExceptHandler} {l' : List (Value × Nat × (Addr → Value → Option Addr → TS))}, AssOk X hs' l' → wAss X.K X.N.length Wo D l' cl d σ' H' → wpAny (model X.prog X.w) X.A (handleBy (.ref a) X.env hs') (SP X pins D) X.xe { s' with heap := h3 } from go hh wi
    intro hs' l' hk
    induction hk with
    | nil =>
      intro wi
      refine wpAny_handleBy_nil ?_
      obtain ⟨k1, k2, k3, oe, vs, T, oT, ts', he, hz, hd, h1, hr⟩ := id fl3
      unfold PySem.passOn
      refine wpAny_bind (wpAny_field he hd h1 ?_)
      rw [if_neg (show ¬ ((Value.ref T == Value.none) = true) by simp)]
      have fin : wpAny (model X.prog X.w) X.A (setFlight (.ref a) X.env.frame) (fun _ s4 => wpAny (model X.prog X.w) X.A (throw (.ref a) : Sem Flow) (SP X pins D) X.xe s4) X.xe { s' with heap := h3 } := by
        rw [ff]
        exact HandSPX.setFlight_upZ fl3 fun h4 hh4 up4 => wpAny_throw (tk _ _ ⟨a, B, sI, pins, σ', H', cl, d, rfl, J, nb, (up.trans up3).trans up4, .inr (.inr (by rw [st]; exact hh4)), na, os, ag, wi⟩)
      first
        | exact wpAny_bind (wpAny_pure (wpAny_bind fin))
        | exact wpAny_bind fin
    | @cons x n c i ts b0 su np p' hs2 l2 hi hn hc hsu r ih =>
      rintro ⟨b, hb1, hyes, hno⟩
      refine wpAny_handleBy_cons (codeAny_handlers_test ?_) (by intro q; cases q)
      have LM := PySem.W.exm_one (M := model X.prog X.w) J3.kIn (show PySem.W.Looks (model X.prog X.w) h3 (typeOf (.ref a)) cl from fun A Q E s k q => wpAny_typeOf_ref (k _ _ he3) (by rw [hz3.1]; exact q)) hb1
      have test : ∀ {Q E : Value → Shared → Prop}, Q c { s' with heap := h3 } → wpAny (model X.prog X.w) (X.A.mark (some (.ref a))) (eval (.Name x np) X.env) Q E { s' with heap := h3 } := fun {Q E} q => by
        obtain ⟨hg, hdb, hm | ⟨hm, hv, hnn⟩⟩ := hc
        · exact ld_glob (X := X.suite a ((a, o3) :: (X.pn ++ pins))) S3 hg hm q hdb
        · exact ld_blt (X := X.suite a ((a, o3) :: (X.pn ++ pins))) S3 hg hm hv q hnn hdb
      refine test (LM.here ?_)
      cases b with
      | true =>
        refine codeAny_handlers_suite_as (HandSPX.lands_againZ fl3 fun h4 fl4 up4 => ?_)
        have J4 : Inv X pins σ' H' { s' with heap := h4 } := J.landed nb fl4.1 ((up.trans up3).trans up4) os ag
        obtain ⟨o4, v4, he4, hz4, hd4⟩ := fl4.there
        refine store_ok (X := X.suite a ((a, o4) :: (X.pn ++ pins))) (v := .ref a) (J4.suite he4 hd4 na nL nF) hN hi (.inl hn) rfl (fun s5 S5 => ?_) (.inr hn)
        refine wpAny_mono ((hsu a o4 cl d (X.pn ++ pins) hz4 ⟨_, hd4⟩).run [] s5 _ H' _ S5 (hyes rfl a na J.len)) (fun f s6 z => ?_) (fun _ _ z => False.elim z)
        have fin : ∀ {σ6 : L2.St} {H6 : Hp} {Q : Shared → Prop}, Inv (X.suite a ((a, o4) :: (X.pn ++ pins))) [] σ6 H6 s6 → (∀ s7, Inv X pins (σ6.set i none) H6 s7 → Q s7) → wpAny (model X.prog X.w) X.A (do bindName X.env n .none; unbindBehindTheSuite X.env n p') (fun _ s7 => Q s7) X.xe s6 := fun {σ6 H6 Q} S6 hq => gone_ok (S6.unsuite ok) hN hi hn hq
        cases f with
        | ret u =>
          obtain ⟨v6, σ6, H6, S6, r6, q6⟩ := z
          exact fin S6 fun s7 J7 => ⟨_, _, _, J7, r6, q6⟩
        | next => obtain ⟨σ6, H6, S6, q6⟩ := z; exact fin S6 fun s7 J7 => ⟨_, _, J7, q6⟩
        | brk => obtain ⟨σ6, H6, S6, q6⟩ := z; exact fin S6 fun s7 J7 => ⟨_, _, J7, q6⟩
        | cont => obtain ⟨σ6, H6, S6, q6⟩ := z; exact fin S6 fun s7 J7 => ⟨_, _, J7, q6⟩
      | false => exact ih (hno rfl)
  · cases f with
    | ret u =>
      obtain ⟨v, σ', H', J', r, q⟩ := z
      exact ⟨v, σ', H', J'.ofTry ok, r, q⟩
    | next => obtain ⟨σ', H', J', q⟩ := z; exact wpAny_execs_nil ⟨σ', H', J'.ofTry ok, q⟩
    | brk => obtain ⟨σ', H', J', q⟩ := z; exact ⟨σ', H', J'.ofTry ok, q⟩
    | cont => obtain ⟨σ', H', J', q⟩ := z; exact ⟨σ', H', J'.ofTry ok, q⟩
end
end K8
-- K8Met
set_option maxRecDepth 100000
set_option maxHeartbeats 400000
namespace K8
open PySem PySem.Spec PyProof.Rows L2
/-- what an exception out of the lambda becomes -/
def EMet (K : PySem.W.Frag) (Q : VK) : XK := fun cl d H' => ∃ (dd : Addr) (i : Int), d = some dd ∧ H' dd = some (xdI i) ∧
  ((cl = .ref (He.ga K "BadRules") ∧ ∀ p, H' p = none → Q (.ref p) (upd H' p (.tup [.str "rules", .int i]))) ∨ (cl = .ref (He.ga K "BadWord") ∧ ∀ p, H' p = none → Q (.ref p) (upd H' p (.tup [.str "word", .int i]))))
def TMet (K : PySem.W.Frag) : (XK → Hp → VK → Prop) → Hp → VK → Prop := fun tl H Q => ∀ R : VK, tl (EMet K Q) H R
theorem sc_z_met : FnScope ["_law_ask", "e"] ["_law_ask"] (defScope s_z_met) := ⟨rfl, rfl, rfl, by decide +kernel, rfl, by decide +kernel, by decide +kernel⟩
theorem met_gives {X : Cx} (T : Txt X.K X.mg) {q : Str} {cdg : Value} : LamX.GivesTo X ["_law_ask", "e"] "_law_met" (defScope s_z_met) (He.ga X.K "_law_met") cdg (defBody s_z_met) "_law_ask" q (TMet X.K) := by
  intro f c' s H Q tl act hc h
  refine ⟨_, pss_one (ps_try_ass (X := (cxOf C8.CX0 X.prog X.w X.K X.mg X.base ["_law_ask", "e"] "_law_met" (defScope s_z_met) (He.ga X.K "_law_met") cdg X.A X.stack s H C8.E0).nox)
      (tb := fun W D σ H' => ∃ Ech : XK, (∀ cl d σ' H', Ech cl d H' → W cl d σ' H') ∧ σ[0]? = some (some (.ref f)) ∧ H' c' = some (LamX.CodeO c' q) ∧ ∀ R : VK, tl Ech H' R)
      rfl rfl sc_z_met.nd LamX.takes0 (fun W pn xe tk _ => ?_)
      (.cons (i := 1) (c := .ref (He.ga X.K "BadRules")) rfl rfl ⟨rfl, by decide, .inl T.g_BadRules⟩ (fun a oe cl d pn hz hf => pss_one (ps_ret (pe_tup (pa_cons pe_str (pa_cons (pe_xf T.eR.xf T.eR.no hz hf (pv 1)) pa_nil)))))
      (.cons (i := 1) (c := .ref (He.ga X.K "BadWord")) rfl rfl ⟨rfl, by decide, .inl T.g_BadWord⟩ (fun a oe cl d pn hz hf => pss_one (ps_ret (pe_tup (pa_cons pe_str (pa_cons (pe_xf T.eW.xf T.eW.no hz hf (pv 1)) pa_nil))))) .nil))), ?_⟩
  · refine ⟨fun pins s' σ H' D I h' => ?_⟩
    obtain ⟨Ech, hW, h1, h2, h3⟩ := h'
    exact (pss_one (ps_ret (pe_tup (pa_cons pe_str (pa_cons (act W pn xe Ech _ _ tk hW) pa_nil))))).run pins s' σ H' D I ⟨h1, h2, h3 _⟩
  · refine ⟨EMet X.K Q, fun cl d σ' H' ⟨dd, i, e1, e2, e3⟩ => ?_, rfl, hc, h⟩
    rcases e3 with ⟨rfl, k⟩ | ⟨rfl, k⟩
    · refine ⟨true, T.eRR, fun _ a ha hl => ?_, fun z => nomatch z⟩
      exact ⟨_, List.getElem?_set_self (by rw [hl]; exact Nat.lt_succ_self 1), rfl, rfl, dd, _, _, e1, e2, rfl, by show 2 ≤ sizeLine; decide, fun p hp => k p hp⟩
    · refine ⟨false, T.eWR, (fun z => nomatch z), fun _ => ⟨true, T.eWW, fun _ a ha hl => ?_, fun z => nomatch z⟩⟩
      exact ⟨_, List.getElem?_set_self (by rw [hl]; exact Nat.lt_succ_self 1), rfl, rfl, dd, _, _, e1, e2, rfl, by show 2 ≤ sizeLine; decide, fun p hp => k p hp⟩
end K8
-- K8Dr
set_option maxRecDepth 100000
set_option maxHeartbeats 400000
namespace K8
open PySem PySem.Spec PyProof.Rows L2
/-- where a walk with draws stands: at most b draws so far -/
structure Dr (H G G' H' : Hp) (s l : Addr) (b : Nat) : Prop where
  gr : Gr (SM s l) H G G' H'
  gs : G' s = none
  gl : G' l = none
  st : ∃ c, c ≤ b ∧ Strm H' s l c
section
variable {H G G' H' G2 H2 : Hp} {s l a : Addr} {b b2 : Nat} {o : HO}
theorem Dr.start {c : Nat} (s0 : Same G H) (gs : G s = none) (gl : G l = none) (st : Strm H s l c) (hb : c ≤ b) : Dr H G G H s l b := ⟨Gr.start s0, gs, gl, c, hb, st⟩
theorem Dr.not (d : Dr H G G' H' s l b) (h : H' a = none) : ¬ SM s l a := let ⟨_, _, st⟩ := d.st; st.not h
theorem Dr.free0 (d : Dr H G G' H' s l b) (h : H' a = none) : H a = none := d.gr.freeM h (d.not h)
theorem Dr.mine (d : Dr H G G' H' s l b) (h : H' a = none) : Dr H G G' (upd H' a o) s l b := ⟨d.gr.mine h, d.gs, d.gl, let ⟨c, hc, st⟩ := d.st; ⟨c, hc, st.new h⟩⟩
theorem Dr.newG (d : Dr H G G' H' s l b) (h : H' a = none) : Dr H G (upd G' a o) (upd H' a o) s l b := by
  obtain ⟨c, hc, st⟩ := d.st
  have ha : ¬ SM s l a := st.not h
  exact ⟨d.gr.newG h ha (d.free0 h), by rw [upd_ne (fun e => ha (.inl e.symm))]; exact d.gs, by rw [upd_ne (fun e => ha (.inr e.symm))]; exact d.gl, c, hc, st.new h⟩
/-- one's own thing is written -/
theorem Dr.chg (d : Dr H G G' H' s l b) (h0 : H a = none) (hm : ¬ SM s l a) (hg : G' a = none) : Dr H G G' (upd H' a o) s l b := ⟨d.gr.chg (.inl h0) hg, d.gs, d.gl, let ⟨c, hc, st⟩ := d.st; ⟨c, hc, st.upd (fun e => hm (.inl e)) fun e => hm (.inr e)⟩⟩
theorem Dr.give (d : Dr H G G' H' s l b) (h0 : H a = none) (hm : ¬ SM s l a) (hg : G' a = none) (h : H' a = some o) : Dr H G (upd G' a o) H' s l b :=
  ⟨d.gr.give h0 hm hg h, by rw [upd_ne (fun e => hm (.inl e.symm))]; exact d.gs, by rw [upd_ne (fun e => hm (.inr e.symm))]; exact d.gl, d.st⟩
/-- a call that draws -/
theorem Dr.call {c : Nat} (d : Dr H G G' H' s l b) (g : Gr (SM s l) H' G' G2 H2) (st : Strm H2 s l c) (hc : c ≤ b2) : Dr H G G2 H2 s l b2 := ⟨d.gr.trans g, g.new _ (.inr (.inl rfl)) d.gs, g.new _ (.inr (.inr rfl)) d.gl, c, hc, st⟩
/-- a call that does not -/
theorem Dr.calm (d : Dr H G G' H' s l b) (g : Gr NoM H' G' G2 H2) : Dr H G G2 H2 s l b := by
  obtain ⟨c, hc, st⟩ := d.st
  have g2 : Gr (SM s l) H' G' G2 H2 := g.lift fun b hb => hb.elim (fun e => e ▸ st.s) fun e => e ▸ st.l
  exact d.call g2 (st.of g) hc
theorem Dr.le (d : Dr H G G' H' s l b) (h : b ≤ b2) : Dr H G G' H' s l b2 := ⟨d.gr, d.gs, d.gl, let ⟨c, hc, st⟩ := d.st; ⟨c, Nat.le_trans hc h, st⟩⟩
theorem Dr.sub (d : Dr H G G' H' s l b) : Same G' H' := d.gr.sub
end
/-! ### drawn words -/
def wd5 : List D := [.lf (.str "do"), .lf (.str "tell"), .lf (.int 0), .sq [.lf (.str "do"), .lf (.str "a")], .lf (.str "x")]
def dOf : V → D
  | .ref _ => .sq [.lf (.str "do"), .lf (.str "a")]
  | v => .lf v
theorem wd5_ok : ∀ d ∈ wd5, isWord d = true ∧ dep d < 3 ∧ wide d ≤ 1000 ∧ okK (keyD d) := by
  intro d m
  rcases List.mem_cons.mp m with rfl | m
  · exact ⟨by decide, by decide, by decide, by unfold okK; decide +kernel⟩
  rcases List.mem_cons.mp m with rfl | m
  · exact ⟨by decide, by decide, by decide, by unfold okK; decide +kernel⟩
  rcases List.mem_cons.mp m with rfl | m
  · exact ⟨by decide, by decide, by decide, by unfold okK; decide +kernel⟩
  rcases List.mem_cons.mp m with rfl | m
  · exact ⟨by decide, by decide, by decide, by unfold okK; decide +kernel⟩
  rw [List.mem_singleton.mp m]
  exact ⟨by decide, by decide, by decide, by unfold okK; decide +kernel⟩
end K8
-- K8Dr2
set_option maxRecDepth 100000
set_option maxHeartbeats 400000
namespace K8
open PySem PySem.Spec PyProof.Rows L2
theorem wd5_nd : (wd5.map keyD).Nodup := by decide +kernel
def xs5 (t : Addr) : List V := [.str "do", .str "tell", .int 0, .ref t, .str "x"]
theorem xs5_map (t : Addr) : (xs5 t).map dOf = wd5 := rfl
theorem xs5_dp {K : PySem.W.Frag} {G : Hp} {t : Addr} (h : SqT K G t [.str "do", .str "a"]) {y : V} (m : y ∈ xs5 t) : Dp K G y (keyD (dOf y)).data := by
  rcases List.mem_cons.mp m with rfl | m
  · exact .str _
  rcases List.mem_cons.mp m with rfl | m
  · exact .str _
  rcases List.mem_cons.mp m with rfl | m
  · exact .int _
  rcases List.mem_cons.mp m with rfl | m
  · exact .tup h (.cons (.str _) (.cons (.str _) .nil))
  rw [List.mem_singleton.mp m]
  exact .str _
theorem perm_strs {ys : List V} {nm : List Str} (h : ys.Perm (nm.map V.str)) : ∃ zs : List Str, ys = zs.map V.str ∧ zs.Perm nm := by
  let f : V → Str := fun v => match v with
    | .str x => x
    | _ => ""
  have e1 : (nm.map V.str).map f = nm := by rw [List.map_map]; exact List.map_id' nm
  refine ⟨ys.map f, ?_, by have := h.map f; rwa [e1] at this⟩
  rw [List.map_map]
  have : ∀ y ∈ ys, (V.str ∘ f) y = y := fun y m => by
    obtain ⟨x, _, rfl⟩ := List.mem_map.mp (h.mem_iff.mp m)
    rfl
  rw [List.map_congr_left this, List.map_id']
theorem perm_nats {ys : List V} {nm : List Nat} (h : ys.Perm (nm.map natV)) : ∃ zs : List Nat, ys = zs.map natV ∧ zs.Perm nm := by
  let f : V → Nat := fun v => match v with
    | .int x => x.toNat
    | _ => 0
  have e1 : (nm.map natV).map f = nm := by
    rw [List.map_map]
    have : ∀ y ∈ nm, (f ∘ natV) y = y := fun y _ => by show Int.toNat (y : Int) = y; omega
    rw [List.map_congr_left this, List.map_id']
  refine ⟨ys.map f, ?_, by have := h.map f; rwa [e1] at this⟩
  rw [List.map_map]
  have : ∀ y ∈ ys, (natV ∘ f) y = y := fun y m => by
    obtain ⟨x, _, rfl⟩ := List.mem_map.mp (h.mem_iff.mp m)
    show V.int ((Int.toNat (x : Int) : Nat) : Int) = _
    rw [Int.toNat_natCast]; rfl
  rw [List.map_congr_left this, List.map_id']
theorem six_nat (n d k : Nat) : HT.sIx n d (some (k : Int)) = min k n := by
  show (if (k : Int) < 0 then ((k : Int) + (n : Int)).toNat else min (Int.toNat (k : Int)) n) = _
  rw [if_neg (by omega), Int.toNat_natCast]
theorem cut_take (xs : List V) (k : Nat) : cutV xs none (some (k : Int)) = xs.take k := by
  unfold cutV
  rw [six_nat]
  show List.take (min k xs.length - 0) (List.drop 0 xs) = _
  rw [List.drop_zero, Nat.sub_zero]
  by_cases c : k ≤ xs.length
  · rw [Nat.min_eq_left c]
  · rw [Nat.min_eq_right (by omega), List.take_length, List.take_of_length_le (by omega)]
theorem cut_drop (xs : List V) (k : Nat) : cutV xs (some (k : Int)) none = xs.drop k := by
  unfold cutV
  rw [six_nat]
  show List.take (xs.length - min k xs.length) (List.drop (min k xs.length) xs) = _
  by_cases c : k ≤ xs.length
  · rw [Nat.min_eq_left c, List.take_of_length_le (by rw [List.length_drop]; exact Nat.le_refl _)]
  · rw [Nat.min_eq_right (by omega), Nat.sub_self, List.take_zero, List.drop_of_length_le (show xs.length ≤ k by omega)]
end K8
-- K8Gro
set_option maxRecDepth 100000
set_option maxHeartbeats 400000
namespace K8
open PySem PySem.Spec PyProof.Rows L2
/-! ### drawn steps, stand by stand -/
structure Gro (n i : Nat) (nm : List Str) (ss : List Stp) : Prop where
  ok : ∀ s ∈ ss, (isWord s.wd = true ∧ dep s.wd < 3 ∧ wide s.wd ≤ 1000 ∧ okK (keyD s.wd)) ∧ s.one < i ∧ s.oth < n ∧ s.bars.Nodup ∧ Sub s.bars nm
  ap : Apart ss
  row : ∀ j, (stepsAt ss j).length ≤ 3
  few : ss.length ≤ 3 * i
theorem Gro.nil (n : Nat) (nm : List Str) : Gro n 0 nm [] := ⟨fun _ m => (nomatch m), .nil, fun _ => Nat.zero_le _, Nat.zero_le _⟩
theorem Gro.next {n i : Nat} {nm : List Str} {ss new : List Stp} (g : Gro n i nm ss) (h : ∀ s ∈ new, (isWord s.wd = true ∧ dep s.wd < 3 ∧ wide s.wd ≤ 1000 ∧ okK (keyD s.wd)) ∧ s.one = i ∧ s.oth < n ∧ s.bars.Nodup ∧ Sub s.bars nm) (hk : (new.map fun s => keyD s.wd).Nodup) (hl : new.length ≤ 3) : Gro n (i + 1) nm (ss ++ new) where
  ok := fun s m => by
    rcases List.mem_append.mp m with m | m
    · obtain ⟨a, b, c⟩ := g.ok s m
      exact ⟨a, Nat.lt_succ_of_lt b, c⟩
    · obtain ⟨a, b, c⟩ := h s m
      exact ⟨a, by omega, c⟩
  ap := by
    refine List.pairwise_append.mpr ⟨g.ap, ?_, fun a ha b hb z => ?_⟩
    · have := List.pairwise_map.mp hk
      exact this.imp fun {a b} q z => q z.2
    · have h1 := (g.ok a ha).2.1
      have h2 := (h b hb).2.1
      have := z.1
      omega
  row := fun j => by
    unfold stepsAt
    rw [List.filter_append, List.length_append]
    by_cases c : j = i
    · have : ss.filter (fun s => s.one == j) = [] := by
        rw [List.filter_eq_nil_iff]
        intro a ha z
        have h1 := (g.ok a ha).2.1
        have := eq_of_beq z
        omega
      rw [this]
      have h2 := List.length_filter_le (fun s : Stp => s.one == j) new
      show 0 + _ ≤ 3
      omega
    · have : new.filter (fun s => s.one == j) = [] := by
        rw [List.filter_eq_nil_iff]
        intro a ha z
        have h1 := (h a ha).2.1
        have := eq_of_beq z
        omega
      rw [this]
      exact g.row j
  few := by
    have := g.few
    rw [List.length_append]
    omega
theorem Apart.perm {a b : List Stp} (h : Apart a) (p : b.Perm a) : Apart b := by
  unfold Apart at h ⊢
  refine (List.Perm.pairwise_iff (fun {x y} q z => q ⟨z.1.symm, z.2.symm⟩) p).mpr h
theorem Gro.play {n : Nat} {nm : List Str} {ss ss' : List Stp} {bs bs' : List Nat} (g : Gro n n nm ss) (hn : 1 ≤ n) (hn2 : n ≤ 20) (hs : Sub nm base6) (p : ss'.Perm ss) (hb : ∀ b ∈ bs, b < n) (hd : bs.Nodup) (hf : bs.length ≤ 6) (q : bs'.Perm bs) : PlayOk n ss' bs' where
  n1 := hn
  n20 := hn2
  few := by
    have := g.few
    rw [p.length_eq]
    omega
  row := fun j => by
    have := (p.filter fun s => s.one == j).length_eq
    unfold stepsAt
    rw [this]
    exact Nat.le_trans (g.row j) (by decide)
  wd := fun s m => (g.ok s (p.mem_iff.mp m)).1
  one := fun s m => (g.ok s (p.mem_iff.mp m)).2.1
  oth := fun s m => (g.ok s (p.mem_iff.mp m)).2.2.1
  bars := fun s m => ⟨(g.ok s (p.mem_iff.mp m)).2.2.2.1, (g.ok s (p.mem_iff.mp m)).2.2.2.2.trans hs⟩
  apart := g.ap.perm p
  bad := fun b m => hb b (q.mem_iff.mp m)
  bnd := q.nodup_iff.mpr hd
  bfew := by rw [q.length_eq]; exact hf
/-- values of steps in another order -/
theorem steps_perm {K : PySem.W.Frag} {G : Hp} {xs ys : List V} {ss : List Stp} (h : StepsV K G xs ss) (p : ys.Perm xs) : ∃ ss', StepsV K G ys ss' ∧ ss'.Perm ss := by
  induction p generalizing ss with
  | nil => cases h; exact ⟨[], .nil, List.Perm.refl _⟩
  | cons x _ ih =>
    cases h with
    | cons a t =>
      obtain ⟨s2, h2, p2⟩ := ih t
      exact ⟨_ :: s2, .cons a h2, p2.cons _⟩
  | swap x y l =>
    cases h with
    | cons a t =>
      cases t with
      | cons b t =>
        exact ⟨_ :: _ :: _, .cons b (.cons a t), List.Perm.swap _ _ _⟩
  | trans _ _ ih1 ih2 =>
    obtain ⟨s2, h2, p2⟩ := ih2 h
    obtain ⟨s3, h3, p3⟩ := ih1 h2
    exact ⟨s3, h3, p3.trans p2⟩
end K8
-- K8Dw
set_option maxRecDepth 100000
set_option maxHeartbeats 400000
namespace K8
open PySem PySem.Spec PyProof.Rows L2
/-! ### calls that draw, where a walk stands -/
section
variable {K : PySem.W.Frag} {H G G' H' : Hp} {s l : Addr} {b : Nat} {Q : VK} {E : XK}
theorem Dr.draw (n : Nat) (d : Dr H G G' H' s l b) (hb : b < 1099511627776) (h1 : 1 ≤ n) (h2 : n ≤ 1000000) (k : ∀ x H2, x < n → Gr (SM s l) H' G' G' H2 → Dr H G G' H2 s l (b + 1) → Q (.int (x : Nat)) H2) : spDraw [.ref s, .int (n : Nat)] H' Q E := by
  obtain ⟨c, hc, st⟩ := d.st
  exact ⟨G', s, l, c, n, rfl, d.gr.sub, d.gs, d.gl, st, by omega, h1, h2, fun x H2 hx g st2 => k x H2 hx g (d.call g st2 (by omega))⟩
theorem Dr.pick {a : Addr} {xs : List V} (d : Dr H G G' H' s l b) (hb : b < 1099511627776) (src : Sq K G' a xs) (h1 : 1 ≤ xs.length) (h2 : xs.length ≤ 1000) (k : ∀ (j : Nat) x H2, xs[j]? = some x → Gr (SM s l) H' G' G' H2 → Dr H G G' H2 s l (b + 1) → Q x H2) : spPick K [.ref s, .ref a] H' Q E := by
  obtain ⟨c, hc, st⟩ := d.st
  exact ⟨G', s, l, c, a, xs, rfl, d.gr.sub, d.gs, d.gl, st, by omega, src, h1, h2, fun j x H2 hx g st2 => k j x H2 hx g (d.call g st2 (by omega))⟩
theorem Dr.mixed {a : Addr} {xs : List V} (d : Dr H G G' H' s l b) (hb : b + xs.length < 1099511627776) (src : Sq K G' a xs) (h2 : xs.length ≤ 1000) (k : ∀ p H2 G2 ys, ys.Perm xs → Gr (SM s l) H' G' G2 H2 → Dr H G G2 H2 s l (b + xs.length) → SqL K G2 p ys → Q (.ref p) H2) : spMixed K [.ref s, .ref a] H' Q E := by
  obtain ⟨c, hc, st⟩ := d.st
  exact ⟨G', s, l, c, a, xs, rfl, d.gr.sub, d.gs, d.gl, st, by omega, src, h2, fun p H2 G2 ys hp g hq st2 => k p H2 G2 ys hp g (d.call g st2 (by omega)) hq⟩
end
/-- .. with a list of one's own -/
structure DrF (H G G' H' : Hp) (s l : Addr) (b : Nat) (F : Addr) (xs : List V) : Prop where
  d : Dr H G G' H' s l b
  f : H' F = some (.lst xs)
  g : G' F = none
  z : H F = none
  n : ¬ SM s l F
section
variable {K : PySem.W.Frag} {H G G' H' G2 H2 : Hp} {s l a F : Addr} {b b2 : Nat} {xs ys : List V} {o : HO} {Q : VK} {E : XK}
theorem DrF.start (d : Dr H G G' H' s l b) (hF : H' F = none) : DrF H G G' (upd H' F (.lst xs)) s l b F xs := ⟨d.mine hF, upd_same, d.sub.free hF, d.free0 hF, d.not hF⟩
theorem DrF.sub (d : DrF H G G' H' s l b F xs) : Same G' H' := d.d.sub
theorem DrF.le (d : DrF H G G' H' s l b F xs) (h : b ≤ b2) : DrF H G G' H' s l b2 F xs := ⟨d.d.le h, d.f, d.g, d.z, d.n⟩
theorem DrF.newG (d : DrF H G G' H' s l b F xs) (h : H' a = none) : DrF H G (upd G' a o) (upd H' a o) s l b F xs :=
  ⟨d.d.newG h, by rw [upd_ne (ne_sn d.f h)]; exact d.f, by rw [upd_ne (ne_sn d.f h)]; exact d.g, d.z, d.n⟩
theorem DrF.mine (d : DrF H G G' H' s l b F xs) (h : H' a = none) : DrF H G G' (upd H' a o) s l b F xs :=
  ⟨d.d.mine h, by rw [upd_ne (ne_sn d.f h)]; exact d.f, d.g, d.z, d.n⟩
theorem DrF.call (d : DrF H G G' H' s l b F xs) (g : Gr (SM s l) H' G' G2 H2) (d2 : Dr H G G2 H2 s l b2) : DrF H G G2 H2 s l b2 F xs :=
  ⟨d2, g.old _ _ d.f d.n, g.out d.f d.g, d.z, d.n⟩
theorem DrF.calm (d : DrF H G G' H' s l b F xs) (g : Gr NoM H' G' G2 H2) : DrF H G G2 H2 s l b F xs := ⟨d.d.calm g, g.keep d.f, g.out d.f d.g, d.z, d.n⟩
theorem DrF.put (d : DrF H G G' H' s l b F xs) : DrF H G G' (upd H' F (.lst ys)) s l b F ys := ⟨d.d.chg d.z d.n d.g, upd_same, d.g, d.z, d.n⟩
theorem DrF.give (d : DrF H G G' H' s l b F xs) : Dr H G (upd G' F (.lst xs)) H' s l b := d.d.give d.z d.n d.g d.f
theorem DrF.draw (n : Nat) (d : DrF H G G' H' s l b F xs) (hb : b < 1099511627776) (h1 : 1 ≤ n) (h2 : n ≤ 1000000) (k : ∀ x H2, x < n → DrF H G G' H2 s l (b + 1) F xs → Q (.int (x : Nat)) H2) : spDraw [.ref s, .int (n : Nat)] H' Q E :=
  d.d.draw n hb h1 h2 fun x H2 hx g d2 => k x H2 hx (d.call g d2)
theorem DrF.pick (d : DrF H G G' H' s l b F xs) (hb : b < 1099511627776) (src : Sq K G' a ys) (h1 : 1 ≤ ys.length) (h2 : ys.length ≤ 1000) (k : ∀ (j : Nat) x H2, ys[j]? = some x → DrF H G G' H2 s l (b + 1) F xs → Q x H2) : spPick K [.ref s, .ref a] H' Q E :=
  d.d.pick hb src h1 h2 fun j x H2 hx g d2 => k j x H2 hx (d.call g d2)
theorem DrF.mixed (d : DrF H G G' H' s l b F xs) (hb : b + ys.length < 1099511627776) (src : Sq K G' a ys) (h2 : ys.length ≤ 1000) (k : ∀ p H2 G2 zs, zs.Perm ys → Same G' G2 → DrF H G G2 H2 s l (b + ys.length) F xs → SqL K G2 p zs → Q (.ref p) H2) : spMixed K [.ref s, .ref a] H' Q E :=
  d.d.mixed hb src h2 fun p H2 G2 zs hp g d2 hq => k p H2 G2 zs hp g.up (d.call g d2) hq
end
section
variable {X : Cx} {KK : PySem.W.Frag}
theorem slK (hK : X.K = KK := by rfl) : SlR X (rSlL KK) := by subst hK; exact sl_list
def rDictP (K : PySem.W.Frag) : List V → Hp → VK → Prop := fun xs H Q => ∃ (a : Addr) (ps : List Addr) (kvs : List (Key × V)), xs = [.ref a] ∧ SqL K H a (ps.map V.ref) ∧ Paired (fun p kv => SqT K H p [kV kv.1, kv.2]) ps kvs ∧ ∀ p, H p = none → Q (.ref p) (upd H p (.dK (mergeK [] kvs)))
theorem dictP (hc : X.calm = true) (hK : X.K = KK := by rfl) : CallR X (.type "dict") (rDictP KK) := by subst hK; exact call_dictP hc
end
abbrev PrV (K : PySem.W.Frag) (G : Hp) (p : Addr) (kv : Key × V) : Prop := SqT K G p [kV kv.1, kv.2]
/-- a picked one of some whole numbers -/
theorem pick_nat {ns : List Nat} {j : Nat} {x : V} (h : (ns.map natV)[j]? = some x) : ∃ k ∈ ns, x = natV k := by
  rw [List.getElem?_map, Option.map_eq_some_iff] at h
  obtain ⟨k, h1, rfl⟩ := h
  exact ⟨k, List.mem_of_getElem? h1, rfl⟩
abbrev kyA : Key := Sum.inr ("a" : Str)
abbrev kyH : Key := Sum.inr ("house" : Str)
def sdK (b1 b2 : Bool) : List (Key × V) := (if b1 then [(kyA, V.str "x")] else []) ++ (if b2 then [(kyH, V.str "x")] else [])
theorem sdK_ok (b1 b2 : Bool) : SideOk (mergeK [] (sdK b1 b2)) := by
  have h1 : nameB "a" = true := by decide +kernel
  have h2 : nameB "house" = true := by decide +kernel
  have h3 : kyA ≠ kyH := by decide +kernel
  cases b1 <;> cases b2
  · exact ⟨List.nodup_nil, Nat.zero_le _, [], rfl, fun _ m => (nomatch m), fun _ m => (nomatch m)⟩
  · have e : mergeK [] (sdK false true) = [(kyH, V.str "x")] := rfl
    rw [e]
    refine ⟨by simp, by simp, ["house"], rfl, fun b m => ?_, fun p m => ?_⟩
    · rw [List.mem_singleton.mp m]; exact h2
    · rw [List.mem_singleton.mp m]; exact ⟨_, rfl⟩
  · have e : mergeK [] (sdK true false) = [(kyA, V.str "x")] := rfl
    rw [e]
    refine ⟨by simp, by simp, ["a"], rfl, fun b m => ?_, fun p m => ?_⟩
    · rw [List.mem_singleton.mp m]; exact h1
    · rw [List.mem_singleton.mp m]; exact ⟨_, rfl⟩
  · have e : mergeK [] (sdK true true) = [(kyA, V.str "x"), (kyH, V.str "x")] := by
      have e1 : putK ([] : List (Key × V)) kyA (V.str "x") = [(kyA, V.str "x")] := putK_new (by simp)
      have e2 : putK [(kyA, V.str "x")] kyH (V.str "x") = [(kyA, V.str "x")] ++ [(kyH, V.str "x")] := putK_new (fun z => h3 (List.mem_singleton.mp z).symm)
      show putK (putK [] kyA (V.str "x")) kyH (V.str "x") = _
      rw [e1, e2]
      rfl
    rw [e]
    refine ⟨by simp [h3], by simp, ["a", "house"], rfl, fun b m => ?_, fun p m => ?_⟩
    · rcases List.mem_cons.mp m with rfl | m
      · exact h1
      · rw [List.mem_singleton.mp m]; exact h2
    · rcases List.mem_cons.mp m with rfl | m
      · exact ⟨_, rfl⟩
      · rw [List.mem_singleton.mp m]; exact ⟨_, rfl⟩
section
variable {K : PySem.W.Frag} {M : Addr → Prop} {a : Addr} {xs : List V} {g : TG} {tt : TT} {te : TE} {vs : List Nat} {σ : L2.St} {H1 G1 : Hp} {D : Addr} {Qd : Hp → Prop}
theorem lcS_gl (R : Nat → List V → Hp → Hp → Prop) (hD : H1 D = none) (hm : ¬ M D) (hst : Stays H1 D R) (s : Same G1 H1) (src : SqL K G1 a xs) (hz : xs.length ≤ sizeLine) (r0 : R 0 [] G1 (upd H1 D (.lst [])))
    (hs : ∀ i x acc G H, xs[i]? = some x → Gr M H1 G1 G H → acc.length ≤ i → R i acc G H → LcTurnS M g tt te vs σ R i x acc G H)
    (hd : ∀ acc G H, Gr M H1 G1 (upd G D (.lst acc)) H → G D = none → acc.length ≤ xs.length → R xs.length acc G H → Qd H) :
    ∃ W : Nat → Nat → Hp → Prop, (∃ m, W 0 m (upd H1 D (.lst []))) ∧ ∀ i m H, W i m H →
      ((Itl K a).stop i H ∧ Qd H) ∨ ((Itl K a).go i H ∧ ∃ Nx : Hp → Prop, (∀ H', Nx H' → ∃ m', m' < m ∧ W (i + 1) m' H') ∧ ∀ x H', (Itl K a).yld i H x H' → g x (wipe σ vs) H' fun σ2 H2 => wipe σ2 vs = wipe σ vs ∧ tt σ2 H2 fun b H3 =>
        if b = true then te σ2 H3 fun y H4 => ∃ acc, H4 D = some (.lst acc) ∧ acc.length < sizeLine ∧ Nx (upd H4 D (.lst (acc ++ [y]))) else Nx H3) :=
  lc_list (LcInvS M H1 G1 D R) ⟨[], G1, (Gr.start s).mine hD, upd_same, s.free hD, Nat.le_refl _, r0⟩ (fun i H _ ⟨_, _, gr, _⟩ => (gr.up.trans gr.sub).seq src)
    (fun i x H hx p => lcS_turn hD hm hst (Nat.lt_of_lt_of_le (List.getElem?_eq_some_iff.mp hx).1 hz) (fun acc G gr hl r => hs i x acc G H hx gr hl r) p)
    (fun H p => lcS_end hD hm p fun acc G gr hg hl r => hd acc G H gr hg hl r)
end
/-- what a play is drawn from, and the play -/
def spXdrawn (K : PySem.W.Frag) : Sp := fun vs H Q _ => ∃ (G : Hp) (s l : Addr) (c : Nat) (a : Addr) (nm : List Str), vs = [.ref s, .ref a] ∧ Same G H ∧ G s = none ∧ G l = none ∧ Strm H s l c ∧ c + 10000 < 1099511627776 ∧ Sq K G a (nm.map V.str) ∧ nm.Nodup ∧ Sub nm base6 ∧
  ∀ t H' G' n ss bs c', Gr (SM s l) H G G' H' → DrawnV K G' t n ss bs → PlayOk n ss bs → Strm H' s l c' → c' ≤ c + 1000 → Q (.ref t) H'
end K8
-- K8Xa
set_option maxRecDepth 100000
set_option maxHeartbeats 1000000
namespace K8
open PySem PySem.Spec PyProof.Rows L2
theorem sc_x_play : FnScope ["_law_stream", "_law_names", "_law_many", "_law_steps", "_law_here", "_law_words", "_law_word", "_law_bars", "_law_other", "_law_sights", "_law_bad", "_law_side", "_law_stand"] ["_law_stream", "_law_names"] (defScope s_x_play) := ⟨rfl, rfl, rfl, by decide +kernel, rfl, by decide +kernel, by decide +kernel⟩
/-- a drawn word is fine -/
abbrev WdOk (d : D) : Prop := isWord d = true ∧ dep d < 3 ∧ wide d ≤ 1000 ∧ okK (keyD d)
abbrev NewOk (n i : Nat) (nm : List Str) (s : Stp) : Prop := WdOk s.wd ∧ s.one = i ∧ s.oth < n ∧ s.bars.Nodup ∧ Sub s.bars nm
theorem xs5_wd {t : Addr} {y : V} (m : y ∈ xs5 t) : WdOk (dOf y) := wd5_ok _ (by rw [← xs5_map t]; exact List.mem_map.mpr ⟨y, m, rfl⟩)
theorem xs5_keys {t : Addr} {ys : List V} (p : ys.Perm (xs5 t)) : (ys.map fun y => keyD (dOf y)).Nodup := by
  have h := (p.map fun y => keyD (dOf y)).nodup_iff.mpr (by
    have e : (xs5 t).map (fun y => keyD (dOf y)) = wd5.map keyD := by rw [← xs5_map t, List.map_map]; rfl
    rw [e]; exact wd5_nd)
  exact h
section
variable {P : Program} {w : World} {K : PySem.W.Frag} {mg : Str → Option Value} {base : Heap}
theorem ok_x_play (T : Txt K mg) : Cl P w K mg base CX0 3 "_law_x_play" (spXdrawn K) := by
  refine cl0 (T.F_x_play) T.g_x_play sc_x_play (fun vs H Q E h => ?_) (fun _ _ _ _ _ _ us hl => match us, hl with | [_, _], _ => rfl) (fun cdv A outer s H vs Q E hr h => ?_)
  · obtain ⟨G, s, l, c, a, nm, rfl, _⟩ := h
    rfl
  · obtain ⟨G, s, l, c, a, nm, rfl, s0, gs, gl, st, hc, hnm, hnd, hsub, k⟩ := h
    refine ⟨_, (pss_cons (ps_par (i := 2) (j := 3) (by rfl) sc_x_play.nd rfl rfl (by decide) rfl rfl (pa_cons (pe_op op_add pe_int (pe_cl (ok_z_draw (K := K) T) hr (by decide) pass0 (pa_cons (pv 0) (pa_cons pe_int pa_nil)))) (pa_cons (pe_lst pa_nil) pa_nil)) (by rfl))
      (pss_cons (ps_for PassesOwn.never rfl (pi_range1 (by rfl) T.f_range (pa_cons (pv 2) pa_nil)) (pg_name (i := 4) sc_x_play.nd rfl (by first | exact Or.inl rfl | exact Or.inr rfl))
        (pss_cons (ps_set (i := 5) sc_x_play.nd rfl (by first | exact Or.inl rfl | exact Or.inr rfl) (pe_cl (ok_z_mixed (K := K) T) hr (by decide) pass0 (pa_cons (pv 0) (pa_cons (pe_lst (pa_cons pe_str (pa_cons pe_str (pa_cons pe_int (pa_cons (pe_tup (pa_cons pe_str (pa_cons pe_str pa_nil))) (pa_cons pe_str pa_nil)))))) pa_nil))))
        (pss_one (ps_for PassesOwn.never rfl (sqI (KK := K) (pe_slice (slK (KK := K)) (pv 5) po_none (po_some (pe_cl (ok_z_pick (K := K) T) hr (by decide) pass0 (pa_cons (pv 0) (pa_cons (pe_lst (pa_cons pe_int (pa_cons pe_int (pa_cons pe_int (pa_cons pe_int (pa_cons pe_int (pa_cons pe_int pa_nil))))))) pa_nil)))))) (pg_name (i := 6) sc_x_play.nd rfl (by first | exact Or.inl rfl | exact Or.inr rfl))
          (pss_cons (ps_set (i := 7) sc_x_play.nd rfl (by first | exact Or.inl rfl | exact Or.inr rfl) (pe_slice (slK (KK := K)) (pe_cl (ok_z_mixed (K := K) T) hr (by decide) pass0 (pa_cons (pv 0) (pa_cons (pv 1) pa_nil))) po_none (po_some (pe_cl (ok_z_pick (K := K) T) hr (by decide) pass0 (pa_cons (pv 0) (pa_cons (pe_lst (pa_cons pe_int (pa_cons pe_int (pa_cons pe_int (pa_cons pe_int (pa_cons pe_int (pa_cons pe_int pa_nil))))))) pa_nil))))))
          (pss_cons (ps_set (i := 8) sc_x_play.nd rfl (by first | exact Or.inl rfl | exact Or.inr rfl) (pe_cl (ok_z_pick (K := K) T) hr (by decide) pass0 (pa_cons (pv 0) (pa_cons (pe_lst (pa_cons (pe_callB (call_min2 rfl) (by rfl) T.f_min (by decide +kernel) (pa_cons (pe_op op_sub (pv 2) pe_int) (pa_cons (pe_op op_add (pv 4) pe_int) pa_nil))) (pa_cons (pe_cl (ok_z_draw (K := K) T) hr (by decide) pass0 (pa_cons (pv 0) (pa_cons (pv 2) pa_nil))) (pa_cons (pe_cl (ok_z_draw (K := K) T) hr (by decide) pass0 (pa_cons (pv 0) (pa_cons (pv 2) pa_nil))) pa_nil)))) pa_nil))))
          (pss_cons (ps_set (i := 9) sc_x_play.nd rfl (by first | exact Or.inl rfl | exact Or.inr rfl) (pe_callTy (dictP (KK := K) rfl) (by rfl) T.f_dict (by decide +kernel) (pa_cons (pe_lc (own := [("_law_side", 11)]) rfl sc_x_play.nd (sqI (KK := K) (pe_lst (pa_cons pe_str (pa_cons pe_str pa_nil)))) (blkOk_by (by kernel_rfl)) (fun _ _ _ _ _ => (pg_name (i := 11) sc_x_play.nd rfl (by first | exact Or.inl rfl | exact Or.inr rfl))) (fun _ _ _ _ _ => (pts_one (pt_cmpR op_eq (pe_cl (ok_z_draw (K := K) T) hr (by decide) pass0 (pa_cons (pv 0) (pa_cons pe_int pa_nil))) pe_int (nomark _)))) (fun _ _ _ _ _ => (pe_tup (pa_cons (pv 11) (pa_cons pe_str pa_nil))))) pa_nil)))
          (pss_one (ps_expr (pe_bm PySem.F.plainAttrs_list PySem.F.slot_list_append PySem.F.type_list_append mt_append (pv 3) (pa_cons (pe_tup (pa_cons (pv 6) (pa_cons (pv 4) (pa_cons (pv 8) (pa_cons (pv 7) (pa_cons (pv 9) pa_nil)))))) pa_nil)))))))))))
      (pss_cons (ps_set (i := 10) sc_x_play.nd rfl (by first | exact Or.inl rfl | exact Or.inr rfl) (pe_op op_cat (pe_lst (pa_cons (pe_op op_sub (pv 2) pe_int) pa_nil)) (pe_lc (own := [("_law_stand", 12)]) rfl sc_x_play.nd (pi_range2 (by rfl) T.f_range (pa_cons pe_int (pa_cons (pe_op op_sub (pv 2) pe_int) pa_nil))) (blkOk_by (by kernel_rfl)) (fun _ _ _ _ _ => (pg_name (i := 12) sc_x_play.nd rfl (by first | exact Or.inl rfl | exact Or.inr rfl))) (fun _ _ _ _ _ => (pts_one (pt_cmpR op_eq (pe_cl (ok_z_draw (K := K) T) hr (by decide) pass0 (pa_cons (pv 0) (pa_cons pe_int pa_nil))) pe_int (nomark _)))) (fun _ _ _ _ _ => (pv 12)))))
      (pss_one (ps_ret (pe_tup (pa_cons (pv 2) (pa_cons (pe_cl (ok_z_mixed (K := K) T) hr (by decide) pass0 (pa_cons (pv 0) (pa_cons (pv 3) pa_nil))) (pa_cons (pe_cl (ok_z_mixed (K := K) T) hr (by decide) pass0 (pa_cons (pv 0) (pa_cons (pv 10) pa_nil))) pa_nil))))))))), ?_⟩
    have d0 : Dr H G G H s l c := Dr.start s0 gs gl st (Nat.le_refl _)
    have hn6 := take_len_base hnd hsub
    refine ⟨_, rfl, ?_⟩
    try dsimp (config := { proj := false }) only [tCons, tC, tNil, tCall, List.cons_append, List.nil_append]
    refine d0.draw 5 (by omega) (by decide) (by decide) fun x H1 hx g1 d1 => ⟨_, _, rfl, rfl, by show 0 ≤ sizeLine; decide, fun F hF => ⟨_, _, rfl, ?_⟩⟩
    have d2 := DrF.start (xs := []) d1 hF
    generalize upd H1 F (.lst []) = H2 at d2 ⊢
    have e3 : (3 : Int) + (x : Nat) = ((3 + x : Nat) : Int) := by omega
    simp only [L2.wipe, L2.start, List.map_cons, List.map_nil, List.set_cons_zero, List.set_cons_succ, List.length_cons, List.length_nil, List.cons_append, List.nil_append, Nat.reduceAdd, Nat.reduceSub, List.replicate]
    rw [e3]
    have hn1 : 3 ≤ 3 + x := by omega
    have hn2 : 3 + x ≤ 7 := by omega
    generalize 3 + x = n at hn1 hn2 ⊢
    try dsimp (config := { proj := false }) only [tNext, tRet, tOp, tSeq, gName, tAsg]
    refine ⟨_, rfl, (n : Nat), rfl, by omega, by omega, for_range (n := n) (fun i σ H' => ∃ (o4 o5 o6 o7 o8 o9 : Option V) (G2 : Hp) (xs : List V) (ss : List Stp), σ = [some (.ref s), some (.ref a), some (.int (n : Nat)), some (.ref F), o4, o5, o6, o7, o8, o9, none, none, none] ∧ DrF H G G2 H' s l (c + 1 + 50 * i) F xs ∧ StepsV K G2 xs ss ∧ SidesV G2 ss ∧ Gro n i nm ss) ⟨_, _, _, _, _, _, G, [], [], rfl, d2, .nil, fun _ m => (nomatch m), Gro.nil n nm⟩ ?_ ?_⟩
    · rintro i σ H3 hi ⟨o4, o5, o6, o7, o8, o9, G3, xs, ss, rfl, d3, hxs, hsd, gro⟩
      simp (config := { proj := false }) only [Int.zero_add]
      refine ⟨_, rfl, by show 2 ≤ sizeLine; decide, fun tt htt => ⟨by show 5 ≤ sizeLine; decide, fun la hla => ?_⟩⟩
      have d4 := d3.newG (o := .tup [.str "do", .str "a"]) htt
      have u4 : Same G3 (upd G3 tt (.tup [.str "do", .str "a"])) := Same.upd_none (d3.sub.free htt)
      have ht4 : SqT K (upd G3 tt (.tup [.str "do", .str "a"])) tt [.str "do", .str "a"] := SqT.of upd_same
      generalize upd G3 tt (.tup [.str "do", .str "a"]) = G4 at d4 u4 ht4
      have d5 := d4.newG (o := .lst (xs5 tt)) hla
      have u5 : Same G4 (upd G4 la (.lst (xs5 tt))) := Same.upd_none (d4.sub.free hla)
      have hla5 : Sq K (upd G4 la (.lst (xs5 tt))) la (xs5 tt) := .inl (SqL.of upd_same)
      generalize upd G4 la (.lst (xs5 tt)) = G5 at d5 u5 hla5
      try dsimp (config := { proj := false }) only [tCons, tC, tNil, tCall, List.cons_append, List.nil_append]
      refine d5.mixed (by show c + 1 + 50 * i + 5 < _; omega) hla5 (by show 5 ≤ 1000; decide) fun wa H6 G6 ys hp u6 d6 hwa => ?_
      have u6 := (u4.trans u5).trans u6
      have hxs6 := hxs.same u6
      have hsd6 := hsd.same u6
      have ht6 := (u5.trans ‹Same G5 G6›).tp ht4
      clear d5 d4 d3 hla5 hla htt
      try dsimp (config := { proj := false }) only [tNext, tRet, tOp, tSeq, gName, tAsg]
      refine ⟨_, rfl, _, rfl, by show 6 ≤ sizeLine; decide, fun lb hlb => ?_⟩
      have d7 := d6.newG (o := .lst ([0, 1, 2, 2, 3, 3].map natV)) hlb
      have u7 : Same G6 (upd G6 lb (.lst ([0, 1, 2, 2, 3, 3].map natV))) := Same.upd_none (d6.sub.free hlb)
      have hlb7 : Sq K (upd G6 lb (.lst ([0, 1, 2, 2, 3, 3].map natV))) lb ([0, 1, 2, 2, 3, 3].map natV) := .inl (SqL.of upd_same)
      generalize upd G6 lb (.lst ([0, 1, 2, 2, 3, 3].map natV)) = G7 at d7 u7 hlb7
      try dsimp (config := { proj := false }) only [tCons, tC, tNil, tCall, List.cons_append, List.nil_append]
      refine d7.pick (by show c + 1 + 50 * i + 5 < _; omega) hlb7 (by decide) (by decide) fun j x H8 hx d8 => ?_
      obtain ⟨kw, hkw, rfl⟩ := pick_nat hx
      have hkw3 : kw ≤ 3 := by
        have : ∀ q ∈ [0, 1, 2, 2, 3, 3], q ≤ 3 := by decide
        exact this _ hkw
      refine ⟨(kw : Nat), rfl, wa, ys, rfl, d8.sub.seq (u7.seq hwa), fun pw hpw => ?_⟩
      rw [cut_take]
      have d9 := d8.newG (o := .lst (ys.take kw)) hpw
      have u9 : Same G7 (upd G7 pw (.lst (ys.take kw))) := Same.upd_none (d8.sub.free hpw)
      have hpw9 : SqL K (upd G7 pw (.lst (ys.take kw))) pw (ys.take kw) := SqL.of upd_same
      generalize upd G7 pw (.lst (ys.take kw)) = G9 at d9 u9 hpw9
      have u9 := u7.trans u9
      have hxs9 := hxs6.same u9
      have hsd9 := hsd6.same u9
      have ht9 := u9.tp ht6
      refine ⟨pw, rfl, .inl ⟨⟨_, d9.sub.seq hpw9⟩, fl_G (K := K) (a := pw) (xs := ys.take kw) (fun j σ H' => ∃ (o6 o7 o8 o9 : Option V) (G2 : Hp) (xs2 : List V) (new : List Stp), σ = [some (.ref s), some (.ref a), some (.int (n : Nat)), some (.ref F), some (.int (i : Nat)), some (.ref wa), o6, o7, o8, o9, none, none, none] ∧ DrF H G G2 H' s l (c + 1 + 50 * i + 6 + 13 * j) F (xs ++ xs2) ∧ Same G9 G2 ∧ StepsV K G2 (xs ++ xs2) (ss ++ new) ∧ SidesV G2 (ss ++ new) ∧ new.map (fun q => q.wd) = ((ys.take kw).take j).map dOf ∧ ∀ q ∈ new, NewOk n i nm q) G9 hpw9 ⟨_, _, _, _, G9, [], [], rfl, by rw [List.append_nil]; exact d9.le (by show c + 1 + 50 * i + 5 + 1 ≤ _; omega), Same.refl _, by rw [List.append_nil, List.append_nil]; exact hxs9, by rw [List.append_nil]; exact hsd9, rfl, fun _ m => (nomatch m)⟩ (fun j σ H' ⟨_, _, _, _, _, _, _, _, d, u, _⟩ => u.trans d.sub) ?_ ?_⟩⟩
      · rintro j v σ H10 hv ⟨o6, o7, o8, o9, G10, xs2, new, rfl, d10, u10, hxs10, hsd10, hwd10, hnew10⟩
        have hjk : j < kw := by
          have := (List.getElem?_eq_some_iff.mp hv).1
          rw [List.length_take] at this; omega
        have hvm : v ∈ xs5 tt := hp.mem_iff.mp (List.mem_of_mem_take (List.mem_of_getElem? hv))
        have hwv := xs5_wd hvm
        have hdv := xs5_dp ((u10).tp ht9) hvm
        refine ⟨_, rfl, _, rfl, ?_⟩
        try dsimp (config := { proj := false }) only [tCons, tC, tNil, tCall, List.cons_append, List.nil_append]
        refine d10.mixed (ys := nm.map V.str) (by rw [List.length_map]; omega) (d10.d.gr.up.q hnm) (by rw [List.length_map]; omega) fun ba H11 G11 zs0 hp11 u11 d11 hba => ?_
        obtain ⟨zs, rfl, hpz⟩ := perm_strs hp11
        rw [List.length_map] at d11
        refine ⟨_, rfl, by show 6 ≤ sizeLine; decide, fun lc hlc => ?_⟩
        have d12 := d11.newG (o := .lst ([0, 1, 1, 1, 2, 2].map natV)) hlc
        have u12 : Same G11 (upd G11 lc (.lst ([0, 1, 1, 1, 2, 2].map natV))) := Same.upd_none (d11.sub.free hlc)
        have hlc12 : Sq K (upd G11 lc (.lst ([0, 1, 1, 1, 2, 2].map natV))) lc ([0, 1, 1, 1, 2, 2].map natV) := .inl (SqL.of upd_same)
        generalize upd G11 lc (.lst ([0, 1, 1, 1, 2, 2].map natV)) = G12 at d12 u12 hlc12
        try dsimp (config := { proj := false }) only [tCons, tC, tNil, tCall, List.cons_append, List.nil_append]
        refine d12.pick (by omega) hlc12 (by decide) (by decide) fun j2 x2 H13 hx2 d13 => ?_
        obtain ⟨kb, _, rfl⟩ := pick_nat hx2
        refine ⟨(kb : Nat), rfl, ba, zs.map V.str, rfl, d13.sub.seq (u12.seq hba), fun pb hpb => ?_⟩
        rw [cut_take, ← List.map_take]
        have d14 := d13.newG (o := .lst ((zs.take kb).map V.str)) hpb
        have u14 : Same G12 (upd G12 pb (.lst ((zs.take kb).map V.str))) := Same.upd_none (d13.sub.free hpb)
        have hpb14 : SqL K (upd G12 pb (.lst ((zs.take kb).map V.str))) pb ((zs.take kb).map V.str) := SqL.of upd_same
        generalize upd G12 pb (.lst ((zs.take kb).map V.str)) = G14 at d14 u14 hpb14
        have u14 := (u11.trans u12).trans u14
        clear d13 d12 d11 hlc12 hba
        try dsimp (config := { proj := false }) only [tNext, tRet, tOp, tSeq, gName, tAsg]
        refine ⟨_, rfl, ?_⟩
        refine ⟨_, rfl, _, _, rfl, rfl, ?_⟩
        refine ⟨_, rfl, _, _, rfl, rfl, ?_⟩
        refine ⟨_, _, rfl, ?_⟩
        refine ⟨_, rfl, _, rfl, ?_⟩
        try dsimp (config := { proj := false }) only [tCons, tC, tNil, tCall, List.cons_append, List.nil_append]
        refine d14.draw n (by omega) (by omega) (by omega) fun q1 H15 hq1 d15 => ?_
        refine ⟨_, rfl, _, rfl, ?_⟩
        try dsimp (config := { proj := false }) only [tCons, tC, tNil, tCall, List.cons_append, List.nil_append]
        refine d15.draw n (by omega) (by omega) (by omega) fun q2 H16 hq2 d16 => ?_
        refine ⟨by show 3 ≤ sizeLine; decide, fun lo hlo => ?_⟩
        obtain ⟨m, hm, em⟩ : ∃ m : Nat, m < n ∧ (if ((i : Nat) : Int) + 1 < ((n : Nat) : Int) - 1 then ((i : Nat) : Int) + 1 else ((n : Nat) : Int) - 1) = ((m : Nat) : Int) := by
          by_cases c : ((i : Nat) : Int) + 1 < ((n : Nat) : Int) - 1
          · exact ⟨i + 1, by omega, by rw [if_pos c]; omega⟩
          · exact ⟨n - 1, by omega, by rw [if_neg c]; omega⟩
        rw [em]
        have d17 := d16.newG (o := .lst ([m, q1, q2].map natV)) hlo
        have u17 : Same G14 (upd G14 lo (.lst ([m, q1, q2].map natV))) := Same.upd_none (d16.sub.free hlo)
        have hlo17 : Sq K (upd G14 lo (.lst ([m, q1, q2].map natV))) lo ([m, q1, q2].map natV) := .inl (SqL.of upd_same)
        generalize upd G14 lo (.lst ([m, q1, q2].map natV)) = G17 at d17 u17 hlo17
        try dsimp (config := { proj := false }) only [tCons, tC, tNil, tCall, List.cons_append, List.nil_append]
        refine d17.pick (by omega) hlo17 (by show 1 ≤ 3; decide) (by show 3 ≤ 1000; decide) fun j3 x3 H18 hx3 d18 => ?_
        obtain ⟨ot, hot, rfl⟩ := pick_nat hx3
        have hotn : ot < n := by
          rcases List.mem_cons.mp hot with rfl | hot
          · exact hm
          rcases List.mem_cons.mp hot with rfl | hot
          · exact hq1
          rw [List.mem_singleton.mp hot]; exact hq2
        clear d17 d16 d15 d14 hlo17
        try dsimp (config := { proj := false }) only [tNext, tRet, tOp, tSeq, gName, tAsg]
        refine ⟨by show 2 ≤ sizeLine; decide, fun ls hls => ?_⟩
        have d19 := d18.newG (o := .lst [.str "a", .str "house"]) hls
        have u19 : Same G17 (upd G17 ls (.lst [.str "a", .str "house"])) := Same.upd_none (d18.sub.free hls)
        have hls19 : SqL K (upd G17 ls (.lst [.str "a", .str "house"])) ls [.str "a", .str "house"] := SqL.of upd_same
        generalize upd G17 ls (.lst [.str "a", .str "house"]) = G19 at d19 u19 hls19
        generalize hB : c + 1 + 50 * i + 6 + 13 * j + nm.length + 1 + 1 + 1 + 1 = B at d19
        generalize upd H18 ls (.lst [.str "a", .str "house"]) = H19 at d19 ⊢
        refine ⟨ls, rfl, .inl ⟨⟨_, d19.sub.seq hls19⟩, fun D hD => ?_⟩⟩
        refine lcS_gl (K := K) (M := SM s l) (G1 := G19) (fun i2 acc G' H' => ∃ (b1 b2 : Bool) (ps : List Addr), (i2 = 0 → b1 = false) ∧ (i2 ≤ 1 → b2 = false) ∧ acc = ps.map V.ref ∧ Paired (PrV K G') ps (sdK b1 b2) ∧ ∃ c', c' ≤ B + i2 ∧ Strm H' s l c') hD (d19.d.not hD) ?_ d19.sub hls19 (by decide) ?_ ?_ ?_
        · rintro i2 acc G' H' o ⟨b1, b2, ps, h1, h2, h3, h4, c', h5, h6⟩
          obtain ⟨_, _, st19⟩ := d19.d.st
          exact ⟨b1, b2, ps, h1, h2, h3, h4, c', h5, h6.upd (fun e => st19.s (e ▸ hD)) (fun e => st19.l (e ▸ hD))⟩
        · obtain ⟨c', h5, h6⟩ := d19.d.st
          exact ⟨false, false, [], fun _ => rfl, fun _ => rfl, rfl, .nil, c', h5, h6.new hD⟩
        · rintro i2 y acc G20 H20 hy g20 hl20 ⟨b1, b2, ps, hb1, hb2, rfl, hps, c', hc', st20⟩
          intro Ky Kn ky kn
          refine ⟨rfl, ?_⟩
          have dI : Dr H19 G19 G20 H20 s l (B + i2) := ⟨g20, g20.new _ (.inr (.inl rfl)) d19.d.gs, g20.new _ (.inr (.inr rfl)) d19.d.gl, c', hc', st20⟩
          have hi2 : i2 < 2 := (List.getElem?_eq_some_iff.mp hy).1
          refine ⟨_, rfl, ?_⟩
          try dsimp (config := { proj := false }) only [tCons, tC, tNil, tCall, List.cons_append, List.nil_append]
          refine dI.draw 4 (by omega) (by decide) (by decide) fun q H21 hq g21 d21 => ?_
          obtain ⟨c2, hc2, st21⟩ := d21.st
          refine ⟨rfl, _, rfl, ite_b (fun _ => ?_) (fun _ => ?_)⟩
          · refine ⟨_, rfl, by show 2 ≤ sizeLine; decide, fun p hp2 => ?_⟩
            have g22 := g21.newG (o := .tup [y, .str "x"]) hp2 (st21.not hp2) (g21.freeM hp2 (st21.not hp2))
            have hps := pair_imp (Q := PrV K (upd G20 p (.tup [y, .str "x"]))) (fun _ _ h => g22.up.tp h) hps
            refine ky _ _ _ g22 ?_
            rcases Nat.lt_or_ge i2 1 with z | z
            · obtain rfl : i2 = 0 := by omega
              cases hb1 rfl
              cases hb2 (Nat.zero_le _)
              cases hy
              exact ⟨true, false, ps ++ [p], (fun z => nomatch z), fun _ => rfl, by rw [List.map_append]; rfl, pair_snoc (P := PrV K _) (a := p) (b := (kyA, V.str "x")) (SqT.of upd_same) hps, c2, by omega, st21.new hp2⟩
            · obtain rfl : i2 = 1 := by omega
              cases hb2 (Nat.le_refl _)
              cases hy
              refine ⟨b1, true, ps ++ [p], (fun z => nomatch z), (fun z => absurd z (by decide)), by rw [List.map_append]; rfl, ?_, c2, by omega, st21.new hp2⟩
              have e : sdK b1 true = sdK b1 false ++ [(kyH, V.str "x")] := by cases b1 <;> rfl
              rw [e]
              exact pair_snoc (P := PrV K _) (a := p) (b := (kyH, V.str "x")) (SqT.of upd_same) hps
          · refine kn _ _ g21 ⟨b1, b2, ps, (fun z => nomatch z), (fun z => hb2 (by omega)), rfl, hps, c2, by omega, st21⟩
        · rintro acc G20 H20 g20 hg20 hl20 ⟨b1, b2, ps, hb1, hb2, rfl, hps, c', hc', st20⟩
          have u20 := Same.upd_none (o := .lst (ps.map V.ref)) hg20
          have hps := pair_imp (Q := PrV K (upd G20 D (.lst (ps.map V.ref)))) (fun _ _ h => u20.tp h) hps
          have hD20 : SqL K (upd G20 D (.lst (ps.map V.ref))) D (ps.map V.ref) := SqL.of upd_same
          generalize upd G20 D (.lst (ps.map V.ref)) = G21 at g20 hps hD20
          have d21 := d19.call g20 (d19.d.call g20 st20 (show c' ≤ B + 2 from hc'))
          have u21 := ((u14.trans u17).trans u19).trans g20.up
          refine ⟨D, ps, sdK b1 b2, rfl, d21.sub.seq hD20, pair_imp (fun _ _ h => d21.sub.tp h) hps, fun pd hpd => ?_⟩
          have d22 := d21.newG (o := .dK (mergeK [] (sdK b1 b2))) hpd
          have u22 : Same G21 (upd G21 pd (.dK (mergeK [] (sdK b1 b2)))) := Same.upd_none (d21.sub.free hpd)
          have hpd22 : upd G21 pd (.dK (mergeK [] (sdK b1 b2))) pd = some (.dK (mergeK [] (sdK b1 b2))) := upd_same
          generalize upd G21 pd (.dK (mergeK [] (sdK b1 b2))) = G22 at d22 u22 hpd22
          have u22 := u21.trans u22
          try dsimp (config := { proj := false }) only [tNext, tRet, tOp, tSeq, gName, tAsg]
          refine ⟨_, rfl, .inl ⟨rfl, _, SqL.of d22.f⟩, _, rfl, _, rfl, _, rfl, _, rfl, _, rfl, by show 5 ≤ sizeLine; decide, fun pt hpt => ?_⟩
          have d23 := d22.newG (o := .tup [v, .int (i : Nat), natV ot, .ref pb, .ref pd]) hpt
          have u23 : Same G22 (upd G22 pt (.tup [v, .int (i : Nat), natV ot, .ref pb, .ref pd])) := Same.upd_none (d22.sub.free hpt)
          have hpt23 : SqT K (upd G22 pt (.tup [v, .int (i : Nat), natV ot, .ref pb, .ref pd])) pt [v, .int (i : Nat), natV ot, .ref pb, .ref pd] := SqT.of upd_same
          generalize upd G22 pt (.tup [v, .int (i : Nat), natV ot, .ref pb, .ref pd]) = G23 at d23 u23 hpt23
          have u24 := u22.trans u23
          have hlen : (xs ++ xs2).length ≤ 100 := by
            rw [Paired.length hxs10, List.length_append]
            have h1 := gro.few
            have h2 := congrArg List.length hwd10
            rw [List.length_map, List.length_map, List.length_take, List.length_take] at h2
            omega
          refine ⟨F, _, _, rfl, rfl, d23.f, Nat.lt_of_le_of_lt hlen (by decide), ?_⟩
          refine ⟨_, _, _, _, G23, xs2 ++ [.ref pt], new ++ [⟨dOf v, i, ot, zs.take kb, pd⟩], rfl, by rw [← List.append_assoc]; exact d23.put.le (by omega), u10.trans u24, ?_, ?_, ?_, ?_⟩
          · rw [← List.append_assoc, ← List.append_assoc]
            refine pair_snoc (P := StepV K G23) ?_ (hxs10.same u24)
            exact ⟨pt, v, pb, rfl, hpt23, dp_mono u24 hdv, (u17.trans (u19.trans (g20.up.trans ((‹Same G21 G22›).trans u23)))).seq hpb14⟩
          · rw [← List.append_assoc]
            intro q mq
            rcases List.mem_append.mp mq with mq | mq
            · exact hsd10.same u24 q mq
            · rw [List.mem_singleton.mp mq]
              exact ⟨_, u23 _ _ hpd22, sdK_ok b1 b2⟩
          · rw [List.map_append, hwd10, List.take_succ, hv, List.map_append]
            rfl
          · intro q mq
            rcases List.mem_append.mp mq with mq | mq
            · exact hnew10 q mq
            · rw [List.mem_singleton.mp mq]
              exact ⟨hwv, rfl, hotn, ((hpz.nodup_iff.mpr hnd).sublist (List.take_sublist _ _)), fun z hz => hpz.mem_iff.mp (List.mem_of_mem_take hz)⟩
      · rintro σ H10 ⟨o6, o7, o8, o9, G10, xs2, new, rfl, d10, u10, hxs10, hsd10, hwd10, hnew10⟩
        rw [List.take_length] at hwd10
        have hnl : new.length ≤ 3 := by
          have h2 := congrArg List.length hwd10
          rw [List.length_map, List.length_map, List.length_take] at h2
          omega
        have hyl : (ys.take kw).length ≤ 3 := by rw [List.length_take]; omega
        refine ⟨_, _, _, _, _, _, G10, xs ++ xs2, ss ++ new, rfl, d10.le (by omega), hxs10, hsd10, gro.next hnew10 ?_ hnl⟩
        have e : (new.map fun q => keyD q.wd) = (ys.take kw).map fun y => keyD (dOf y) := by
          have := congrArg (List.map keyD) hwd10
          rw [List.map_map, List.map_map] at this
          exact this
        rw [e]
        exact (xs5_keys hp).sublist (List.Sublist.map _ (List.take_sublist _ _))
    · rintro σ H3 ⟨o4, o5, o6, o7, o8, o9, G3, xs, ss, rfl, d3, hxs, hsd, gro⟩
      try dsimp (config := { proj := false }) only [tNext, tRet, tOp, tSeq, gName, tAsg]
      refine ⟨_, rfl, _, _, rfl, rfl, by show 1 ≤ sizeLine; decide, fun lb hlb => ?_⟩
      have d4 := d3.mine (o := .lst [.int (((n : Nat) : Int) - 1)]) hlb
      have hlb4 : upd H3 lb (.lst [.int (((n : Nat) : Int) - 1)]) lb = some (.lst [.int (((n : Nat) : Int) - 1)]) := upd_same
      generalize upd H3 lb (.lst [.int (((n : Nat) : Int) - 1)]) = H4 at d4 hlb4 ⊢
      have hlbs : ¬ SM s l lb := d3.d.not hlb
      generalize hB : c + 1 + 50 * n = B at d4
      refine ⟨_, rfl, _, _, rfl, rfl, 1, ((n : Nat) : Int) - 1, rfl, by omega, ?_⟩
      have e1 : (((n : Nat) : Int) - 1 - 1).toNat = n - 2 := by omega
      rw [e1]
      refine fun D hD => lcS_gr (lo := 1) (n := n - 2) (M := SM s l) (G1 := G3) (fun i acc G' H' => ∃ bx : List Nat, acc = bx.map natV ∧ bx.Nodup ∧ (∀ b ∈ bx, 1 ≤ b ∧ b < 1 + i) ∧ ∃ c', c' ≤ B + i ∧ Strm H' s l c') hD (d4.d.not hD) ?_ d4.sub (Nat.le_trans (show n - 2 ≤ 7 by omega) (by decide)) ?_ ?_ ?_
      · rintro i2 acc G' H' o ⟨bx, h1, h2, h3, c', h5, h6⟩
        obtain ⟨_, _, st4⟩ := d4.d.st
        exact ⟨bx, h1, h2, h3, c', h5, h6.upd (fun e => st4.s (e ▸ hD)) (fun e => st4.l (e ▸ hD))⟩
      · obtain ⟨c', h5, h6⟩ := d4.d.st
        exact ⟨[], rfl, List.nodup_nil, fun _ m => (nomatch m), c', h5, h6.new hD⟩
      · rintro i2 acc G5 H5 hi2 g5 hl5 ⟨bx, rfl, hbn, hbx, c', hc', st5⟩
        intro Ky Kn ky kn
        refine ⟨rfl, ?_⟩
        have dI : Dr H4 G3 G5 H5 s l (B + i2) := ⟨g5, g5.new _ (.inr (.inl rfl)) d4.d.gs, g5.new _ (.inr (.inr rfl)) d4.d.gl, c', hc', st5⟩
        refine ⟨_, rfl, ?_⟩
        try dsimp (config := { proj := false }) only [tCons, tC, tNil, tCall, List.cons_append, List.nil_append]
        refine dI.draw 8 (by omega) (by decide) (by decide) fun q H6 hq g6 d6 => ?_
        obtain ⟨c2, hc2, st6⟩ := d6.st
        have e2 : V.int ((1 : Int) + (i2 : Nat)) = natV (1 + i2) := by
          show V.int _ = V.int _
          congr 1
        refine ⟨rfl, _, rfl, ite_b (fun _ => ?_) (fun _ => ?_)⟩
        · refine ⟨_, rfl, ky _ _ _ g6 ⟨bx ++ [1 + i2], by rw [List.map_append, e2]; rfl, ?_, fun b m => ?_, c2, by omega, st6⟩⟩
          · refine List.nodup_append.mpr ⟨hbn, by simp, fun y hy z hz e => ?_⟩
            rw [List.mem_singleton.mp hz] at e
            have := (hbx y hy).2
            omega
          · rcases List.mem_append.mp m with m | m
            · have := hbx b m; omega
            · rw [List.mem_singleton.mp m]; omega
        · exact kn _ _ g6 ⟨bx, rfl, hbn, (fun b m => by have := hbx b m; omega), c2, by omega, st6⟩
      · rintro acc G5 H5 g5 hg5 hl5 ⟨bx, rfl, hbn, hbx, c', hc', st5⟩
        have hD5 : H5 D = some (.lst (bx.map natV)) := g5.sub D _ upd_same
        have hlb5 := g5.old _ _ hlb4 hlbs
        have hbl : bx.length ≤ n - 2 := by rw [List.length_map] at hl5; exact hl5
        have d5 := d4.call g5 (d4.d.call g5 st5 hc')
        generalize upd G5 D (.lst (bx.map natV)) = G6 at g5 d5
        have hxs5 := hxs.same g5.up
        have hsd5 := hsd.same g5.up
        refine ⟨lb, D, _, _, rfl, rfl, hlb5, hD5, Nat.le_trans (show 1 + (bx.map natV).length ≤ 8 by rw [List.length_map]; omega) (by decide), fun p hp => ?_⟩
        have e3 : [V.int (((n : Nat) : Int) - 1)] ++ bx.map natV = ((n - 1) :: bx).map natV := by
          have : ((n : Nat) : Int) - 1 = ((n - 1 : Nat) : Int) := by omega
          rw [this]; rfl
        rw [e3]
        have d7 := d5.newG (o := .lst (((n - 1) :: bx).map natV)) hp
        have u7 : Same G6 (upd G6 p (.lst (((n - 1) :: bx).map natV))) := Same.upd_none (d5.sub.free hp)
        have hp7 : Sq K (upd G6 p (.lst (((n - 1) :: bx).map natV))) p (((n - 1) :: bx).map natV) := .inl (SqL.of upd_same)
        generalize upd G6 p (.lst (((n - 1) :: bx).map natV)) = G7 at d7 u7 hp7
        generalize upd H5 p (.lst (((n - 1) :: bx).map natV)) = H7 at d7 ⊢
        have hxs7 := (hxs5.same u7).same (Same.upd_none (o := .lst xs) d7.g)
        have hsd7 := (hsd5.same u7).same (Same.upd_none (o := .lst xs) d7.g)
        have hp8 := (Same.upd_none (o := .lst xs) d7.g).q hp7
        have d8 := d7.give
        have hF8 : Sq K (upd G7 F (.lst xs)) F xs := .inl (SqL.of upd_same)
        generalize upd G7 F (.lst xs) = G8 at hxs7 hsd7 hp8 d8 hF8
        have hxl : xs.length ≤ 21 := by
          rw [Paired.length hxs]
          have := gro.few
          omega
        try dsimp (config := { proj := false }) only [tNext, tRet, tOp, tSeq, gName, tAsg]
        refine ⟨_, rfl, _, rfl, _, rfl, ?_⟩
        try dsimp (config := { proj := false }) only [tCons, tC, tNil, tCall, List.cons_append, List.nil_append]
        refine d8.mixed (by omega) hF8 (by omega) fun sl H9 G9 ys hys g9 d9 hsl => ?_
        obtain ⟨ss', hss', hperm⟩ := steps_perm (hxs7.same g9.up) hys
        refine ⟨_, rfl, _, rfl, ?_⟩
        try dsimp (config := { proj := false }) only [tCons, tC, tNil, tCall, List.cons_append, List.nil_append]
        refine d9.mixed (by rw [List.length_map]; show _ + (bx.length + 1) < _; omega) (g9.up.q hp8) (by rw [List.length_map]; show bx.length + 1 ≤ _; omega) fun bl H10 G10 zs hzs g10 d10 hbl10 => ?_
        obtain ⟨bs', rfl, hperm2⟩ := perm_nats hzs
        refine ⟨by show 3 ≤ sizeLine; decide, fun t ht => ?_⟩
        have d11 := d10.newG (o := .tup [.int (n : Nat), .ref sl, .ref bl]) ht
        have u11 : Same G10 (upd G10 t (.tup [.int (n : Nat), .ref sl, .ref bl])) := Same.upd_none (d10.sub.free ht)
        obtain ⟨c3, hc3, st11⟩ := d11.st
        refine k t _ _ n ss' bs' c3 d11.gr ⟨sl, bl, ys, SqT.of upd_same, u11.seq (g10.up.seq hsl), (hss'.same g10.up).same u11, u11.seq hbl10, fun q mq => ?_⟩ (gro.play (by omega) (by omega) hsub hperm (fun b m => ?_) ?_ ?_ hperm2) st11 ?_
        · exact ((hsd7.same g9.up).same g10.up).same u11 q (hperm.mem_iff.mp mq)
        · rcases List.mem_cons.mp m with rfl | m
          · omega
          · have := hbx b m; omega
        · refine List.nodup_cons.mpr ⟨fun m => ?_, hbn⟩
          have := hbx _ m
          omega
        · show bx.length + 1 ≤ 6
          omega
        · rw [List.length_map] at hc3
          have : ((n - 1) :: bx).length = bx.length + 1 := rfl
          omega
end
end K8
-- K8Xb
set_option maxRecDepth 100000
set_option maxHeartbeats 1000000
namespace K8
open PySem PySem.Spec PyProof.Rows L2
/-! ### ways to the bad stand -/
def wayD (k : Nat) : D := .sq [.lf (.str "way"), .lf (.int (k : Nat))]
def backD : D := .lf (.str "back")
theorem wayD_ok : ∀ k, k < 5 → WdOk (wayD k)
  | 0, _ => ⟨by decide, by decide, by decide, by unfold okK; decide +kernel⟩
  | 1, _ => ⟨by decide, by decide, by decide, by unfold okK; decide +kernel⟩
  | 2, _ => ⟨by decide, by decide, by decide, by unfold okK; decide +kernel⟩
  | 3, _ => ⟨by decide, by decide, by decide, by unfold okK; decide +kernel⟩
  | 4, _ => ⟨by decide, by decide, by decide, by unfold okK; decide +kernel⟩
  | n + 5, h => absurd h (by omega)
theorem backD_ok : WdOk backD := ⟨by decide, by decide, by decide, by unfold okK; decide +kernel⟩
theorem way_inj {j k : Nat} (h : keyD (wayD j) = keyD (wayD k)) : j = k := by
  have h : NestedKey.tup [NestedKey.text "way", NestedKey.num (j : Int)] = NestedKey.tup [NestedKey.text "way", NestedKey.num (k : Int)] := h
  injection h with h
  injection h with _ h
  injection h with h _
  injection h with h
  omega
theorem way_back {j : Nat} (h : keyD (wayD j) = keyD backD) : False := by
  have h : NestedKey.tup [NestedKey.text "way", NestedKey.num (j : Int)] = NestedKey.text "back" := h
  cases h
def ledKeys : List NestedKey := [keyD backD, keyD (wayD 0), keyD (wayD 1), keyD (wayD 2), keyD (wayD 3), keyD (wayD 4)]
theorem way_mem : ∀ k, k < 5 → keyD (wayD k) ∈ ledKeys
  | 0, _ => by simp [ledKeys]
  | 1, _ => by simp [ledKeys]
  | 2, _ => by simp [ledKeys]
  | 3, _ => by simp [ledKeys]
  | 4, _ => by simp [ledKeys]
  | n + 5, h => absurd h (by omega)
/-- steps so far: m stands, ways below i, ways back from stands below j -/
structure Led (m i j : Nat) (nm : List Str) (ss : List Stp) : Prop where
  ok : ∀ q ∈ ss, ((∃ k, k < i ∧ k < 5 ∧ q.wd = wayD k) ∨ (q.wd = backD ∧ q.one < j)) ∧ q.one < m ∧ q.oth < m ∧ q.bars.Nodup ∧ Sub q.bars nm
  ap : Apart ss
theorem Led.nil (nm : List Str) : Led 2 0 0 nm [] := ⟨fun _ m => (nomatch m), .nil⟩
theorem Led.up {m m' i i' : Nat} {nm : List Str} {ss : List Stp} (h : Led m i 0 nm ss) (hm : m ≤ m') (hi : i ≤ i') : Led m' i' 0 nm ss where
  ok := fun q mq => by
    obtain ⟨a, b, c, d⟩ := h.ok q mq
    refine ⟨?_, by omega, by omega, d⟩
    rcases a with ⟨k, h1, h2, h3⟩ | ⟨_, z⟩
    · exact .inl ⟨k, by omega, h2, h3⟩
    · exact absurd z (Nat.not_lt_zero _)
  ap := h.ap
theorem Led.way {m m' i here oth : Nat} {nm bars : List Str} {sd : Addr} {ss : List Stp} (h : Led m (i + 1) 0 nm ss) (hm : m ≤ m') (hi : i < 5) (h1 : here < m) (h2 : oth < m') (hb : bars.Nodup) (hs : Sub bars nm) (hf : ∀ q ∈ ss, q.one = here → q.wd ≠ wayD i) : Led m' (i + 1) 0 nm (ss ++ [⟨wayD i, here, oth, bars, sd⟩]) where
  ok := fun q mq => by
    rcases List.mem_append.mp mq with mq | mq
    · exact (h.up hm (Nat.le_refl _)).ok q mq
    · rw [List.mem_singleton.mp mq]
      exact ⟨.inl ⟨i, by omega, hi, rfl⟩, Nat.lt_of_lt_of_le h1 hm, h2, hb, hs⟩
  ap := by
    refine List.pairwise_append.mpr ⟨h.ap, List.pairwise_singleton .., fun a ha b hb z => ?_⟩
    rw [List.mem_singleton.mp hb] at z
    obtain ⟨z1, z2⟩ := z
    rcases (h.ok a ha).1 with ⟨k, _, _, e⟩ | ⟨e, z⟩
    · rw [e] at z2
      have := way_inj z2
      exact hf a ha z1 (by rw [e, this])
    · exact absurd z (Nat.not_lt_zero _)
theorem Led.step {m i j : Nat} {nm : List Str} {ss : List Stp} (h : Led m i j nm ss) : Led m i (j + 1) nm ss where
  ok := fun q mq => by
    obtain ⟨a, b⟩ := h.ok q mq
    exact ⟨a.elim .inl fun ⟨x, y⟩ => .inr ⟨x, by omega⟩, b⟩
  ap := h.ap
theorem Led.back {m i j oth : Nat} {nm bars : List Str} {sd : Addr} {ss : List Stp} (h : Led m i j nm ss) (hj : j < m) (ho : oth < m) (hb : bars.Nodup) (hs : Sub bars nm) : Led m i (j + 1) nm (ss ++ [⟨backD, j, oth, bars, sd⟩]) where
  ok := fun q mq => by
    rcases List.mem_append.mp mq with mq | mq
    · exact h.step.ok q mq
    · rw [List.mem_singleton.mp mq]
      exact ⟨.inr ⟨rfl, Nat.lt_succ_self j⟩, hj, ho, hb, hs⟩
  ap := by
    refine List.pairwise_append.mpr ⟨h.ap, List.pairwise_singleton .., fun a ha b hb z => ?_⟩
    rw [List.mem_singleton.mp hb] at z
    obtain ⟨z1, z2⟩ := z
    rcases (h.ok a ha).1 with ⟨k, _, _, e⟩ | ⟨e, z⟩
    · rw [e] at z2
      exact way_back z2
    · have : a.one = j := z1
      omega
theorem Led.play {m i j : Nat} {nm : List Str} {ss ss' : List Stp} (h : Led m i j nm ss) (h2 : 2 ≤ m) (h20 : m ≤ 20) (hs : Sub nm base6) (hl : ss.length ≤ 60) (p : ss'.Perm ss) : PlayOk m ss' [1] where
  n1 := by omega
  n20 := h20
  few := by rw [p.length_eq]; exact hl
  row := fun u => by
    have hp := p.filter fun s => s.one == u
    unfold stepsAt
    rw [hp.length_eq]
    have h1 : ((ss.filter fun s => s.one == u).map fun q => keyD q.wd).Nodup := by
      have h1 : (ss.filter fun s => s.one == u).Pairwise fun a b => ¬ (a.one = b.one ∧ keyD a.wd = keyD b.wd) := List.Pairwise.sublist List.filter_sublist h.ap
      refine List.pairwise_map.mpr (List.Pairwise.imp_of_mem (fun {a b} ha hb z e => z ⟨?_, e⟩) h1)
      have ea := (List.mem_filter.mp ha).2
      have eb := (List.mem_filter.mp hb).2
      rw [eq_of_beq ea, eq_of_beq eb]
    have h3 := nodup_len (b := ledKeys) h1 fun k m => by
      obtain ⟨q, hq, rfl⟩ := List.mem_map.mp m
      rcases (h.ok q (List.mem_filter.mp hq).1).1 with ⟨k, _, hk, e⟩ | ⟨e, _⟩
      · show keyD q.wd ∈ _
        rw [e]; exact way_mem k hk
      · show keyD q.wd ∈ _
        rw [e]; simp [ledKeys]
    rw [List.length_map] at h3
    exact Nat.le_trans h3 (by decide)
  wd := fun s m => by
    rcases (h.ok s (p.mem_iff.mp m)).1 with ⟨k, _, hk, e⟩ | ⟨e, _⟩
    · rw [e]; exact wayD_ok k hk
    · rw [e]; exact backD_ok
  one := fun s m => (h.ok s (p.mem_iff.mp m)).2.1
  oth := fun s m => (h.ok s (p.mem_iff.mp m)).2.2.1
  bars := fun s m => ⟨(h.ok s (p.mem_iff.mp m)).2.2.2.1, (h.ok s (p.mem_iff.mp m)).2.2.2.2.trans hs⟩
  apart := Apart.perm h.ap p
  bad := fun b m => by rw [List.mem_singleton.mp m]; omega
  bnd := by simp
  bfew := by decide
theorem side_nil : SideOk [] := ⟨List.nodup_nil, Nat.zero_le _, [], rfl, fun _ m => (nomatch m), fun _ m => (nomatch m)⟩
/-- a conditional expression whose two ways meet -/
theorem ifx_rd {t : TT} {ta tb : TE} {σ : L2.St} {H : Hp} {Q : VK} (P : V → Prop) (h1 : ∀ Q' : VK, (∀ v, P v → Q' v H) → tIf t ta tb σ H Q') (h2 : ∀ v, P v → Q v H) : tIf t ta tb σ H Q := h1 Q h2
theorem sc_x_led : FnScope ["_law_stream", "_law_names", "_law_many", "_law_steps", "_law_number", "_law_lot", "_law_here", "_law_some", "_law_other", "_law_bars"] ["_law_stream", "_law_names"] (defScope s_x_led) := ⟨rfl, rfl, rfl, by decide +kernel, rfl, by decide +kernel, by decide +kernel⟩
section
variable {P : Program} {w : World} {K : PySem.W.Frag} {mg : Str → Option Value} {base : Heap}
theorem ok_x_led (T : Txt K mg) : Cl P w K mg base CX0 3 "_law_x_led" (spXdrawn K) := by
  refine cl0 (T.F_x_led) T.g_x_led sc_x_led (fun vs H Q E h => ?_) (fun _ _ _ _ _ _ us hl => match us, hl with | [_, _], _ => rfl) (fun cdv A outer s H vs Q E hr h => ?_)
  · obtain ⟨G, s, l, c, a, nm, rfl, _⟩ := h
    rfl
  · obtain ⟨G, s, l, c, a, nm, rfl, s0, gs, gl, st, hc, hnm, hnd, hsub, k⟩ := h
    refine ⟨_, (pss_cons (ps_par (i := 2) (j := 3) (by rfl) sc_x_led.nd rfl rfl (by decide) rfl rfl (pa_cons pe_int (pa_cons (pe_lst pa_nil) pa_nil)) (by rfl))
      (pss_cons (ps_for PassesOwn.never rfl (pi_range1 (by rfl) T.f_range (pa_cons (pe_op op_add pe_int (pe_cl (ok_z_draw (K := K) T) hr (by decide) pass0 (pa_cons (pv 0) (pa_cons pe_int pa_nil)))) pa_nil)) (pg_name (i := 4) sc_x_led.nd rfl (by first | exact Or.inl rfl | exact Or.inr rfl))
        (pss_cons (ps_par (i := 5) (j := 6) (by rfl) sc_x_led.nd rfl rfl (by decide) rfl rfl (pa_cons (pe_slice (slK (KK := K)) (pe_cl (ok_z_mixed (K := K) T) hr (by decide) pass0 (pa_cons (pv 0) (pa_cons (pv 1) pa_nil))) po_none (po_some (pe_cl (ok_z_pick (K := K) T) hr (by decide) pass0 (pa_cons (pv 0) (pa_cons (pe_lst (pa_cons pe_int (pa_cons pe_int (pa_cons pe_int (pa_cons pe_int (pa_cons pe_int (pa_cons pe_int pa_nil))))))) pa_nil))))) (pa_cons pe_int pa_nil)) (by rfl))
        (pss_one (ps_while PassesOwn.never (pt_cmpR (neNil (KK := K) (u1 hr)) (pv 5) (pe_lst pa_nil) (nomark _))
          (pss_cons (ps_set (i := 7) sc_x_led.nd rfl (by first | exact Or.inl rfl | exact Or.inr rfl) (pe_op op_add pe_int (pe_cl (ok_z_draw (K := K) T) hr (by decide) pass0 (pa_cons (pv 0) (pa_cons (pe_callB (lenQ (KK := K)) (by rfl) T.f_len (by decide +kernel) (pa_cons (pv 5) pa_nil)) pa_nil)))))
          (pss_cons (ps_set (i := 8) sc_x_led.nd rfl (by first | exact Or.inl rfl | exact Or.inr rfl) (pe_ifExp (pt_cmpR op_eq (pv 7) (pe_callB (lenQ (KK := K)) (by rfl) T.f_len (by decide +kernel) (pa_cons (pv 5) pa_nil)) (nomark _)) pe_int (pv 2)))
          (pss_cons (ps_expr (pe_bm PySem.F.plainAttrs_list PySem.F.slot_list_append PySem.F.type_list_append mt_append (pv 3) (pa_cons (pe_tup (pa_cons (pe_tup (pa_cons pe_str (pa_cons (pv 4) pa_nil))) (pa_cons (pv 6) (pa_cons (pv 8) (pa_cons (pe_slice (slK (KK := K)) (pv 5) po_none (po_some (pv 7))) (pa_cons pe_dnewK pa_nil)))))) pa_nil)))
          (pss_one (ps_par3 (i := 6) (j := 2) (l := 5) (by rfl) sc_x_led.nd rfl rfl rfl (by decide) (by decide) (by decide) rfl rfl rfl (pa_cons (pv 8) (pa_cons (pe_op op_add (pv 2) (pe_callTy call_int1 (by rfl) T.f_int (by decide +kernel) (pa_cons (pe_cmpR op_ne (pv 8) pe_int (nomark _)) pa_nil))) (pa_cons (pe_slice (slK (KK := K)) (pv 5) (po_some (pv 7)) po_none) pa_nil))) (by rfl))))))))))
      (pss_cons (ps_for PassesOwn.never rfl (pi_range1 (by rfl) T.f_range (pa_cons (pv 2) pa_nil)) (pg_name (i := 6) sc_x_led.nd rfl (by first | exact Or.inl rfl | exact Or.inr rfl))
        (pss_one (ps_if (pt_cmpR op_eq (pe_cl (ok_z_draw (K := K) T) hr (by decide) pass0 (pa_cons (pv 0) (pa_cons pe_int pa_nil))) pe_int (nomark _))
          (pss_cons (ps_set (i := 9) sc_x_led.nd rfl (by first | exact Or.inl rfl | exact Or.inr rfl) (pe_slice (slK (KK := K)) (pe_cl (ok_z_mixed (K := K) T) hr (by decide) pass0 (pa_cons (pv 0) (pa_cons (pv 1) pa_nil))) po_none (po_some (pe_cl (ok_z_draw (K := K) T) hr (by decide) pass0 (pa_cons (pv 0) (pa_cons pe_int pa_nil))))))
          (pss_one (ps_expr (pe_bm PySem.F.plainAttrs_list PySem.F.slot_list_append PySem.F.type_list_append mt_append (pv 3) (pa_cons (pe_tup (pa_cons pe_str (pa_cons (pv 6) (pa_cons (pe_cl (ok_z_pick (K := K) T) hr (by decide) pass0 (pa_cons (pv 0) (pa_cons (pe_lst (pa_cons pe_int (pa_cons (pv 6) pa_nil))) pa_nil))) (pa_cons (pv 9) (pa_cons pe_dnewK pa_nil)))))) pa_nil)))))
          pss_nil)))
      (pss_one (ps_ret (pe_tup (pa_cons (pv 2) (pa_cons (pe_cl (ok_z_mixed (K := K) T) hr (by decide) pass0 (pa_cons (pv 0) (pa_cons (pv 3) pa_nil))) (pa_cons (pe_lst (pa_cons pe_int pa_nil)) pa_nil))))))))), ?_⟩
    have d0 : Dr H G G H s l c := Dr.start s0 gs gl st (Nat.le_refl _)
    have hn6 := take_len_base hnd hsub
    refine ⟨by show 0 ≤ sizeLine; decide, fun F hF => ⟨_, _, rfl, ?_⟩⟩
    have d1 := DrF.start (xs := []) d0 hF
    generalize upd H F (.lst []) = H1 at d1 ⊢
    simp only [L2.wipe, L2.start, List.map_cons, List.map_nil, List.set_cons_zero, List.set_cons_succ, List.length_cons, List.length_nil, List.cons_append, List.nil_append, Nat.reduceAdd, Nat.reduceSub, List.replicate]
    try dsimp (config := { proj := false }) only [tNext, tRet, tOp, tSeq, gName, tAsg]
    refine ⟨_, rfl, ?_⟩
    try dsimp (config := { proj := false }) only [tCons, tC, tNil, tCall, List.cons_append, List.nil_append]
    refine d1.draw 4 (by omega) (by decide) (by decide) fun x H2 hx d2 => ?_
    refine ⟨_, _, rfl, rfl, ?_⟩
    have e3 : (2 : Int) + (x : Nat) = ((2 + x : Nat) : Int) := by omega
    have hw1 : 2 + x ≤ 5 := by omega
    refine ⟨(2 : Int) + (x : Nat), rfl, by omega, by omega, ?_⟩
    rw [e3]
    generalize 2 + x = nw at hw1 ⊢
    refine for_range (n := nw) (fun i σ H' => ∃ (m : Nat) (o4 o5 o6 o7 o8 : Option V) (G2 : Hp) (xs : List V) (ss : List Stp), σ = [some (.ref s), some (.ref a), some (.int (m : Nat)), some (.ref F), o4, o5, o6, o7, o8, none] ∧ DrF H G G2 H' s l (c + 1 + 12 * i) F xs ∧ StepsV K G2 xs ss ∧ SidesV G2 ss ∧ Led m i 0 nm ss ∧ 2 ≤ m ∧ m ≤ 2 + 3 * i ∧ ss.length ≤ 3 * i) ⟨2, _, _, _, _, _, G, [], [], rfl, d2, .nil, fun _ m => (nomatch m), Led.nil nm, Nat.le_refl _, Nat.le_refl _, Nat.le_refl _⟩ ?_ ?_
    · rintro i σ H3 hi ⟨m, o4, o5, o6, o7, o8, G3, xs, ss, rfl, d3, hxs, hsd, led, hm2, hm, hfew⟩
      simp (config := { proj := false }) only [Int.zero_add]
      refine ⟨_, rfl, _, rfl, ?_⟩
      try dsimp (config := { proj := false }) only [tCons, tC, tNil, tCall, List.cons_append, List.nil_append]
      refine d3.mixed (ys := nm.map V.str) (by rw [List.length_map]; omega) (d3.d.gr.up.q hnm) (by rw [List.length_map]; omega) fun la H4 G4 zs0 hp4 u4 d4 hla => ?_
      obtain ⟨zs, rfl, hpz⟩ := perm_strs hp4
      rw [List.length_map] at d4
      refine ⟨_, rfl, by show 6 ≤ sizeLine; decide, fun lb hlb => ?_⟩
      have d5 := d4.newG (o := .lst ([1, 2, 2, 3, 3, 3].map natV)) hlb
      have u5 : Same G4 (upd G4 lb (.lst ([1, 2, 2, 3, 3, 3].map natV))) := Same.upd_none (d4.sub.free hlb)
      have hlb5 : Sq K (upd G4 lb (.lst ([1, 2, 2, 3, 3, 3].map natV))) lb ([1, 2, 2, 3, 3, 3].map natV) := .inl (SqL.of upd_same)
      generalize upd G4 lb (.lst ([1, 2, 2, 3, 3, 3].map natV)) = G5 at d5 u5 hlb5
      try dsimp (config := { proj := false }) only [tCons, tC, tNil, tCall, List.cons_append, List.nil_append]
      refine d5.pick (by omega) hlb5 (by decide) (by decide) fun j x H6 hx d6 => ?_
      obtain ⟨kw, hkw, rfl⟩ := pick_nat hx
      have hkw3 : kw ≤ 3 := by
        have : ∀ q ∈ [1, 2, 2, 3, 3, 3], q ≤ 3 := by decide
        exact this _ hkw
      refine ⟨(kw : Nat), rfl, la, _, rfl, d6.sub.seq (u5.seq hla), fun pl hpl => ?_⟩
      rw [cut_take, ← List.map_take]
      have d7 := d6.newG (o := .lst ((zs.take kw).map V.str)) hpl
      have u7 : Same G5 (upd G5 pl (.lst ((zs.take kw).map V.str))) := Same.upd_none (d6.sub.free hpl)
      have hpl7 : SqL K (upd G5 pl (.lst ((zs.take kw).map V.str))) pl ((zs.take kw).map V.str) := SqL.of upd_same
      generalize upd G5 pl (.lst ((zs.take kw).map V.str)) = G7 at d7 u7 hpl7
      have u7 := (u4.trans u5).trans u7
      have hzn : (zs.take kw).Nodup := (hpz.nodup_iff.mpr hnd).sublist (List.take_sublist _ _)
      have hzs : Sub (zs.take kw) nm := fun z hz => hpz.mem_iff.mp (List.mem_of_mem_take hz)
      have hzl : (zs.take kw).length ≤ 3 := by rw [List.length_take]; omega
      have hxs7 := hxs.same u7
      have hsd7 := hsd.same u7
      refine ⟨_, _, rfl, ?_⟩
      simp only [L2.wipe, L2.start, List.map_cons, List.map_nil, List.set_cons_zero, List.set_cons_succ, List.length_cons, List.length_nil, List.cons_append, List.nil_append, Nat.reduceAdd, Nat.reduceSub, List.replicate]
      generalize zs.take kw = lot at d7 hpl7 hzn hzs hzl
      refine ⟨fun mz σ H' => ∃ (m here : Nat) (pl : Addr) (lot : List Str) (o7 o8 : Option V) (G2 : Hp) (xs : List V) (ss : List Stp), σ = [some (.ref s), some (.ref a), some (.int (m : Nat)), some (.ref F), some (.int (i : Nat)), some (.ref pl), some (.int (here : Nat)), o7, o8, none] ∧ DrF H G G2 H' s l (c + 1 + 12 * i + 8 + (3 - lot.length)) F xs ∧ StepsV K G2 xs ss ∧ SidesV G2 ss ∧ Led m (i + 1) 0 nm ss ∧ 2 ≤ m ∧ m ≤ 2 + 3 * i + (3 - lot.length) ∧ ss.length ≤ 3 * i + (3 - lot.length) ∧ here < m ∧ (lot ≠ [] → ∀ q ∈ ss, q.one = here → q.wd ≠ wayD i) ∧ SqL K G2 pl (lot.map V.str) ∧ lot.Nodup ∧ Sub lot nm ∧ lot.length ≤ 3 ∧ mz = lot.length, ⟨_, m, 0, pl, lot, _, _, _, xs, ss, rfl, d7.le (by omega), hxs7, hsd7, led.up (Nat.le_refl _) (Nat.le_succ _), hm2, by omega, by omega, by omega, fun _ q mq _ e => ?_, hpl7, hzn, hzs, hzl, rfl⟩, ?_⟩
      · rcases (led.ok q mq).1 with ⟨k', h1, _, h3⟩ | ⟨_, z⟩
        · rw [h3] at e
          have := way_inj (congrArg keyD e)
          omega
        · exact absurd z (Nat.not_lt_zero _)
      clear hxs7 hsd7 hpl7 d7 hzn hzs hzl hxs hsd led hm2 hm hfew d6 d5 d4 d3 hlb5 hla u4 u5 u7
      clear hpl
      clear lot pl m xs ss
      rintro mz σ H7 ⟨m, here, pl, lot, o7, o8, G7, xs, ss, rfl, d7, hxs, hsd, led, hm2, hm, hfew, hhere, hfree, hpl, hzn, hzs, hzl, rfl⟩
      refine ⟨_, rfl, by show 0 ≤ sizeLine; decide, fun e he => ⟨pl, e, _, rfl, rfl, (d7.sub.to_upd he).seq hpl, SqL.of upd_same, ⟨_, rfl, ?_⟩⟩⟩
      have d8 := d7.mine (o := .lst []) he
      generalize upd H7 e (.lst []) = H8 at d8 ⊢
      cases hlot : lot with
      | nil =>
        subst hlot
        refine ite_n rfl ?_
        refine ⟨m, _, _, _, _, _, G7, xs, ss, rfl, d8.le (by show c + 1 + 12 * i + 8 + 3 ≤ _; omega), hxs, hsd, led, hm2, by have : m ≤ 2 + 3 * i + 3 := hm; omega, by have : ss.length ≤ 3 * i + 3 := hfew; omega⟩
      | cons y0 yr =>
        refine ite_y rfl ?_
        rw [← hlot]
        have hlp : 1 ≤ lot.length := by rw [hlot]; exact Nat.succ_pos _
        have hfree := hfree (by rw [hlot]; exact fun z => nomatch z)
        clear hlot
        refine ⟨fun σ' H' => ∃ (m here : Nat) (pl : Addr) (lot' : List Str) (o7 o8 : Option V) (G2 : Hp) (xs : List V) (ss : List Stp), σ' = [some (.ref s), some (.ref a), some (.int (m : Nat)), some (.ref F), some (.int (i : Nat)), some (.ref pl), some (.int (here : Nat)), o7, o8, none] ∧ DrF H G G2 H' s l (c + 1 + 12 * i + 8 + (3 - lot'.length)) F xs ∧ StepsV K G2 xs ss ∧ SidesV G2 ss ∧ Led m (i + 1) 0 nm ss ∧ 2 ≤ m ∧ m ≤ 2 + 3 * i + (3 - lot'.length) ∧ ss.length ≤ 3 * i + (3 - lot'.length) ∧ here < m ∧ (lot' ≠ [] → ∀ q ∈ ss, q.one = here → q.wd ≠ wayD i) ∧ SqL K G2 pl (lot'.map V.str) ∧ lot'.Nodup ∧ Sub lot' nm ∧ lot'.length ≤ 3 ∧ lot'.length < lot.length, fun σ' H' ⟨m, here, pl, lot', o7, o8, G2, xs, ss, e1, e2, e3, e4, e5, e6, e7, e8, e9, e10, e11, e12, e13, e14, e15⟩ => ⟨lot'.length, e15, m, here, pl, lot', o7, o8, G2, xs, ss, e1, e2, e3, e4, e5, e6, e7, e8, e9, e10, e11, e12, e13, e14, rfl⟩, ?_⟩
        try dsimp (config := { proj := false }) only [tNext, tRet, tOp, tSeq, gName, tAsg]
        refine ⟨_, rfl, _, rfl, pl, _, rfl, .inl (d8.sub.seq hpl), ?_⟩
        try dsimp (config := { proj := false }) only [tCons, tC, tNil, tCall, List.cons_append, List.nil_append]
        rw [List.length_map]
        refine d8.draw lot.length (by omega) hlp (by omega) fun x H9 hx d9 => ?_
        refine ⟨_, _, rfl, rfl, ?_⟩
        have e3 : (1 : Int) + (x : Nat) = ((1 + x : Nat) : Int) := by omega
        have hs1 : 1 ≤ 1 + x := by omega
        have hs2 : 1 + x ≤ lot.length := by omega
        simp only [L2.wipe, L2.start, List.map_cons, List.map_nil, List.set_cons_zero, List.set_cons_succ, List.length_cons, List.length_nil, List.cons_append, List.nil_append, Nat.reduceAdd, Nat.reduceSub, List.replicate]
        rw [e3]
        generalize 1 + x = sm at hs1 hs2 ⊢
        try dsimp (config := { proj := false }) only [tNext, tRet, tOp, tSeq, gName, tAsg]
        refine ifx_rd (fun v => ∃ ot : Nat, v = .int (ot : Nat) ∧ ((ot = 1 ∧ sm = lot.length) ∨ (ot = m ∧ sm < lot.length))) (fun Q' q => ?_) ?_
        · refine ⟨_, rfl, _, rfl, pl, _, rfl, .inl (d9.sub.seq hpl), rfl, _, rfl, ?_⟩
          rw [List.length_map]
          refine ite_b (fun hz => ?_) (fun hz => ?_)
          · have hz := of_decide_eq_true hz
            injection hz with hz
            exact q _ ⟨1, rfl, .inl ⟨rfl, by omega⟩⟩
          · have hz := of_decide_eq_false hz
            refine ⟨_, rfl, q _ ⟨m, rfl, .inr ⟨rfl, ?_⟩⟩⟩
            rcases Nat.lt_or_ge sm lot.length with z | z
            · exact z
            · exact absurd (congrArg V.int (show ((sm : Nat) : Int) = ((lot.length : Nat) : Int) by omega)) hz
        rintro _ ⟨ot, rfl, hot⟩
        simp only [L2.wipe, L2.start, List.map_cons, List.map_nil, List.set_cons_zero, List.set_cons_succ, List.length_cons, List.length_nil, List.cons_append, List.nil_append, Nat.reduceAdd, Nat.reduceSub, List.replicate]
        try dsimp (config := { proj := false }) only [tNext, tRet, tOp, tSeq, gName, tAsg]
        refine ⟨_, rfl, .inl ⟨rfl, _, SqL.of d9.f⟩, _, rfl, by show 2 ≤ sizeLine; decide, fun wt hwt => ?_⟩
        have d10 := d9.newG (o := .tup [.str "way", .int (i : Nat)]) hwt
        have u10 : Same G7 (upd G7 wt (.tup [.str "way", .int (i : Nat)])) := Same.upd_none (d9.sub.free hwt)
        have hwt10 : SqT K (upd G7 wt (.tup [.str "way", .int (i : Nat)])) wt [.str "way", .int (i : Nat)] := SqT.of upd_same
        generalize upd G7 wt (.tup [.str "way", .int (i : Nat)]) = G10 at d10 u10 hwt10
        generalize upd H9 wt (.tup [.str "way", .int (i : Nat)]) = H10 at d10 ⊢
        refine ⟨_, rfl, _, rfl, _, rfl, _, rfl, (sm : Nat), rfl, pl, _, rfl, d10.sub.seq (u10.seq hpl), fun pb hpb => ?_⟩
        rw [cut_take, ← List.map_take]
        have d11 := d10.newG (o := .lst ((lot.take sm).map V.str)) hpb
        have u11 : Same G10 (upd G10 pb (.lst ((lot.take sm).map V.str))) := Same.upd_none (d10.sub.free hpb)
        have hpb11 : SqL K (upd G10 pb (.lst ((lot.take sm).map V.str))) pb ((lot.take sm).map V.str) := SqL.of upd_same
        generalize upd G10 pb (.lst ((lot.take sm).map V.str)) = G11 at d11 u11 hpb11
        generalize upd H10 pb (.lst ((lot.take sm).map V.str)) = H11 at d11 ⊢
        refine fun pd hpd => ⟨by show 5 ≤ sizeLine; decide, fun pt hpt => ?_⟩
        have d12 := d11.newG (o := .dK []) hpd
        have u12 : Same G11 (upd G11 pd (.dK [])) := Same.upd_none (d11.sub.free hpd)
        have hpd12 : upd G11 pd (.dK []) pd = some (.dK []) := upd_same
        generalize upd G11 pd (.dK []) = G12 at d12 u12 hpd12
        have d13 := d12.newG (o := .tup [.ref wt, .int (here : Nat), .int (ot : Nat), .ref pb, .ref pd]) hpt
        have u13 : Same G12 (upd G12 pt (.tup [.ref wt, .int (here : Nat), .int (ot : Nat), .ref pb, .ref pd])) := Same.upd_none (d12.sub.free hpt)
        have hpt13 : SqT K (upd G12 pt (.tup [.ref wt, .int (here : Nat), .int (ot : Nat), .ref pb, .ref pd])) pt [.ref wt, .int (here : Nat), .int (ot : Nat), .ref pb, .ref pd] := SqT.of upd_same
        generalize upd G12 pt (.tup [.ref wt, .int (here : Nat), .int (ot : Nat), .ref pb, .ref pd]) = G13 at d13 u13 hpt13
        have u14 := ((u10.trans u11).trans u12).trans u13
        have hlen : xs.length ≤ 100 := by rw [Paired.length hxs]; omega
        refine ⟨F, _, _, rfl, rfl, d13.f, Nat.lt_of_le_of_lt hlen (by decide), ?_⟩
        have d14 := d13.put (ys := xs ++ [.ref pt])
        generalize upd (upd (upd H11 pd (.dK [])) pt (.tup [.ref wt, .int (here : Nat), .int (ot : Nat), .ref pb, .ref pd])) F (.lst (xs ++ [.ref pt])) = H14 at d14 ⊢
        simp only [L2.wipe, L2.start, List.map_cons, List.map_nil, List.set_cons_zero, List.set_cons_succ, List.length_cons, List.length_nil, List.cons_append, List.nil_append, Nat.reduceAdd, Nat.reduceSub, List.replicate]
        refine ⟨_, rfl, _, rfl, _, rfl, rfl, .inr ⟨_, rfl, _, _, rfl, rfl, ?_⟩⟩
        refine ⟨_, rfl, _, rfl, (sm : Nat), rfl, pl, _, rfl, d14.sub.seq (u14.seq hpl), fun pl2 hpl2 => ?_⟩
        rw [cut_drop, ← List.map_drop]
        have d15 := d14.newG (o := .lst ((lot.drop sm).map V.str)) hpl2
        have u15 : Same G13 (upd G13 pl2 (.lst ((lot.drop sm).map V.str))) := Same.upd_none (d14.sub.free hpl2)
        have hpl15 : SqL K (upd G13 pl2 (.lst ((lot.drop sm).map V.str))) pl2 ((lot.drop sm).map V.str) := SqL.of upd_same
        generalize upd G13 pl2 (.lst ((lot.drop sm).map V.str)) = G15 at d15 u15 hpl15
        obtain ⟨m', em, hm1, hm2', hm3⟩ : ∃ m' : Nat, ((m : Nat) : Int) + (if (!decide (V.int ((ot : Nat) : Int) = V.int 1)) = true then 1 else 0) = ((m' : Nat) : Int) ∧ m ≤ m' ∧ m' ≤ m + 1 ∧ ot < m' := by
          rcases hot with ⟨rfl, _⟩ | ⟨rfl, _⟩
          · refine ⟨m, ?_, Nat.le_refl _, by omega, by omega⟩
            have : decide (V.int ((1 : Nat) : Int) = V.int 1) = true := decide_eq_true rfl
            rw [this]; simp
          · refine ⟨ot + 1, ?_, by omega, by omega, by omega⟩
            have : ¬ (V.int ((ot : Nat) : Int) = V.int 1) := fun z => by
              injection z with z
              omega
            rw [decide_eq_false this]; simp
        have hdl : (lot.drop sm).length = lot.length - sm := List.length_drop
        refine ⟨_, _, _, rfl, m', ot, pl2, lot.drop sm, some (.int (sm : Nat)), some (.int (ot : Nat)), G15, xs ++ [.ref pt], ss ++ [⟨wayD i, here, ot, lot.take sm, pd⟩], ?_, d15.le (by omega), ?_, ?_, led.way hm1 (by omega) hhere hm3 (hzn.sublist (List.take_sublist _ _)) (fun z hz => hzs z (List.mem_of_mem_take hz)) hfree, by omega, by omega, by rw [List.length_append]; show ss.length + 1 ≤ _; omega, hm3, ?_, hpl15, hzn.sublist (List.drop_sublist _ _), fun z hz => hzs z (List.mem_of_mem_drop hz), by omega, by omega⟩
        · rw [← em]
          rfl
        · refine pair_snoc (P := StepV K G15) ?_ (hxs.same (u14.trans u15))
          exact ⟨pt, .ref wt, pb, rfl, u15.tp hpt13, dp_mono ((((u11.trans u12).trans u13)).trans u15) (.tup hwt10 (.cons (.str _) (.cons (.int _) .nil))), ((u12.trans u13).trans u15).seq hpb11⟩
        · intro q mq
          rcases List.mem_append.mp mq with mq | mq
          · exact hsd.same (u14.trans u15) q mq
          · rw [List.mem_singleton.mp mq]
            exact ⟨[], (u13.trans u15) _ _ hpd12, side_nil⟩
        · intro hne q mq e1 e2
          rcases hot with ⟨_, z⟩ | ⟨z, _⟩
          · exact hne (List.eq_nil_of_length_eq_zero (by omega))
          · rcases List.mem_append.mp mq with mq | mq
            · have := (led.ok q mq).2.1
              omega
            · rw [List.mem_singleton.mp mq] at e1
              have e1 : here = ot := e1
              omega
    · rintro σ H3 ⟨m, o4, o5, o6, o7, o8, G3, xs, ss, rfl, d3, hxs, hsd, led, hm2, hm, hfew⟩
      try dsimp (config := { proj := false }) only [tNext, tRet, tOp, tSeq, gName, tAsg]
      refine ⟨_, rfl, (m : Nat), rfl, by omega, by omega, ?_⟩
      refine for_range (n := m) (fun j σ H' => ∃ (o4 o5 o6 o7 o8 o9 : Option V) (G2 : Hp) (xs : List V) (ss : List Stp), σ = [some (.ref s), some (.ref a), some (.int (m : Nat)), some (.ref F), o4, o5, o6, o7, o8, o9] ∧ DrF H G G2 H' s l (c + 1 + 12 * nw + 10 * j) F xs ∧ StepsV K G2 xs ss ∧ SidesV G2 ss ∧ Led m nw j nm ss ∧ ss.length ≤ 15 + j) ⟨_, _, _, _, _, _, G3, xs, ss, rfl, d3, hxs, hsd, led, by omega⟩ ?_ ?_
      · clear d3 hxs hsd led hfew
        clear xs ss
        rintro j σ H4 hj ⟨o4, o5, o6, o7, o8, o9, G4, xs, ss, rfl, d4, hxs, hsd, led, hfew⟩
        simp (config := { proj := false }) only [Int.zero_add]
        refine ⟨_, rfl, ?_⟩
        try dsimp (config := { proj := false }) only [tCons, tC, tNil, tCall, List.cons_append, List.nil_append]
        refine d4.draw 3 (by omega) (by decide) (by decide) fun q H5 hq d5 => ?_
        refine ⟨rfl, _, rfl, ite_b (fun _ => ?_) (fun _ => ?_)⟩
        · refine ⟨_, rfl, _, rfl, ?_⟩
          try dsimp (config := { proj := false }) only [tCons, tC, tNil, tCall, List.cons_append, List.nil_append]
          refine d5.mixed (ys := nm.map V.str) (by rw [List.length_map]; omega) (d5.d.gr.up.q hnm) (by rw [List.length_map]; omega) fun la H6 G6 zs0 hp6 u6 d6 hla => ?_
          obtain ⟨zs, rfl, hpz⟩ := perm_strs hp6
          rw [List.length_map] at d6
          refine ⟨_, rfl, ?_⟩
          try dsimp (config := { proj := false }) only [tCons, tC, tNil, tCall, List.cons_append, List.nil_append]
          refine d6.draw 2 (by omega) (by decide) (by decide) fun kw H7 hkw d7 => ?_
          refine ⟨(kw : Nat), rfl, la, _, rfl, d7.sub.seq hla, fun pb hpb => ?_⟩
          rw [cut_take, ← List.map_take]
          have d8 := d7.newG (o := .lst ((zs.take kw).map V.str)) hpb
          have u8 : Same G6 (upd G6 pb (.lst ((zs.take kw).map V.str))) := Same.upd_none (d7.sub.free hpb)
          have hpb8 : SqL K (upd G6 pb (.lst ((zs.take kw).map V.str))) pb ((zs.take kw).map V.str) := SqL.of upd_same
          generalize upd G6 pb (.lst ((zs.take kw).map V.str)) = G8 at d8 u8 hpb8
          generalize upd H7 pb (.lst ((zs.take kw).map V.str)) = H8 at d8 ⊢
          simp only [L2.wipe, L2.start, List.map_cons, List.map_nil, List.set_cons_zero, List.set_cons_succ, List.length_cons, List.length_nil, List.cons_append, List.nil_append, Nat.reduceAdd, Nat.reduceSub, List.replicate]
          try dsimp (config := { proj := false }) only [tNext, tRet, tOp, tSeq, gName, tAsg]
          refine ⟨_, rfl, .inl ⟨rfl, _, SqL.of d8.f⟩, _, rfl, _, rfl, _, rfl, by show 2 ≤ sizeLine; decide, fun lp hlp => ?_⟩
          have d9 := d8.newG (o := .lst ([0, j].map natV)) hlp
          have u9 : Same G8 (upd G8 lp (.lst ([0, j].map natV))) := Same.upd_none (d8.sub.free hlp)
          have hlp9 : Sq K (upd G8 lp (.lst ([0, j].map natV))) lp ([0, j].map natV) := .inl (SqL.of upd_same)
          generalize upd G8 lp (.lst ([0, j].map natV)) = G9 at d9 u9 hlp9
          try dsimp (config := { proj := false }) only [tCons, tC, tNil, tCall, List.cons_append, List.nil_append]
          refine d9.pick (by omega) hlp9 (by show 1 ≤ 2; decide) (by show 2 ≤ 1000; decide) fun j2 x H10 hx d10 => ?_
          obtain ⟨ot, hot, rfl⟩ := pick_nat hx
          have hotn : ot < m := by
            rcases List.mem_cons.mp hot with rfl | hot
            · omega
            rw [List.mem_singleton.mp hot]; exact hj
          refine ⟨_, rfl, fun pd hpd => ⟨by show 5 ≤ sizeLine; decide, fun pt hpt => ?_⟩⟩
          have d11 := d10.newG (o := .dK []) hpd
          have u11 : Same G9 (upd G9 pd (.dK [])) := Same.upd_none (d10.sub.free hpd)
          have hpd11 : upd G9 pd (.dK []) pd = some (.dK []) := upd_same
          generalize upd G9 pd (.dK []) = G11 at d11 u11 hpd11
          have d12 := d11.newG (o := .tup [.str "back", .int (j : Nat), natV ot, .ref pb, .ref pd]) hpt
          have u12 : Same G11 (upd G11 pt (.tup [.str "back", .int (j : Nat), natV ot, .ref pb, .ref pd])) := Same.upd_none (d11.sub.free hpt)
          have hpt12 : SqT K (upd G11 pt (.tup [.str "back", .int (j : Nat), natV ot, .ref pb, .ref pd])) pt [.str "back", .int (j : Nat), natV ot, .ref pb, .ref pd] := SqT.of upd_same
          generalize upd G11 pt (.tup [.str "back", .int (j : Nat), natV ot, .ref pb, .ref pd]) = G12 at d12 u12 hpt12
          have u13 := (((u6.trans u8).trans u9).trans u11).trans u12
          have hlen : xs.length ≤ 100 := by rw [Paired.length hxs]; omega
          refine ⟨F, _, _, rfl, rfl, d12.f, Nat.lt_of_le_of_lt hlen (by decide), ?_⟩
          refine ⟨_, _, _, _, _, _, G12, xs ++ [.ref pt], ss ++ [⟨backD, j, ot, zs.take kw, pd⟩], rfl, d12.put.le (by omega), ?_, ?_, led.back hj hotn ((hpz.nodup_iff.mpr hnd).sublist (List.take_sublist _ _)) (fun z hz => hpz.mem_iff.mp (List.mem_of_mem_take hz)), by rw [List.length_append]; show ss.length + 1 ≤ _; omega⟩
          · refine pair_snoc (P := StepV K G12) ?_ (hxs.same u13)
            exact ⟨pt, .str "back", pb, rfl, hpt12, .str _, ((u9.trans u11).trans u12).seq hpb8⟩
          · intro q mq
            rcases List.mem_append.mp mq with mq | mq
            · exact hsd.same u13 q mq
            · rw [List.mem_singleton.mp mq]
              exact ⟨[], u12 _ _ hpd11, side_nil⟩
        · exact ⟨_, _, _, _, _, _, G4, xs, ss, rfl, d5.le (by omega), hxs, hsd, led.step, by omega⟩
      · clear d3 hxs hsd led hfew
        clear xs ss
        rintro σ H4 ⟨o4, o5, o6, o7, o8, o9, G4, xs, ss, rfl, d4, hxs, hsd, led, hfew⟩
        try dsimp (config := { proj := false }) only [tNext, tRet, tOp, tSeq, gName, tAsg]
        have hxs7 := hxs.same (Same.upd_none (o := .lst xs) d4.g)
        have hsd7 := hsd.same (Same.upd_none (o := .lst xs) d4.g)
        have d8 := d4.give
        have hF8 : Sq K (upd G4 F (.lst xs)) F xs := .inl (SqL.of upd_same)
        generalize upd G4 F (.lst xs) = G8 at hxs7 hsd7 d8 hF8
        have hxl : xs.length ≤ 32 := by
          rw [Paired.length hxs]
          omega
        refine ⟨_, rfl, _, rfl, _, rfl, ?_⟩
        try dsimp (config := { proj := false }) only [tCons, tC, tNil, tCall, List.cons_append, List.nil_append]
        refine d8.mixed (by omega) hF8 (by omega) fun sl H9 G9 ys hys g9 d9 hsl => ?_
        obtain ⟨ss', hss', hperm⟩ := steps_perm (hxs7.same g9.up) hys
        refine ⟨by show 1 ≤ sizeLine; decide, fun bl hbl => ⟨by show 3 ≤ sizeLine; decide, fun t ht => ?_⟩⟩
        have d10 := d9.newG (o := .lst ([1].map natV)) hbl
        have u10 : Same G9 (upd G9 bl (.lst ([1].map natV))) := Same.upd_none (d9.sub.free hbl)
        have hbl10 : SqL K (upd G9 bl (.lst ([1].map natV))) bl ([1].map natV) := SqL.of upd_same
        generalize upd G9 bl (.lst ([1].map natV)) = G10 at d10 u10 hbl10
        have d11 := d10.newG (o := .tup [.int (m : Nat), .ref sl, .ref bl]) ht
        have u11 : Same G10 (upd G10 t (.tup [.int (m : Nat), .ref sl, .ref bl])) := Same.upd_none (d10.sub.free ht)
        obtain ⟨c3, hc3, st11⟩ := d11.st
        refine k t _ _ m ss' [1] c3 d11.gr ⟨sl, bl, ys, SqT.of upd_same, (u10.trans u11).seq hsl, hss'.same (u10.trans u11), u11.seq hbl10, fun q mq => ?_⟩ (led.play hm2 (by omega) hsub (by omega) hperm) st11 (by omega)
        exact (hsd7.same g9.up).same (u10.trans u11) q (hperm.mem_iff.mp mq)
end
end K8
-- K8Xc
set_option maxRecDepth 100000
set_option maxHeartbeats 1000000
namespace K8
open PySem PySem.Spec PyProof.Rows L2
/-! ### a drawn play as data -/
mutual
theorem dq_word {K : PySem.W.Frag} {G : Hp} : ∀ (d : D) (v : V), isWord d = true → Dp K G v (keyD d).data → Dq K G v d
  | .lf (.int i), v, hw, h => by
    have h : Dp K G v (.int i) := h
    cases h
    exact .lf rfl
  | .lf (.str x), v, hw, h => by
    have h : Dp K G v (.str x) := h
    cases h
    exact .lf rfl
  | .sq l, v, hw, h => by
    cases h with
    | tup a b => exact .tup a (dq_words l _ hw b)
theorem dq_words {K : PySem.W.Frag} {G : Hp} : ∀ (l : List D) (vs : List V), isWords l = true → DpAll K G vs (NestedKey.datas (keyDs l)) → DqAll K G vs l
  | [], vs, _, h => by cases h; exact .nil
  | d :: r, vs, hw, h => by
    have hw : (isWord d && isWords r) = true := hw
    rw [Bool.and_eq_true] at hw
    cases h with
    | cons a b => exact .cons (dq_word d _ hw.1 a) (dq_words r _ hw.2 b)
end
theorem dq_strs {K : PySem.W.Frag} {G : Hp} : ∀ (bs : List Str), DqAll K G (bs.map V.str) (bs.map strD)
  | [] => .nil
  | b :: r => .cons (.lf rfl) (dq_strs r)
theorem step_dq {K : PySem.W.Frag} {G : Hp} {v : V} {s : Stp} (h : StepV K G v s) (hs : ∃ kvs, G s.sd = some (.dK kvs) ∧ SideOk kvs) (hw : isWord s.wd = true) : Dq K G v (stepD s) := by
  obtain ⟨t, w', rl, rfl, ht, hd, hr⟩ := h
  obtain ⟨kvs, hk, _⟩ := hs
  exact .tup ht (.cons (dq_word _ _ hw hd) (.cons (.lf rfl) (.cons (.lf rfl) (.cons (.lst hr (dq_strs _)) (.cons (.dct hk) .nil)))))
theorem steps_dq {K : PySem.W.Frag} {G : Hp} : ∀ {xs : List V} {ss : List Stp}, StepsV K G xs ss → SidesV G ss → (∀ s ∈ ss, isWord s.wd = true) → DqAll K G xs (ss.map stepD)
  | _, _, .nil, _, _ => .nil
  | _, _, .cons a t, hs, hw => .cons (step_dq a (hs _ List.mem_cons_self) (hw _ List.mem_cons_self)) (steps_dq t (fun s m => hs s (List.mem_cons_of_mem _ m)) fun s m => hw s (List.mem_cons_of_mem _ m))
theorem depL_le {n : Nat} : ∀ {l : List D}, (∀ d ∈ l, dep d ≤ n) → depL l ≤ n
  | [], _ => Nat.zero_le _
  | d :: r, h => Nat.max_le.mpr ⟨h d List.mem_cons_self, depL_le fun x m => h x (List.mem_cons_of_mem _ m)⟩
theorem wideL_le {n : Nat} : ∀ {l : List D}, (∀ d ∈ l, wide d ≤ n) → wideL l ≤ n
  | [], _ => Nat.zero_le _
  | d :: r, h => Nat.max_le.mpr ⟨h d List.mem_cons_self, wideL_le fun x m => h x (List.mem_cons_of_mem _ m)⟩
theorem szL_le {n : Nat} : ∀ {l : List D}, (∀ d ∈ l, sz d ≤ n) → szL l ≤ n * l.length
  | [], _ => Nat.zero_le _
  | d :: r, h => by
    have h1 := h d List.mem_cons_self
    have h2 := szL_le (l := r) fun x m => h x (List.mem_cons_of_mem _ m)
    show sz d + szL r ≤ n * (r.length + 1)
    rw [Nat.mul_succ]
    omega
mutual
theorem sz_pow {b : Nat} : ∀ (d : D), wide d ≤ b → sz d ≤ (b + 1) ^ dep d
  | .lf _, _ => Nat.zero_le _
  | .sq l, h => by
    have h : max l.length (wideL l) ≤ b := h
    have h1 := szL_pow l (Nat.le_trans (Nat.le_max_right ..) h)
    have h2 : l.length ≤ b := Nat.le_trans (Nat.le_max_left ..) h
    show szL l + 1 ≤ (b + 1) ^ (depL l + 1)
    rw [Nat.pow_succ, Nat.mul_comm, Nat.add_mul, Nat.one_mul]
    have h3 : 0 < (b + 1) ^ depL l := Nat.pow_pos (Nat.succ_pos _)
    have h4 := Nat.mul_le_mul_right ((b + 1) ^ depL l) h2
    omega
theorem szL_pow {b : Nat} : ∀ (l : List D), wideL l ≤ b → szL l ≤ l.length * (b + 1) ^ depL l
  | [], _ => Nat.zero_le _
  | d :: r, h => by
    have h : max (wide d) (wideL r) ≤ b := h
    have h1 := sz_pow d (Nat.le_trans (Nat.le_max_left ..) h)
    have h2 := szL_pow r (Nat.le_trans (Nat.le_max_right ..) h)
    have e1 : (b + 1) ^ dep d ≤ (b + 1) ^ max (dep d) (depL r) := Nat.pow_le_pow_right (Nat.succ_pos _) (Nat.le_max_left ..)
    have e2 : r.length * (b + 1) ^ depL r ≤ r.length * (b + 1) ^ max (dep d) (depL r) := Nat.mul_le_mul_left _ (Nat.pow_le_pow_right (Nat.succ_pos _) (Nat.le_max_right ..))
    show sz d + szL r ≤ (r.length + 1) * (b + 1) ^ max (dep d) (depL r)
    rw [Nat.add_mul, Nat.one_mul]
    omega
end
theorem sz_word {d : D} (h1 : dep d < 3) (h2 : wide d ≤ 1000) : sz d ≤ 1002001 :=
  Nat.le_trans (sz_pow d h2) (Nat.le_trans (Nat.pow_le_pow_right (by decide) (show dep d ≤ 2 by omega)) (by decide))
theorem strs_dep (bs : List Str) : depL (bs.map strD) ≤ 0 := depL_le fun d m => by
  obtain ⟨b, _, rfl⟩ := List.mem_map.mp m
  exact Nat.le_refl _
theorem strs_wide (bs : List Str) : wideL (bs.map strD) ≤ 0 := wideL_le fun d m => by
  obtain ⟨b, _, rfl⟩ := List.mem_map.mp m
  exact Nat.le_refl _
theorem strs_sz (bs : List Str) : szL (bs.map strD) ≤ 0 := by
  have := szL_le (n := 0) (l := bs.map strD) fun d m => by
    obtain ⟨b, _, rfl⟩ := List.mem_map.mp m
    exact Nat.le_refl _
  omega
theorem PlayOk.stepBd {n : Nat} {ss : List Stp} {bs : List Nat} (h : PlayOk n ss bs) : ∀ d ∈ ss.map stepD, dep d ≤ 3 ∧ wide d ≤ 1000 ∧ sz d ≤ 1002003 := fun d m => by
  obtain ⟨s, hs, rfl⟩ := List.mem_map.mp m
  obtain ⟨_, h1, h2, _⟩ := h.wd s hs
  have h3 := take_len_base (h.bars s hs).1 (h.bars s hs).2
  have e1 := strs_dep s.bars
  have e2 := strs_wide s.bars
  have e3 := strs_sz s.bars
  have e4 := sz_word h1 h2
  refine ⟨?_, ?_, ?_⟩
  · show max (dep s.wd) (max 0 (max 0 (max (depL (s.bars.map strD) + 1) (max 0 0)))) + 1 ≤ 3
    omega
  · show max 5 (max (wide s.wd) (max 0 (max 0 (max (max (s.bars.map strD).length (wideL (s.bars.map strD))) (max 0 0))))) ≤ 1000
    rw [List.length_map]
    omega
  · show (sz s.wd + (0 + (0 + ((szL (s.bars.map strD) + 1) + (0 + 0))))) + 1 ≤ 1002003
    omega
theorem PlayOk.stepsD {n : Nat} {ss : List Stp} {bs : List Nat} (h : PlayOk n ss bs) : dep (.sq (ss.map stepD)) < 5 ∧ wide (.sq (ss.map stepD)) ≤ 1000 ∧ sz (.sq (ss.map stepD)) ≤ 100000000 := by
  have h1 := h.stepBd
  have hf := h.few
  refine ⟨?_, ?_, ?_⟩
  · have := depL_le fun d m => (h1 d m).1
    show depL (ss.map stepD) + 1 < 5
    omega
  · have := wideL_le fun d m => (h1 d m).2.1
    refine Nat.max_le.mpr ⟨by rw [List.length_map]; omega, this⟩
  · have := szL_le fun d m => (h1 d m).2.2
    rw [List.length_map] at this
    show szL (ss.map stepD) + 1 ≤ _
    omega
theorem nats_dsz (bs : List Nat) : dep (.sq (bs.map natD)) < 5 ∧ sz (.sq (bs.map natD)) ≤ 1 ∧ wide (.sq (bs.map natD)) ≤ bs.length := by
  have e1 : depL (bs.map natD) ≤ 0 := depL_le fun d m => by
    obtain ⟨b, _, rfl⟩ := List.mem_map.mp m
    exact Nat.le_refl _
  have e2 : wideL (bs.map natD) ≤ 0 := wideL_le fun d m => by
    obtain ⟨b, _, rfl⟩ := List.mem_map.mp m
    exact Nat.le_refl _
  have e3 := szL_le (n := 0) (l := bs.map natD) fun d m => by
    obtain ⟨b, _, rfl⟩ := List.mem_map.mp m
    exact Nat.le_refl _
  refine ⟨by show depL (bs.map natD) + 1 < 5; omega, by show szL (bs.map natD) + 1 ≤ 1; omega, ?_⟩
  refine Nat.max_le.mpr ⟨by rw [List.length_map]; exact Nat.le_refl _, by omega⟩
theorem base_nm : ∀ x ∈ base6, nameB x = true := by decide +kernel
theorem PlayOk.stp {n : Nat} {ss : List Stp} {bs : List Nat} (h : PlayOk n ss bs) {G : Hp} (hs : SidesV G ss) : ∀ s ∈ ss, StpOk n G s := fun s m =>
  { wd := (h.wd s m).1, dp := (h.wd s m).2.1, wi := (h.wd s m).2.2.1, one := h.one s m, oth := h.oth s m, bars := fun b hb => base_nm b ((h.bars s m).2 b hb), nd := (h.bars s m).1, few := Nat.lt_of_le_of_lt (take_len_base (h.bars s m).1 (h.bars s m).2) (by decide), sd := hs s m }
/-! ### x_some, x_made -/
def spXsome (K : PySem.W.Frag) : Sp := fun vs H Q _ => ∃ (G : Hp) (s l : Addr) (c : Nat), vs = [.ref s] ∧ Same G H ∧ G s = none ∧ G l = none ∧ Strm H s l c ∧ c + 20000 < 1099511627776 ∧
  ∀ t H' G' n ss bs c', Gr (SM s l) H G G' H' → DrawnV K G' t n ss bs → PlayOk n ss bs → Strm H' s l c' → c' ≤ c + 1100 → Q (.ref t) H'
def spXmade (K : PySem.W.Frag) (w : World) : Sp := fun vs H Q _ => ∃ (G : Hp) (s l : Addr) (c : Nat) (t : Addr) (n : Nat) (ss : List Stp) (bs : List Nat), vs = [.ref s, .ref t] ∧ Same G H ∧ G s = none ∧ G l = none ∧ Strm H s l c ∧ c + 300000000 < 1099511627776 ∧ DrawnV K G t n ss bs ∧ PlayOk n ss bs ∧
  ∀ p H' G' T bad c', Gr (SM s l) H G G' H' → PlayIs K w G' p T bad → TabOf n ss T → (∀ y, y ∈ bad ↔ y ∈ bs) → bad.length ≤ bs.length → Strm H' s l c' → c' ≤ c + 200000000 → Q (.ref p) H'
section
variable {X : Cx} {k j : Nat} {sp : Sp} {E : XK} {e : Expr} {es : List Expr} {t : TA} {p pos : Pos}
theorem mkPlay (c : Mt X.prog X.w X.K X.mg X.base CX0 k "__init__" sp) (M : Mk X.K (aPlay X.K) (He.ma X.K (aPlay X.K) "__init__")) (g : X.mg "Play" = some (.ref (aPlay X.K))) (hr : Room j X.A) (hk : k + 1 ≤ j) (hx : Passes CX0 X E) (ha : PA X (e :: es) t) (hg : Gl X "Play" := by rfl)
    (he : starEach (e :: es) X.env = (false, eval e X.env) :: starEach es X.env := by rfl) (hpl : (backTo pos (starEach es X.env)).any (·.1) = false := by rfl) :
    PE X (.Call (.Name "Play" p) (e :: es) [] pos) (tMake (aPlay X.K) sp [] E t) := by
  obtain ⟨fd, ps, F, b⟩ := c.ex
  exact pe_make M F (hr.mono hk) hg g b .nil hx ha (by decide) he hpl
end
theorem sc_x_some : FnScope ["_law_stream", "_law_names"] ["_law_stream"] (defScope s_x_some) := ⟨rfl, rfl, rfl, by decide +kernel, rfl, by decide +kernel, by decide +kernel⟩
theorem sc_x_made : FnScope ["_law_stream", "_law_drawn"] ["_law_stream", "_law_drawn"] (defScope s_x_made) := ⟨rfl, rfl, rfl, by decide +kernel, rfl, by decide +kernel, by decide +kernel⟩
section
variable {P : Program} {w : World} {K : PySem.W.Frag} {mg : Str → Option Value} {base : Heap}
theorem base6_nd : base6.Nodup := by decide +kernel
theorem ok_x_some (T : Txt K mg) : Cl P w K mg base CX0 4 "_law_x_some" (spXsome K) := by
  refine cl0 (T.F_x_some) T.g_x_some sc_x_some (fun vs H Q E h => ?_) (fun _ _ _ _ _ _ us hl => match us, hl with | [_], _ => rfl) (fun cdv A outer s H vs Q E hr h => ?_)
  · obtain ⟨G, s, l, c, rfl, _⟩ := h
    rfl
  · obtain ⟨G, s, l, c, rfl, s0, gs, gl, st, hc, k⟩ := h
    refine ⟨_, (pss_cons (ps_set (i := 1) sc_x_some.nd rfl (by first | exact Or.inl rfl | exact Or.inr rfl) (pe_slice (slK (KK := K)) (pe_cl (ok_z_mixed (K := K) T) hr (by decide) pass0 (pa_cons (pv 0) (pa_cons (pe_lst (pa_cons pe_str (pa_cons pe_str (pa_cons pe_str (pa_cons pe_str (pa_cons pe_str (pa_cons pe_str pa_nil))))))) pa_nil))) po_none (po_some (pe_op op_add pe_int (pe_cl (ok_z_draw (K := K) T) hr (by decide) pass0 (pa_cons (pv 0) (pa_cons pe_int pa_nil)))))))
      (pss_one (ps_ret (pe_ifExp (pt_cmpR op_eq (pe_cl (ok_z_draw (K := K) T) hr (by decide) pass0 (pa_cons (pv 0) (pa_cons pe_int pa_nil))) pe_int (nomark _)) (pe_cl (ok_x_play (K := K) T) hr (by decide) pass0 (pa_cons (pv 0) (pa_cons (pe_slice (slK (KK := K)) (pv 1) po_none (po_some pe_int)) pa_nil))) (pe_cl (ok_x_led (K := K) T) hr (by decide) pass0 (pa_cons (pv 0) (pa_cons (pv 1) pa_nil))))))), ?_⟩
    have d0 : Dr H G G H s l c := Dr.start s0 gs gl st (Nat.le_refl _)
    refine ⟨_, rfl, by show 6 ≤ sizeLine; decide, fun lb hlb => ?_⟩
    have d1 := d0.newG (o := .lst (base6.map V.str)) hlb
    have hlb1 : Sq K (upd G lb (.lst (base6.map V.str))) lb (base6.map V.str) := .inl (SqL.of upd_same)
    generalize upd G lb (.lst (base6.map V.str)) = G1 at d1 hlb1
    try dsimp (config := { proj := false }) only [tCons, tC, tNil, tCall, List.cons_append, List.nil_append]
    refine d1.mixed (by show c + 6 < _; omega) hlb1 (by decide) fun la H2 G2 zs0 hp g2 d2 hla => ?_
    obtain ⟨zs, rfl, hpz⟩ := perm_strs hp
    have d2 := d2.le (b2 := c + 6) (Nat.le_refl _)
    refine ⟨_, rfl, ?_⟩
    try dsimp (config := { proj := false }) only [tCons, tC, tNil, tCall, List.cons_append, List.nil_append]
    refine d2.draw 4 (by omega) (by decide) (by decide) fun x H3 hx g3 d3 => ?_
    refine ⟨_, _, rfl, rfl, (3 : Int) + (x : Nat), rfl, la, _, rfl, d3.sub.seq hla, fun pa hpa => ?_⟩
    have e3 : (3 : Int) + (x : Nat) = ((3 + x : Nat) : Int) := by omega
    rw [e3, cut_take, ← List.map_take]
    generalize 3 + x = kk
    have d4 := d3.newG (o := .lst ((zs.take kk).map V.str)) hpa
    have hpa4 : SqL K (upd G2 pa (.lst ((zs.take kk).map V.str))) pa ((zs.take kk).map V.str) := SqL.of upd_same
    generalize upd G2 pa (.lst ((zs.take kk).map V.str)) = G4 at d4 hpa4
    have hnd : (zs.take kk).Nodup := (hpz.nodup_iff.mpr base6_nd).sublist (List.take_sublist _ _)
    have hsub : Sub (zs.take kk) base6 := fun z hz => hpz.mem_iff.mp (List.mem_of_mem_take hz)
    generalize zs.take kk = nm at d4 hpa4 hnd hsub
    simp only [L2.wipe, L2.start, List.map_cons, List.map_nil, List.set_cons_zero, List.set_cons_succ, List.length_cons, List.length_nil, List.cons_append, List.nil_append, Nat.reduceAdd, Nat.reduceSub, List.replicate]
    refine ⟨_, rfl, ?_⟩
    try dsimp (config := { proj := false }) only [tCons, tC, tNil, tCall, List.cons_append, List.nil_append]
    refine d4.draw 3 (by omega) (by decide) (by decide) fun q H5 hq g5 d5 => ?_
    refine ⟨rfl, _, rfl, ite_b (fun _ => ?_) (fun _ => ?_)⟩
    · refine ⟨_, rfl, _, rfl, (4 : Nat), rfl, pa, _, rfl, d5.sub.seq hpa4, fun pb hpb => ?_⟩
      have e4 : cutV (nm.map V.str) none (some ((4 : Nat) : Int)) = (nm.take 4).map V.str := by rw [cut_take, ← List.map_take]
      rw [e4]
      have d6 := d5.newG (o := .lst ((nm.take 4).map V.str)) hpb
      have hpb6 : SqL K (upd G4 pb (.lst ((nm.take 4).map V.str))) pb ((nm.take 4).map V.str) := SqL.of upd_same
      generalize upd G4 pb (.lst ((nm.take 4).map V.str)) = G6 at d6 hpb6
      obtain ⟨c6, hc6, st6⟩ := d6.st
      refine ⟨G6, s, l, c6, pb, nm.take 4, rfl, d6.sub, d6.gs, d6.gl, st6, by omega, .inl hpb6, hnd.sublist (List.take_sublist _ _), fun z hz => hsub z (List.mem_of_mem_take hz), fun t H' G' n ss bs c' g7 dv ok st7 hc7 => k t H' G' n ss bs c' (d6.gr.trans g7) dv ok st7 (by omega)⟩
    · refine ⟨_, rfl, _, rfl, ?_⟩
      obtain ⟨c6, hc6, st6⟩ := d5.st
      refine ⟨G4, s, l, c6, pa, nm, rfl, d5.sub, d5.gs, d5.gl, st6, by omega, .inl hpa4, hnd, hsub, fun t H' G' n ss bs c' g7 dv ok st7 hc7 => k t H' G' n ss bs c' (d5.gr.trans g7) dv ok st7 (by omega)⟩
theorem ok_x_made (T : Txt K mg) : Cl P w K mg base CX0 11 "_law_x_made" (spXmade K w) := by
  refine cl0 (T.F_x_made) T.g_x_made sc_x_made (fun vs H Q E h => ?_) (fun _ _ _ _ _ _ us hl => match us, hl with | [_, _], _ => rfl) (fun cdv A outer s H vs Q E hr h => ?_)
  · obtain ⟨G, s, l, c, t, n, ss, bs, rfl, _⟩ := h
    rfl
  · obtain ⟨G, s, l, c, t, n, ss, bs, rfl, s0, gs, gl, st, hc, dv, ok, k⟩ := h
    obtain ⟨sl, bl, xs, ht, hsl, hss, hbl, hsd⟩ := id dv
    refine ⟨_, (pss_one (ps_ret (mkPlay (ok_init (K := K) T) T.p_mk T.g_Play hr (by decide) pass0 (pa_cons (pe_ix (ixQ (KK := K)) (pv 1) pe_int (fun _ _ => rfl)) (pa_cons (pe_cl (ok_z_loose (K := K) T 5) hr (by decide) pass0 (pa_cons (pv 0) (pa_cons (pe_ix (ixQ (KK := K)) (pv 1) pe_int (fun _ _ => rfl)) pa_nil))) (pa_cons (pe_cl (ok_z_loose (K := K) T 5) hr (by decide) pass0 (pa_cons (pv 0) (pa_cons (pe_ix (ixQ (KK := K)) (pv 1) pe_int (fun _ _ => rfl)) pa_nil))) pa_nil)))))), ?_⟩
    obtain ⟨z1, z2, z3⟩ := ok.stepsD
    obtain ⟨y1, y2, y3⟩ := nats_dsz bs
    have hq := steps_dq hss hsd fun s m => (ok.wd s m).1
    refine ⟨_, rfl, t, _, 0, .int (n : Nat), rfl, rfl, .inr (s0.tp ht), atI_nat (j := 0) rfl, ?_⟩
    refine ⟨_, rfl, _, rfl, t, _, 1, .ref sl, rfl, rfl, .inr (s0.tp ht), atI_nat (j := 1) rfl, ?_⟩
    refine ⟨G, s, l, c, .ref sl, .sq (ss.map stepD), rfl, s0, gs, gl, st, by omega, .lst hsl hq, z1, z2, fun v1 H1 G1 c1 g1 hv1 st1 hc1 => ?_⟩
    have d1 : Dr H G G1 H1 s l c1 := (Dr.start s0 gs gl st (Nat.le_refl _)).call g1 st1 (Nat.le_refl _)
    refine ⟨_, rfl, _, rfl, t, _, 2, .ref bl, rfl, rfl, .inr (d1.sub.tp (g1.up.tp ht)), atI_nat (j := 2) rfl, ?_⟩
    refine ⟨G1, s, l, c1, .ref bl, .sq (bs.map natD), rfl, d1.sub, d1.gs, d1.gl, st1, by omega, .lst (g1.up.seq hbl) (nats_to bs), y1, Nat.le_trans y3 (Nat.le_trans ok.bfew (by decide)), fun v2 H2 G2 c2 g2 hv2 st2 hc2 => ?_⟩
    have d2 : Dr H G G2 H2 s l c2 := d1.call g2 st2 (Nat.le_refl _)
    refine fun x dx hx hdx hne => ?_
    have d3 := d2.mine (o := .own x) hdx
    have hx3 : upd H2 dx (.own x) x = none := by rw [upd_ne (Ne.symm hne)]; exact hx
    have hxs := d3.not hx3
    have hx0 := d3.free0 hx3
    have gx := d3.sub.free hx3
    have d4 := d3.mine (o := .ins (aPlay K) dx []) hx3
    have hx4 : upd (upd H2 dx (.own x)) x (.ins (aPlay K) dx []) x = some (.ins (aPlay K) dx []) := upd_same
    show spInit K w _ (upd (upd H2 dx (.own x)) x (.ins (aPlay K) dx [])) _ _
    generalize upd (upd H2 dx (.own x)) x (.ins (aPlay K) dx []) = H4 at d4 hx4 ⊢
    refine ⟨G2, x, dx, n, v1, v2, ss, bs, rfl, d4.sub, gx, hx4, Dq.mono g2.up _ _ hv1, hv2, ok.n1, Nat.le_trans ok.n20 (by decide), Nat.le_trans ok.few (by decide), ok.stp ((hsd.same g1.up).same g2.up), ok.apart, ok.bad, Nat.le_trans ok.bfew (by decide), fun H5 G5 Tb rs tl bl2 g5 hx5 htab htof hbl2 hmem hrl => ?_⟩
    obtain ⟨c4, hc4, st4⟩ := d4.st
    have hs4 : s ≠ x := fun e => hxs (.inl e.symm)
    have hl4 : l ≠ x := fun e => hxs (.inr e.symm)
    have st5 : Strm H5 s l c4 := by
      obtain ⟨cs, p, q, a1, a2, a3, a4, a5, a6⟩ := st4.ex
      exact st4.like ((g5.old _ _ a6 hs4).trans a6.symm) ((g5.old _ _ a1 hl4).trans a1.symm)
    have gC : Gr (SM s l) H G G5 H5 := ⟨d4.gr.up.trans g5.up, g5.sub, fun b o e nb => g5.old b o (d4.gr.old b o e nb) (fun e2 => by rw [e2, hx0] at e; cases e), fun b hb e => g5.new b (by
      rcases hb with hb | hb
      · left
        cases q : H b with
        | none => exact absurd q hb
        | some o =>
          by_cases nb : SM s l b
          · rcases nb with rfl | rfl
            · exact st4.s
            · exact st4.l
          · rw [d4.gr.old b o q nb]; exact fun z => nomatch z
      · left
        rcases hb with rfl | rfl
        · exact st4.s
        · exact st4.l) (d4.gr.new b hb e)⟩
    have gx5 : G5 x = none := g5.new x (.inr rfl) gx
    have gD := gC.give hx0 hxs gx5 hx5
    have u := Same.upd_none (o := .ins (aPlay K) dx [("own_table", .ref tl), ("own_bad", .ref bl2)]) gx5
    refine ⟨rfl, k x H5 _ Tb rs c4 gD ⟨dx, tl, bl2, upd_same, htab.same u, u.seq hbl2⟩ htof hmem hrl st5 (by omega)⟩
end
end K8
-- K8Xd
set_option maxRecDepth 100000
set_option maxHeartbeats 1000000
namespace K8
open PySem PySem.Spec PyProof.Rows L2
/-! ### the package's play and the drawn one -/
structure Made (n : Nat) (ss : List Stp) (bs : List Nat) (T : List Trow) (bad : List Nat) : Prop where
  ok : PlayOk n ss bs
  tof : TabOf n ss T
  rs : ∀ row ∈ T, ∀ p ∈ row, srtS p.1.bars p.2
  bmem : ∀ y, y ∈ bad ↔ y ∈ bs
  bl : bad.length ≤ bs.length
theorem PlayIs.rs {K : PySem.W.Frag} {w : World} {G : Hp} {p : Addr} {T : List Trow} {bad : List Nat} (h : PlayIs K w G p T bad) : ∀ row ∈ T, ∀ p ∈ row, srtS p.1.bars p.2 := by
  obtain ⟨dx, tl, bl, _, ⟨as, _, pas⟩, _⟩ := h.ex
  intro row hr p hp
  obtain ⟨i, hi⟩ := List.getElem?_of_mem hr
  obtain ⟨a, ha⟩ : ∃ a, as[i]? = some a := ⟨_, List.getElem?_eq_getElem (by rw [Paired.length pas]; exact (List.getElem?_eq_some_iff.mp hi).1)⟩
  obtain ⟨row', hrow, kvs, ep, wd, rk⟩ := paired_get pas ha
  rw [hi] at hrow
  cases hrow
  obtain ⟨j, hj⟩ := List.getElem?_of_mem hp
  obtain ⟨e, he⟩ : ∃ e, kvs[j]? = some e := ⟨_, List.getElem?_eq_getElem (by rw [Paired.length rk]; exact (List.getElem?_eq_some_iff.mp hj).1)⟩
  obtain ⟨p', hp', _, ks⟩ := paired_get rk he
  rw [hj] at hp'
  cases hp'
  exact ks.rs
section
variable {n : Nat} {ss : List Stp} {bs : List Nat} {T : List Trow} {bad : List Nat}
theorem Made.row (m : Made n ss bs T bad) {row : Trow} (hr : row ∈ T) : ∃ j, j < n ∧ rowAt T j = row ∧ row.map (·.1) = stepsAt ss j := by
  obtain ⟨i, hi⟩ := List.getElem?_of_mem hr
  have hl := (List.getElem?_eq_some_iff.mp hi).1
  rw [m.tof.1] at hl
  have e := rowAt_some hi
  exact ⟨i, hl, e, by rw [← e]; exact m.tof.2 i hl⟩
theorem Made.mem (m : Made n ss bs T bad) {row : Trow} (hr : row ∈ T) {p : Stp × List Str} (hp : p ∈ row) : p.1 ∈ ss := by
  obtain ⟨j, _, _, e⟩ := m.row hr
  have : p.1 ∈ stepsAt ss j := by rw [← e]; exact List.mem_map.mpr ⟨p, hp, rfl⟩
  exact (List.mem_filter.mp this).1
theorem Made.len (m : Made n ss bs T bad) : T.length = n := m.tof.1
theorem Made.at_lt (m : Made n ss bs T bad) {i : Nat} (h : i < n) : ∃ row, T[i]? = some row := ⟨_, List.getElem?_eq_getElem (by rw [m.len]; exact h)⟩
theorem Made.closed (m : Made n ss bs T bad) : Closed T := ⟨by rw [m.len]; exact m.ok.n1, fun row hr p hp => by rw [m.len]; exact m.ok.oth _ (m.mem hr hp)⟩
theorem Made.rowl (m : Made n ss bs T bad) : ∀ row ∈ T, row.length ≤ 10 := fun row hr => by
  obtain ⟨j, _, _, e⟩ := m.row hr
  have := congrArg List.length e
  rw [List.length_map] at this
  rw [this]
  exact m.ok.row j
theorem flat_le2 {α : Type} {k : Nat} : ∀ {l : List (List α)}, (∀ r ∈ l, r.length ≤ k) → l.flatten.length ≤ k * l.length
  | [], _ => Nat.zero_le _
  | r :: t, h => by
    have h1 := h r List.mem_cons_self
    have h2 := flat_le2 (l := t) fun x m => h x (List.mem_cons_of_mem _ m)
    rw [List.flatten_cons, List.length_append, List.length_cons, Nat.mul_succ]
    omega
theorem Made.srt (m : Made n ss bs T bad) : ∀ p ∈ T.flatten, srtS p.1.bars p.2 := fun p hp => by
  obtain ⟨row, hr, hp⟩ := List.mem_flatten.mp hp
  exact m.rs row hr p hp
theorem Made.fit (m : Made n ss bs T bad) {names : List Str} (hn : ∀ x, x ∈ allBars ss → x ∈ names) (h40 : names.length ≤ 40) : Fit T names where
  few := by
    have := flat_le2 m.rowl
    have h1 := m.ok.n20
    rw [m.len] at this
    omega
  sub := fun p hp x hx => by
    obtain ⟨row, hr, hp2⟩ := List.mem_flatten.mp hp
    exact hn x (mem_allBars.mpr ⟨p.1, m.mem hr hp2, ((m.srt p hp).2 x).mp hx⟩)
  nd := fun p hp => (m.srt p hp).1.nodup
  nm := h40
theorem Made.bads (m : Made n ss bs T bad) : (∀ b ∈ bad, b < T.length) ∧ bad.length ≤ 7 := ⟨fun b hb => by rw [m.len]; exact m.ok.bad b ((m.bmem b).mp hb), Nat.le_trans m.bl (Nat.le_trans m.ok.bfew (by decide))⟩
theorem all_same {q : Str → Bool} {a b : List Str} (h : ∀ x, x ∈ a ↔ x ∈ b) : a.all q = b.all q := by
  rw [Bool.eq_iff_iff, List.all_eq_true, List.all_eq_true]
  exact ⟨fun z x m => z x ((h x).mpr m), fun z x m => z x ((h x).mp m)⟩
theorem keep_trip {q : Str → Bool} : ∀ {row : Trow}, (∀ p ∈ row, srtS p.1.bars p.2) → keepRow q (rowE row) = keepRow q ((row.map (·.1)).map trip)
  | [], _ => rfl
  | p :: r, h => by
    have ih := keep_trip (q := q) (row := r) fun x m => h x (List.mem_cons_of_mem _ m)
    have e : p.2.all q = p.1.bars.all q := all_same (h p List.mem_cons_self).2
    have e1 : keepRow q (rowE (p :: r)) = (if p.2.all q = true then [(keyD p.1.wd, p.1.oth)] else []) ++ keepRow q (rowE r) := by
      unfold keepRow rowE
      rw [List.map_cons, List.filter_cons]
      by_cases c : p.2.all q = true
      · rw [if_pos c, if_pos c]; rfl
      · rw [if_neg c, if_neg c]; rfl
    have e2 : keepRow q (((p :: r).map (·.1)).map trip) = (if p.1.bars.all q = true then [(keyD p.1.wd, p.1.oth)] else []) ++ keepRow q ((r.map (·.1)).map trip) := by
      unfold keepRow
      rw [List.map_cons, List.map_cons, List.filter_cons]
      by_cases c : p.1.bars.all q = true
      · rw [if_pos c, if_pos (show (trip p.1).2.2.all q = true from c)]; rfl
      · rw [if_neg c, if_neg (show ¬ (trip p.1).2.2.all q = true from c)]; rfl
    rw [e1, e2, ih, e]
theorem Made.adj (m : Made n ss bs T bad) (q : Str → Bool) : adjQ q T = adjOf q (tblOf n ss) := by
  have e : T = (List.range n).map (rowAt T) := by
    refine List.ext_getElem? fun i => ?_
    rw [List.getElem?_map]
    by_cases c : i < n
    · rw [List.getElem?_range c]
      obtain ⟨row, hi⟩ := m.at_lt c
      rw [hi]
      exact congrArg some (rowAt_some hi).symm
    · rw [List.getElem?_eq_none (show T.length ≤ i by rw [m.len]; omega), List.getElem?_eq_none (show (List.range n).length ≤ i by rw [List.length_range]; omega)]
      rfl
  unfold adjQ adjOf tblOf
  conv => lhs; rw [e]
  rw [List.map_map, List.map_map, List.map_map]
  refine List.map_congr_left fun j hj => ?_
  have hj := List.mem_range.mp hj
  show keepRow q (rowE (rowAt T j)) = keepRow q ((stepsAt ss j).map trip)
  rw [← m.tof.2 j hj]
  refine keep_trip fun p hp => ?_
  obtain ⟨row, hi⟩ := m.at_lt hj
  rw [rowAt_some hi] at hp
  exact m.rs _ (List.mem_of_getElem? hi) p hp
/-- rows that tell the same up to the bars' order -/
def Alike (A B : Rows NestedKey Str) : Prop := ∀ u w v R, (w, v, R) ∈ rowAt A u → ∃ R', (w, v, R') ∈ rowAt B u ∧ ∀ x, x ∈ R ↔ x ∈ R'
theorem Alike.go {A B : Rows NestedKey Str} (h : Alike A B) {ws : List NestedKey} {v : Nat} {R : List Str} (g : Go A ws v R) : ∃ R', Go B ws v R' ∧ ∀ x, x ∈ R ↔ x ∈ R' := by
  induction g with
  | nil => exact ⟨[], .nil, fun _ => Iff.rfl⟩
  | snoc _ m ih =>
    obtain ⟨R1, g1, e1⟩ := ih
    obtain ⟨R2, m2, e2⟩ := h _ _ _ _ m
    refine ⟨R1 ++ R2, .snoc g1 m2, fun x => ?_⟩
    rw [List.mem_append, List.mem_append, e1, e2]
theorem Made.alike (m : Made n ss bs T bad) : Alike (rowsT T) (tblOf n ss) ∧ Alike (tblOf n ss) (rowsT T) := by
  have key : ∀ u, u < n → rowAt (rowsT T) u = rowE (rowAt T u) ∧ rowAt (tblOf n ss) u = ((rowAt T u).map (·.1)).map trip ∧ ∀ p ∈ rowAt T u, srtS p.1.bars p.2 := fun u hu => by
    obtain ⟨row, hi⟩ := m.at_lt hu
    refine ⟨rowAt_map rowE rfl T u, by rw [tbl_row hu, m.tof.2 u hu], fun p hp => ?_⟩
    rw [rowAt_some hi] at hp
    exact m.rs _ (List.mem_of_getElem? hi) p hp
  have no : ∀ u, ¬ u < n → rowAt (rowsT T) u = [] ∧ rowAt (tblOf n ss) u = [] := fun u hu => ⟨rowAt_none (List.getElem?_eq_none (by unfold rowsT; rw [List.length_map, m.len]; omega)), rowAt_none (List.getElem?_eq_none (by rw [tbl_len]; omega))⟩
  constructor
  · intro u w v R h
    by_cases c : u < n
    · obtain ⟨e1, e2, e3⟩ := key u c
      rw [e1] at h
      rw [e2]
      obtain ⟨p, hp, e⟩ := List.mem_map.mp h
      cases e
      exact ⟨p.1.bars, List.mem_map.mpr ⟨p.1, List.mem_map.mpr ⟨p, hp, rfl⟩, rfl⟩, (e3 p hp).2⟩
    · rw [(no u c).1] at h; cases h
  · intro u w v R h
    by_cases c : u < n
    · obtain ⟨e1, e2, e3⟩ := key u c
      rw [e2] at h
      rw [e1]
      obtain ⟨s, hs, e⟩ := List.mem_map.mp h
      obtain ⟨p, hp, rfl⟩ := List.mem_map.mp hs
      cases e
      exact ⟨p.2, List.mem_map.mpr ⟨p, hp, rfl⟩, fun x => ((e3 p hp).2 x).symm⟩
    · rw [(no u c).2] at h; cases h
/-! ### threats: least sets -/
/-- what is known of the threats, over the law's own table -/
structure Lots (n : Nat) (ss : List Stp) (bs : List Nat) (names : List Str) (Ls : List (List Str)) : Prop where
  srt : ∀ L ∈ Ls, Srt strO L ∧ Sub L names
  go : ∀ L ∈ Ls, ∃ ws v R, Go (tblOf n ss) ws v R ∧ v ∈ bs ∧ Sub R L
  cov : ∀ ws v R, Go (tblOf n ss) ws v R → v ∈ bs → ∃ L ∈ Ls, Sub L R
  lst : ∀ L ∈ Ls, ∀ L' ∈ Ls, Sub L' L → L' = L
theorem go_names {ws : List NestedKey} {v : Nat} {R : List Str} (g : Go (tblOf n ss) ws v R) : ∀ x ∈ R, x ∈ allBars ss := by
  induction g with
  | nil => exact fun _ m => nomatch m
  | snoc _ m ih =>
    rename_i ws u B w v R _
    intro x hx
    rcases List.mem_append.mp hx with hx | hx
    · exact ih x hx
    · by_cases c : u < n
      · have hi : (tblOf n ss)[u]? = some (rowAt (tblOf n ss) u) := by
          obtain ⟨row, this⟩ : ∃ row, (tblOf n ss)[u]? = some row := ⟨_, List.getElem?_eq_getElem (by rw [tbl_len]; exact c)⟩
          rw [this, rowAt_some this]
        exact tbl_bars (List.mem_of_getElem? hi) m hx
      · rw [rowAt_none (List.getElem?_eq_none (by rw [tbl_len]; omega))] at m
        cases m
/-- sorted names of a list -/
theorem sorted_of {names R : List Str} (hn : Srt strO names) (h : ∀ x ∈ R, x ∈ names) : ∃ S, Srt strO S ∧ Sub S names ∧ ∀ x, x ∈ S ↔ x ∈ R :=
  ⟨names.filter fun x => decide (x ∈ R), hn.sublist List.filter_sublist, fun x m => (List.mem_filter.mp m).1, fun x => ⟨fun m => of_decide_eq_true (List.mem_filter.mp m).2, fun m => List.mem_filter.mpr ⟨h x m, decide_eq_true m⟩⟩⟩
theorem least_has {l : List (List Str)} (hs : ∀ x ∈ l, Srt strO x) (hp : l.Pairwise (slt strO)) {x : List Str} (m : x ∈ l) : ∃ y ∈ least l, Sub y x := by
  obtain ⟨k, hk⟩ : ∃ k, x.length ≤ k := ⟨_, Nat.le_refl _⟩
  induction k generalizing x with
  | zero =>
    refine ⟨x, (mem_least hs hp).mpr ⟨m, fun y my h => ?_⟩, Sub.refl _⟩
    have : x = [] := List.eq_nil_of_length_eq_zero (by omega)
    subst this
    cases y with
    | nil => rfl
    | cons a r => exact absurd (h a List.mem_cons_self) (fun z => nomatch z)
  | succ k ih =>
    by_cases c : ∀ y ∈ l, Sub y x → y = x
    · exact ⟨x, (mem_least hs hp).mpr ⟨m, c⟩, Sub.refl _⟩
    · have : ∃ y ∈ l, Sub y x ∧ y ≠ x := Classical.byContradiction fun z => c fun y my h => Classical.byContradiction fun e => z ⟨y, my, h, e⟩
      obtain ⟨y, my, h, ne⟩ := this
      have hl := srt_proper (hs y my) (hs x m) h ne
      obtain ⟨z, mz, hz⟩ := ih my (by omega)
      exact ⟨z, mz, hz.trans h⟩
theorem LotsOk.lots {names : List Str} {Ls : List (List Str)} (hn : Srt strO names) (hm : ∀ x, x ∈ names ↔ x ∈ allBars ss) (h : LotsOk n ss bs names Ls) : Lots n ss bs names Ls := by
  obtain ⟨p, rfl, hp⟩ := h
  have hmem : ∀ S, S ∈ (levelsUpTo ltS names names.length).filter p ↔ (Srt strO S ∧ Sub S names) ∧ p S = true := fun S => by
    rw [List.mem_filter, mem_levelsUpTo (O := strO) ltS_iff hn]
  have hs : ∀ x ∈ (levelsUpTo ltS names names.length).filter p, Srt strO x := fun x m => ((hmem x).mp m).1.1
  have hpw : ((levelsUpTo ltS names names.length).filter p).Pairwise (slt strO) := (levelsUpTo_slt (O := strO) ltS_iff hn names.length).1.sublist List.filter_sublist
  generalize (levelsUpTo ltS names names.length).filter p = l at hmem hs hpw
  have hl : ∀ L ∈ least l, L ∈ l := fun L m => ((mem_least hs hpw).mp m).1
  refine ⟨fun L m => ((hmem L).mp (hl L m)).1, fun L m => ?_, fun ws v R g hv => ?_, fun L m L' m' hsub => ((mem_least hs hpw).mp m).2 L' (hl L' m') hsub⟩
  · obtain ⟨⟨_, h2⟩, h3⟩ := (hmem L).mp (hl L m)
    obtain ⟨ws, v, g, hv⟩ := (hp L h2).mp h3
    obtain ⟨B, g, hB⟩ := pth_iff.mp g
    exact ⟨ws, v, B, g, hv, fun x hx => of_decide_eq_true (List.all_eq_true.mp hB x hx)⟩
  · obtain ⟨S, h1, h2, h3⟩ := sorted_of hn (R := R) fun x hx => (hm x).mpr (go_names g x hx)
    have hpS : p S = true := (hp S h2).mpr ⟨ws, v, pth_iff.mpr ⟨R, g, List.all_eq_true.mpr fun x hx => decide_eq_true ((h3 x).mpr hx)⟩, hv⟩
    obtain ⟨y, my, hy⟩ := least_has hs hpw ((hmem S).mpr ⟨⟨h1, h2⟩, hpS⟩)
    exact ⟨y, my, fun x hx => (h3 x).mp (hy x hx)⟩
theorem lots_same {names : List Str} {Ls Ls' : List (List Str)} (m : Made n ss bs T bad) (hn : Srt strO names) (hm : ∀ x, x ∈ names ↔ x ∈ allBars ss) (a : ThrOk (rowsT T) bad names Ls) (b : LotsOk n ss bs names Ls') : Ls = Ls' := by
  obtain ⟨Zs, rfl, z1, z2, z3⟩ := a
  obtain ⟨p, rfl, hp⟩ := b
  have hmem : ∀ S, S ∈ (levelsUpTo ltS names names.length).filter p ↔ (Srt strO S ∧ Sub S names) ∧ p S = true := fun S => by
    rw [List.mem_filter, mem_levelsUpTo (O := strO) ltS_iff hn]
  have hpw : ((levelsUpTo ltS names names.length).filter p).Pairwise (slt strO) := (levelsUpTo_slt (O := strO) ltS_iff hn names.length).1.sublist List.filter_sublist
  refine least_same (O := strO) (fun x mx => (z2 x mx).1) (fun x mx => ((hmem x).mp mx).1.1) z1 hpw (fun x mx => ?_) (fun y my => ?_)
  · obtain ⟨h1, h2, ws, v, R, hv, g, e⟩ := z2 x mx
    obtain ⟨R', g', e'⟩ := m.alike.1.go g
    refine (hmem x).mpr ⟨⟨h1, h2⟩, (hp x h2).mpr ⟨ws, v, pth_iff.mpr ⟨R', g', List.all_eq_true.mpr fun y hy => decide_eq_true ((e y).mpr ((e' y).mpr hy))⟩, (m.bmem v).mp hv⟩⟩
  · obtain ⟨⟨h1, h2⟩, h3⟩ := (hmem y).mp my
    obtain ⟨ws, v, g, hv⟩ := (hp y h2).mp h3
    obtain ⟨B, g, hB⟩ := pth_iff.mp g
    obtain ⟨B', g', e⟩ := m.alike.2.go g
    obtain ⟨S, mS, hS⟩ := z3 ws v B' ((m.bmem v).mpr hv) g'
    exact ⟨S, mS, fun x hx => of_decide_eq_true (List.all_eq_true.mp hB x ((e x).mpr (hS x hx)))⟩
/-- rules keep just if they have one of each threat -/
theorem Lots.keeps {names : List Str} {Ls : List (List Str)} (h : Lots n ss bs names Ls) (f : List Str) : (∀ ws v, Pth (lawAdj n ss f) ws v → v ∉ bs) ↔ ∀ L ∈ Ls, ∃ r ∈ L, r ∈ f := by
  constructor
  · intro k L mL
    obtain ⟨ws, v, R, g, hv, hR⟩ := h.go L mL
    refine Classical.byContradiction fun z => k ws v (pth_iff.mpr ⟨R, g, List.all_eq_true.mpr fun x hx => ?_⟩) hv
    rw [Bool.not_eq_true', decide_eq_false_iff_not]
    exact fun hf => z ⟨x, hR x hx, hf⟩
  · intro k ws v g hv
    obtain ⟨R, g, hR⟩ := pth_iff.mp g
    obtain ⟨L, mL, hL⟩ := h.cov ws v R g hv
    obtain ⟨r, hr, hf⟩ := k L mL
    have := List.all_eq_true.mp hR r (hL r hr)
    rw [Bool.not_eq_true', decide_eq_false_iff_not] at this
    exact this hf
/-- the rules that bar a run within a threat are the threat -/
theorem Lots.exact {names : List Str} {Ls : List (List Str)} (h : Lots n ss bs names Ls) {L : List Str} (mL : L ∈ Ls) {ws : List NestedKey} {v : Nat} {R : List Str} (g : Go (tblOf n ss) ws v R) (hv : v ∈ bs) (hR : Sub R L) : ∀ x, x ∈ L ↔ x ∈ R := by
  obtain ⟨L', m', h'⟩ := h.cov ws v R g hv
  have e := h.lst L mL L' m' (h'.trans hR)
  subst e
  exact fun x => ⟨h' x, hR x⟩
end
end K8
-- K8Rep
set_option maxRecDepth 100000
set_option maxHeartbeats 1000000
namespace K8
open PySem PySem.Spec PyProof.Rows L2
/-! ### repr of data, where no repr is under way -/
def rReprD (K : PySem.W.Frag) : List V → Hp → VK → Prop := fun xs H Q => ∃ a d, xs = [V.ref a] ∧ Dp K H (.ref a) d ∧ d.showable = true ∧ d.hasDict = false ∧ d.depth ≤ 10 ∧ d.shown.length ≤ sizeLine ∧ Q (.str d.shown) H
section
variable {X : Cx} {KK : PySem.W.Frag}
theorem call_reprD (hg : X.A.guards = some []) (hu : X.A.units + 64 < cLine) (hK : X.K = KK := by rfl) : CallR X (.builtin "repr") (rReprD KK) := by
  subst hK
  intro pins s σ H xs us Q I r h
  obtain ⟨a, d, rfl, hd, h1, h2, h3, h4, q⟩ := h
  obtain ⟨u, rfl, rx⟩ := r.one
  obtain ⟨as, rd⟩ := Dp.reads I d _ _ hd rx
  cases rx
  exact repr_of_reads' rd h1 (fun z => by rw [h2] at z; cases z) hg (by omega) (fun _ _ e => e) (fun h' z tk hk => ⟨.str d.shown, H, I.kept hk, ⟨z, rfl⟩, q⟩) h4
end
/-! ### defs that are called where no repr is under way -/
/-- at f: a def that keeps sp when called so -/
def GoG (P : Program) (w : World) (K : PySem.W.Frag) (mg : Str → Option Value) (base : Heap) (k : Nat) (f : Addr) (fd : FuncData) (ps : List Str) (sp : Sp) : Prop :=
  ∀ (C : Around) (out : List Env) (t : Shared) (J : Hp) (ar : Args) (vals : List Value) (xs : List V) (Q : VK) (E : XK), C.guards = some [] → Room k C → Env0 P w K mg base C out t J → BindsTo t fd ar (ps.zip vals) → Vals xs vals → sp xs J Q E →
    codeAny (model P w) C (.call (.ref f) ar) (CR CX0 out P w J t Q E) t
structure ClG (P : Program) (w : World) (K : PySem.W.Frag) (mg : Str → Option Value) (base : Heap) (k : Nat) (x : Str) (sp : Sp) : Prop where
  ex : ∃ (f : Addr) (fd : FuncData) (ps : List Str), (∀ xs J Q E, sp xs J Q E → xs.length = ps.length) ∧ GoG P w K mg base k f fd ps sp ∧ mg x = some (.ref f) ∧ PySem.W.keepIn K (.ref f) = true ∧ Binds K fd ps []
section
variable {P : Program} {w : World} {K : PySem.W.Frag} {mg : Str → Option Value} {base : Heap} {x : Str} {st : Stmt} {N ps : List Str} {k : Nat} {sp : Sp}
/-- such a def by its body -/
theorem goG {qual : Str} {params : Arguments} {body : List Stmt} {sc : Scope} {at0 : Str × Option Str} {fd : FuncData} (F : FunD K x qual params body sc [] [] (He.fAd K at0) fd) (S : FnScope N ps sc) (len : ∀ xs J Q E, sp xs J Q E → xs.length = ps.length)
    (hbody : ∀ (cv : Value) (C : Around) (out : List Env) (t : Shared) (J : Hp) (xs : List V) (Q : VK) (E : XK), C.guards = some [] → cv = .ref (He.codeOf K at0) → Room k (C.deeper (envOfC qual sc t.heap.objs.size (He.fAd K at0) cv)) → sp xs J Q E →
      ∃ r, PSs (cxOf CX0 P w K mg base N qual sc (He.fAd K at0) cv C out t J E).nox body r ∧ r { nx := fun _ J' => Q .non J', rt := Q } (start N xs) J) : GoG P w K mg base (k + 1) (He.fAd K at0) fd ps sp := by
  obtain ⟨_, _, _, _, _, _, _, cv, _, _, rfl, at_, cd, _, _⟩ := F.ex
  have named : cv = .ref (He.codeOf K at0) := by
    obtain ⟨c, rfl⟩ := He.codeIn_ref cd
    rw [He.codeOf_eq at_ rfl]
  intro C out t J ar vals xs Q E gd room env bd rel sat
  have stands : K.In t.heap := env.mod.kin.keeps fun c ob e => (env.bs c ob e).1
  have size := len _ _ _ _ sat
  have kinds : ∀ y ∈ ps.zip vals, sc.names.lookup y.1 = some .local ∨ (sc.names.lookup y.1 = some .cell ∧ ((cellsFrom (t.heap.objs.size + 1) sc.names []).lookup y.1).isSome = true) := by
    rintro ⟨nm, vl⟩ my
    exact (S.par nm (List.of_mem_zip my).1).imp id fun q => ⟨q, PySem.W.cellsFrom_some _ _ _ (.inl q)⟩
  refine codeAny_call_function room.depth (stands _ _ at_) rfl S.co S.gen rfl (PySem.W.codeRec_of stands cd) (bd _ _ _ _ (wpAny_newFunctionEnv_cells S.kind kinds ?_))
  rintro _ rfl t1 into
  refine ⟨(env.mod.nolimit.keeps fun c ob e => (env.bs c ob e).1).keeps into.toInCall.keep, codeAny_func ?_⟩
  obtain ⟨r, hr, sat2⟩ := hbody cv C out t J xs Q E gd named (room.deeper _) sat
  refine wpAny_mono (hr.nox.run [] t1 (start N xs) J _ (inv_start S room.hd env size rel into) sat2) ?_ (fun _ _ z => z)
  rintro (_ | _ | _ | u) t2 z
  all_goals first
    | exact (let ⟨σ2, J2, I2, q2⟩ := z; ⟨V.non, J2, I2.os, I2.bare, I2.base, I2.hok, rfl, q2⟩)
    | exact (let ⟨v2, σ2, J2, I2, r2, q2⟩ := z; ⟨v2, J2, I2.os, I2.bare, I2.base, I2.hok, r2, q2⟩)
    | exact (let ⟨_, _, _, q2⟩ := z; q2.elim)
theorem cl0G (F : ∃ fd, FunD K (dG x st).name (dG x st).qual (dG x st).params (dG x st).body (dG x st).scope [] [] (He.fAd K (dG x st).at_) fd) (g : mg x = some (.ref (He.ga K x))) (S : FnScope N ps (defScope st)) (len : ∀ vs H Q E, sp vs H Q E → vs.length = ps.length)
    (hb : ∀ (kV doc pm : Value) (an : Option Addr) (cdv ct : Value) (us : List Value), us.length = ps.length → bindArgs (PySem.W.fnOf x x (defArgs st) (defBody st) (defScope st) .none kV doc pm an cdv ct) ⟨us, []⟩ = pure (ps.zip us))
    (hbody : ∀ (cdv : Value) (A : Around) (outer : List Env) (s : Shared) (H : Hp) (vs : List V) (Q : VK) (E : XK), A.guards = some [] → Room k (A.deeper (envOfC x (defScope st) s.heap.objs.size (He.ga K x) cdv)) → sp vs H Q E →
      ∃ t, PSs (cxOf CX0 P w K mg base N x (defScope st) (He.ga K x) cdv A outer s H E).nox (defBody st) t ∧ t { nx := fun _ H' => Q .non H', rt := Q } (start N vs) H) : ClG P w K mg base (k + 1) x sp := by
  obtain ⟨fd, F⟩ := F
  exact ⟨He.ga K x, fd, ps, len, goG F S len (fun cdv A outer s H vs Q E gd _ => hbody cdv A outer s H vs Q E gd), g, F.kp, F.bindsN hb⟩
/-- .. its code object told -/
theorem cl0C (F : ∃ fd, FunD K (dG x st).name (dG x st).qual (dG x st).params (dG x st).body (dG x st).scope [] [] (He.fAd K (dG x st).at_) fd) (g : mg x = some (.ref (He.ga K x))) (S : FnScope N ps (defScope st)) (len : ∀ vs H Q E, sp vs H Q E → vs.length = ps.length)
    (hb : ∀ (kV doc pm : Value) (an : Option Addr) (cdv ct : Value) (us : List Value), us.length = ps.length → bindArgs (PySem.W.fnOf x x (defArgs st) (defBody st) (defScope st) .none kV doc pm an cdv ct) ⟨us, []⟩ = pure (ps.zip us))
    (hbody : ∀ (cdv : Value) (A : Around) (outer : List Env) (s : Shared) (H : Hp) (vs : List V) (Q : VK) (E : XK), A.guards = some [] → cdv = .ref (He.codeOf K (x, none)) → Room k (A.deeper (envOfC x (defScope st) s.heap.objs.size (He.ga K x) cdv)) → sp vs H Q E →
      ∃ t, PSs (cxOf CX0 P w K mg base N x (defScope st) (He.ga K x) cdv A outer s H E).nox (defBody st) t ∧ t { nx := fun _ H' => Q .non H', rt := Q } (start N vs) H) : ClG P w K mg base (k + 1) x sp := by
  obtain ⟨fd, F⟩ := F
  exact ⟨He.ga K x, fd, ps, len, goG F S len hbody, g, F.kp, F.bindsN hb⟩
end
section
variable {X : Cx} {k j : Nat} {x : Str} {sp : Sp} {p pos : Pos} {e : Expr} {es : List Expr} {t : TA}
/-- the call of such a def -/
theorem pe_clG (c : ClG X.prog X.w X.K X.mg X.base k x sp) (gd : X.A.guards = some []) (hr : Room j X.A) (hk : k ≤ j) (ha : PA X (e :: es) t) (hg : Gl X x := by rfl)
    (hdb : (x == ("__debug__" : Str)) = false := by decide) (he : starEach (e :: es) X.env = (false, eval e X.env) :: starEach es X.env := by rfl) (hpl : (backTo pos (starEach es X.env)).any (·.1) = false := by rfl) :
    PE X (.Call (.Name x p) (e :: es) [] pos) (tCall sp [] E0 t) := by
  obtain ⟨f, fd, ps, len, run, m, kp, bd⟩ := c.ex
  refine ⟨fun pins s σ H Q I sat => wpAny_Call_Name_kw (ld_glob I hg m (PySem.W.callWith_K (h₀ := X.base) I.ok.mod.kin kp (thn (ha.run pos pins s σ H _ I sat) ?_) he hpl) hdb)⟩
  rintro us s1 ⟨vs, H1, I1, rel, sat1⟩
  have sat1 : sp (vs ++ []) H1 Q E0 := sat1
  rw [List.append_nil] at sat1
  have nn : us.length = ps.length := by rw [← rel.length]; exact len _ _ _ _ sat1
  have bt := bd s1 us I1.kIn (by rw [List.append_nil]; exact nn)
  rw [List.append_nil] at bt
  refine ⟨I1.kIn, wpAny_call (codeAny_mono (run X.A X.stack s1 H1 ⟨us, []⟩ us vs Q E0 gd (hr.mono hk) I1.env0 bt rel sat1) ?_)⟩
  rintro (er | _ | _ | _ | u) s2 z
  all_goals first
    | exact I1.after z
    | exact False.elim z
end
end K8
-- K8Xe0
set_option maxRecDepth 100000
set_option maxHeartbeats 1000000
namespace K8
open PySem PySem.Spec PyProof.Rows L2
theorem chk_ok : ∀ (rs : List Str) (i : Nat) (f : List Str), (∀ r ∈ rs, nameB r = true) → (f ++ rs).Nodup → chkR i f (rs.map strD) = .ok (f ++ rs)
  | [], i, f, _, _ => by rw [List.append_nil]; rfl
  | r :: t, i, f, h, hn => by
    have h1 := h r List.mem_cons_self
    have h2 : r ∉ f := fun m => (List.nodup_append.mp hn).2.2 r m r List.mem_cons_self rfl
    have e : f ++ r :: t = (f ++ [r]) ++ t := by rw [List.append_assoc]; rfl
    have ih := chk_ok t (i + 1) (f ++ [r]) (fun x m => h x (List.mem_cons_of_mem _ m)) (by rw [← e]; exact hn)
    show (if nameB r && !decide (r ∈ f) then chkR (i + 1) (f ++ [r]) (t.map strD) else .error i) = _
    rw [h1, decide_eq_false h2, if_pos (by rfl), ih, e]
theorem rules_ok {rs : List Str} (h : ∀ r ∈ rs, nameB r = true) (hn : rs.Nodup) : rulesOut (.sq (rs.map strD)) = .ok rs := by
  have := chk_ok rs 0 [] h (by rw [List.nil_append]; exact hn)
  rw [List.nil_append] at this
  exact this
section
variable {W : Type}
theorem bgo_short {adj : Adj W} : ∀ n, ∀ (i : Nat) e, (bgo adj n).1[i]? = some e → e.2.length ≤ i
  | 0, i, e, h => by
    cases i with
    | zero => cases h; exact Nat.le_refl _
    | succ j => cases h
  | n + 1, i, e, h => by
    have ih := bgo_short (adj := adj) n
    have h : (bst adj (bgo adj n)).1[i]? = some e := h
    generalize bgo adj n = st at ih h
    obtain ⟨f, p, j⟩ := st
    have ih : ∀ (i : Nat) e, f[i]? = some e → e.2.length ≤ i := ih
    unfold bst at h
    cases hp : f[p]? with
    | none => simp only [hp] at h; exact ih i e h
    | some ur =>
      obtain ⟨u, r⟩ := ur
      simp only [hp] at h
      cases hj : (rowAt adj u)[j]? with
      | none => simp only [hj] at h; exact ih i e h
      | some wv =>
        obtain ⟨w, v⟩ := wv
        simp only [hj] at h
        by_cases c : v ∈ f.map (·.1)
        · rw [if_pos c] at h; exact ih i e h
        · rw [if_neg c] at h
          rcases Nat.lt_or_ge i f.length with q | q
          · rw [List.getElem?_append_left q] at h; exact ih i e h
          · rw [List.getElem?_append_right q] at h
            cases hk : i - f.length with
            | zero =>
              rw [hk] at h
              cases h
              have h1 := ih p _ hp
              have h2 := (List.getElem?_eq_some_iff.mp hp).1
              show (r ++ [w]).length ≤ i
              rw [List.length_append]
              show r.length + 1 ≤ i
              have h1 : r.length ≤ p := h1
              omega
            | succ m => rw [hk] at h; cases h
theorem Bfs.short {adj : Adj W} {found : List (Nat × List W)} {p j n : Nat} (b : Bfs adj found p j) (hn : ∀ ws v, Pth adj ws v → v < n) {bad : List Nat} {r : List W} {rs : List (List W)} (h : badRuns bad found = r :: rs) : r.length ≤ n := by
  have hm : r ∈ badRuns bad found := by rw [h]; exact List.mem_cons_self
  obtain ⟨e, he, rfl⟩ := List.mem_map.mp hm
  have he := (List.mem_filter.mp he).1
  obtain ⟨i, hi⟩ := List.getElem?_of_mem he
  obtain ⟨m, hm⟩ := b.det
  have h1 := bgo_short (adj := adj) m i e (by rw [hm]; exact hi)
  have h2 := (List.getElem?_eq_some_iff.mp hi).1
  have h3 := nodup_lt b.nd (n := n) fun v mv => by
    obtain ⟨x, hx, rfl⟩ := List.mem_map.mp mv
    exact hn _ _ (b.pth x hx)
  rw [List.length_map] at h3
  omega
end
section
variable {n : Nat} {ss : List Stp} {bs : List Nat}
theorem pth_lt (ok : PlayOk n ss bs) {q : Str → Bool} {ks : List NestedKey} {v : Nat} (g : Pth (adjOf q (tblOf n ss)) ks v) : v < n := by
  obtain ⟨B, g, _⟩ := pth_iff.mp g
  exact go_lt ok g
theorem pth_okk (ok : PlayOk n ss bs) {q : Str → Bool} {ks : List NestedKey} {v : Nat} (g : Pth (adjOf q (tblOf n ss)) ks v) : ∀ k ∈ ks, okK k := by
  induction g with
  | nil => exact fun _ m => nomatch m
  | snoc _ m ih =>
    intro k hk
    rcases List.mem_append.mp hk with hk | hk
    · exact ih k hk
    · rw [List.mem_singleton.mp hk]
      rw [rowAt_adjOf] at m
      obtain ⟨R, m, _⟩ := mem_keepRow.mp m
      exact ok.okk m
theorem shown_ks : ∀ {ks : List NestedKey}, (∀ k ∈ ks, okK k) → PyData.showableAll (ks.map NestedKey.data) = true ∧ PyData.hasDictAll (ks.map NestedKey.data) = false ∧ PyData.depthAll (ks.map NestedKey.data) ≤ 8 ∧ ((PyData.shownAll (ks.map NestedKey.data)).map (·.length)).sum ≤ 100 * ks.length ∧ (PyData.shownAll (ks.map NestedKey.data)).length = ks.length
  | [], _ => ⟨rfl, rfl, Nat.zero_le _, Nat.zero_le _, rfl⟩
  | k :: r, h => by
    obtain ⟨h1, h2, h3, h4, h5⟩ := shown_ks (ks := r) fun x m => h x (List.mem_cons_of_mem _ m)
    obtain ⟨_, _, k1, k2, k3, k4⟩ := h k List.mem_cons_self
    refine ⟨?_, ?_, ?_, ?_, ?_⟩
    · show (PyData.showable k.data && PyData.showableAll (r.map NestedKey.data)) = true
      rw [k1, h1]; rfl
    · show (PyData.hasDict k.data || PyData.hasDictAll (r.map NestedKey.data)) = false
      rw [k3, h2]; rfl
    · show max k.data.depth (PyData.depthAll (r.map NestedKey.data)) ≤ 8
      omega
    · show k.data.shown.length + ((PyData.shownAll (r.map NestedKey.data)).map (·.length)).sum ≤ 100 * (r.length + 1)
      omega
    · show (PyData.shownAll (r.map NestedKey.data)).length + 1 = r.length + 1
      omega
theorem show_ok {ks : List NestedKey} (h : ∀ k ∈ ks, okK k) (hl : ks.length ≤ 100) : (PyData.list (ks.map NestedKey.data)).showable = true ∧ (PyData.list (ks.map NestedKey.data)).hasDict = false ∧ (PyData.list (ks.map NestedKey.data)).depth ≤ 10 ∧ (PyData.list (ks.map NestedKey.data)).shown.length ≤ sizeLine := by
  obtain ⟨h1, h2, h3, h4, h5⟩ := shown_ks h
  refine ⟨h1, h2, ?_, ?_⟩
  · show PyData.depthAll (ks.map NestedKey.data) + 1 ≤ 10
    omega
  · have := listText_len_le (PyData.shownAll (ks.map NestedKey.data))
    show (listText (PyData.shownAll (ks.map NestedKey.data))).length ≤ sizeLine
    have e : (20000 : Nat) ≤ sizeLine := by decide
    omega
end
end K8
-- K8Xe
set_option maxRecDepth 100000
set_option maxHeartbeats 1000000
namespace K8
open PySem PySem.Spec PyProof.Rows L2
def spTRR (K : PySem.W.Frag) (w : World) : Sp := fun vs H Q _ => ∃ (G : Hp) (s l : Addr) (c : Nat) (t pl ra : Addr) (n : Nat) (ss : List Stp) (bs : List Nat) (T : List Trow) (bad : List Nat) (rs : List Str), vs = [.ref s, .ref t, .ref pl, .ref ra] ∧ Same G H ∧ G s = none ∧ G l = none ∧ Strm H s l c ∧ c + 10 < 1099511627776 ∧ DrawnV K G t n ss bs ∧ PlayIs K w G pl T bad ∧ Made n ss bs T bad ∧ SqL K G ra (rs.map V.str) ∧ rs.Nodup ∧ (∀ r ∈ rs, nameB r = true) ∧ rs.length ≤ 7 ∧
  ∀ H' G' c', Gr (SM s l) H G G' H' → Strm H' s l c' → c' ≤ c + 1 → Q (.bl true) H'
theorem sc_z_threat_run_right : FnScope ["_law_stream", "_law_drawn", "_law_play", "_law_rules", "_law_told", "_law_due", "_law_held"] ["_law_stream", "_law_drawn", "_law_play", "_law_rules"] (defScope s_z_threat_run_right) := ⟨rfl, rfl, rfl, by decide +kernel, rfl, by decide +kernel, by decide +kernel⟩
theorem names_short {rs : List Str} (h : ∀ r ∈ rs, nameB r = true) (hl : rs.length ≤ 1000) : shortD (.sq (rs.map strD)) := by
  refine ⟨by rw [List.length_map]; exact hl, fun s m => ?_⟩
  obtain ⟨r, hr, e⟩ := List.mem_map.mp m
  cases e
  have h1 := h _ hr
  unfold nameB at h1
  rw [Bool.and_eq_true, Bool.and_eq_true] at h1
  have h2 := of_decide_eq_true h1.2.1
  omega
theorem strs_d2 {rs : List Str} (hl : rs.length ≤ 1000) : dep (.sq (rs.map strD)) < 2 ∧ wide (.sq (rs.map strD)) ≤ 1000 ∧ sz (.sq (rs.map strD)) ≤ 1 := by
  have e1 := strs_dep rs
  have e2 := strs_wide rs
  have e3 := strs_sz rs
  refine ⟨by show depL (rs.map strD) + 1 < 2; omega, Nat.max_le.mpr ⟨by rw [List.length_map]; exact hl, by omega⟩, by show szL (rs.map strD) + 1 ≤ 1; omega⟩
section
variable {P : Program} {w : World} {K : PySem.W.Frag} {mg : Str → Option Value} {base : Heap}
theorem ok_z_threat_run_right (T : Txt K mg) : ClG P w K mg base 5 "_law_threat_run_right" (spTRR K w) := by
  refine cl0G (T.F_z_threat_run_right) T.g_z_threat_run_right sc_z_threat_run_right (fun vs H Q E h => ?_) (fun _ _ _ _ _ _ us hl => match us, hl with | [_, _, _, _], _ => rfl) (fun cdv A outer s H vs Q E gd hr h => ?_)
  · obtain ⟨G, s, l, c, t, pl, ra, n, ss, bs, Tb, bad, rs, rfl, _⟩ := h
    rfl
  · obtain ⟨G, s, l, c, t, pl, ra, n, ss, bs, Tb, bad, rs, rfl, s0, gs, gl, st, hc, dv, play, made, hra, hnd, hnm, hr7, k⟩ := h
    refine ⟨_, (pss_cons (ps_par (i := 4) (j := 5) (by rfl) sc_z_threat_run_right.nd rfl rfl (by decide) rfl rfl (pa_cons (pe_cl (ok_threat_run (K := K) (w := w) T) hr (by decide) passE0 (pa_cons (pv 2) (pa_cons (pe_cl (ok_z_loose (K := K) T 2) hr (by decide) pass0 (pa_cons (pv 0) (pa_cons (pv 3) pa_nil))) pa_nil))) (pa_cons (pe_cl (ok_z_shortest (K := K) T) hr (by decide) pass0 (pa_cons (pv 1) (pa_cons (pv 3) pa_nil))) pa_nil)) (by rfl))
      (pss_cons (ps_if (PW.pt (pw_or (pt_cmpR op_isN (pv 4) pe_non (nomark _)) (pw_or1 (pt_cmpR op_isN (pv 5) pe_non (nomark _)))))
        (pss_one (ps_ret (pe_and (pe_cmpR op_isN (pv 4) pe_non (nomark _)) (pe_one (pe_cmpR op_isN (pv 5) pe_non (nomark _))))))
        pss_nil)
      (pss_cons (ps_if (PW.pt (pw_or (pt_not (pt_val (pe_callB call_isi (by rfl) T.f_isinstance (by decide +kernel) (pa_cons (pv 4) (pa_cons (pe_bltn (v := .ty "list") (u := .type "list") (by rfl) T.f_list (by decide +kernel) rfl) pa_nil))))) (pw_or1 (pt_cmpR op_ne (pe_callB (lenQ (KK := K)) (by rfl) T.f_len (by decide +kernel) (pa_cons (pv 4) pa_nil)) (pv 5) (nomark _)))))
        (pss_one (ps_ret pe_bl))
        pss_nil)
      (pss_cons (ps_if (pt_cmpR (notInX (KK := K) (u1 hr)) (pe_cl (ok_z_walk (K := K) T) hr (by decide) pass0 (pa_cons (pe_cl (ok_z_table (K := K) T) hr (by decide) pass0 (pa_cons (pe_ix (ixQ (KK := K)) (pv 1) pe_int (fun _ _ => rfl)) (pa_cons (pe_ix (ixQ (KK := K)) (pv 1) pe_int (fun _ _ => rfl)) pa_nil))) (pa_cons (pe_lst pa_nil) (pa_cons (pv 4) pa_nil)))) (pe_ix (ixQ (KK := K)) (pv 1) pe_int (fun _ _ => rfl)) (by rfl))
        (pss_one (ps_ret pe_bl))
        pss_nil)
      (pss_cons (ps_if (pt_not (pt_val (pe_cl (ok_x_in (K := K) T) hr (by decide) pass0 (pa_cons (pe_cl (ok_x_bars (K := K) T) hr (by decide) pass0 (pa_cons (pv 1) (pa_cons (pv 4) pa_nil))) (pa_cons (pv 3) pa_nil)))))
        (pss_one (ps_ret pe_bl))
        pss_nil)
      (pss_cons (ps_set (i := 6) sc_z_threat_run_right.nd rfl (by first | exact Or.inl rfl | exact Or.inr rfl) (pe_callB (call_reprD (KK := K) gd (u64 hr)) (by rfl) T.f_repr (by decide +kernel) (pa_cons (pv 4) pa_nil)))
      (pss_cons (ps_expr (pe_bm PySem.F.plainAttrs_list PySem.F.slot_list_append PySem.F.type_list_append mt_append (pv 4) (pa_cons pe_str pa_nil)))
      (pss_one (ps_ret (pe_cmpR op_eq (pe_callB (call_reprD (KK := K) gd (u64 hr)) (by rfl) T.f_repr (by decide +kernel) (pa_cons (pe_cl (ok_threat_run (K := K) (w := w) T) hr (by decide) passE0 (pa_cons (pv 2) (pa_cons (pe_callTy (tupQ (KK := K)) (by rfl) T.f_tuple (by decide +kernel) (pa_cons (pv 3) pa_nil)) pa_nil))) pa_nil)) (pv 6) (nomark _))))))))))), ?_⟩
    have ok := made.ok
    have hro := rules_ok hnm hnd
    have hsh := names_short hnm (by omega)
    obtain ⟨z1, z2, z3⟩ := strs_d2 (rs := rs) (by omega)
    have hfit : Fit Tb base6 := made.fit (fun x m => by
      obtain ⟨q, hq, hx⟩ := mem_allBars.mp m
      exact (ok.bars q hq).2 x hx) (by decide)
    have hTl : Tb.length ≤ 1000 := by rw [made.len]; exact Nat.le_trans ok.n20 (by decide)
    have hadj := made.adj fun r => decide (r ∈ rs)
    refine ⟨_, rfl, _, rfl, _, rfl, G, s, l, c, .ref ra, .sq (rs.map strD), rfl, s0, gs, gl, st, by omega, .lst hra (dq_strs rs), z1, z2, fun v1 H1 G1 c1 g1 hv1 st1 hc1 => ?_⟩
    have d1 : Dr H G G1 H1 s l (c + 1) := (Dr.start s0 gs gl st (Nat.le_refl _)).call g1 st1 (by omega)
    have play1 := play.same g1.up
    refine ⟨G1, pl, v1, .sq (rs.map strD), Tb, bad, base6, rfl, d1.sub, play1, hv1, hsh, hfit, hTl, made.closed, fun f hf found hB => ?_, fun i hi => ?_⟩
    · rw [hro] at hf
      cases hf
      rw [hadj] at hB
      have hlt : ∀ ws v, Pth (adjOf (fun r => decide (r ∈ rs)) (tblOf n ss)) ws v → v < n := fun ws v g => pth_lt ok g
      refine ⟨fun e H2 s2 => ?_, fun r rs' e told xs H2 G2 g2 hn1 hg1 hT2 hxs => ?_⟩
      · have d2 : Dr H G G1 H2 s l (c + 1) := d1.calm (Gr.of d1.sub s2)
        have hno : ∀ ws v, Pth (runAdj n ss rs) ws v → v ∉ bs := fun ws v g m => hB.badRuns_nil (Nat.le_refl _) e g ((made.bmem v).mpr m)
        refine ⟨_, rfl, _, rfl, G1, t, ra, n, ss, bs, rs, rfl, d2.sub, dv.same g1.up, ok, .inl (g1.up.seq hra), fun H3 s3 _ => ?_, fun kk H3 s3 hex _ => ?_⟩
        · have d3 := d2.calm (Gr.of d2.sub s3)
          obtain ⟨c3, hc3, st3⟩ := d3.st
          refine ⟨_, _, rfl, ?_⟩
          simp only [L2.wipe, L2.start, List.map_cons, List.map_nil, List.set_cons_zero, List.set_cons_succ, List.length_cons, List.length_nil, List.cons_append, List.nil_append, Nat.reduceAdd, Nat.reduceSub, List.replicate]
          try dsimp (config := { proj := false }) only [tNext, tRet, tOp, tSeq, gName, tAsg]
          refine ⟨_, rfl, rfl, _, rfl, ite_y (decide_eq_true rfl) (ite_y rfl ?_)⟩
          refine ⟨_, rfl, rfl, _, rfl, ite_y (decide_eq_true rfl) ⟨_, rfl, rfl, ?_⟩⟩
          have e0 : decide (V.non = V.non) = true := decide_eq_true rfl
          rw [e0]
          exact k H3 G1 c3 d3.gr st3 hc3
        · obtain ⟨ws, v, g, hv, _⟩ := hex
          exact absurd hv (hno ws v g)
      · obtain ⟨⟨v, hv, gp⟩, hmin⟩ := hB.badRuns_cons (Nat.le_refl _) e
        have hvb := (made.bmem v).mp hv
        have hrl : r.length ≤ 20 := Nat.le_trans (hB.short hlt e) ok.n20
        have hxl : xs.length = r.length := by rw [dpA_length hxs, List.length_map]
        have hokk := pth_okk ok gp
        obtain ⟨y1, y2, y3, y4⟩ := show_ok hokk (by omega)
        obtain ⟨B, hgo, hBall⟩ := pth_iff.mp gp
        have dF : DrF H G G2 H2 s l (c + 1) told xs := ⟨d1.calm g2, hT2, hg1, d1.free0 hn1, d1.not hn1⟩
        have u2 := g1.up.trans g2.up
        have dv2 := dv.same u2
        have hra2 := u2.seq hra
        have play2 := play.same u2
        clear hn1 hg1 hT2
        refine ⟨_, rfl, _, rfl, G2, t, ra, n, ss, bs, rs, rfl, dF.sub, dv2, ok, .inl hra2, fun H3 s3 hno => absurd hvb (hno r v gp), fun kk H3 s3 hex hmin2 => ?_⟩
        have hkk : kk = r.length := by
          obtain ⟨ws, v', g', hv', e'⟩ := hex
          have h1 := hmin2 r v gp hvb
          have h2 := hmin ws v' g' ((made.bmem v').mpr hv')
          omega
        have dF3 := dF.calm (Gr.of dF.sub s3)
        obtain ⟨sl, bl, sv, ht, hsl, hss, hbl, hsd⟩ := id dv2
        refine ⟨_, _, rfl, ?_⟩
        simp only [L2.wipe, L2.start, List.map_cons, List.map_nil, List.set_cons_zero, List.set_cons_succ, List.length_cons, List.length_nil, List.cons_append, List.nil_append, Nat.reduceAdd, Nat.reduceSub, List.replicate]
        try dsimp (config := { proj := false }) only [tNext, tRet, tOp, tSeq, gName, tAsg]
        refine ⟨_, rfl, rfl, _, rfl, ite_n (decide_eq_false (fun z => nomatch z)) ⟨_, rfl, rfl, _, rfl, ite_n (decide_eq_false (fun z => nomatch z)) ?_⟩⟩
        refine ⟨_, rfl, ?_⟩
        try dsimp (config := { proj := false }) only [tCons, tC, tNil, tCall, List.cons_append, List.nil_append]
        refine isi1 (K := K) (tyx_l (SqL.of dF3.f)) (by decide +kernel : kitB "list" "list" = some true) ⟨_, rfl, ite_n rfl ?_⟩
        refine ⟨_, rfl, told, xs, rfl, .inl (SqL.of dF3.f), _, rfl, rfl, _, rfl, ite_n ?_ ?_⟩
        · rw [hxl, hkk, decide_eq_true rfl]; rfl
        refine ⟨_, rfl, t, _, 0, .int (n : Nat), rfl, rfl, .inr (dF3.sub.tp ht), atI_nat (j := 0) rfl, ?_⟩
        refine ⟨_, rfl, t, _, 1, .ref sl, rfl, rfl, .inr (dF3.sub.tp ht), atI_nat (j := 1) rfl, ?_⟩
        refine ⟨G2, n, sl, sv, ss, rfl, dF3.sub, hsl, hss, Nat.le_trans ok.n20 (by decide), Nat.le_trans ok.few (by decide), fun tb H4 G4 g4 htb => ?_⟩
        have dF4 := dF3.calm g4
        refine ⟨by show 0 ≤ sizeLine; decide, fun em hem => ?_⟩
        have dF5 := dF4.newG (o := .lst []) hem
        have u5 : Same G4 (upd G4 em (.lst [])) := Same.upd_none (dF4.sub.free hem)
        have hem5 : SqL K (upd G4 em (.lst [])) em (([] : List Str).map V.str) := SqL.of upd_same
        generalize upd G4 em (.lst []) = G5 at dF5 u5 hem5
        have u6 : Same G5 (upd G5 told (.lst xs)) := Same.upd_none dF5.g
        have u26 := (g4.up.trans u5).trans u6
        refine ⟨_, rfl, upd G5 told (.lst xs), tb, em, told, tblOf n ss, [], xs, r, v, rfl, dF5.give.sub, (htb.same u5).same u6, .inl (u6.seq hem5), SqL.of upd_same, dpA_mono u26 hxs, ok.shut, ok.det, (fun u e me => ok.okk me), pth_iff.mpr ⟨B, hgo, List.all_eq_true.mpr fun x _ => by simp⟩, fun H6 s6 => ?_⟩
        have dF6 := dF5.calm (Gr.of dF5.sub s6)
        have u25 := g4.up.trans u5
        refine ⟨_, rfl, t, _, 2, .ref bl, rfl, rfl, .inr (dF6.sub.tp (u25.tp ht)), atI_nat (j := 2) rfl, ?_⟩
        refine ⟨bl, decide (v ∈ bs), rfl, .inl ⟨bs.map natV, .inl (dF6.sub.seq (u25.seq hbl)), rfl, flat_nats bs, inV_nat.symm⟩, _, rfl, ite_n ?_ ?_⟩
        · rw [decide_eq_true hvb]; rfl
        refine ⟨_, rfl, _, rfl, upd G5 told (.lst xs), t, told, n, ss, bs, xs, r, v, B, rfl, dF6.give.sub, dv2.same u26, ok, SqL.of upd_same, dpA_mono u26 hxs, hgo, fun F7 H7 G7 zs g7 hF7 hzs hzm => ?_⟩
        have dF7 := dF6.calm (Gr.of dF6.sub g7.same)
        have hB6 : Sub B base6 := go_sub ok hgo
        have hz6 := take_len_base hzs.nodup (fun x m => hB6 x ((hzm x).mp m))
        refine ⟨_, rfl, F7, ra, zs, rs, rfl, .inl (g7.sub.seq hF7), by omega, .inl (dF7.sub.seq (u25.seq hra2)), fun H8 s8 => ⟨_, rfl, ite_n ?_ ?_⟩⟩
        · have e1 : part zs rs = true := part_iff.mpr fun x m => of_decide_eq_true (List.all_eq_true.mp hBall x ((hzm x).mp m))
          rw [e1]; rfl
        have dF8 := dF7.calm (Gr.of dF7.sub s8)
        simp only [L2.wipe, L2.start, List.map_cons, List.map_nil, List.set_cons_zero, List.set_cons_succ, List.length_cons, List.length_nil, List.cons_append, List.nil_append, Nat.reduceAdd, Nat.reduceSub, List.replicate]
        try dsimp (config := { proj := false }) only [tNext, tRet, tOp, tSeq, gName, tAsg]
        refine ⟨_, rfl, told, _, rfl, .lst (SqL.of dF8.f) (dpA_mono (u25.trans dF8.sub) hxs), y1, y2, y3, y4, ?_⟩
        refine ⟨_, rfl, .inl ⟨rfl, _, SqL.of dF8.f⟩, told, xs, .str "late", rfl, rfl, dF8.f, Nat.lt_of_le_of_lt (show xs.length ≤ 20 by omega) (by decide), ?_⟩
        have dF9 := dF8.put (ys := xs ++ [.str "late"])
        generalize upd H8 told (.lst (xs ++ [.str "late"])) = H9 at dF9 ⊢
        refine ⟨_, rfl, _, rfl, ra, _, rfl, .inl ⟨dF9.sub.seq (u25.seq hra2), fun tp htp => ?_⟩⟩
        have dF10 := dF9.newG (o := .tup (rs.map V.str)) htp
        have u10 : Same G5 (upd G5 tp (.tup (rs.map V.str))) := Same.upd_none (dF9.sub.free htp)
        have htp10 : SqT K (upd G5 tp (.tup (rs.map V.str))) tp (rs.map V.str) := SqT.of upd_same
        generalize upd G5 tp (.tup (rs.map V.str)) = G10 at dF10 u10 htp10
        refine ⟨G10, pl, .ref tp, .sq (rs.map strD), Tb, bad, base6, rfl, dF10.sub, (play2.same u25).same u10, .tup htp10 (dq_strs rs), hsh, hfit, hTl, made.closed, fun f hf found2 hB2 => ?_, fun i hi => ?_⟩
        · rw [hro] at hf
          cases hf
          rw [hadj] at hB2
          have hdet : found2 = found := Bt.det hB2.det hB.det
          subst hdet
          refine ⟨fun e2 => (by rw [e] at e2; cases e2), fun r2 rs2 e2 told2 xs2 H11 G11 g11 _ _ hT11 hxs2 => ?_⟩
          rw [e] at e2
          cases e2
          have dF11 := dF10.calm g11
          refine ⟨told2, _, rfl, .lst (SqL.of hT11) (dpA_mono g11.sub hxs2), y1, y2, y3, y4, ?_⟩
          refine ⟨_, rfl, rfl, ?_⟩
          have e0 : decide (V.str (PyData.list (r.map NestedKey.data)).shown = V.str (PyData.list (r.map NestedKey.data)).shown) = true := decide_eq_true rfl
          rw [e0]
          obtain ⟨c11, hc11, st11⟩ := dF11.d.st
          exact k H11 G11 c11 dF11.d.gr st11 hc11
        · rw [hro] at hi
          cases hi
    · rw [hro] at hi
      cases hi
end
end K8
-- K8Ext
set_option maxRecDepth 100000
set_option maxHeartbeats 1000000
namespace K8
open PySem PySem.Spec PyProof.Rows L2
open LamX (ExtN Tabs TabS CodeO)
/-! ### what stands where only tables are written -/
abbrev NoTb (o : HO) : Prop := ∀ ps, o ≠ .tbl ps
section
variable {K : PySem.W.Frag} {w : World} {G H : Hp}
theorem rd_ext {a : Addr} {u : HO} (s : ExtN G H) (hu : NoTb u) (h : Rd G a u) : Rd H a u := by
  rcases h with h | ⟨o, h⟩
  · exact .inl (s _ _ h hu)
  · exact .inr ⟨o, s _ _ h fun _ z => nomatch z⟩
theorem ext_sq (s : ExtN G H) : SameS K G H where
  l := fun a xs h => h.elim (fun h => .inl (rd_ext s (fun _ z => nomatch z) h)) .inr
  t := fun a xs h => h.elim (fun h => .inl (rd_ext s (fun _ z => nomatch z) h)) .inr
theorem WD.ext {a : Addr} {kvs : List WE} {ep : Nat} (s : ExtN G H) (d : WD K w G a kvs ep) : WD K w H a kvs ep :=
  { d with rd := rd_ext s (fun _ z => nomatch z) d.rd, key := fun x m => ⟨dp_sameS (ext_sq s) _ _ (d.key x m).1, (d.key x m).2⟩ }
theorem KS.ext {v : V} {x : Stp} {rs : List Str} (s : ExtN G H) (h : KS K G v x rs) : KS K H v x rs where
  ex := let ⟨t, w', rt, sd', e, a, b, c, kvs, d, n⟩ := h.ex; ⟨t, w', rt, sd', e, (ext_sq s).t _ _ a, dp_sameS (ext_sq s) _ _ b, (ext_sq s).t _ _ c, kvs, s _ _ d (fun _ z => nomatch z), n⟩
  rs := h.rs
theorem RowK.ext (s : ExtN G H) {kvs : List WE} {row : Trow} (h : RowK K G kvs row) : RowK K H kvs row := pair_imp (fun _ _ z => ⟨z.1, KS.ext s z.2⟩) h
theorem RowIs.ext {a : Addr} {row : Trow} (s : ExtN G H) (h : RowIs K w G a row) : RowIs K w H a row := let ⟨k, e, d, r⟩ := h; ⟨k, e, d.ext s, r.ext s⟩
theorem TabIs.ext {l : Addr} {T : List Trow} (s : ExtN G H) (h : TabIs K w G l T) : TabIs K w H l T := let ⟨as, a, b⟩ := h; ⟨as, (ext_sq s).l _ _ a, pair_imp (fun _ _ => RowIs.ext s) b⟩
theorem PlayIs.ext {p : Addr} {T : List Trow} {bad : List Nat} (s : ExtN G H) (h : PlayIs K w G p T bad) : PlayIs K w H p T bad := by
  obtain ⟨dx, tl, bl, a, b, c⟩ := h.ex
  exact ⟨dx, tl, bl, s _ _ a fun _ z => (nomatch z), b.ext s, (ext_sq s).l _ _ c⟩
theorem StepV.ext {v : V} {x : Stp} (s : ExtN G H) (h : StepV K G v x) : StepV K H v x := let ⟨t, w', rl, e, a, b, c⟩ := h; ⟨t, w', rl, e, (ext_sq s).t _ _ a, dp_sameS (ext_sq s) _ _ b, (ext_sq s).l _ _ c⟩
theorem DrawnV.ext {t : Addr} {n : Nat} {ss : List Stp} {bs : List Nat} (s : ExtN G H) (h : DrawnV K G t n ss bs) : DrawnV K H t n ss bs :=
  let ⟨sl, bl, xs, a, b, c, d, e⟩ := h; ⟨sl, bl, xs, (ext_sq s).t _ _ a, (ext_sq s).l _ _ b, pair_imp (fun _ _ => StepV.ext s) c, (ext_sq s).l _ _ d, fun x m => let ⟨k, a, b⟩ := e x m; ⟨k, s _ _ a fun _ z => (nomatch z), b⟩⟩
theorem TripV.ext {v : V} {x : NestedKey × Nat × List Str} (s : ExtN G H) (h : TripV K G v x) : TripV K H v x := let ⟨t, w', rl, e, a, b, c⟩ := h; ⟨t, w', rl, e, (ext_sq s).t _ _ a, dp_sameS (ext_sq s) _ _ b, (ext_sq s).q c⟩
theorem RowV.ext {v : V} {x : Row NestedKey Str} (s : ExtN G H) (h : RowV K G v x) : RowV K H v x := let ⟨a, xs, e, b, c⟩ := h; ⟨a, xs, e, (ext_sq s).l _ _ b, pair_imp (fun _ _ => TripV.ext s) c⟩
theorem TblV.ext {a : Addr} {x : Rows NestedKey Str} (s : ExtN G H) (h : TblV K G a x) : TblV K H a x := let ⟨xs, b, c⟩ := h; ⟨xs, (ext_sq s).l _ _ b, pair_imp (fun _ _ => RowV.ext s) c⟩
theorem SetsV.ext {ys : List V} {Ls : List (List Str)} (s : ExtN G H) (h : SetsV K G ys Ls) : SetsV K H ys Ls := pair_imp (fun _ _ z => dp_sameS (ext_sq s) _ _ z) h
end
mutual
theorem Dq.ext {K : PySem.W.Frag} {G H : Hp} (s : ExtN G H) : ∀ (d : D) (v : V), Dq K G v d → Dq K H v d
  | .lf u, _, h => by
    cases h with
    | lf a => exact .lf a
    | dct a => exact .dct (s _ _ a fun _ z => nomatch z)
  | .sq ds, _, h => by
    cases h with
    | lst a b => exact .lst ((ext_sq s).l _ _ a) (DqAll.ext s ds _ b)
    | tup a b => exact .tup ((ext_sq s).t _ _ a) (DqAll.ext s ds _ b)
theorem DqAll.ext {K : PySem.W.Frag} {G H : Hp} (s : ExtN G H) : ∀ (ds : List D) (vs : List V), DqAll K G vs ds → DqAll K H vs ds
  | [], _, h => by cases h; exact .nil
  | d :: ds, _, h => by cases h with | cons a b => exact .cons (Dq.ext s d _ a) (DqAll.ext s ds _ b)
end
/-- without tables -/
def flt (G : Hp) : Hp := fun b => match G b with
  | some (.tbl _) => none
  | o => o
theorem flt_some {G : Hp} {b : Addr} {o : HO} (h : flt G b = some o) : G b = some o ∧ NoTb o := by
  unfold flt at h
  cases hb : G b with
  | none => rw [hb] at h; cases h
  | some u =>
    rw [hb] at h
    cases u with
    | tbl ps => cases h
    | _ => cases h; exact ⟨rfl, fun _ z => nomatch z⟩
theorem flt_of {G : Hp} {b : Addr} {o : HO} (h : G b = some o) (n : NoTb o) : flt G b = some o := by
  unfold flt
  rw [h]
  cases o with
  | tbl ps => exact absurd rfl (n ps)
  | _ => rfl
theorem flt_none {G : Hp} {b : Addr} (h : G b = none) : flt G b = none := by
  unfold flt
  rw [h]
theorem flt_ext (G : Hp) : ExtN G (flt G) := fun b o h n => flt_of h n
theorem flt_same {G H H1 : Hp} (s : Same G H) (e : ExtN H H1) : Same (flt G) H1 := fun b o h => e b o (s b o (flt_some h).1) (flt_some h).2
/-! ### where a walk with draws and lambdas stands -/
structure Ld (T : List (Addr × Str)) (H0 G H : Hp) (s l : Addr) (b : Nat) : Prop where
  sub : Same G H
  gs : G s = none
  gl : G l = none
  st : ∃ c, c ≤ b ∧ Strm H s l c
  tb : Tabs T H
  old : ∀ a o, H0 a = some o → ¬ SM s l a → NoTb o → H a = some o
section
variable {K : PySem.W.Frag} {T : List (Addr × Str)} {H0 G H G2 H2 : Hp} {s l a F : Addr} {b b2 c : Nat} {o : HO} {xs ys : List V} {Q : VK} {E : XK}
theorem Ld.start (s0 : Same G H) (gs : G s = none) (gl : G l = none) (st : Strm H s l c) (hb : c ≤ b) (tb : Tabs T H) : Ld T H G H s l b := ⟨s0, gs, gl, ⟨c, hb, st⟩, tb, fun _ _ h _ _ => h⟩
theorem Ld.le (d : Ld T H0 G H s l b) (h : b ≤ b2) : Ld T H0 G H s l b2 := { d with st := let ⟨c, hc, z⟩ := d.st; ⟨c, Nat.le_trans hc h, z⟩ }
theorem Ld.not (d : Ld T H0 G H s l b) (h : H a = none) : ¬ SM s l a := let ⟨_, _, st⟩ := d.st; st.not h
/-- tables stay where all else but some lists stays -/
theorem tabs_keep (t : Tabs T H) (k : ∀ a o, H a = some o → (∀ xs, o ≠ .lst xs) → H2 a = some o) : Tabs T H2 := fun p hp => by
  obtain ⟨ps, h1, h2, h3⟩ := t p hp
  refine ⟨ps, k _ _ h1 (fun _ z => nomatch z), h2, fun pos cv hc => ?_⟩
  obtain ⟨c, e1, e2⟩ := h3 pos cv hc
  exact ⟨c, e1, k _ _ e2 fun _ z => nomatch z⟩
theorem strm_lst (st : Strm H s l c) (h : SM s l a) : ∃ xs, H a = some (.lst xs) := by
  obtain ⟨cs, p, q, a1, _, _, _, _, a6⟩ := st.ex
  rcases h with rfl | rfl
  · exact ⟨_, a6⟩
  · exact ⟨_, a1⟩
theorem Ld.call (d : Ld T H0 G H s l b) (g : Gr (SM s l) H G G2 H2) (st : Strm H2 s l c) (hc : c ≤ b2) : Ld T H0 G2 H2 s l b2 where
  sub := g.sub
  gs := g.new _ (.inr (.inl rfl)) d.gs
  gl := g.new _ (.inr (.inr rfl)) d.gl
  st := ⟨c, hc, st⟩
  tb := tabs_keep d.tb fun a o h n => g.old a o h fun z => by
    obtain ⟨c0, _, st0⟩ := d.st
    obtain ⟨xs, hx⟩ := strm_lst st0 z
    rw [hx] at h
    cases h
    exact n _ rfl
  old := fun a o h n t => g.old a o (d.old a o h n t) n
theorem Ld.calm (d : Ld T H0 G H s l b) (g : Gr NoM H G G2 H2) : Ld T H0 G2 H2 s l b := by
  obtain ⟨c, hc, st⟩ := d.st
  exact d.call (g.lift fun b hb => hb.elim (fun e => e ▸ st.s) fun e => e ▸ st.l) (st.of g) hc
theorem Ld.newG (d : Ld T H0 G H s l b) (h : H a = none) : Ld T H0 (upd G a o) (upd H a o) s l b := by
  obtain ⟨c, hc, st⟩ := d.st
  have ha := st.not h
  exact ⟨fun x u e => by
    by_cases z : x = a
    · subst z; rw [upd_same] at e ⊢; exact e
    · rw [upd_ne z] at e ⊢; exact d.sub x u e, by rw [upd_ne (fun e => ha (.inl e.symm))]; exact d.gs, by rw [upd_ne (fun e => ha (.inr e.symm))]; exact d.gl, ⟨c, hc, st.new h⟩, d.tb.ext fun x u e => by rw [upd_ne (ne_sn e h)]; exact e, fun x u e n t => by rw [upd_ne (ne_sn (d.old x u e n t) h)]; exact d.old x u e n t⟩
theorem Ld.mine (d : Ld T H0 G H s l b) (h : H a = none) : Ld T H0 G (upd H a o) s l b := by
  have d2 := d.newG (o := o) h
  exact { d2 with sub := d.sub.to_upd h, gs := d.gs, gl := d.gl }
/-- one's own list is written -/
theorem Ld.put (d : Ld T H0 G H s l b) (hF : H F = some (.lst xs)) (hg : G F = none) (hm : ¬ SM s l F) (hz : ∀ o, H0 F = some o → NoTb o → False) : Ld T H0 G (upd H F (.lst ys)) s l b := by
  obtain ⟨c, hc, st⟩ := d.st
  exact ⟨d.sub.mut hg, d.gs, d.gl, ⟨c, hc, st.upd (fun e => hm (.inl e)) fun e => hm (.inr e)⟩, tabs_keep d.tb fun x o h n => by
    rw [upd_ne (fun e => by rw [e, hF] at h; cases h; exact n _ rfl)]; exact h, fun x u e n t => by
    rw [upd_ne (fun z => hz u (by rw [← z]; exact e) t)]; exact d.old x u e n t⟩
/-- a new thing was not there at the start -/
theorem Ld.fresh (d : Ld T H0 G H s l b) (h : H a = none) : ∀ o, H0 a = some o → NoTb o → False := fun o e t => by
  have := d.old a o e (d.not h) t
  rw [h] at this
  cases this
/-- a lambda is made: tables are written -/
theorem Ld.lam (d : Ld T H0 G H s l b) (e : ExtN H H2) (tb : Tabs T H2) : Ld T H0 (flt G) H2 s l b where
  sub := flt_same d.sub e
  gs := flt_none d.gs
  gl := flt_none d.gl
  st := by
    obtain ⟨c, hc, st⟩ := d.st
    obtain ⟨cs, p, q, a1, _, _, _, _, a6⟩ := st.ex
    exact ⟨c, hc, st.like ((e _ _ a6 fun _ z => nomatch z).trans a6.symm) ((e _ _ a1 fun _ z => nomatch z).trans a1.symm)⟩
  tb := tb
  old := fun a o h n t => e a o (d.old a o h n t) t
theorem Ld.draw (n : Nat) (d : Ld T H0 G H s l b) (hb : b < 1099511627776) (h1 : 1 ≤ n) (h2 : n ≤ 1000000) (k : ∀ x H2, x < n → Gr (SM s l) H G G H2 → Ld T H0 G H2 s l (b + 1) → Q (.int (x : Nat)) H2) : spDraw [.ref s, .int (n : Nat)] H Q E := by
  obtain ⟨c, hc, st⟩ := d.st
  exact ⟨G, s, l, c, n, rfl, d.sub, d.gs, d.gl, st, by omega, h1, h2, fun x H2 hx g st2 => k x H2 hx g (d.call g st2 (by omega))⟩
theorem Ld.pick {a : Addr} {xs : List V} (d : Ld T H0 G H s l b) (hb : b < 1099511627776) (src : Sq K G a xs) (h1 : 1 ≤ xs.length) (h2 : xs.length ≤ 1000) (k : ∀ (j : Nat) x H2, xs[j]? = some x → Gr (SM s l) H G G H2 → Ld T H0 G H2 s l (b + 1) → Q x H2) : spPick K [.ref s, .ref a] H Q E := by
  obtain ⟨c, hc, st⟩ := d.st
  exact ⟨G, s, l, c, a, xs, rfl, d.sub, d.gs, d.gl, st, by omega, src, h1, h2, fun j x H2 hx g st2 => k j x H2 hx g (d.call g st2 (by omega))⟩
theorem Ld.mixed {a : Addr} {xs : List V} (d : Ld T H0 G H s l b) (hb : b + xs.length < 1099511627776) (src : Sq K G a xs) (h2 : xs.length ≤ 1000) (k : ∀ p H2 G2 ys, ys.Perm xs → Gr (SM s l) H G G2 H2 → Ld T H0 G2 H2 s l (b + xs.length) → SqL K G2 p ys → Q (.ref p) H2) : spMixed K [.ref s, .ref a] H Q E := by
  obtain ⟨c, hc, st⟩ := d.st
  exact ⟨G, s, l, c, a, xs, rfl, d.sub, d.gs, d.gl, st, by omega, src, h2, fun p H2 G2 ys hp g hq st2 => k p H2 G2 ys hp g (d.call g st2 (by omega)) hq⟩
end
end K8
-- K8Lam
set_option maxRecDepth 100000
set_option maxHeartbeats 1000000
namespace K8
open PySem PySem.Spec PyProof.Rows L2
/-! ### _law_met(lambda: ..) -/
section
variable {X : Cx}
theorem lamMet {KK : PySem.W.Frag} (T : Txt X.K X.mg) {Tb : List (Addr × Str)} {c P : Addr} (k : Nat) {params : Arguments} {body : Expr} {scope : Scope} {t : XK → TE} {p lpos pos : Pos} (TB : LamX.TabB X.base X.mg c P) (hcode : X.env.code = .ref c) (hmT : (P, X.env.qual ++ "<lambda>") ∈ Tb) (hu : ∀ p ∈ Tb, p.1 = P → p.2 = X.env.qual ++ "<lambda>") (hr : Room (k + 2) X.A)
    (L : LamX.LamS X.env.scope scope) (hdef : defaultsOf params X.env = ([], [])) (hbind : ∀ (q : Str) (cl : List (Str × Addr)) (pm cv ctv : Value), bindArgs (PySem.W.kla_fn "<lambda>" q params body scope cl pm cv ctv) ⟨[], []⟩ = pure [])
    (hbody : ∀ (A : Around) (outer : List Env) (s : Shared) (H : Hp) (E : XK) (f c' : Addr), Room k (A.deeper (LamX.lamEnv X scope s.heap.objs.size f c')) → PE (LamX.lamCx X A outer s H E scope f c') body (t E)) (hg : Gl X "_law_met" := by rfl) (hK : X.K = KK := by rfl) :
    PE X (.Call (.Name "_law_met" p) [.Lambda params body scope lpos] [] pos) (LamX.tLam Tb (TMet KK) t) := by
  subst hK
  obtain ⟨fd, F⟩ := T.F_z_met
  obtain ⟨oc, od, dV, kV, doc, pm, an, cdv, ct, osl, rfl, lk, hcd, e1, e2⟩ := id F.ex
  exact LamX.pe_lamcall hg T.g_z_met F.kp lk hcd (F.bindsN (fun _ _ _ _ _ _ us hl => match us, hl with | [_], _ => rfl)) sc_z_met rfl (.inl rfl) (met_gives T) TB hcode hmT hu hr L hdef hbind hbody
end
/-- what a def with lambdas asks besides: its table -/
structure TbOk (K : PySem.W.Frag) (mg : Str → Option Value) (base : Heap) (Tb : List (Addr × Str)) (x : Str) : Prop where
  tab : LamX.TabB base mg (He.codeOf K (x, none)) (He.tabOf K (He.codeOf K (x, none)))
  mem : (He.tabOf K (He.codeOf K (x, none)), x ++ ".<locals>." ++ "<lambda>") ∈ Tb
  one : ∀ p ∈ Tb, p.1 = He.tabOf K (He.codeOf K (x, none)) → p.2 = x ++ ".<locals>." ++ "<lambda>"
/-! ### runs: what is one, what is none -/
theorem dq_run {K : PySem.W.Frag} {G : Hp} {xs : List V} {ds : List D} (hw : ∀ d ∈ ds, isWord d = true) (h : DpAll K G xs ((ds.map keyD).map NestedKey.data)) : DqAll K G xs ds := by
  refine dq_words ds xs ?_ ?_
  · rw [isWords_all]; exact List.all_eq_true.mpr hw
  · rw [keyDs_map, datas_map]; exact h
section
variable {n : Nat} {ss : List Stp} {bs : List Nat}
theorem row_word (ok : PlayOk n ss bs) {u : Nat} {e : NestedKey × Nat × List Str} (m : e ∈ rowAt (tblOf n ss) u) : ∃ d, keyD d = e.1 ∧ WdOk d := by
  by_cases c : u < n
  · rw [tbl_row c] at m
    obtain ⟨s, hs, rfl⟩ := List.mem_map.mp m
    exact ⟨s.wd, rfl, ok.wd s (List.mem_filter.mp hs).1⟩
  · rw [rowAt_none (List.getElem?_eq_none (by rw [tbl_len]; omega))] at m
    cases m
theorem pth_words (ok : PlayOk n ss bs) {q : Str → Bool} {ks : List NestedKey} {v : Nat} (g : Pth (adjOf q (tblOf n ss)) ks v) : ∃ ds : List D, ds.map keyD = ks ∧ ∀ d ∈ ds, WdOk d := by
  induction g with
  | nil => exact ⟨[], rfl, fun _ m => nomatch m⟩
  | snoc _ m ih =>
    obtain ⟨ds, e, hd⟩ := ih
    rw [rowAt_adjOf] at m
    obtain ⟨R, m, _⟩ := mem_keepRow.mp m
    obtain ⟨d, e2, hw⟩ := row_word ok m
    refine ⟨ds ++ [d], by rw [List.map_append, e]; show _ ++ [keyD d] = _; rw [e2], fun x mx => ?_⟩
    rcases List.mem_append.mp mx with mx | mx
    · exact hd x mx
    · rw [List.mem_singleton.mp mx]; exact hw
theorem behindE_app {adj : List ARow} : ∀ (l r : List D) (i here : Nat), behindE adj i here (l ++ r) = match behindE adj i here l with
    | .ok u => behindE adj (i + l.length) u r
    | .error e => .error e
  | [], r, i, here => by rw [List.nil_append]; rfl
  | d :: l, r, i, here => by
    rw [List.cons_append]
    show (if isWord d then match stepTo (rowAt adj here) (keyD d) with
      | some v => behindE adj (i + 1) v (l ++ r)
      | none => .error i else .error i) = match (if isWord d then match stepTo (rowAt adj here) (keyD d) with
      | some v => behindE adj (i + 1) v l
      | none => .error i else .error i) with
      | .ok u => behindE adj (i + (l.length + 1)) u r
      | .error e => .error e
    by_cases c : isWord d = true
    · rw [if_pos c, if_pos c]
      cases hs : stepTo (rowAt adj here) (keyD d) with
      | none => rfl
      | some v =>
        have ih := behindE_app (adj := adj) l r (i + 1) v
        show behindE adj (i + 1) v (l ++ r) = match behindE adj (i + 1) v l with
          | .ok u => behindE adj (i + (l.length + 1)) u r
          | .error e => .error e
        rw [ih, show i + 1 + l.length = i + (l.length + 1) by omega]
    · rw [if_neg c, if_neg c]
theorem stepTo_of {row : ARow} (hn : (row.map (·.1)).Nodup) {k : NestedKey} {v : Nat} (m : (k, v) ∈ row) : stepTo row k = some v := by
  unfold stepTo
  induction row with
  | nil => cases m
  | cons e r ih =>
    obtain ⟨h1, h2⟩ := List.nodup_cons.mp hn
    rcases List.mem_cons.mp m with rfl | m
    · rw [List.find?_cons_of_pos (by simp)]; rfl
    · rw [List.find?_cons_of_neg]
      · exact ih h2 m
      · intro z
        have z : e.1 = k := by simpa using z
        exact h1 (List.mem_map.mpr ⟨(k, v), m, z.symm⟩)
theorem stepTo_no {row : ARow} {k : NestedKey} (h : ∀ e ∈ row, e.1 ≠ k) : stepTo row k = none := by
  unfold stepTo
  rw [List.find?_eq_none.mpr fun e m => by simpa using h e m]
  rfl
/-- all rules off: the law's table, the package's -/
abbrev adjT (n : Nat) (ss : List Stp) : Adj NestedKey := adjOf (fun _ => true) (tblOf n ss)
theorem pth_true {q : Str → Bool} {ks : List NestedKey} {v : Nat} (g : Pth (adjOf q (tblOf n ss)) ks v) : Pth (adjT n ss) ks v := by
  obtain ⟨B, g, _⟩ := pth_iff.mp g
  exact pth_iff.mpr ⟨B, g, List.all_eq_true.mpr fun _ _ => rfl⟩
theorem behind_ok (ok : PlayOk n ss bs) {ks : List NestedKey} {v : Nat} (g : Pth (adjT n ss) ks v) : ∀ {ds : List D}, ds.map keyD = ks → (∀ d ∈ ds, isWord d = true) → behindE (adjT n ss) 0 0 ds = .ok v := by
  induction g with
  | nil =>
    intro ds e _
    cases ds with
    | nil => rfl
    | cons d r => cases e
  | snoc g m ih =>
    rename_i ws u w v
    intro ds e hw
    obtain ⟨l, d, rfl, e1, e2⟩ : ∃ l d, ds = l ++ [d] ∧ l.map keyD = ws ∧ keyD d = w := by
      have hl : ds.length = ws.length + 1 := by
        have := congrArg List.length e
        rw [List.length_map, List.length_append] at this
        exact this
      refine ⟨ds.take ws.length, ds[ws.length], ?_, ?_, ?_⟩
      · have h1 := List.take_append_drop ws.length ds
        have h2 : ds.drop ws.length = [ds[ws.length]] := by
          rw [List.drop_eq_getElem_cons (by omega), List.drop_of_length_le (by omega)]
        rw [h2] at h1
        exact h1.symm
      · rw [List.map_take, e, List.take_left]
      · have h1 : (ds.map keyD)[ws.length]? = (ws ++ [w])[ws.length]? := by rw [e]
        rw [List.getElem?_map, List.getElem?_eq_getElem (by omega), List.getElem?_append_right (Nat.le_refl _), Nat.sub_self] at h1
        injection h1
    rw [behindE_app, ih e1 fun x mx => hw x (List.mem_append.mpr (.inl mx))]
    show (if isWord d then match stepTo (rowAt (adjT n ss) u) (keyD d) with
      | some v => behindE (adjT n ss) _ v []
      | none => .error _ else .error _) = _
    rw [if_pos (hw d (List.mem_append.mpr (.inr (List.mem_singleton.mpr rfl)))), e2, stepTo_of (adj_key_nd ok.det u) m]
    rfl
/-- a thing that is no step's word -/
def Odd (d : D) : Prop := isWord d = false ∨ keyD d ∈ oddKeys
theorem odd_no (ok : PlayOk n ss bs) {d : D} (h : Odd d) (i u : Nat) (r : List D) : behindE (adjT n ss) i u (d :: r) = .error i := by
  show (if isWord d then match stepTo (rowAt (adjT n ss) u) (keyD d) with
    | some v => behindE (adjT n ss) (i + 1) v r
    | none => .error i else .error i) = _
  rcases h with h | h
  · rw [h]; rfl
  · by_cases c : isWord d = true
    · rw [if_pos c, stepTo_no]
      intro e me z
      rw [rowAt_adjOf] at me
      obtain ⟨R, m, _⟩ := mem_keepRow.mp (show (e.1, e.2) ∈ _ from me)
      have := (ok.okk m).2.1
      rw [show (e.1, e.2, R).1 = keyD d from z] at this
      exact this h
    · rw [if_neg c]
theorem behind_odd (ok : PlayOk n ss bs) {ks : List NestedKey} {v : Nat} (g : Pth (adjT n ss) ks v) {ds : List D} (e : ds.map keyD = ks) (hw : ∀ d ∈ ds, isWord d = true) (k : Nat) (hk : k ≤ ds.length) {d : D} (h : Odd d) (r : List D) : behindE (adjT n ss) 0 0 (ds.take k ++ d :: r) = .error k := by
  have h1 := behind_ok ok g e hw
  have hl : (ds.take k).length = k := by rw [List.length_take]; omega
  have h2 := behindE_app (adj := adjT n ss) (ds.take k) (ds.drop k) 0 0
  rw [List.take_append_drop, h1] at h2
  rw [behindE_app]
  cases hb : behindE (adjT n ss) 0 0 (ds.take k) with
  | error i => rw [hb] at h2; cases h2
  | ok u =>
    show behindE (adjT n ss) (0 + (ds.take k).length) u (d :: r) = _
    rw [hl, Nat.zero_add]
    exact odd_no ok h k u r
end
theorem DqAll.app {K : PySem.W.Frag} {H : Hp} : ∀ {vs us : List V} {ds es : List D}, DqAll K H vs ds → DqAll K H us es → DqAll K H (vs ++ us) (ds ++ es)
  | _, _, _, _, .nil, h => h
  | _, _, _, _, .cons a t, h => .cons a (DqAll.app t h)
theorem DqAll.takeN {K : PySem.W.Frag} {H : Hp} : ∀ {vs : List V} {ds : List D} (n : Nat), DqAll K H vs ds → DqAll K H (vs.take n) (ds.take n)
  | _, _, 0, _ => .nil
  | _, _, n + 1, .nil => .nil
  | _, _, n + 1, .cons a t => .cons a (DqAll.takeN n t)
theorem DqAll.dropN {K : PySem.W.Frag} {H : Hp} : ∀ {vs : List V} {ds : List D} (n : Nat), DqAll K H vs ds → DqAll K H (vs.drop n) (ds.drop n)
  | _, _, 0, h => h
  | _, _, n + 1, .nil => .nil
  | _, _, n + 1, .cons a t => DqAll.dropN n t
theorem sm_strs {K : PySem.W.Frag} {H : Hp} {a b : Addr} {zs : List Str} (h1 : SqL K H a (zs.map V.str)) (h2 : SqL K H b (zs.map V.str)) (hl : zs.length ≤ 10000) : Sm K H 2 (.ref a) (.ref b) := by
  refine .lst h1 h2 rfl (by rw [List.length_map]; exact hl) fun i x y e1 e2 => ?_
  rw [e1] at e2
  cases e2
  rw [List.getElem?_map, Option.map_eq_some_iff] at e1
  obtain ⟨z, _, rfl⟩ := e1
  exact .str 0 z
theorem run_size {ds : List D} (hw : ∀ d ∈ ds, WdOk d) (hl : ds.length ≤ 6) : dep (.sq ds) < 4 ∧ wide (.sq ds) ≤ 1000 ∧ sz (.sq ds) ≤ 6012007 := by
  have e1 := depL_le (n := 2) fun d m => (show dep d ≤ 2 by have := (hw d m).2.1; omega)
  have e2 := wideL_le (n := 1000) fun d m => (hw d m).2.2.1
  have e3 := szL_le (n := 1002001) fun d m => sz_word (hw d m).2.1 (hw d m).2.2.1
  refine ⟨by show depL ds + 1 < 4; omega, Nat.max_le.mpr ⟨by omega, e2⟩, by show szL ds + 1 ≤ _; omega⟩
end K8
-- K8Xf
set_option maxRecDepth 100000
set_option maxHeartbeats 1000000
namespace K8
open PySem PySem.Spec PyProof.Rows L2
open LamX (ExtN Tabs TabS CodeO)
def spBRR (K : PySem.W.Frag) (w : World) (Tb : List (Addr × Str)) : Sp := fun vs H Q _ => ∃ (G : Hp) (s l : Addr) (c : Nat) (t pl : Addr) (n : Nat) (ss : List Stp) (bs : List Nat) (T : List Trow) (bad : List Nat), vs = [.ref s, .ref t, .ref pl] ∧ Same G H ∧ G s = none ∧ G l = none ∧ Strm H s l c ∧ c + 50000000 < 1099511627776 ∧ Tabs Tb H ∧ DrawnV K G t n ss bs ∧ PlayIs K w G pl T bad ∧ Made n ss bs T bad ∧
  ∀ H' c', (∀ a o, H a = some o → ¬ SM s l a → NoTb o → H' a = some o) → Tabs Tb H' → Strm H' s l c' → c' ≤ c + 50000000 → Q (.bl true) H'
theorem sc_z_barring_right : FnScope ["_law_stream", "_law_drawn", "_law_play", "_law_table_here", "_law_k", "_law_run_here", "_law_told", "_law_at", "_law_odd"] ["_law_stream", "_law_drawn", "_law_play"] (defScope s_z_barring_right) := ⟨rfl, rfl, rfl, by decide +kernel, rfl, by decide +kernel, by decide +kernel⟩
section
variable {P : Program} {w : World} {K : PySem.W.Frag} {mg : Str → Option Value} {base : Heap}
theorem ok_z_barring_right (T : Txt K mg) {Tb : List (Addr × Str)} (B : TbOk K mg base Tb "_law_barring_right") : ClG P w K mg base 10 "_law_barring_right" (spBRR K w Tb) := by
  refine cl0C (T.F_z_barring_right) T.g_z_barring_right sc_z_barring_right (fun vs H Q E h => ?_) (fun _ _ _ _ _ _ us hl => match us, hl with | [_, _, _], _ => rfl) (fun cdv A outer s H vs Q E gd hcv hr h => ?_)
  · obtain ⟨G, s, l, c, t, pl, n, ss, bs, Tr, bad, rfl, _⟩ := h
    rfl
  · subst hcv
    obtain ⟨G, s, l, c, t, pl, n, ss, bs, Tr, bad, rfl, s0, gs, gl, st, hc, htb, dv, play, made, k⟩ := h
    refine ⟨_, (pss_cons (ps_set (i := 3) sc_z_barring_right.nd rfl (by first | exact Or.inl rfl | exact Or.inr rfl) (pe_cl (ok_z_table (K := K) T) hr (by decide) pass0 (pa_cons (pe_ix (ixQ (KK := K)) (pv 1) pe_int (fun _ _ => rfl)) (pa_cons (pe_ix (ixQ (KK := K)) (pv 1) pe_int (fun _ _ => rfl)) pa_nil))))
      (pss_cons (ps_for PassesOwn.never rfl (pi_range1 (by rfl) T.f_range (pa_cons pe_int pa_nil)) (pg_name (i := 4) sc_z_barring_right.nd rfl (by first | exact Or.inl rfl | exact Or.inr rfl))
        (pss_cons (ps_set (i := 5) sc_z_barring_right.nd rfl (by first | exact Or.inl rfl | exact Or.inr rfl) (pe_cl (ok_z_run (K := K) T) hr (by decide) pass0 (pa_cons (pv 0) (pa_cons (pv 3) (pa_cons (pe_lst pa_nil) (pa_cons pe_int pa_nil))))))
        (pss_cons (ps_set (i := 6) sc_z_barring_right.nd rfl (by first | exact Or.inl rfl | exact Or.inr rfl) (pe_cl (ok_barring (K := K) (w := w) T) hr (by decide) passE0 (pa_cons (pv 2) (pa_cons (pe_cl (ok_z_loose (K := K) T 4) hr (by decide) pass0 (pa_cons (pv 0) (pa_cons (pv 5) pa_nil))) pa_nil))))
        (pss_cons (ps_if (pt_not (pt_val (pe_cl (ok_z_same (K := K) T 2) hr (by decide) pass0 (pa_cons (pv 6) (pa_cons (pe_cl (ok_x_bars (K := K) T) hr (by decide) pass0 (pa_cons (pv 1) (pa_cons (pv 5) pa_nil))) pa_nil)))))
          (pss_one (ps_ret pe_bl))
          pss_nil)
        (pss_cons (ps_expr (pe_bm PySem.F.plainAttrs_list PySem.F.slot_list_append PySem.F.type_list_append mt_append (pv 6) (pa_cons pe_str pa_nil)))
        (pss_cons (ps_if (pt_not (pt_val (pe_cl (ok_z_same (K := K) T 2) hr (by decide) pass0 (pa_cons (pe_cl (ok_barring (K := K) (w := w) T) hr (by decide) passE0 (pa_cons (pv 2) (pa_cons (pv 5) pa_nil))) (pa_cons (pe_cl (ok_x_bars (K := K) T) hr (by decide) pass0 (pa_cons (pv 1) (pa_cons (pv 5) pa_nil))) pa_nil)))))
          (pss_one (ps_ret pe_bl))
          pss_nil)
        (pss_cons (ps_set (i := 7) sc_z_barring_right.nd rfl (by first | exact Or.inl rfl | exact Or.inr rfl) (pe_cl (ok_z_draw (K := K) T) hr (by decide) pass0 (pa_cons (pv 0) (pa_cons (pe_op op_add (pe_callB (lenQ (KK := K)) (by rfl) T.f_len (by decide +kernel) (pa_cons (pv 5) pa_nil)) pe_int) pa_nil))))
        (pss_cons (ps_set (i := 8) sc_z_barring_right.nd rfl (by first | exact Or.inl rfl | exact Or.inr rfl) (pe_cl (ok_z_pick (K := K) T) hr (by decide) pass0 (pa_cons (pv 0) (pa_cons (pe_lst (pa_cons pe_non (pa_cons pe_str (pa_cons pe_int (pa_cons pe_dnewK (pa_cons pe_bl (pa_cons (pe_lst (pa_cons pe_non pa_nil)) (pa_cons (pe_tup (pa_cons pe_str (pa_cons pe_str pa_nil))) (pa_cons (pe_lst (pa_cons (pe_lst (pa_cons pe_str pa_nil)) pa_nil)) pa_nil))))))))) pa_nil))))
        (pss_one (ps_if (pt_not (pt_val (pe_cl (ok_z_same (K := K) T 2) hr (by decide) pass0 (pa_cons (lamMet (KK := K) (Tb := Tb) T 7 B.tab rfl B.mem B.one (hr.mono (by decide)) (LamX.lamS_by (by kernel_rfl)) rfl (fun _ _ _ _ _ => rfl) (fun _ _ _ _ _ _ _ hr2 => pe_cl (ok_barring (K := K) (w := w) T) hr2 (by decide) (passes_call (takes_of rfl rfl rfl rfl) fun _ _ _ _ h => h) (pa_cons (pv 2) (pa_cons (pe_op op_cat (pe_op op_cat (pe_slice (slK (KK := K)) (pv 5) po_none (po_some (pv 7))) (pe_lst (pa_cons (pv 8) (pa_cons pe_non pa_nil)))) (pe_slice (slK (KK := K)) (pv 5) (po_some (pv 7)) po_none)) pa_nil)))) (pa_cons (pe_tup (pa_cons pe_str (pa_cons (pv 7) pa_nil))) pa_nil)))))
          (pss_one (ps_ret pe_bl))
          pss_nil))))))))))
      (pss_one (ps_ret (pe_cmpR (eqDD (KK := K) (u64 hr)) (pe_lc (own := [("_law_odd", 8)]) rfl sc_z_barring_right.nd (sqI (KK := K) (pe_tup (pa_cons pe_non (pa_cons pe_int (pa_cons pe_str (pa_cons pe_dnewK (pa_cons pe_bl pa_nil))))))) (blkOk_by (by kernel_rfl)) (fun _ _ _ _ _ => (pg_name (i := 8) sc_z_barring_right.nd rfl (by first | exact Or.inl rfl | exact Or.inr rfl))) (fun _ _ _ _ _ => pts_nil) (fun _ _ _ _ _ => (lamMet (KK := K) (Tb := Tb) T 7 B.tab rfl B.mem B.one (hr.mono (by decide)) (LamX.lamS_by (by kernel_rfl)) rfl (fun _ _ _ _ _ => rfl) (fun _ _ _ _ _ _ _ hr2 => pe_cl (ok_barring (K := K) (w := w) T) hr2 (by decide) (passes_call (takes_of rfl rfl rfl rfl) fun _ _ _ _ h => h) (pa_cons (pv 2) (pa_cons (pv 8) pa_nil)))))) (pe_op op_rep (pe_lst (pa_cons (pe_tup (pa_cons pe_str (pa_cons pe_int pa_nil))) pa_nil)) pe_int) (nomark _)))))), ?_⟩
    have ok := made.ok
    have hfit : Fit Tr base6 := made.fit (fun x m => by
      obtain ⟨q, hq, hx⟩ := mem_allBars.mp m
      exact (ok.bars q hq).2 x hx) (by decide)
    have hTl : Tr.length ≤ 1000 := by rw [made.len]; exact Nat.le_trans ok.n20 (by decide)
    have hadj : adjQ (fun _ => true) Tr = adjT n ss := made.adj _
    have d0 : Ld Tb H G H s l c := Ld.start s0 gs gl st (Nat.le_refl _) htb
    obtain ⟨sl, bl, sv, ht, hsl, hss, hbl, hsd⟩ := id dv
    refine ⟨_, rfl, t, _, 0, .int (n : Nat), rfl, rfl, .inr (s0.tp ht), atI_nat (j := 0) rfl, ?_⟩
    refine ⟨_, rfl, t, _, 1, .ref sl, rfl, rfl, .inr (s0.tp ht), atI_nat (j := 1) rfl, ?_⟩
    refine ⟨G, n, sl, sv, ss, rfl, s0, hsl, hss, Nat.le_trans ok.n20 (by decide), Nat.le_trans ok.few (by decide), fun tb H1 G1 g1 htb1 => ?_⟩
    have d1 := d0.calm g1
    have dv1 := dv.same g1.up
    have play1 := play.same g1.up
    clear ht hsl hss hbl hsd dv play s0 gs gl st htb d0 g1
    try dsimp (config := { proj := false }) only [tNext, tRet, tOp, tSeq, gName, tAsg]
    refine ⟨4, rfl, by decide, by decide, for_range (n := 4) (fun i σ H' => ∃ (o4 o5 o6 o7 o8 : Option V) (G2 : Hp), σ = [some (.ref s), some (.ref t), some (.ref pl), some (.ref tb), o4, o5, o6, o7, o8] ∧ Ld Tb H G2 H' s l (c + 6012100 * i) ∧ DrawnV K G2 t n ss bs ∧ PlayIs K w G2 pl Tr bad ∧ TblV K G2 tb (tblOf n ss)) ⟨_, _, _, _, _, G1, rfl, d1, dv1, play1, htb1⟩ ?_ ?_⟩
    · clear d1 dv1 play1 htb1
      rintro i σ H2 hi ⟨o4, o5, o6, o7, o8, G2, rfl, d2, dv2, play2, htb2⟩
      refine ⟨_, rfl, _, rfl, by show 0 ≤ sizeLine; decide, fun em hem => ?_⟩
      have d3 := d2.newG (o := .lst []) hem
      have u3 : Same G2 (upd G2 em (.lst [])) := Same.upd_none (d2.sub.free hem)
      have hem3 : SqL K (upd G2 em (.lst [])) em (([] : List Str).map V.str) := SqL.of upd_same
      generalize upd G2 em (.lst []) = G3 at d3 u3 hem3
      obtain ⟨c3, hc3, st3⟩ := d3.st
      refine ⟨G3, s, l, tb, em, c3, 6, tblOf n ss, [], rfl, d3.sub, d3.gs, d3.gl, st3, by omega, htb2.same u3, .inl hem3, ok.shut, by decide, fun F H4 G4 xs ks v c4 g4 hF hxs hp hkl st4 hc4 => ?_⟩
      have d4 := d3.call (b2 := c + 6012100 * i + 7) g4 st4 (by omega)
      have gT := pth_true hp
      obtain ⟨ds, hds, hwd⟩ := pth_words ok gT
      obtain ⟨Bv, hgo, _⟩ := pth_iff.mp gT
      have hbe := behind_ok ok gT hds (fun d m => (hwd d m).1)
      have hdl : ds.length ≤ 6 := by
        have := congrArg List.length hds
        rw [List.length_map] at this
        omega
      have hdq : DqAll K G4 xs ds := dq_run (fun d m => (hwd d m).1) (by rw [hds]; exact hxs)
      have hxl : xs.length = ds.length := hdq.length
      have hbd : behindD (adjQ (fun _ => true) Tr) (.sq ds) = .ok v := by rw [hadj]; exact hbe
      have hfine : fineD (.sq ds) := ⟨by omega, fun d m => ⟨(hwd d m).2.1, (hwd d m).2.2.1⟩⟩
      obtain ⟨z1, z2, z3⟩ := run_size hwd hdl
      have u4 := u3.trans g4.up
      have dv4 := dv2.same u4
      have play4 := play2.same u4
      have htb4 := htb2.same u4
      clear dv2 play2 htb2 d3 d2 hem3 hem
      have told_eq : ∀ {v1 : Nat} {B1 zs1 : List Str}, Go (rowsT Tr) (ds.map keyD) v1 B1 → (∀ x, x ∈ zs1 ↔ x ∈ B1) → ∀ x, x ∈ zs1 ↔ x ∈ Bv := by
        intro v1 B1 zs1 hg1 hm1 x
        rw [hds] at hg1
        obtain ⟨B1', hgo1, hB1⟩ := made.alike.1.go hg1
        obtain ⟨e1, e2⟩ := Go.det ok.det hgo1 hgo
        subst e1 e2
        exact (hm1 x).trans (hB1 x)
      have hB6 : Sub Bv base6 := go_sub ok hgo
      simp only [L2.wipe, L2.start, List.map_cons, List.map_nil, List.set_cons_zero, List.set_cons_succ, List.length_cons, List.length_nil, List.cons_append, List.nil_append, Nat.reduceAdd, Nat.reduceSub, List.replicate]
      try dsimp (config := { proj := false }) only [tNext, tRet, tOp, tSeq, gName, tAsg]
      refine ⟨_, rfl, _, rfl, _, rfl, ?_⟩
      obtain ⟨c5, hc5, st5⟩ := d4.st
      refine ⟨G4, s, l, c5, .ref F, .sq ds, rfl, d4.sub, d4.gs, d4.gl, st5, by omega, .lst hF hdq, z1, z2, fun v' H5 G5 c6 g5 hv' st6 hc6 => ?_⟩
      have d5 := d4.call (b2 := c + 6012100 * i + 7 + 6012007) g5 st6 (by omega)
      refine ⟨G5, pl, v', .sq ds, Tr, bad, base6, rfl, d5.sub, play4.same g5.up, hfit, hTl, made.closed, hv', hfine, fun ds' s' e hok told H6 G6 zs1 B1 v1 hg1 hs1 hm1 g6 hn6 hG6 hT6 => ?_, fun i' e => by rw [hbd] at e; cases e⟩
      injection e with e
      subst e
      have hz1 := told_eq hg1 hm1
      have d6 := d5.calm g6
      have hnT := d5.not hn6
      have hfr := d5.fresh hn6
      have u6 := g5.up.trans g6.up
      have hzl := take_len_base hs1.nodup fun x m => hB6 x ((hz1 x).mp m)
      refine ⟨_, rfl, _, rfl, _, rfl, G6, t, F, n, ss, bs, xs, ks, v, Bv, rfl, d6.sub, dv4.same u6, ok, u6.seq hF, dpA_mono u6 hxs, hgo, fun F7 H7 G7 zs2 g7 hF7 hs2 hm2 => ?_⟩
      have d7 := d6.calm g7
      have hT7 := g7.keep hT6
      have hG7 := g7.out hT6 hG6
      have hzz : zs1 = zs2 := srt_ext hs1 hs2 fun x => (hz1 x).trans (hm2 x).symm
      subst hzz
      refine ⟨.ref told, .ref F7, rfl, sm_strs (SqL.of hT7) (d7.sub.seq hF7) (by omega), fun H8 s8 => ⟨_, rfl, ite_n rfl ?_⟩⟩
      have d8 := d7.calm (Gr.of d7.sub s8)
      have hT8 := s8 _ _ hT7
      refine ⟨_, rfl, .inl ⟨rfl, _, SqL.of hT8⟩, told, _, .str "late", rfl, rfl, hT8, Nat.lt_of_le_of_lt (show (zs1.map V.str).length ≤ 6 by rw [List.length_map]; exact hzl) (by decide), ?_⟩
      have d9 := d8.put (ys := zs1.map V.str ++ [.str "late"]) hT8 hG7 hnT hfr
      generalize upd H8 told (.lst (zs1.map V.str ++ [.str "late"])) = H9 at d9 ⊢
      have u7 := u6.trans g7.up
      have hF7' := u7.seq hF
      have hxs7 := dpA_mono u7 hxs
      have hdq7 := DqAll.mono u7 _ _ hdq
      have dv7 := dv4.same u7
      have play7 := play4.same u7
      have htb7 := htb4.same u7
      clear d8 d7 d6 d5 d4 dv4 play4 htb4 hdq hxs hF hT6 hT7 hT8 hG6 hG7 hs2 hm2 hs1 hm1 hg1 hz1 hv' hfr hzl
      simp only [L2.wipe, L2.start, List.map_cons, List.map_nil, List.set_cons_zero, List.set_cons_succ, List.length_cons, List.length_nil, List.cons_append, List.nil_append, Nat.reduceAdd, Nat.reduceSub, List.replicate]
      try dsimp (config := { proj := false }) only [tNext, tRet, tOp, tSeq, gName, tAsg]
      refine ⟨_, rfl, _, rfl, G7, pl, .ref F, .sq ds, Tr, bad, base6, rfl, d9.sub, play7, hfit, hTl, made.closed, .lst hF7' hdq7, hfine, fun ds' s' e hok told2 H10 G10 zs3 B3 v3 hg3 hs3 hm3 g10 hn10 hG10 hT10 => ?_, fun i' e => by rw [hbd] at e; cases e⟩
      injection e with e
      subst e
      have hz3 := told_eq hg3 hm3
      have d10 := d9.calm g10
      have hzl3 := take_len_base hs3.nodup fun x m => hB6 x ((hz3 x).mp m)
      refine ⟨_, rfl, _, rfl, G10, t, F, n, ss, bs, xs, ks, v, Bv, rfl, d10.sub, dv7.same g10.up, ok, g10.up.seq hF7', dpA_mono g10.up hxs7, hgo, fun F11 H11 G11 zs4 g11 hF11 hs4 hm4 => ?_⟩
      have d11 := d10.calm g11
      have hT11 := g11.keep hT10
      have hzz : zs3 = zs4 := srt_ext hs3 hs4 fun x => (hz3 x).trans (hm4 x).symm
      subst hzz
      refine ⟨.ref told2, .ref F11, rfl, sm_strs (SqL.of hT11) (d11.sub.seq hF11) (by omega), fun H12 s12 => ⟨_, rfl, ite_n rfl ?_⟩⟩
      have d12 := d11.calm (Gr.of d11.sub s12)
      have u11 := g10.up.trans g11.up
      have hF12 := u11.seq hF7'
      have hdq12 := DqAll.mono u11 _ _ hdq7
      have dv12 := dv7.same u11
      have play12 := play7.same u11
      have htb12 := htb7.same u11
      clear d11 d10 d9 dv7 play7 htb7 hdq7 hxs7 hF7' hT10 hT11 hG10 hn10 hs4 hm4 hs3 hm3 hg3 hz3 hzl3
      simp only [L2.wipe, L2.start, List.map_cons, List.map_nil, List.set_cons_zero, List.set_cons_succ, List.length_cons, List.length_nil, List.cons_append, List.nil_append, Nat.reduceAdd, Nat.reduceSub, List.replicate]
      try dsimp (config := { proj := false }) only [tNext, tRet, tOp, tSeq, gName, tAsg]
      refine ⟨_, rfl, _, rfl, F, xs, rfl, .inl (d12.sub.seq hF12), _, _, rfl, rfl, ?_⟩
      have e3 : ((xs.length : Nat) : Int) + 1 = ((xs.length + 1 : Nat) : Int) := by omega
      try dsimp (config := { proj := false }) only [tCons, tC, tNil, tCall, List.cons_append, List.nil_append]
      rw [e3]
      refine d12.draw (xs.length + 1) (by omega) (by omega) (by omega) fun at_ H13 hat g13 d13 => ?_
      simp only [L2.wipe, L2.start, List.map_cons, List.map_nil, List.set_cons_zero, List.set_cons_succ, List.length_cons, List.length_nil, List.cons_append, List.nil_append, Nat.reduceAdd, Nat.reduceSub, List.replicate]
      try dsimp (config := { proj := false }) only [tNext, tRet, tOp, tSeq, gName, tAsg]
      refine ⟨_, rfl, ?_⟩
      refine fun dd hdd => ⟨by show 1 ≤ sizeLine; decide, fun ln hln => ⟨by show 2 ≤ sizeLine; decide, fun td htd => ⟨by show 1 ≤ sizeLine; decide, fun lx hlx => ⟨by show 1 ≤ sizeLine; decide, fun ly hly => ⟨by show 8 ≤ sizeLine; decide, fun lo hlo => ?_⟩⟩⟩⟩⟩
      have d14 := d13.newG (o := .dK []) hdd
      have u14 : Same G11 (upd G11 dd (.dK [])) := Same.upd_none (d13.sub.free hdd)
      have hdd14 : upd G11 dd (.dK []) dd = some (.dK []) := upd_same
      generalize upd G11 dd (.dK []) = G14 at d14 u14 hdd14
      have d15 := d14.newG (o := .lst [.non]) hln
      have u15 : Same G14 (upd G14 ln (.lst [.non])) := Same.upd_none (d14.sub.free hln)
      have hln15 : SqL K (upd G14 ln (.lst [.non])) ln [.non] := SqL.of upd_same
      generalize upd G14 ln (.lst [.non]) = G15 at d15 u15 hln15
      have d16 := d15.newG (o := .tup [.str "do", .str "b"]) htd
      have u16 : Same G15 (upd G15 td (.tup [.str "do", .str "b"])) := Same.upd_none (d15.sub.free htd)
      have htd16 : SqT K (upd G15 td (.tup [.str "do", .str "b"])) td [.str "do", .str "b"] := SqT.of upd_same
      generalize upd G15 td (.tup [.str "do", .str "b"]) = G16 at d16 u16 htd16
      have d17 := d16.newG (o := .lst [.str "x"]) hlx
      have u17 : Same G16 (upd G16 lx (.lst [.str "x"])) := Same.upd_none (d16.sub.free hlx)
      have hlx17 : SqL K (upd G16 lx (.lst [.str "x"])) lx [.str "x"] := SqL.of upd_same
      generalize upd G16 lx (.lst [.str "x"]) = G17 at d17 u17 hlx17
      have d18 := d17.newG (o := .lst [.ref lx]) hly
      have u18 : Same G17 (upd G17 ly (.lst [.ref lx])) := Same.upd_none (d17.sub.free hly)
      have hly18 : SqL K (upd G17 ly (.lst [.ref lx])) ly [.ref lx] := SqL.of upd_same
      generalize upd G17 ly (.lst [.ref lx]) = G18 at d18 u18 hly18
      have d19 := d18.newG (o := .lst [.non, .str "never", .int 99, .ref dd, .bl true, .ref ln, .ref td, .ref ly]) hlo
      have u19 : Same G18 (upd G18 lo (.lst [.non, .str "never", .int 99, .ref dd, .bl true, .ref ln, .ref td, .ref ly])) := Same.upd_none (d18.sub.free hlo)
      have hlo19 : Sq K (upd G18 lo (.lst [.non, .str "never", .int 99, .ref dd, .bl true, .ref ln, .ref td, .ref ly])) lo [.non, .str "never", .int 99, .ref dd, .bl true, .ref ln, .ref td, .ref ly] := .inl (SqL.of upd_same)
      generalize upd G18 lo (.lst [.non, .str "never", .int 99, .ref dd, .bl true, .ref ln, .ref td, .ref ly]) = G19 at d19 u19 hlo19
      try dsimp (config := { proj := false }) only [tCons, tC, tNil, tCall, List.cons_append, List.nil_append]
      refine d19.pick (by omega) hlo19 (by show 1 ≤ 8; decide) (by show 8 ≤ 1000; decide) fun j odd H20 hodd g20 d20 => ?_
      obtain ⟨dodd, hdo, hood, hod3, how⟩ : ∃ dodd, Dq K G19 odd dodd ∧ Odd dodd ∧ dep dodd < 3 ∧ wide dodd ≤ 1000 := by
        have m := List.mem_of_getElem? hodd
        have u59 := ((u16.trans u17).trans u18).trans u19
        rcases List.mem_cons.mp m with rfl | m
        · exact ⟨.lf .non, .lf rfl, .inl rfl, by decide, by decide⟩
        rcases List.mem_cons.mp m with rfl | m
        · exact ⟨.lf (.str "never"), .lf rfl, .inr (by decide +kernel), by decide, by decide⟩
        rcases List.mem_cons.mp m with rfl | m
        · exact ⟨.lf (.int 99), .lf rfl, .inr (by decide +kernel), by decide, by decide⟩
        rcases List.mem_cons.mp m with rfl | m
        · exact ⟨.lf (.ref dd), .dct ((u15.trans u59) _ _ hdd14), .inl rfl, by show 0 < 3; decide, by show 0 ≤ 1000; decide⟩
        rcases List.mem_cons.mp m with rfl | m
        · exact ⟨.lf (.bl true), .lf rfl, .inl rfl, by decide, by decide⟩
        rcases List.mem_cons.mp m with rfl | m
        · exact ⟨.sq [.lf .non], .lst (u59.seq hln15) (.cons (.lf rfl) .nil), .inl rfl, by decide, by decide⟩
        rcases List.mem_cons.mp m with rfl | m
        · exact ⟨.sq [.lf (.str "do"), .lf (.str "b")], .tup (((u17.trans u18).trans u19).tp htd16) (.cons (.lf rfl) (.cons (.lf rfl) .nil)), .inr (by decide +kernel), by decide, by decide⟩
        rw [List.mem_singleton.mp m]
        exact ⟨.sq [.sq [.lf (.str "x")]], .lst (u19.seq hly18) (.cons (.lst ((u18.trans u19).seq hlx17) (.cons (.lf rfl) .nil)) .nil), .inr (by decide +kernel), by decide, by decide⟩
      have u20 := ((((u14.trans u15).trans u16).trans u17).trans u18).trans u19
      have hF20 := u20.seq hF12
      have hdq20 := DqAll.mono u20 _ _ hdq12
      have dv20 := dv12.same u20
      have play20 := play12.same u20
      have htb20 := htb12.same u20
      clear hlo19 hly18 hlx17 htd16 hln15 hdd14 dv12 play12 htb12 hF12 hdq12 d19 d18 d17 d16 d15 d14 d13 d12 hodd
      simp only [L2.wipe, L2.start, List.map_cons, List.map_nil, List.set_cons_zero, List.set_cons_succ, List.length_cons, List.length_nil, List.cons_append, List.nil_append, Nat.reduceAdd, Nat.reduceSub, List.replicate]
      try dsimp (config := { proj := false }) only [tNext, tRet, tOp, tSeq, gName, tAsg]
      refine ⟨d20.tb, fun H21 e21 tb21 => fun R => ?_⟩
      have d21 := d20.lam e21 tb21
      have f21 := flt_ext G19
      have hF21 := (ext_sq (K := K) f21).l _ _ hF20
      have hdq21 := DqAll.ext f21 _ _ hdq20
      have hdo21 := Dq.ext f21 _ _ hdo
      have dv21 := dv20.ext f21
      have play21 := play20.ext f21
      have htb21 := htb20.ext f21
      generalize flt G19 = G21 at d21 f21 hF21 hdq21 hdo21 dv21 play21 htb21
      clear d20 hF20 hdq20 hdo dv20 play20 htb20
      refine ⟨_, rfl, _, rfl, _, rfl, (at_ : Nat), rfl, F, xs, rfl, d21.sub.seq hF21, fun p1 hp1 => ?_⟩
      rw [cut_take]
      have hx6 : xs.length ≤ 6 := by omega
      have d22 := d21.newG (o := .lst (xs.take at_)) hp1
      have u22 : Same G21 (upd G21 p1 (.lst (xs.take at_))) := Same.upd_none (d21.sub.free hp1)
      have hp1' : upd H21 p1 (.lst (xs.take at_)) p1 = some (.lst (xs.take at_)) := upd_same
      generalize upd G21 p1 (.lst (xs.take at_)) = G22 at d22 u22
      generalize upd H21 p1 (.lst (xs.take at_)) = H22 at d22 hp1' ⊢
      refine ⟨_, rfl, by show 2 ≤ sizeLine; decide, fun p2 hp2 => ?_⟩
      have d23 := d22.newG (o := .lst [odd, .non]) hp2
      have u23 : Same G22 (upd G22 p2 (.lst [odd, .non])) := Same.upd_none (d22.sub.free hp2)
      refine ⟨p1, p2, _, _, rfl, rfl, (by rw [upd_ne (ne_sn hp1' hp2)]; exact hp1'), upd_same, Nat.le_trans (show (xs.take at_).length + 2 ≤ 8 by rw [List.length_take]; omega) (by decide), fun p3 hp3 => ?_⟩
      generalize upd G22 p2 (.lst [odd, .non]) = G23 at d23 u23
      generalize upd H22 p2 (.lst [odd, .non]) = H23 at d23 hp3 ⊢
      have d24 := d23.newG (o := .lst (xs.take at_ ++ [odd, .non])) hp3
      have u24 : Same G23 (upd G23 p3 (.lst (xs.take at_ ++ [odd, .non]))) := Same.upd_none (d23.sub.free hp3)
      have hp3' : upd H23 p3 (.lst (xs.take at_ ++ [odd, .non])) p3 = some (.lst (xs.take at_ ++ [odd, .non])) := upd_same
      generalize upd G23 p3 (.lst (xs.take at_ ++ [odd, .non])) = G24 at d24 u24
      generalize upd H23 p3 (.lst (xs.take at_ ++ [odd, .non])) = H24 at d24 hp3' ⊢
      have u34 := (u22.trans u23).trans u24
      refine ⟨_, rfl, _, rfl, (at_ : Nat), rfl, F, xs, rfl, d24.sub.seq (u34.seq hF21), fun p4 hp4 => ?_⟩
      rw [cut_drop]
      have d25 := d24.newG (o := .lst (xs.drop at_)) hp4
      have u25 : Same G24 (upd G24 p4 (.lst (xs.drop at_))) := Same.upd_none (d24.sub.free hp4)
      refine ⟨p3, p4, _, _, rfl, rfl, (by rw [upd_ne (ne_sn hp3' hp4)]; exact hp3'), upd_same, Nat.le_trans (show (xs.take at_ ++ [odd, .non]).length + (xs.drop at_).length ≤ 16 by rw [List.length_append, List.length_take, List.length_drop]; show _ + 2 + _ ≤ 16; omega) (by decide), fun p5 hp5 => ?_⟩
      generalize upd G24 p4 (.lst (xs.drop at_)) = G25 at d25 u25
      generalize upd H24 p4 (.lst (xs.drop at_)) = H25 at d25 hp5 ⊢
      have d26 := d25.newG (o := .lst (xs.take at_ ++ [odd, .non] ++ xs.drop at_)) hp5
      have u26 : Same G25 (upd G25 p5 (.lst (xs.take at_ ++ [odd, .non] ++ xs.drop at_))) := Same.upd_none (d25.sub.free hp5)
      have hp5' : SqL K (upd G25 p5 (.lst (xs.take at_ ++ [odd, .non] ++ xs.drop at_))) p5 (xs.take at_ ++ [odd, .non] ++ xs.drop at_) := SqL.of upd_same
      generalize upd G25 p5 (.lst (xs.take at_ ++ [odd, .non] ++ xs.drop at_)) = G26 at d26 u26 hp5'
      have u36 := (u34.trans u25).trans u26
      have hall : DqAll K G26 (xs.take at_ ++ [odd, .non] ++ xs.drop at_) (ds.take at_ ++ dodd :: .lf .non :: ds.drop at_) := by
        rw [List.append_assoc]
        exact ((DqAll.mono u36 _ _ hdq21).takeN at_).app (.cons (Dq.mono u36 _ _ hdo21) (.cons (.lf rfl) ((DqAll.mono u36 _ _ hdq21).dropN at_)))
      have hbad : behindD (adjQ (fun _ => true) Tr) (.sq (ds.take at_ ++ dodd :: .lf .non :: ds.drop at_)) = .error at_ := by
        rw [hadj]
        exact behind_odd ok gT hds (fun d m => (hwd d m).1) at_ (by omega) hood _
      refine ⟨G26, pl, .ref p5, .sq (ds.take at_ ++ dodd :: .lf .non :: ds.drop at_), Tr, bad, base6, rfl, d26.sub, play21.same u36, hfit, hTl, made.closed, .lst hp5' hall, ⟨?_, fun d m => ?_⟩, fun ds' s' e hok => ?_, fun i' e dd' H27 s27 hdd' => ?_⟩
      · rw [List.length_append, List.length_take]
        show _ + ((ds.drop at_).length + 1 + 1) ≤ 1000
        rw [List.length_drop]
        omega
      · rcases List.mem_append.mp m with m | m
        · have := hwd d (List.mem_of_mem_take m)
          exact ⟨this.2.1, this.2.2.1⟩
        · rcases List.mem_cons.mp m with rfl | m
          · exact ⟨hod3, how⟩
          · rcases List.mem_cons.mp m with rfl | m
            · exact ⟨by decide, by decide⟩
            · have := hwd d (List.mem_of_mem_drop m)
              exact ⟨this.2.1, this.2.2.1⟩
      · rw [hbad] at hok
        cases hok
      · rw [hbad] at e
        cases e
        have d27 := d26.calm (Gr.of d26.sub s27)
        refine ⟨dd', at_, rfl, hdd', .inr ⟨rfl, fun p hp => ?_⟩⟩
        have d28 := d27.newG (o := .tup [.str "word", .int (at_ : Nat)]) hp
        have u28 : Same G26 (upd G26 p (.tup [.str "word", .int (at_ : Nat)])) := Same.upd_none (d27.sub.free hp)
        have hp28 : SqT K (upd G26 p (.tup [.str "word", .int (at_ : Nat)])) p [.str "word", .int (at_ : Nat)] := SqT.of upd_same
        generalize upd G26 p (.tup [.str "word", .int (at_ : Nat)]) = G28 at d28 u28 hp28
        refine ⟨_, rfl, by show 2 ≤ sizeLine; decide, fun q hq => ?_⟩
        have d29 := d28.newG (o := .tup [.str "word", .int (at_ : Nat)]) hq
        have u29 : Same G28 (upd G28 q (.tup [.str "word", .int (at_ : Nat)])) := Same.upd_none (d28.sub.free hq)
        have hq29 : SqT K (upd G28 q (.tup [.str "word", .int (at_ : Nat)])) q [.str "word", .int (at_ : Nat)] := SqT.of upd_same
        generalize upd G28 q (.tup [.str "word", .int (at_ : Nat)]) = G29 at d29 u29 hq29
        refine ⟨.ref p, .ref q, rfl, .tup (d29.sub.tp (u29.tp hp28)) (d29.sub.tp hq29) rfl (by show 2 ≤ 10000; decide) (fun i x y e1 e2 => ?_), fun H30 s30 => ⟨_, rfl, ite_n rfl ?_⟩⟩
        · rw [e1] at e2
          cases e2
          match i, e1 with
          | 0, e1 => cases e1; exact .str 0 _
          | 1, e1 => cases e1; exact .int 0 _
          | i + 2, e1 => cases e1
        · have d30 := d29.calm (Gr.of d29.sub s30)
          have u30 := (u36.trans u28).trans u29
          exact ⟨_, _, _, _, _, G29, rfl, d30.le (by omega), dv21.same u30, play21.same u30, htb21.same u30⟩
    · clear d1 dv1 play1 htb1
      rintro σ H2 ⟨o4, o5, o6, o7, o8, G2, rfl, d2, dv2, play2, htb2⟩
      refine fun dd hdd => ⟨by show 5 ≤ sizeLine; decide, fun tp htp => ?_⟩
      have d3 := d2.newG (o := .dK []) hdd
      have u3 : Same G2 (upd G2 dd (.dK [])) := Same.upd_none (d2.sub.free hdd)
      have hdd3 : upd G2 dd (.dK []) dd = some (.dK []) := upd_same
      generalize upd G2 dd (.dK []) = G3 at d3 u3 hdd3
      have d4 := d3.newG (o := .tup [.non, .int 5, .str "do", .ref dd, .bl true]) htp
      have u4 : Same G3 (upd G3 tp (.tup [.non, .int 5, .str "do", .ref dd, .bl true])) := Same.upd_none (d3.sub.free htp)
      have htp4 : SqT K (upd G3 tp (.tup [.non, .int 5, .str "do", .ref dd, .bl true])) tp [.non, .int 5, .str "do", .ref dd, .bl true] := SqT.of upd_same
      generalize upd G3 tp (.tup [.non, .int 5, .str "do", .ref dd, .bl true]) = G4 at d4 u4 htp4
      have play4 := play2.same (u3.trans u4)
      have hdd4 := u4 _ _ hdd3
      clear d3 d2 dv2 play2 htb2 hdd3 u3 u4 htp hdd
      refine ⟨tp, rfl, .inr ⟨⟨_, d4.sub.tp htp4⟩, fun D hD => ?_⟩⟩
      have hDm := d4.not hD
      have hDf := d4.fresh hD
      have dD := d4.mine (o := .lst []) hD
      have hgD := d4.sub.free hD
      refine lc_tup (K := K) (a := tp) (xs := [.non, .int 5, .str "do", .ref dd, .bl true]) (fun i H' => ∃ (G5 : Hp) (ps : List Addr), Ld Tb H G5 H' s l (c + 6012100 * 4) ∧ PlayIs K w G5 pl Tr bad ∧ SqT K G5 tp [.non, .int 5, .str "do", .ref dd, .bl true] ∧ G5 dd = some (.dK []) ∧ H' D = some (.lst (ps.map V.ref)) ∧ G5 D = none ∧ (∀ p ∈ ps, SqT K G5 p [.str "word", .int 0]) ∧ ps.length = i) ⟨G4, [], dD, play4, htp4, hdd4, upd_same, hgD, fun _ m => (nomatch m), rfl⟩ (fun i H' _ ⟨G5, _, d5, _, h5, _⟩ => d5.sub.tp h5) ?_ ?_
      · clear d4 play4 htp4 hdd4 dD hgD
        rintro i x H5 hx ⟨G5, ps, d5, play5, htp5, hdd5, hD5, hgD5, hps5, hpl5⟩
        refine ⟨rfl, y_te ?_⟩
        refine ⟨d5.tb, fun H6 e6 tb6 => fun R => ?_⟩
        have d6 := d5.lam e6 tb6
        have f6 := flt_ext G5
        have play6 := play5.ext f6
        have htp6 := (ext_sq (K := K) f6).t _ _ htp5
        have hdd6 := f6 _ _ hdd5 fun _ z => nomatch z
        have hps6 : ∀ p ∈ ps, SqT K (flt G5) p [.str "word", .int 0] := fun p m => (ext_sq (K := K) f6).t _ _ (hps5 p m)
        have hD6 := e6 _ _ hD5 fun _ z => nomatch z
        have hgD6 := flt_none hgD5
        generalize flt G5 = G6 at d6 f6 play6 htp6 hdd6 hps6 hgD6
        clear d5 play5 htp5 hdd5 hD5 hgD5 hps5
        have hxi : i < 5 := (List.getElem?_eq_some_iff.mp hx).1
        obtain ⟨dx, hdx, hdb, hdf⟩ : ∃ dx, Dq K G6 x dx ∧ behindD (adjQ (fun _ => true) Tr) dx = .error 0 ∧ fineD dx := by
          have m := List.mem_of_getElem? hx
          rcases List.mem_cons.mp m with rfl | m
          · exact ⟨.lf .non, .lf rfl, rfl, True.intro⟩
          rcases List.mem_cons.mp m with rfl | m
          · exact ⟨.lf (.int 5), .lf rfl, rfl, True.intro⟩
          rcases List.mem_cons.mp m with rfl | m
          · exact ⟨.lf (.str "do"), .lf rfl, rfl, True.intro⟩
          rcases List.mem_cons.mp m with rfl | m
          · exact ⟨.lf (.ref dd), .dct hdd6, rfl, True.intro⟩
          rw [List.mem_singleton.mp m]
          exact ⟨.lf (.bl true), .lf rfl, rfl, True.intro⟩
        refine ⟨_, rfl, _, rfl, G6, pl, x, dx, Tr, bad, base6, rfl, d6.sub, play6, hfit, hTl, made.closed, hdx, hdf, fun ds' s' e hok => ?_, fun i' e dd' H7 s7 hdd' => ?_⟩
        · rw [hdb] at hok
          cases hok
        · rw [hdb] at e
          cases e
          have d7 := d6.calm (Gr.of d6.sub s7)
          refine ⟨dd', ((0 : Nat) : Int), rfl, hdd', .inr ⟨rfl, fun p hp => ?_⟩⟩
          have hD7 := s7 _ _ hD6
          have d8 := d7.newG (o := .tup [.str "word", .int 0]) hp
          have u8 : Same G6 (upd G6 p (.tup [.str "word", .int 0])) := Same.upd_none (d7.sub.free hp)
          have hp8 : SqT K (upd G6 p (.tup [.str "word", .int 0])) p [.str "word", .int 0] := SqT.of upd_same
          have hD8 : upd H7 p (.tup [.str "word", .int 0]) D = some (.lst (ps.map V.ref)) := by rw [upd_ne (ne_sn hD7 hp)]; exact hD7
          have hgD8 : upd G6 p (.tup [.str "word", .int 0]) D = none := by rw [upd_ne (ne_sn hD7 hp)]; exact hgD6
          refine ⟨ps.map V.ref, hD8, Nat.lt_of_le_of_lt (show (ps.map V.ref).length ≤ 5 by rw [List.length_map]; omega) (by decide), ?_⟩
          have d9 := d8.put (ys := ps.map V.ref ++ [.ref p]) hD8 hgD8 hDm hDf
          refine ⟨_, ps ++ [p], d9, play6.same u8, u8.tp htp6, u8 _ _ hdd6, by rw [upd_same, List.map_append]; rfl, hgD8, fun q mq => ?_, by rw [List.length_append, hpl5]; rfl⟩
          rcases List.mem_append.mp mq with mq | mq
          · exact u8.tp (hps6 q mq)
          · rw [List.mem_singleton.mp mq]; exact hp8
      · clear d4 play4 htp4 hdd4 dD hgD
        rintro H5 ⟨G5, ps, d5, play5, htp5, hdd5, hD5, hgD5, hps5, hpl5⟩
        refine ⟨by show 2 ≤ sizeLine; decide, fun q hq => ⟨by show 1 ≤ sizeLine; decide, fun r hr5 => ?_⟩⟩
        have d6 := d5.newG (o := .tup [.str "word", .int 0]) hq
        have u6 : Same G5 (upd G5 q (.tup [.str "word", .int 0])) := Same.upd_none (d5.sub.free hq)
        have hq6 : SqT K (upd G5 q (.tup [.str "word", .int 0])) q [.str "word", .int 0] := SqT.of upd_same
        have hD6 : upd H5 q (.tup [.str "word", .int 0]) D = some (.lst (ps.map V.ref)) := by rw [upd_ne (ne_sn hD5 hq)]; exact hD5
        generalize upd G5 q (.tup [.str "word", .int 0]) = G6 at d6 u6 hq6
        generalize upd H5 q (.tup [.str "word", .int 0]) = H6 at d6 hr5 hD6 ⊢
        have d7 := d6.mine (o := .lst [.ref q]) hr5
        have hD7 : upd H6 r (.lst [.ref q]) D = some (.lst (ps.map V.ref)) := by rw [upd_ne (ne_sn hD6 hr5)]; exact hD6
        have hr7 : upd H6 r (.lst [.ref q]) r = some (.lst [.ref q]) := upd_same
        generalize upd H6 r (.lst [.ref q]) = H7 at d7 hD7 hr7 ⊢
        refine ⟨r, 5, _, rfl, rfl, hr7, by decide, by decide, by show 1 * 5 ≤ sizeLine; decide, fun z hz => ?_⟩
        have d8 := d7.mine (o := .lst [.ref q, .ref q, .ref q, .ref q, .ref q]) hz
        have hD8 : upd H7 z (.lst [.ref q, .ref q, .ref q, .ref q, .ref q]) D = some (.lst (ps.map V.ref)) := by rw [upd_ne (ne_sn hD7 hz)]; exact hD7
        have hz8 : upd H7 z (.lst [.ref q, .ref q, .ref q, .ref q, .ref q]) z = some (.lst [.ref q, .ref q, .ref q, .ref q, .ref q]) := upd_same
        have hst : ∀ p, SqT K G6 p [.str "word", .int 0] → Dp K (upd H7 z (.lst [.ref q, .ref q, .ref q, .ref q, .ref q])) (.ref p) (.tuple [.str "word", .int 0]) := fun p h => .tup (d8.sub.tp h) (.cons (.str _) (.cons (.int _) .nil))
        have hall : ∀ {ps : List Addr}, (∀ p ∈ ps, SqT K G6 p [.str "word", .int 0]) → DpAll K (upd H7 z (.lst [.ref q, .ref q, .ref q, .ref q, .ref q])) (ps.map V.ref) (List.replicate ps.length (.tuple [.str "word", .int 0])) := by
          intro ps
          induction ps with
          | nil => exact fun _ => .nil
          | cons p r ih => exact fun h => .cons (hst p (h p List.mem_cons_self)) (ih fun x m => h x (List.mem_cons_of_mem _ m))
        have h1 := hall (ps := ps) fun p m => u6.tp (hps5 p m)
        have hpl5 : ps.length = 5 := hpl5
        rw [hpl5] at h1
        have h2 := hall (ps := [q, q, q, q, q]) fun p m => by
          rcases List.mem_cons.mp m with rfl | m
          · exact hq6
          rcases List.mem_cons.mp m with rfl | m
          · exact hq6
          rcases List.mem_cons.mp m with rfl | m
          · exact hq6
          rcases List.mem_cons.mp m with rfl | m
          · exact hq6
          rw [List.mem_singleton.mp m]; exact hq6
        refine ⟨.list (List.replicate 5 (.tuple [.str "word", .int 0])), .list (List.replicate 5 (.tuple [.str "word", .int 0])), .lst (SqL.of hD8) h1, .lst (SqL.of hz8) h2, by decide +kernel, by decide +kernel, ?_⟩
        have e0 : PyData.eqv (.list (List.replicate 5 (.tuple [.str "word", .int 0]))) (.list (List.replicate 5 (.tuple [.str "word", .int 0]))) = true := by decide +kernel
        rw [e0]
        obtain ⟨c8, hc8, st8⟩ := d8.st
        exact k _ c8 (fun a o h n t => d8.old a o h n t) d8.tb st8 (by omega)
end
end K8
-- K8Xg0
set_option maxRecDepth 100000
set_option maxHeartbeats 1000000
namespace K8
open PySem PySem.Spec PyProof.Rows L2
open LamX (ExtN Tabs TabS CodeO)
section
variable {K : PySem.W.Frag} {w : World} {T : List (Addr × Str)} {H0 G H G2 H2 : Hp} {s l a F : Addr} {b b2 c : Nat} {o : HO}
/-- nothing is told of the heap -/
theorem Ld.drop (d : Ld T H0 G H s l b) : Ld T H0 (fun _ => none) H s l b := { d with sub := fun _ _ h => (nomatch h), gs := rfl, gl := rfl }
/-- a thing of one's own is told from now on -/
theorem Ld.give (d : Ld T H0 G H s l b) (h : H F = some o) (hm : ¬ SM s l F) : Ld T H0 (upd G F o) H s l b :=
  { d with
    sub := fun x u e => by
      by_cases z : x = F
      · subst z; rw [upd_same] at e; cases e; exact h
      · rw [upd_ne z] at e; exact d.sub x u e
    gs := by rw [upd_ne (fun e => hm (.inl e.symm))]; exact d.gs
    gl := by rw [upd_ne (fun e => hm (.inr e.symm))]; exact d.gl }
/-- a call that makes lambdas -/
theorem Ld.far (d : Ld T H0 G H s l b) (old : ∀ a o, H a = some o → ¬ SM s l a → NoTb o → H2 a = some o) (tb : Tabs T H2) (st : Strm H2 s l c) (hc : c ≤ b2) : Ld T H0 (flt G) H2 s l b2 where
  sub := fun x u h => by
    obtain ⟨h1, h2⟩ := flt_some h
    refine old x u (d.sub x u h1) (fun z => ?_) h2
    rcases z with rfl | rfl
    · rw [d.gs] at h1; cases h1
    · rw [d.gl] at h1; cases h1
  gs := flt_none d.gs
  gl := flt_none d.gl
  st := ⟨c, hc, st⟩
  tb := tb
  old := fun x u h n t => old x u (d.old x u h n t) n t
/-- what is told of a turn's play -/
structure Fx (K : PySem.W.Frag) (w : World) (G : Hp) (t pl FN FL : Addr) (n : Nat) (ss : List Stp) (bs : List Nat) (T : List Trow) (bad : List Nat) (names : List Str) (ys : List V) (Ls : List (List Str)) : Prop where
  dv : DrawnV K G t n ss bs
  play : PlayIs K w G pl T bad
  nm : G FN = some (.lst (names.map V.str))
  lt : SqL K G FL ys
  sets : SetsV K G ys Ls
section
variable {t pl FN FL : Addr} {n : Nat} {ss : List Stp} {bs : List Nat} {Tr : List Trow} {bad : List Nat} {names : List Str} {ys : List V} {Ls : List (List Str)}
theorem Fx.same (f : Fx K w G t pl FN FL n ss bs Tr bad names ys Ls) (u : Same G G2) : Fx K w G2 t pl FN FL n ss bs Tr bad names ys Ls := ⟨f.dv.same u, f.play.same u, u _ _ f.nm, u.seq f.lt, f.sets.same u⟩
theorem Fx.ext (f : Fx K w G t pl FN FL n ss bs Tr bad names ys Ls) (u : ExtN G G2) : Fx K w G2 t pl FN FL n ss bs Tr bad names ys Ls := ⟨f.dv.ext u, f.play.ext u, u _ _ f.nm fun _ z => (nomatch z), (ext_sq u).l _ _ f.lt, f.sets.ext u⟩
end
/-- rules that are none -/
def OddsV (K : PySem.W.Frag) (G : Hp) (vals : List V) : Prop := ∀ x ∈ vals, ∃ (p : Addr) (odd : V) (d : D) (due : Nat), x = .ref p ∧ SqT K G p [odd, .int (due : Nat)] ∧ Dq K G odd d ∧ rulesOut d = .error due ∧ shortD d
theorem OddsV.same {vals : List V} (h : OddsV K G vals) (u : Same G G2) : OddsV K G2 vals := fun x m => let ⟨p, odd, d, due, e, a, b, c⟩ := h x m; ⟨p, odd, d, due, e, u.tp a, Dq.mono u _ _ b, c⟩
theorem OddsV.ext {vals : List V} (h : OddsV K G vals) (u : ExtN G G2) : OddsV K G2 vals := fun x m => let ⟨p, odd, d, due, e, a, b, c⟩ := h x m; ⟨p, odd, d, due, e, (ext_sq u).t _ _ a, Dq.ext u _ _ b, c⟩
/-- lots of rules -/
def RulesV (K : PySem.W.Frag) (G : Hp) (vals : List V) : Prop := ∀ x ∈ vals, ∃ (p : Addr) (rs : List Str), x = .ref p ∧ SqL K G p (rs.map V.str) ∧ rs.Nodup ∧ (∀ r ∈ rs, nameB r = true) ∧ rs.length ≤ 7
theorem RulesV.same {vals : List V} (h : RulesV K G vals) (u : Same G G2) : RulesV K G2 vals := fun x m => let ⟨p, rs, e, a, b⟩ := h x m; ⟨p, rs, e, u.seq a, b⟩
theorem RulesV.app {vals us : List V} (h : RulesV K G vals) (k : RulesV K G us) : RulesV K G (vals ++ us) := fun x m => (List.mem_append.mp m).elim (h x) (k x)
theorem sm_tup {t1 t2 : Addr} {zs : List Str} (h1 : SqT K H t1 (zs.map V.str)) (h2 : SqT K H t2 (zs.map V.str)) (hl : zs.length ≤ 10000) : Sm K H 2 (.ref t1) (.ref t2) := by
  refine .tup h1 h2 rfl (by rw [List.length_map]; exact hl) fun i x y e1 e2 => ?_
  rw [e1] at e2
  cases e2
  rw [List.getElem?_map, Option.map_eq_some_iff] at e1
  obtain ⟨z, _, rfl⟩ := e1
  exact .str 0 z
theorem sm_sets {a1 a2 : Addr} {ys zs : List V} {Ls : List (List Str)} (h1 : SqL K H a1 ys) (h2 : SqL K H a2 zs) (k1 : SetsV K H ys Ls) (k2 : SetsV K H zs Ls) (hl : Ls.length ≤ 10000) (hs : ∀ L ∈ Ls, L.length ≤ 10000) : Sm K H 3 (.ref a1) (.ref a2) := by
  refine .lst h1 h2 ((Paired.length k1).trans (Paired.length k2).symm) (by rw [Paired.length k1]; exact hl) fun i x y e1 e2 => ?_
  obtain ⟨L, hL, d1⟩ := paired_get k1 e1
  obtain ⟨L', hL', d2⟩ := paired_get k2 e2
  rw [hL] at hL'
  cases hL'
  obtain ⟨t1, rfl, q1⟩ := setV_tup d1
  obtain ⟨t2, rfl, q2⟩ := setV_tup d2
  exact sm_tup q1 q2 (hs L (List.mem_of_getElem? hL))
end
theorem LotsOk.few {n : Nat} {ss : List Stp} {bs : List Nat} {names : List Str} {Ls : List (List Str)} (hn : Srt strO names) (h6 : names.length ≤ 6) (h : LotsOk n ss bs names Ls) : Ls.length ≤ 64 := by
  obtain ⟨p, rfl, _⟩ := h
  have h1 := (least_sublist ((levelsUpTo ltS names names.length).filter p)).length_le
  have h2 := List.length_filter_le p (levelsUpTo ltS names names.length)
  have h3 := levels64 hn h6
  omega
/-- for x in a tuple, where what is told of the heap changes -/
theorem ft_P {K : PySem.W.Frag} {a : Addr} {xs : List V} {g : TG} {tb : TS} {D : Ends} {σ : L2.St} {H : Hp} (Pv : Nat → L2.St → Hp → Prop) (h0 : Pv 0 σ H) (src : ∀ i σ H, Pv i σ H → SqT K H a xs)
    (hs : ∀ i x σ H, xs[i]? = some x → Pv i σ H → g x σ H fun σ2 H2 => tb { D with nx := Pv (i + 1), ct := Pv (i + 1), bk := D.nx } σ2 H2) (hd : ∀ σ H, Pv xs.length σ H → D.nx σ H) :
    ∃ W : Nat → Nat → L2.St → Hp → Prop, (∃ m, W 0 m σ H) ∧ ∀ i m σ H, W i m σ H → ((Itt K a).stop i H ∧ D.nx σ H) ∨ ((Itt K a).go i H ∧ ∃ N : L2.St → Hp → Prop, (∀ σ' H', N σ' H' → ∃ m', m' < m ∧ W (i + 1) m' σ' H') ∧
      ∀ x H', (Itt K a).yld i H x H' → g x σ H' fun σ2 H2 => tb { D with nx := N, ct := N, bk := D.nx } σ2 H2) :=
  for_it (walk_tup (K := K) (a := a) (xs := xs)) Pv h0 (fun i σ H _ p => src i σ H p) (fun i x σ H H' hi p y => by
    obtain ⟨rfl, hx⟩ := y
    exact hs i x σ _ hx p) hd
/-- .. in a list -/
theorem fl_P {K : PySem.W.Frag} {a : Addr} {xs : List V} {g : TG} {tb : TS} {D : Ends} {σ : L2.St} {H : Hp} (Pv : Nat → L2.St → Hp → Prop) (h0 : Pv 0 σ H) (src : ∀ i σ H, Pv i σ H → SqL K H a xs)
    (hs : ∀ i x σ H, xs[i]? = some x → Pv i σ H → g x σ H fun σ2 H2 => tb { D with nx := Pv (i + 1), ct := Pv (i + 1), bk := D.nx } σ2 H2) (hd : ∀ σ H, Pv xs.length σ H → D.nx σ H) :
    ∃ W : Nat → Nat → L2.St → Hp → Prop, (∃ m, W 0 m σ H) ∧ ∀ i m σ H, W i m σ H → ((Itl K a).stop i H ∧ D.nx σ H) ∨ ((Itl K a).go i H ∧ ∃ N : L2.St → Hp → Prop, (∀ σ' H', N σ' H' → ∃ m', m' < m ∧ W (i + 1) m' σ' H') ∧
      ∀ x H', (Itl K a).yld i H x H' → g x σ H' fun σ2 H2 => tb { D with nx := N, ct := N, bk := D.nx } σ2 H2) :=
  for_it (walk_list (K := K) (a := a) (xs := xs)) Pv h0 (fun i σ H _ p => src i σ H p) (fun i x σ H H' hi p y => by
    obtain ⟨rfl, hx⟩ := y
    exact hs i x σ _ hx p) hd
theorem odd_e1 : rulesOut (.sq [.lf (.str "look"), .lf (.str "look")]) = .error 1 := by rfl
theorem odd_e2 : rulesOut (.sq [.lf (.str "look"), .lf (.str "A"), .lf (.str "look")]) = .error 1 := by rfl
theorem odd_s1 : shortD (.sq [.lf (.str "look"), .lf (.str "look")]) := ⟨by decide, fun s m => by
  rcases List.mem_cons.mp m with e | m
  · cases e; decide +kernel
  · cases List.mem_singleton.mp m; decide +kernel⟩
theorem odd_s2 : shortD (.sq [.lf (.str "look"), .lf (.str "A"), .lf (.str "look")]) := ⟨by decide, fun s m => by
  rcases List.mem_cons.mp m with e | m
  · cases e; decide +kernel
  rcases List.mem_cons.mp m with e | m
  · cases e; decide +kernel
  · cases List.mem_singleton.mp m; decide +kernel⟩
theorem odd_s3 : shortD (.sq [.lf (.int 5)]) := ⟨by decide, fun s m => by cases List.mem_singleton.mp m⟩
abbrev nvS : Str := "never"
theorem never_new : ("never" : Str) ∉ base6 ∧ nameB "never" = true := by decide +kernel
end K8
-- K8Xg
set_option maxRecDepth 100000
set_option maxHeartbeats 2000000
namespace K8
open PySem PySem.Spec PyProof.Rows L2
open LamX (ExtN Tabs TabS CodeO)
def spLaw (K : PySem.W.Frag) (Tb : List (Addr × Str)) : Sp := fun vs H Q _ => ∃ (a : Addr) (cs : List Int), vs = [.ref a] ∧ SqL K H a (cs.map V.int) ∧ cs.length ≤ 63 ∧ Tabs Tb H ∧ ∀ H', Q (.bl true) H'
theorem sc_law : FnScope ["_law_script", "_law_stream", "_law_turn", "_law_drawn", "_law_play", "_law_names", "_law_lots", "_law_told", "_law_some", "_law_rules", "_law_lot", "_law_run_here", "_law_odd", "_law_due", "_law_k", "_law_rule"] ["_law_script"] (defScope s_law) := ⟨rfl, rfl, rfl, by decide +kernel, rfl, by decide +kernel, by decide +kernel⟩
section
variable {P : Program} {w : World} {K : PySem.W.Frag} {mg : Str → Option Value} {base : Heap}
theorem ok_law (T : Txt K mg) {Tb : List (Addr × Str)} (B : TbOk K mg base Tb "_law_barring_right") (BL : TbOk K mg base Tb "law") : ClG P w K mg base 12 "law" (spLaw K Tb) := by
  refine cl0C (T.F_law) T.g_law sc_law (fun vs H Q E h => ?_) (fun _ _ _ _ _ _ us hl => match us, hl with | [_], _ => rfl) (fun cdv A outer s H vs Q E gd hcv hr h => ?_)
  · obtain ⟨a, cs, rfl, _⟩ := h
    rfl
  · subst hcv
    obtain ⟨a, cs, rfl, hsc, hcl, htb, k⟩ := h
    refine ⟨_, (pss_cons (ps_set (i := 1) sc_law.nd rfl (by first | exact Or.inl rfl | exact Or.inr rfl) (pe_cl (ok_z_start (K := K) T) hr (by decide) pass0 (pa_cons (pv 0) pa_nil)))
      (pss_cons (ps_for PassesOwn.never rfl (pi_range1 (by rfl) T.f_range (pa_cons pe_int pa_nil)) (pg_name (i := 2) sc_law.nd rfl (by first | exact Or.inl rfl | exact Or.inr rfl))
        (pss_cons (ps_set (i := 3) sc_law.nd rfl (by first | exact Or.inl rfl | exact Or.inr rfl) (pe_cl (ok_x_some (K := K) T) hr (by decide) pass0 (pa_cons (pv 1) pa_nil)))
        (pss_cons (ps_asg (pe_tup (pa_cons (pe_cl (ok_x_made (K := K) (w := w) T) hr (by decide) pass0 (pa_cons (pv 1) (pa_cons (pv 3) pa_nil))) (pa_cons (pe_cl (ok_x_names (K := K) T) hr (by decide) pass0 (pa_cons (pv 3) pa_nil)) (pa_cons (pe_cl (ok_x_threats (K := K) T) hr (by decide) pass0 (pa_cons (pv 3) pa_nil)) pa_nil)))) (tupG (KK := K) (n := 3) (by rfl) (pgs_cons (pg_name (i := 4) sc_law.nd rfl (by first | exact Or.inl rfl | exact Or.inr rfl)) (pgs_cons (pg_name (i := 5) sc_law.nd rfl (by first | exact Or.inl rfl | exact Or.inr rfl)) (pgs_cons (pg_name (i := 6) sc_law.nd rfl (by first | exact Or.inl rfl | exact Or.inr rfl)) pgs_nil)))))
        (pss_cons (ps_set (i := 7) sc_law.nd rfl (by first | exact Or.inl rfl | exact Or.inr rfl) (pe_cl (ok_threats (K := K) (w := w) T) hr (by decide) pass0 (pa_cons (pv 4) pa_nil)))
        (pss_cons (ps_if (PW.pt (pw_or (pt_not (pt_val (pe_cl (ok_z_same (K := K) T 3) hr (by decide) pass0 (pa_cons (pv 7) (pa_cons (pv 6) pa_nil))))) (pw_or1 (pt_not (pt_val (pe_clG (ok_z_barring_right (K := K) (w := w) T B) gd hr (by decide) (pa_cons (pv 1) (pa_cons (pv 3) (pa_cons (pv 4) pa_nil)))))))))
          (pss_one (ps_ret pe_bl))
          pss_nil)
        (pss_cons (ps_expr (pe_bm PySem.F.plainAttrs_list PySem.F.slot_list_append PySem.F.type_list_append mt_append (pv 7) (pa_cons pe_str pa_nil)))
        (pss_cons (ps_if (pt_not (pt_val (pe_cl (ok_z_same (K := K) T 3) hr (by decide) pass0 (pa_cons (pe_cl (ok_threats (K := K) (w := w) T) hr (by decide) pass0 (pa_cons (pv 4) pa_nil)) (pa_cons (pv 6) pa_nil)))))
          (pss_one (ps_ret pe_bl))
          pss_nil)
        (pss_cons (ps_setLc (i := 8) (own := [("_law_k", 14)]) rfl sc_law.nd rfl rfl (sw_true rfl rfl rfl (by kernel_rfl)) (pi_range1 (by rfl) T.f_range (pa_cons pe_int pa_nil)) (blkOk_by (by kernel_rfl)) (fun _ _ _ _ _ => (pg_name (i := 14) sc_law.nd rfl (by first | exact Or.inl rfl | exact Or.inr rfl))) (fun _ _ _ _ _ => pts_nil) (fun _ _ _ _ _ => (pe_slice (slK (KK := K)) (pe_cl (ok_z_mixed (K := K) T) hr (by decide) pass0 (pa_cons (pv 1) (pa_cons (pv 5) pa_nil))) po_none (po_some (pe_cl (ok_z_draw (K := K) T) hr (by decide) pass0 (pa_cons (pv 1) (pa_cons (pe_op op_add (pe_callB (lenQ (KK := K)) (by rfl) T.f_len (by decide +kernel) (pa_cons (pv 5) pa_nil)) pe_int) pa_nil)))))))
        (pss_cons (ps_for PassesOwn.never rfl (sqI (KK := K) (pe_op op_cat (pe_op op_cat (pv 8) (pe_lst (pa_cons (pv 5) (pa_cons (pe_op op_cat (pv 5) (pe_lst (pa_cons pe_str pa_nil))) (pa_cons (pe_lst pa_nil) pa_nil))))) (pe_lc (own := [("_law_lot", 10)]) rfl sc_law.nd (sqI (KK := K) (pv 6)) (blkOk_by (by kernel_rfl)) (fun _ _ _ _ _ => (pg_name (i := 10) sc_law.nd rfl (by first | exact Or.inl rfl | exact Or.inr rfl))) (fun _ _ _ _ _ => pts_nil) (fun _ _ _ _ _ => (pe_callTy (listQ (KK := K)) (by rfl) T.f_list (by decide +kernel) (pa_cons (pv 10) pa_nil)))))) (pg_name (i := 9) sc_law.nd rfl (by first | exact Or.inl rfl | exact Or.inr rfl))
          (pss_cons (ps_if (pt_not (pt_val (pe_clG (ok_z_threat_run_right (K := K) (w := w) T) gd hr (by decide) (pa_cons (pv 1) (pa_cons (pv 3) (pa_cons (pv 4) (pa_cons (pv 9) pa_nil)))))))
            (pss_one (ps_ret pe_bl))
            pss_nil)
          (pss_one (ps_if (pt_cmpR op_ne (pe_cl (ok_keeps (K := K) (w := w) T) hr (by decide) pass0 (pa_cons (pv 4) (pa_cons (pv 9) pa_nil))) (pe_callB (allK (KK := K) rfl) (by rfl) T.f_all (by decide +kernel) (pa_cons (pe_lc (own := [("_law_lot", 10)]) rfl sc_law.nd (sqI (KK := K) (pv 6)) (blkOk_by (by kernel_rfl)) (fun _ _ _ _ _ => (pg_name (i := 10) sc_law.nd rfl (by first | exact Or.inl rfl | exact Or.inr rfl))) (fun _ _ _ _ _ => pts_nil) (fun _ _ _ _ _ => (pe_callB (anyK (KK := K) rfl) (by rfl) T.f_any (by decide +kernel) (pa_cons (pe_lc (own := [("_law_rule", 15)]) rfl sc_law.nd (sqI (KK := K) (pv 10)) (blkOk_by (by kernel_rfl)) (fun _ _ _ _ _ => (pg_name (i := 15) sc_law.nd rfl (by first | exact Or.inl rfl | exact Or.inr rfl))) (fun _ _ _ _ _ => pts_nil) (fun _ _ _ _ _ => (pe_cmpR (inX (KK := K) (u1 hr)) (pv 15) (pv 9) (by rfl)))) pa_nil)))) pa_nil)) (nomark _))
            (pss_one (ps_ret pe_bl))
            pss_nil))))
        (pss_cons (ps_for PassesOwn.never rfl (sqI (KK := K) (pv 6)) (pg_name (i := 10) sc_law.nd rfl (by first | exact Or.inl rfl | exact Or.inr rfl))
          (pss_cons (ps_set (i := 11) sc_law.nd rfl (by first | exact Or.inl rfl | exact Or.inr rfl) (pe_cl (ok_threat_run (K := K) (w := w) T) hr (by decide) passE0 (pa_cons (pv 4) (pa_cons (pv 10) pa_nil))))
          (pss_one (ps_if (pt_not (pt_val (pe_cl (ok_z_same (K := K) T 2) hr (by decide) pass0 (pa_cons (pe_cl (ok_barring (K := K) (w := w) T) hr (by decide) passE0 (pa_cons (pv 4) (pa_cons (pv 11) pa_nil))) (pa_cons (pe_callTy (listQ (KK := K)) (by rfl) T.f_list (by decide +kernel) (pa_cons (pv 10) pa_nil)) pa_nil)))))
            (pss_one (ps_ret pe_bl))
            pss_nil))))
        (pss_cons (ps_for PassesOwn.never rfl (sqI (KK := K) (pe_tup (pa_cons (pe_tup (pa_cons pe_non (pa_cons pe_int pa_nil))) (pa_cons (pe_tup (pa_cons (pe_lst (pa_cons pe_str (pa_cons pe_str pa_nil))) (pa_cons pe_int pa_nil))) (pa_cons (pe_tup (pa_cons (pe_lst (pa_cons pe_str (pa_cons pe_str (pa_cons pe_str pa_nil)))) (pa_cons pe_int pa_nil))) (pa_cons (pe_tup (pa_cons pe_str (pa_cons pe_int pa_nil))) (pa_cons (pe_tup (pa_cons (pe_lst (pa_cons pe_int pa_nil)) (pa_cons pe_int pa_nil))) (pa_cons (pe_tup (pa_cons pe_dnewK (pa_cons pe_int pa_nil))) pa_nil)))))))) (tupG (KK := K) (n := 2) (by rfl) (pgs_cons (pg_name (i := 12) sc_law.nd rfl (by first | exact Or.inl rfl | exact Or.inr rfl)) (pgs_cons (pg_name (i := 13) sc_law.nd rfl (by first | exact Or.inl rfl | exact Or.inr rfl)) pgs_nil)))
          (pss_one (ps_if (pt_not (pt_val (pe_cl (ok_z_same (K := K) T 2) hr (by decide) pass0 (pa_cons (lamMet (KK := K) (Tb := Tb) T 4 BL.tab rfl BL.mem BL.one (hr.mono (by decide)) (LamX.lamS_by (by kernel_rfl)) rfl (fun _ _ _ _ _ => rfl) (fun _ _ _ _ _ _ _ hr2 => pe_cl (ok_threat_run (K := K) (w := w) T) hr2 (by decide) (passes_call (takes_of rfl rfl rfl rfl) fun _ _ _ _ h => h) (pa_cons (pv 4) (pa_cons (pv 12) pa_nil)))) (pa_cons (pe_tup (pa_cons pe_str (pa_cons (pv 13) pa_nil))) pa_nil)))))
            (pss_one (ps_ret pe_bl))
            pss_nil)))
        (pss_one (ps_if (pt_not (pt_val (pe_cl (ok_z_same (K := K) T 3) hr (by decide) pass0 (pa_cons (pe_cl (ok_threats (K := K) (w := w) T) hr (by decide) pass0 (pa_cons (pv 4) pa_nil)) (pa_cons (pv 6) pa_nil)))))
          (pss_one (ps_ret pe_bl))
          pss_nil)))))))))))))
      (pss_one (ps_ret pe_bl)))), ?_⟩
    refine ⟨_, rfl, a, cs, rfl, .inl hsc, hcl, fun s l H1 s1 hs hl st => ?_⟩
    have d1 : Ld Tb H1 (fun _ => none) H1 s l 0 := Ld.start (fun _ _ h => nomatch h) rfl rfl st (Nat.le_refl _) (htb.ext s1)
    simp only [L2.wipe, L2.start, List.map_cons, List.map_nil, List.set_cons_zero, List.set_cons_succ, List.length_cons, List.length_nil, List.cons_append, List.nil_append, Nat.reduceAdd, Nat.reduceSub, List.replicate]
    try dsimp (config := { proj := false }) only [tNext, tRet, tOp, tSeq, gName, tAsg]
    refine ⟨3, rfl, by decide, by decide, for_range (n := 3) (fun i σ H' => ∃ (o2 o3 o4 o5 o6 o7 o8 o9 o10 o11 o12 o13 : Option V), σ = [some (.ref a), some (.ref s), o2, o3, o4, o5, o6, o7, o8, o9, o10, o11, o12, o13, none, none] ∧ Ld Tb H1 (fun _ => none) H' s l (400000000 * i)) ⟨_, _, _, _, _, _, _, _, _, _, _, _, rfl, d1⟩ ?_ ?_⟩
    · clear d1
      rintro i σ H2 hi ⟨o2, o3, o4, o5, o6, o7, o8, o9, o10, o11, o12, o13, rfl, d2⟩
      have hb1 : 400000000 * (i + 1) = 400000000 * i + 400000000 := by omega
      have hb0 : 400000000 * i ≤ 800000000 := by omega
      show _
      obtain ⟨c2, hc2, st2⟩ := d2.st
      refine ⟨_, rfl, fun _ => none, s, l, c2, rfl, d2.sub, rfl, rfl, st2, by omega, fun t H3 G3 n ss bs c3 g3 dv ok st3 hc3 => ?_⟩
      have d3 := d2.call (b2 := 400000000 * i + 1100) g3 st3 (by omega)
      refine ⟨_, rfl, _, rfl, ?_⟩
      refine ⟨G3, s, l, c3, t, n, ss, bs, rfl, d3.sub, d3.gs, d3.gl, st3, by omega, dv, ok, fun pl H4 G4 Tr bad c4 g4 play tof bmem bl st4 hc4 => ?_⟩
      have d4 := d3.call (b2 := 400000000 * i + 200001100) g4 st4 (by omega)
      have made : Made n ss bs Tr bad := ⟨ok, tof, play.rs, bmem, bl⟩
      have dv4 := dv.same g4.up
      refine ⟨_, rfl, G4, t, n, ss, bs, rfl, d4.sub, dv4, ok, fun FN H5 G5 names g5 hFN hsrt hmem => ?_⟩
      have d5 := d4.calm g5
      refine ⟨_, rfl, G5, t, n, ss, bs, rfl, d5.sub, dv4.same g5.up, ok, fun FL H6 G6 ys Ls names' g6 hFL hsets hsrt' hmem' hlots => ?_⟩
      have hnn : names = names' := srt_ext hsrt hsrt' fun x => (hmem x).trans (hmem' x).symm
      subst hnn
      have d6 := d5.calm g6
      have fx6 : Fx K w G6 t pl FN FL n ss bs Tr bad names ys Ls := ⟨(dv4.same g5.up).same g6.up, (play.same g5.up).same g6.up, g6.up _ _ hFN, hFL, hsets⟩
      refine ⟨by show 3 ≤ sizeLine; decide, fun tt htt => ⟨tt, _, rfl, SqT.of upd_same, rfl, ⟨_, _, rfl, ⟨_, _, rfl, ⟨_, _, rfl, ⟨rfl, ?_⟩⟩⟩⟩⟩⟩
      have d7 := d6.mine (o := .tup [.ref pl, .ref FN, .ref FL]) htt
      generalize upd H6 tt (.tup [.ref pl, .ref FN, .ref FL]) = H7 at d7 ⊢
      clear d6 d5 d4 d3 d2 dv dv4 play hFN hFL hsets hsrt' hmem' g3 g4 g5 g6 htt
      have hsub6 : Sub names base6 := fun x m => by
        obtain ⟨q, hq, hx⟩ := mem_allBars.mp ((hmem x).mp m)
        exact (ok.bars q hq).2 x hx
      have h6 := take_len_base hsrt.nodup hsub6
      have hlts := hlots.lots hsrt hmem
      have hfew := hlots.few hsrt h6
      have hL6 : ∀ L ∈ Ls, L.length ≤ 6 := fun L m => Nat.le_trans (nodup_len (hlts.srt L m).1.nodup (hlts.srt L m).2) h6
      have hfit : Fit Tr names := made.fit (fun x m => (hmem x).mpr m) (by omega)
      have hTl : Tr.length ≤ 20 := by rw [made.len]; exact ok.n20
      have hsrtT : ∀ p ∈ Tr.flatten, Srt strO p.2 := fun p hp => (made.srt p hp).1
      simp only [L2.wipe, L2.start, List.map_cons, List.map_nil, List.set_cons_zero, List.set_cons_succ, List.length_cons, List.length_nil, List.cons_append, List.nil_append, Nat.reduceAdd, Nat.reduceSub, List.replicate]
      try dsimp (config := { proj := false }) only [tNext, tRet, tOp, tSeq, gName, tAsg]
      refine ⟨_, rfl, G6, pl, Tr, bad, names, rfl, d7.sub, fx6.play, hfit, h6, hTl, made.closed, made.rowl, hsrtT, made.bads.1, made.bads.2, fun told H8 G8 ys8 Ls8 g8 hn8 hg8 hT8 hset8 thr8 => ?_⟩
      have hll := (lots_same made hsrt hmem thr8 hlots).symm
      subst hll
      have d8 := d7.calm g8
      have hnT := d7.not hn8
      have hfr := d7.fresh hn8
      have fx8 := fx6.same g8.up
      simp only [L2.wipe, L2.start, List.map_cons, List.map_nil, List.set_cons_zero, List.set_cons_succ, List.length_cons, List.length_nil, List.cons_append, List.nil_append, Nat.reduceAdd, Nat.reduceSub, List.replicate]
      try dsimp (config := { proj := false }) only [tNext, tRet, tOp, tSeq, gName, tAsg]
      refine ⟨_, rfl, _, rfl, .ref told, .ref FL, rfl, sm_sets (SqL.of hT8) (d8.sub.seq fx8.lt) (hset8.same d8.sub) (fx8.sets.same d8.sub) (by omega) (fun L m => Nat.le_trans (hL6 L m) (by decide)), fun H9 s9 => ⟨_, rfl, ite_n rfl ?_⟩⟩
      have d9 := d8.calm (Gr.of d8.sub s9)
      have hT9 := s9 _ _ hT8
      obtain ⟨c9, hc9, st9⟩ := d9.st
      refine ⟨_, rfl, _, rfl, _, rfl, G8, s, l, c9, t, pl, n, ss, bs, Tr, bad, rfl, d9.sub, d9.gs, d9.gl, st9, by omega, d9.tb, fx8.dv, fx8.play, made, fun H10 c10 old10 tb10 st10 hc10 => ⟨_, rfl, ite_n rfl ?_⟩⟩
      have d10 := d9.far (b2 := 400000000 * i + 250001100) old10 tb10 st10 (by omega)
      have fx10 := fx8.ext (flt_ext G8)
      have hT10 := old10 _ _ hT9 hnT fun _ z => nomatch z
      have hgT10 := flt_none hg8
      generalize flt G8 = G10 at d10 fx10 hgT10
      have hyl8 : ys8.length ≤ 64 := by rw [Paired.length hset8]; exact hfew
      refine ⟨_, rfl, .inl ⟨rfl, _, SqL.of hT10⟩, told, _, .str "late", rfl, rfl, hT10, Nat.lt_of_le_of_lt hyl8 (by decide), ?_⟩
      have d11 := d10.put (ys := ys8 ++ [.str "late"]) hT10 hgT10 hnT hfr
      generalize upd H10 told (.lst (ys8 ++ [.str "late"])) = H11 at d11 ⊢
      clear d10 d9 d8 d7 fx8 fx6 hT8 hT9 hT10 hg8 hgT10 hset8 thr8 hn8 g8 old10
      simp only [L2.wipe, L2.start, List.map_cons, List.map_nil, List.set_cons_zero, List.set_cons_succ, List.length_cons, List.length_nil, List.cons_append, List.nil_append, Nat.reduceAdd, Nat.reduceSub, List.replicate]
      try dsimp (config := { proj := false }) only [tNext, tRet, tOp, tSeq, gName, tAsg]
      refine ⟨_, rfl, G10, pl, Tr, bad, names, rfl, d11.sub, fx10.play, hfit, h6, hTl, made.closed, made.rowl, hsrtT, made.bads.1, made.bads.2, fun told2 H12 G12 ys12 Ls12 g12 hn12 hg12 hT12 hset12 thr12 => ?_⟩
      have hll := (lots_same made hsrt hmem thr12 hlots).symm
      subst hll
      have d12 := d11.calm g12
      have fx12 := fx10.same g12.up
      refine ⟨_, rfl, .ref told2, .ref FL, rfl, sm_sets (SqL.of hT12) (d12.sub.seq fx12.lt) (hset12.same d12.sub) (fx12.sets.same d12.sub) (by omega) (fun L m => Nat.le_trans (hL6 L m) (by decide)), fun H13 s13 => ⟨_, rfl, ite_n rfl ?_⟩⟩
      have d13 := d12.calm (Gr.of d12.sub s13)
      clear d12 d11 fx10 hT12 hg12 hset12 thr12 hn12 g12
      try dsimp (config := { proj := false }) only [tNext, tRet, tOp, tSeq, gName, tAsg]
      have hb13 : 400000000 * i + 250001100 < 1060000000 := by omega
      generalize hB : 400000000 * i + 250001100 = Bd at d13 hb13
      have never7 : ∀ r ∈ names, nameB r = true := fun r m => base_nm r (hsub6 r m)
      refine ⟨4, rfl, by decide, by decide, fun D hD => ?_⟩
      have hDm := d13.not hD
      refine lcS_gr (n := 4) (M := SM s l) (G1 := G12) (fun i2 acc G' H' => RulesV K G' acc ∧ ∃ c', c' ≤ Bd + 10 * i2 ∧ Strm H' s l c') hD hDm ?_ d13.sub (by decide) ?_ ?_ ?_
      · rintro i2 acc G' H' o ⟨h1, c', h5, h6⟩
        obtain ⟨_, _, st13⟩ := d13.st
        exact ⟨h1, c', h5, h6.upd (fun e => st13.s (e ▸ hD)) (fun e => st13.l (e ▸ hD))⟩
      · obtain ⟨c', h5, h6⟩ := d13.st
        exact ⟨fun _ m => (nomatch m), c', h5, h6.new hD⟩
      · rintro i2 acc G14 H14 hi2 g14 hl14 ⟨hacc, c', hc', st14⟩
        intro Ky Kn ky kn
        have d14 := d13.call (b2 := Bd + 10 * i2) g14 st14 hc'
        refine ⟨rfl, y_te ?_⟩
        refine ⟨_, rfl, _, rfl, ?_⟩
        try dsimp (config := { proj := false }) only [tCons, tC, tNil, tCall, List.cons_append, List.nil_append]
        have hFN14 : SqL K G14 FN (names.map V.str) := SqL.of (g14.up _ _ fx12.nm)
        refine d14.mixed (by rw [List.length_map]; omega) (.inl hFN14) (by rw [List.length_map]; omega) fun la H15 G15 zs0 hp15 g15 d15 hla => ?_
        obtain ⟨zs, rfl, hpz⟩ := perm_strs hp15
        rw [List.length_map] at d15
        refine ⟨_, rfl, _, rfl, FN, _, rfl, .inl (d15.sub.seq (g15.up.seq hFN14)), _, _, rfl, rfl, ?_⟩
        have e3 : (((names.map V.str).length : Nat) : Int) + 1 = ((names.length + 1 : Nat) : Int) := by rw [List.length_map]; omega
        try dsimp (config := { proj := false }) only [tCons, tC, tNil, tCall, List.cons_append, List.nil_append]
        rw [e3]
        refine d15.draw (names.length + 1) (by omega) (by omega) (by omega) fun kk H16 hkk g16 d16 => ?_
        refine ⟨(kk : Nat), rfl, la, _, rfl, d16.sub.seq hla, fun p hp => ?_⟩
        rw [cut_take, ← List.map_take]
        obtain ⟨c16, hc16, st16⟩ := d16.st
        have gg := g15.trans g16
        have g17 := gg.newG (o := .lst ((zs.take kk).map V.str)) hp (st16.not hp) (gg.freeM hp (st16.not hp))
        refine ky _ _ _ g17 ⟨(hacc.same g17.up).app fun x m => ?_, c16, by omega, st16.new hp⟩
        rw [List.mem_singleton.mp m]
        refine ⟨p, zs.take kk, rfl, SqL.of upd_same, (hpz.nodup_iff.mpr hsrt.nodup).sublist (List.take_sublist _ _), fun r hr => never7 r (hpz.mem_iff.mp (List.mem_of_mem_take hr)), ?_⟩
        have := hpz.length_eq
        rw [List.length_take]
        omega
      · rintro acc G14 H14 g14 hg14 hl14 ⟨hacc, c', hc', st14⟩
        have d14 := d13.call (b2 := Bd + 40) g14 st14 (by omega)
        have hacc := hacc.same (Same.upd_none (o := .lst acc) hg14)
        have hD14 : upd G14 D (.lst acc) D = some (.lst acc) := upd_same
        have fx14 := fx12.same g14.up
        generalize upd G14 D (.lst acc) = G15 at d14 hacc hD14 fx14
        clear d13 g14 hg14
        simp only [L2.wipe, L2.start, List.map_cons, List.map_nil, List.set_cons_zero, List.set_cons_succ, List.length_cons, List.length_nil, List.cons_append, List.nil_append, Nat.reduceAdd, Nat.reduceSub, List.replicate]
        try dsimp (config := { proj := false }) only [tNext, tRet, tOp, tSeq, gName, tAsg]
        refine ⟨_, rfl, _, rfl, _, rfl, by show 1 ≤ sizeLine; decide, fun n1 hn1 => ?_⟩
        have d15 := d14.newG (o := .lst [.str "never"]) hn1
        have u15 : Same G15 (upd G15 n1 (.lst [.str "never"])) := Same.upd_none (d14.sub.free hn1)
        have hn1' : upd G15 n1 (.lst [.str "never"]) n1 = some (.lst [.str "never"]) := upd_same
        generalize upd G15 n1 (.lst [.str "never"]) = G16 at d15 u15 hn1'
        refine ⟨FN, n1, _, _, rfl, rfl, d15.sub _ _ (u15 _ _ fx14.nm), d15.sub _ _ hn1', Nat.le_trans (show (names.map V.str).length + 1 ≤ 7 by rw [List.length_map]; omega) (by decide), fun n2 hn2 => ?_⟩
        have en : names.map V.str ++ [V.str "never"] = (names ++ [nvS]).map V.str := by rw [List.map_append]; rfl
        rw [en]
        have d16 := d15.newG (o := .lst ((names ++ [nvS]).map V.str)) hn2
        have u16 : Same G16 (upd G16 n2 (.lst ((names ++ [nvS]).map V.str))) := Same.upd_none (d15.sub.free hn2)
        have hn2' : SqL K (upd G16 n2 (.lst ((names ++ [nvS]).map V.str))) n2 ((names ++ [nvS]).map V.str) := SqL.of upd_same
        generalize upd G16 n2 (.lst ((names ++ [nvS]).map V.str)) = G17 at d16 u16 hn2'
        refine ⟨by show 0 ≤ sizeLine; decide, fun n3 hn3 => ?_⟩
        have d17 := d16.newG (o := .lst []) hn3
        have u17 : Same G17 (upd G17 n3 (.lst [])) := Same.upd_none (d16.sub.free hn3)
        have hn3' : SqL K (upd G17 n3 (.lst [])) n3 (([] : List Str).map V.str) := SqL.of upd_same
        generalize upd G17 n3 (.lst []) = G18 at d17 u17 hn3'
        refine ⟨by show 3 ≤ sizeLine; decide, fun n4 hn4 => ?_⟩
        have d18 := d17.newG (o := .lst [.ref FN, .ref n2, .ref n3]) hn4
        have u18 : Same G18 (upd G18 n4 (.lst [.ref FN, .ref n2, .ref n3])) := Same.upd_none (d17.sub.free hn4)
        have hn4' : upd G18 n4 (.lst [.ref FN, .ref n2, .ref n3]) n4 = some (.lst [.ref FN, .ref n2, .ref n3]) := upd_same
        generalize upd G18 n4 (.lst [.ref FN, .ref n2, .ref n3]) = G19 at d18 u18 hn4'
        have u58 := ((u15.trans u16).trans u17).trans u18
        refine ⟨D, n4, _, _, rfl, rfl, d18.sub _ _ (u58 _ _ hD14), d18.sub _ _ hn4', Nat.le_trans (show acc.length + 3 ≤ 7 by omega) (by decide), fun n5 hn5 => ?_⟩
        have d19 := d18.newG (o := .lst (acc ++ [V.ref FN, .ref n2, .ref n3])) hn5
        have u19 : Same G19 (upd G19 n5 (.lst (acc ++ [V.ref FN, .ref n2, .ref n3]))) := Same.upd_none (d18.sub.free hn5)
        have hn5' : upd G19 n5 (.lst (acc ++ [V.ref FN, .ref n2, .ref n3])) n5 = some (.lst (acc ++ [V.ref FN, .ref n2, .ref n3])) := upd_same
        have hr19 : RulesV K (upd G19 n5 (.lst (acc ++ [V.ref FN, .ref n2, .ref n3]))) (acc ++ [V.ref FN, .ref n2, .ref n3]) := by
          refine (hacc.same (u58.trans u19)).app fun x m => ?_
          rcases List.mem_cons.mp m with rfl | m
          · exact ⟨FN, names, rfl, SqL.of ((u58.trans u19) _ _ fx14.nm), hsrt.nodup, never7, by omega⟩
          rcases List.mem_cons.mp m with rfl | m
          · refine ⟨n2, names ++ [nvS], rfl, ((u17.trans u18).trans u19).seq hn2', ?_, fun r hr => ?_, by rw [List.length_append]; show names.length + 1 ≤ 7; omega⟩
            · refine List.nodup_append.mpr ⟨hsrt.nodup, by simp, fun x hx y hy e => ?_⟩
              rw [List.mem_singleton.mp hy] at e
              rw [e] at hx
              exact never_new.1 (hsub6 _ hx)
            · rcases List.mem_append.mp hr with hr | hr
              · exact never7 r hr
              · rw [List.mem_singleton.mp hr]; exact never_new.2
          rw [List.mem_singleton.mp m]
          exact ⟨n3, [], rfl, (u18.trans u19).seq hn3', List.nodup_nil, fun _ m => (nomatch m), by decide⟩
        have fx19 := fx14.same (u58.trans u19)
        generalize upd G19 n5 (.lst (acc ++ [V.ref FN, .ref n2, .ref n3])) = G20 at d19 u19 hn5' hr19 fx19
        generalize upd _ n5 (.lst (acc ++ [V.ref FN, .ref n2, .ref n3])) = H20 at d19 ⊢
        clear d18 d17 d16 d15 d14 hn4' hn3' hn2' hn1' hD14 fx14 hacc hn1 hn2 hn3 hn4 hn5 u15 u16 u17 u18 u19 u58
        have hyl : ys.length = Ls.length := Paired.length fx19.sets
        refine lc_any (K := K) (M := NoM) (.ref FL) G20 (fun i2 acc2 G' => RulesV K G' acc2) (fun R' r => ⟨_, rfl, r⟩) rfl (fun _ _ z => z) d19.sub (.inl fx19.lt) (Nat.le_trans (show ys.length ≤ 64 by omega) (by decide)) (fun _ m => (nomatch m)) ?_ ?_
        · rintro D2 hD2 i2 x acc2 G21 H21 hx g21 hl21 hacc2
          intro Ky Kn ky kn
          refine ⟨rfl, y_te ?_⟩
          obtain ⟨L, hLi, hLd⟩ := paired_get (fx19.sets.same g21.up) hx
          have hLm := List.mem_of_getElem? hLi
          obtain ⟨tL, rfl, hLt⟩ := setV_tup hLd
          refine ⟨_, rfl, tL, _, rfl, .inr (g21.sub.tp hLt), fun p hp => ?_⟩
          have g22 := (Gr.start (M := NoM) g21.sub).newN (o := .lst (L.map V.str)) hp
          refine ky _ _ _ g22 ((hacc2.same g22.up).app fun x m => ?_)
          rw [List.mem_singleton.mp m]
          exact ⟨p, L, rfl, SqL.of upd_same, (hlts.srt L hLm).1.nodup, fun r hr => never7 r ((hlts.srt L hLm).2 r hr), by have := hL6 L hLm; omega⟩
        · rintro D2 acc2 G21 H21 hD2 g21 hg21 hl21 hacc2
          have hacc2 := hacc2.same (Same.upd_none (o := .lst acc2) hg21)
          have hD2' : upd G21 D2 (.lst acc2) D2 = some (.lst acc2) := upd_same
          generalize upd G21 D2 (.lst acc2) = G22 at g21 hacc2 hD2'
          have d22 := d19.calm g21
          refine ⟨n5, D2, _, _, rfl, rfl, d22.sub _ _ (g21.up _ _ hn5'), d22.sub _ _ hD2', Nat.le_trans (show (acc ++ [V.ref FN, .ref n2, .ref n3]).length + acc2.length ≤ 80 by rw [List.length_append]; show acc.length + 3 + _ ≤ 80; omega) (by decide), fun n6 hn6 => ?_⟩
          have hr22 := (hr19.same g21.up).app hacc2
          have fx22 := fx19.same g21.up
          have hal : (acc ++ [V.ref FN, .ref n2, .ref n3] ++ acc2).length ≤ 80 := by rw [List.length_append, List.length_append]; show acc.length + 3 + _ ≤ 80; omega
          generalize acc ++ [V.ref FN, .ref n2, .ref n3] ++ acc2 = all at hr22 hal
          have d23 := d22.newG (o := .lst all) hn6
          have u23 : Same G22 (upd G22 n6 (.lst all)) := Same.upd_none (d22.sub.free hn6)
          have hn6' : SqL K (upd G22 n6 (.lst all)) n6 all := SqL.of upd_same
          have hr23 := hr22.same u23
          have fx23 := fx22.same u23
          generalize upd G22 n6 (.lst all) = G23 at d23 hn6' hr23 fx23
          clear d22 d19 fx22 fx19 hr22 hr19 hacc2 hD2' hn5' g21 hg21 u23 hn6 hD2
          refine ⟨n6, rfl, .inl ⟨⟨_, d23.sub.seq hn6'⟩, fl_P (K := K) (a := n6) (xs := all) (fun j σ H' => ∃ (o2 o7 o8 o9 o10 o11 o12 o13 : Option V) (G2 : Hp), σ = [some (.ref a), some (.ref s), o2, some (.ref t), some (.ref pl), some (.ref FN), some (.ref FL), o7, o8, o9, o10, o11, o12, o13, none, none] ∧ Ld Tb H1 G2 H' s l (Bd + 40 + 2 * j) ∧ Fx K w G2 t pl FN FL n ss bs Tr bad names ys Ls ∧ SqL K G2 n6 all ∧ RulesV K G2 all) ⟨_, _, _, _, _, _, _, _, G23, rfl, d23, fx23, hn6', hr23⟩ (fun j σ H' ⟨_, _, _, _, _, _, _, _, _, _, d, _, h, _⟩ => d.sub.seq h) ?_ ?_⟩⟩
          · clear d23 fx23 hn6' hr23
            rintro j x σ H24 hx ⟨o2, o7, o8, o9, o10, o11, o12, o13, G24, rfl, d24, fx24, hn24, hr24⟩
            have hj : j < 80 := Nat.lt_of_lt_of_le (List.getElem?_eq_some_iff.mp hx).1 hal
            obtain ⟨pr, rs, rfl, hpr, hrn, hrm, hr7⟩ := hr24 x (List.mem_of_getElem? hx)
            obtain ⟨c24, hc24, st24⟩ := d24.st
            refine ⟨_, rfl, _, rfl, _, rfl, _, rfl, G24, s, l, c24, t, pl, pr, n, ss, bs, Tr, bad, rs, rfl, d24.sub, d24.gs, d24.gl, st24, by omega, fx24.dv, fx24.play, made, hpr, hrn, hrm, hr7, fun H25 G25 c25 g25 st25 hc25 => ⟨_, rfl, ite_n rfl ?_⟩⟩
            have d25 := d24.call (b2 := Bd + 40 + 2 * (j + 1)) g25 st25 (by omega)
            have fx25 := fx24.same g25.up
            have hpr25 := g25.up.seq hpr
            refine ⟨_, rfl, _, rfl, G25, pl, .ref pr, .sq (rs.map strD), Tr, bad, rs, names, rfl, d25.sub, fx25.play, .lst hpr25 (dq_strs rs), names_short hrm (by omega), rules_ok hrm hrn, hfit, by omega, made.closed, fun b H26 s26 hb => ?_⟩
            have d26 := d25.calm (Gr.of d25.sub s26)
            have hbl : b = Ls.all fun L => L.any fun r => decide (r ∈ rs) := by
              rw [made.adj] at hb
              have h1 := hlts.keeps rs
              rw [Bool.eq_iff_iff, hb, List.all_eq_true]
              constructor
              · intro z L mL
                obtain ⟨r, hr1, hr2⟩ := h1.mp (fun ws v g m => z ws v g ((made.bmem v).mpr m)) L mL
                exact List.any_eq_true.mpr ⟨r, hr1, decide_eq_true hr2⟩
              · intro z ws v g m
                refine h1.mpr (fun L mL => ?_) ws v g ((made.bmem v).mp m)
                obtain ⟨r, hr1, hr2⟩ := List.any_eq_true.mp (z L mL)
                exact ⟨r, hr1, of_decide_eq_true hr2⟩
            refine cb1 (lc_any (K := K) (M := NoM) (.ref FL) G25 (fun i3 acc3 G' => acc3 = (Ls.take i3).map fun L => V.bl (L.any fun r => decide (r ∈ rs))) (fun R' r => ⟨_, rfl, r⟩) rfl (fun _ _ z => z) d26.sub (.inl fx25.lt) (Nat.le_trans (show ys.length ≤ 64 by omega) (by decide)) rfl ?_ ?_)
            · rintro D3 hD3 i3 y acc3 G27 H27 hy g27 hl27 rfl
              intro Ky Kn ky kn
              refine ⟨rfl, y_te ?_⟩
              obtain ⟨L, hLi, hLd⟩ := paired_get (fx25.sets.same g27.up) hy
              have hLm := List.mem_of_getElem? hLi
              obtain ⟨tL, rfl, hLt⟩ := setV_tup hLd
              refine cb1 (lc_any (K := K) (M := NoM) (.ref tL) G27 (fun i4 acc4 G' => acc4 = (L.take i4).map fun r => V.bl (decide (r ∈ rs))) (fun R' r => ⟨_, rfl, r⟩) rfl (fun _ _ z => z) g27.sub (.inr hLt) (by rw [List.length_map]; exact Nat.le_trans (hL6 L hLm) (by decide)) rfl ?_ ?_)
              · rintro D4 hD4 i4 z acc4 G28 H28 hz g28 hl28 rfl
                intro Ky2 Kn2 ky2 kn2
                refine ⟨rfl, y_te ?_⟩
                rw [List.getElem?_map, Option.map_eq_some_iff] at hz
                obtain ⟨r, hr2, rfl⟩ := hz
                refine ⟨_, rfl, _, rfl, pr, decide (r ∈ rs), rfl, .inl ⟨rs.map V.str, .inl ((g27.up.trans g28.same').seq hpr25), rfl, flat_strs rs, (inV_strs r rs).symm⟩, ?_⟩
                exact ky2 _ _ _ (Gr.start g28.sub) (by show _ = _; rw [all_snoc (f := fun r => V.bl (decide (r ∈ rs))) hr2]; rfl)
              · rintro D4 acc4 G28 H28 hD4 g28 hg28 hl28 rfl
                rw [List.length_map, List.take_length] at g28
                refine ⟨D4, L.map fun r => decide (r ∈ rs), rfl, SqL.of (by rw [g28.sub D4 _ upd_same, List.map_map]; rfl), ?_⟩
                have e2 : (L.map fun r => decide (r ∈ rs)).any id = L.any fun r => decide (r ∈ rs) := by rw [List.any_map]; rfl
                rw [e2]
                exact ky _ _ _ (Gr.of g27.sub g28.same) (by show _ = _; rw [all_snoc (f := fun L => V.bl (L.any fun r => decide (r ∈ rs))) hLi])
            · rintro D3 acc3 G27 H27 hD3 g27 hg27 hl27 rfl
              rw [hyl, List.take_length] at g27
              refine ⟨D3, Ls.map fun L => L.any fun r => decide (r ∈ rs), rfl, SqL.of (by rw [g27.sub D3 _ upd_same, List.map_map]; rfl), ?_⟩
              have e2 : (Ls.map fun L => L.any fun r => decide (r ∈ rs)).all id = b := by rw [List.all_map, hbl]; rfl
              rw [e2]
              refine ⟨rfl, _, rfl, ite_n ?_ ?_⟩
              · rw [decide_eq_true rfl]; rfl
              have d27 := d26.calm (Gr.of d26.sub g27.same)
              exact ⟨_, _, _, _, _, _, _, _, G25, rfl, d27, fx25, g25.up.seq hn24, hr24.same g25.up⟩
          · clear d23 fx23 hn6' hr23
            rintro σ H24 ⟨o2, o7, o8, o9, o10, o11, o12, o13, G24, rfl, d24, fx24, hn24, hr24⟩
            have d24 := d24.le (b2 := Bd + 200) (by omega)
            clear hn24 hr24
            clear hal
            refine ⟨_, rfl, FL, rfl, .inl ⟨⟨_, d24.sub.seq fx24.lt⟩, fl_P (K := K) (a := FL) (xs := ys) (fun j σ H' => ∃ (o2 o7 o8 o9 o10 o11 o12 o13 : Option V) (G2 : Hp), σ = [some (.ref a), some (.ref s), o2, some (.ref t), some (.ref pl), some (.ref FN), some (.ref FL), o7, o8, o9, o10, o11, o12, o13, none, none] ∧ Ld Tb H1 G2 H' s l (Bd + 200) ∧ Fx K w G2 t pl FN FL n ss bs Tr bad names ys Ls) ⟨_, _, _, _, _, _, _, _, G24, rfl, d24, fx24⟩ (fun j σ H' ⟨_, _, _, _, _, _, _, _, _, _, d, f⟩ => d.sub.seq f.lt) ?_ ?_⟩⟩
            · clear d24 fx24
              rintro j x σ H25 hx ⟨o2, o7, o8, o9, o10, o11, o12, o13, G25, rfl, d25, fx25⟩
              obtain ⟨L, hLi, hLd⟩ := paired_get fx25.sets hx
              have hLm := List.mem_of_getElem? hLi
              obtain ⟨tL, rfl, hLt⟩ := setV_tup hLd
              have hl6 := hL6 L hLm
              have hLn : ∀ r ∈ L, nameB r = true := fun r hr => never7 r ((hlts.srt L hLm).2 r hr)
              have hro := rules_ok hLn (hlts.srt L hLm).1.nodup
              refine ⟨_, rfl, _, rfl, G25, pl, .ref tL, .sq (L.map strD), Tr, bad, names, rfl, d25.sub, fx25.play, .tup hLt (dq_strs L), names_short hLn (by omega), hfit, by omega, made.closed, fun f hf found hB => ?_, fun i' e => by rw [hro] at e; cases e⟩
              rw [hro] at hf
              cases hf
              rw [made.adj] at hB
              refine ⟨fun e H26 s26 => ?_, fun r rs' e rr xs H26 G26 g26 hn26 hg26 hT26 hxs26 => ?_⟩
              · obtain ⟨ws, v, R, g, hv, hR⟩ := hlts.go L hLm
                exact absurd ((made.bmem v).mpr hv) (hB.badRuns_nil (Nat.le_refl _) e (pth_iff.mpr ⟨R, g, List.all_eq_true.mpr fun x hx => decide_eq_true (hR x hx)⟩))
              · obtain ⟨⟨v, hv, gp⟩, _⟩ := hB.badRuns_cons (Nat.le_refl _) e
                have hrl : r.length ≤ 20 := Nat.le_trans (hB.short (fun ws v g => pth_lt ok g) e) ok.n20
                obtain ⟨Bv, hgo, hBall⟩ := pth_iff.mp gp
                have hex := hlts.exact hLm hgo ((made.bmem v).mp hv) fun x hx => of_decide_eq_true (List.all_eq_true.mp hBall x hx)
                have gT := pth_true gp
                obtain ⟨ds, hds, hwd⟩ := pth_words ok gT
                have hbe := behind_ok ok gT hds fun d m => (hwd d m).1
                have hadj : adjQ (fun _ => true) Tr = adjT n ss := made.adj _
                have hbd : behindD (adjQ (fun _ => true) Tr) (.sq ds) = .ok v := by rw [hadj]; exact hbe
                have hdl : ds.length ≤ 20 := by
                  have := congrArg List.length hds
                  rw [List.length_map] at this
                  omega
                have hdq : DqAll K G26 xs ds := dq_run (fun d m => (hwd d m).1) (by rw [hds]; exact hxs26)
                have d26 := d25.calm g26
                have d27 := d26.give hT26 (d25.not hn26)
                have u27 : Same G26 (upd G26 rr (.lst xs)) := Same.upd_none hg26
                have hrr : SqL K (upd G26 rr (.lst xs)) rr xs := SqL.of upd_same
                have fx27 := (fx25.same g26.up).same u27
                have hLt27 := u27.tp (g26.up.tp hLt)
                have hdq27 := DqAll.mono u27 _ _ hdq
                generalize upd G26 rr (.lst xs) = G27 at d27 u27 hrr fx27 hLt27 hdq27
                simp only [L2.wipe, L2.start, List.map_cons, List.map_nil, List.set_cons_zero, List.set_cons_succ, List.length_cons, List.length_nil, List.cons_append, List.nil_append, Nat.reduceAdd, Nat.reduceSub, List.replicate]
                try dsimp (config := { proj := false }) only [tNext, tRet, tOp, tSeq, gName, tAsg]
                refine ⟨_, rfl, _, rfl, G27, pl, .ref rr, .sq ds, Tr, bad, names, rfl, d27.sub, fx27.play, hfit, by omega, made.closed, .lst hrr hdq27, ⟨by omega, fun d m => ⟨(hwd d m).2.1, (hwd d m).2.2.1⟩⟩, fun ds' s' e hok told3 H28 G28 zs B1 v1 hg1 hs1 hm1 g28 hn28 hG28 hT28 => ?_, fun i' e => by rw [hbd] at e; cases e⟩
                injection e with e
                subst e
                rw [hds] at hg1
                obtain ⟨B1', hgo1, hB1⟩ := made.alike.1.go hg1
                obtain ⟨e1, e2⟩ := Go.det ok.det hgo1 hgo
                subst e1 e2
                have hzL : zs = L := srt_ext hs1 (hlts.srt L hLm).1 fun x => ((hm1 x).trans (hB1 x)).trans (hex x).symm
                subst hzL
                have d28 := d27.calm g28
                refine ⟨_, rfl, tL, _, rfl, .inr (d28.sub.tp (g28.up.tp hLt27)), fun p hp => ?_⟩
                have d29 := d28.mine (o := .lst (zs.map V.str)) hp
                have hT29 : upd H28 p (.lst (zs.map V.str)) told3 = some (.lst (zs.map V.str)) := by rw [upd_ne (ne_sn hT28 hp)]; exact hT28
                refine ⟨.ref told3, .ref p, rfl, sm_strs (SqL.of hT29) (SqL.of upd_same) (by omega), fun H30 s30 => ⟨_, rfl, ite_n rfl ?_⟩⟩
                have d30 := d29.calm (Gr.of d29.sub s30)
                exact ⟨_, _, _, _, _, _, _, _, G28, rfl, d30, fx27.same g28.up⟩
            · clear d24 fx24
              rintro σ H25 ⟨o2, o7, o8, o9, o10, o11, o12, o13, G25, rfl, d25, fx25⟩
              refine ⟨by show 2 ≤ sizeLine; decide, fun q1 hq1 => ⟨by show 2 ≤ sizeLine; decide, fun m1 hm1 => ⟨by show 2 ≤ sizeLine; decide, fun q2 hq2 => ⟨by show 3 ≤ sizeLine; decide, fun m2 hm2 => ⟨by show 2 ≤ sizeLine; decide, fun q3 hq3 => ⟨by show 2 ≤ sizeLine; decide, fun q4 hq4 => ⟨by show 1 ≤ sizeLine; decide, fun m3 hm3 => ⟨by show 2 ≤ sizeLine; decide, fun q5 hq5 => fun m4 hm4 => ⟨by show 2 ≤ sizeLine; decide, fun q6 hq6 => ⟨by show 6 ≤ sizeLine; decide, fun qq hqq => ?_⟩⟩⟩⟩⟩⟩⟩⟩⟩⟩
              have d26 := d25.newG (o := .tup [.non, .int 0]) hq1
              have u26 : Same G25 (upd G25 q1 (.tup [.non, .int 0])) := Same.upd_none (d25.sub.free hq1)
              have kq1 : SqT K (upd G25 q1 (.tup [.non, .int 0])) q1 [.non, .int 0] := SqT.of upd_same
              generalize upd G25 q1 (.tup [.non, .int 0]) = G26 at d26 u26 kq1
              have d27 := d26.newG (o := .lst [.str "look", .str "look"]) hm1
              have u27 : Same G26 (upd G26 m1 (.lst [.str "look", .str "look"])) := Same.upd_none (d26.sub.free hm1)
              have km1 : SqL K (upd G26 m1 (.lst [.str "look", .str "look"])) m1 [.str "look", .str "look"] := SqL.of upd_same
              generalize upd G26 m1 (.lst [.str "look", .str "look"]) = G27 at d27 u27 km1
              have d28 := d27.newG (o := .tup [.ref m1, .int 1]) hq2
              have u28 : Same G27 (upd G27 q2 (.tup [.ref m1, .int 1])) := Same.upd_none (d27.sub.free hq2)
              have kq2 : SqT K (upd G27 q2 (.tup [.ref m1, .int 1])) q2 [.ref m1, .int 1] := SqT.of upd_same
              generalize upd G27 q2 (.tup [.ref m1, .int 1]) = G28 at d28 u28 kq2
              have d29 := d28.newG (o := .lst [.str "look", .str "A", .str "look"]) hm2
              have u29 : Same G28 (upd G28 m2 (.lst [.str "look", .str "A", .str "look"])) := Same.upd_none (d28.sub.free hm2)
              have km2 : SqL K (upd G28 m2 (.lst [.str "look", .str "A", .str "look"])) m2 [.str "look", .str "A", .str "look"] := SqL.of upd_same
              generalize upd G28 m2 (.lst [.str "look", .str "A", .str "look"]) = G29 at d29 u29 km2
              have d30 := d29.newG (o := .tup [.ref m2, .int 1]) hq3
              have u30 : Same G29 (upd G29 q3 (.tup [.ref m2, .int 1])) := Same.upd_none (d29.sub.free hq3)
              have kq3 : SqT K (upd G29 q3 (.tup [.ref m2, .int 1])) q3 [.ref m2, .int 1] := SqT.of upd_same
              generalize upd G29 q3 (.tup [.ref m2, .int 1]) = G30 at d30 u30 kq3
              have d31 := d30.newG (o := .tup [.str "look", .int 0]) hq4
              have u31 : Same G30 (upd G30 q4 (.tup [.str "look", .int 0])) := Same.upd_none (d30.sub.free hq4)
              have kq4 : SqT K (upd G30 q4 (.tup [.str "look", .int 0])) q4 [.str "look", .int 0] := SqT.of upd_same
              generalize upd G30 q4 (.tup [.str "look", .int 0]) = G31 at d31 u31 kq4
              have d32 := d31.newG (o := .lst [.int 5]) hm3
              have u32 : Same G31 (upd G31 m3 (.lst [.int 5])) := Same.upd_none (d31.sub.free hm3)
              have km3 : SqL K (upd G31 m3 (.lst [.int 5])) m3 [.int 5] := SqL.of upd_same
              generalize upd G31 m3 (.lst [.int 5]) = G32 at d32 u32 km3
              have d33 := d32.newG (o := .tup [.ref m3, .int 0]) hq5
              have u33 : Same G32 (upd G32 q5 (.tup [.ref m3, .int 0])) := Same.upd_none (d32.sub.free hq5)
              have kq5 : SqT K (upd G32 q5 (.tup [.ref m3, .int 0])) q5 [.ref m3, .int 0] := SqT.of upd_same
              generalize upd G32 q5 (.tup [.ref m3, .int 0]) = G33 at d33 u33 kq5
              have d34 := d33.newG (o := .dK []) hm4
              have u34 : Same G33 (upd G33 m4 (.dK [])) := Same.upd_none (d33.sub.free hm4)
              have km4 : upd G33 m4 (.dK []) m4 = some (.dK []) := upd_same
              generalize upd G33 m4 (.dK []) = G34 at d34 u34 km4
              have d35 := d34.newG (o := .tup [.ref m4, .int 0]) hq6
              have u35 : Same G34 (upd G34 q6 (.tup [.ref m4, .int 0])) := Same.upd_none (d34.sub.free hq6)
              have kq6 : SqT K (upd G34 q6 (.tup [.ref m4, .int 0])) q6 [.ref m4, .int 0] := SqT.of upd_same
              generalize upd G34 q6 (.tup [.ref m4, .int 0]) = G35 at d35 u35 kq6
              have d36 := d35.newG (o := .tup [.ref q1, .ref q2, .ref q3, .ref q4, .ref q5, .ref q6]) hqq
              have u36 : Same G35 (upd G35 qq (.tup [.ref q1, .ref q2, .ref q3, .ref q4, .ref q5, .ref q6])) := Same.upd_none (d35.sub.free hqq)
              have kqq : SqT K (upd G35 qq (.tup [.ref q1, .ref q2, .ref q3, .ref q4, .ref q5, .ref q6])) qq [.ref q1, .ref q2, .ref q3, .ref q4, .ref q5, .ref q6] := SqT.of upd_same
              generalize upd G35 qq (.tup [.ref q1, .ref q2, .ref q3, .ref q4, .ref q5, .ref q6]) = G36 at d36 u36 kqq
              have u2536 : Same G25 G36 := ((((((((((u26).trans u27).trans u28).trans u29).trans u30).trans u31).trans u32).trans u33).trans u34).trans u35).trans u36
              have fx36 := fx25.same u2536
              have odds : OddsV K G36 [.ref q1, .ref q2, .ref q3, .ref q4, .ref q5, .ref q6] := fun x m => by
                rcases List.mem_cons.mp m with rfl | m
                · exact ⟨q1, .non, .lf .non, 0, rfl, ((((((((((u27).trans u28).trans u29).trans u30).trans u31).trans u32).trans u33).trans u34).trans u35).trans u36).tp kq1, .lf rfl, rfl, True.intro⟩
                rcases List.mem_cons.mp m with rfl | m
                · exact ⟨q2, .ref m1, .sq [.lf (.str "look"), .lf (.str "look")], 1, rfl, ((((((((u29).trans u30).trans u31).trans u32).trans u33).trans u34).trans u35).trans u36).tp kq2, .lst ((((((((((u28).trans u29).trans u30).trans u31).trans u32).trans u33).trans u34).trans u35).trans u36).seq km1) (.cons (.lf rfl) (.cons (.lf rfl) .nil)), odd_e1, odd_s1⟩
                rcases List.mem_cons.mp m with rfl | m
                · exact ⟨q3, .ref m2, .sq [.lf (.str "look"), .lf (.str "A"), .lf (.str "look")], 1, rfl, ((((((u31).trans u32).trans u33).trans u34).trans u35).trans u36).tp kq3, .lst ((((((((u30).trans u31).trans u32).trans u33).trans u34).trans u35).trans u36).seq km2) (.cons (.lf rfl) (.cons (.lf rfl) (.cons (.lf rfl) .nil))), odd_e2, odd_s2⟩
                rcases List.mem_cons.mp m with rfl | m
                · exact ⟨q4, .str "look", .lf (.str "look"), 0, rfl, (((((u32).trans u33).trans u34).trans u35).trans u36).tp kq4, .lf rfl, rfl, True.intro⟩
                rcases List.mem_cons.mp m with rfl | m
                · exact ⟨q5, .ref m3, .sq [.lf (.int 5)], 0, rfl, (((u34).trans u35).trans u36).tp kq5, .lst (((((u33).trans u34).trans u35).trans u36).seq km3) (.cons (.lf rfl) .nil), rfl, odd_s3⟩
                rw [List.mem_singleton.mp m]
                exact ⟨q6, .ref m4, .lf (.ref m4), 0, rfl, (u36).tp kq6, .dct (((u35).trans u36) _ _ km4), rfl, True.intro⟩
              generalize hvals : [V.ref q1, .ref q2, .ref q3, .ref q4, .ref q5, .ref q6] = vals at odds kqq d36 ⊢
              have hvl : vals.length = 6 := by rw [← hvals]; rfl
              clear d35 d34 d33 d32 d31 d30 d29 d28 d27 d26 d25
              refine ⟨qq, rfl, .inr ⟨⟨_, d36.sub.tp kqq⟩, ft_P (K := K) (a := qq) (xs := vals) (fun j σ H' => ∃ (o2 o7 o8 o9 o10 o11 o12 o13 : Option V) (G2 : Hp), σ = [some (.ref a), some (.ref s), o2, some (.ref t), some (.ref pl), some (.ref FN), some (.ref FL), o7, o8, o9, o10, o11, o12, o13, none, none] ∧ Ld Tb H1 G2 H' s l (Bd + 200) ∧ Fx K w G2 t pl FN FL n ss bs Tr bad names ys Ls ∧ SqT K G2 qq vals ∧ OddsV K G2 vals) ⟨_, _, _, _, _, _, _, _, G36, rfl, d36, fx36, kqq, odds⟩ (fun j σ H' ⟨_, _, _, _, _, _, _, _, _, _, d, _, h, _⟩ => d.sub.tp h) ?_ ?_⟩⟩
              · clear d36 fx36 kqq odds
                rintro j x σ H37 hx ⟨o2, o7, o8, o9, o10, o11, o12, o13, G37, rfl, d37, fx37, kq37, od37⟩
                obtain ⟨p, odd, dod, due, rfl, hp, hdo, hro, hsh⟩ := od37 x (List.mem_of_getElem? hx)
                refine ⟨p, _, rfl, d37.sub.tp hp, rfl, ⟨_, _, rfl, ⟨_, _, rfl, ⟨rfl, ?_⟩⟩⟩⟩
                refine ⟨d37.tb, fun H38 e38 tb38 => fun R => ?_⟩
                have d38 := d37.lam e38 tb38
                have f38 := flt_ext G37
                have fx38 := fx37.ext f38
                have kq38 := (ext_sq (K := K) f38).t _ _ kq37
                have od38 := od37.ext f38
                have hdo38 := Dq.ext f38 _ _ hdo
                generalize flt G37 = G38 at d38 f38 fx38 kq38 od38 hdo38
                clear d37 fx37 kq37 od37 hdo hp
                refine ⟨_, rfl, _, rfl, G38, pl, odd, dod, Tr, bad, names, rfl, d38.sub, fx38.play, hdo38, hsh, hfit, by omega, made.closed, fun f hf => (by rw [hro] at hf; cases hf), fun i' e dd' H39 s39 hdd' => ?_⟩
                rw [hro] at e
                cases e
                have d39 := d38.calm (Gr.of d38.sub s39)
                refine ⟨dd', ((due : Nat) : Int), rfl, hdd', .inl ⟨rfl, fun p hp => ?_⟩⟩
                have d40 := d39.newG (o := .tup [.str "rules", .int (due : Nat)]) hp
                have u40 : Same G38 (upd G38 p (.tup [.str "rules", .int (due : Nat)])) := Same.upd_none (d39.sub.free hp)
                have hp40 : SqT K (upd G38 p (.tup [.str "rules", .int (due : Nat)])) p [.str "rules", .int (due : Nat)] := SqT.of upd_same
                generalize upd G38 p (.tup [.str "rules", .int (due : Nat)]) = G40 at d40 u40 hp40
                refine ⟨_, rfl, by show 2 ≤ sizeLine; decide, fun q hq => ?_⟩
                have d41 := d40.newG (o := .tup [.str "rules", .int (due : Nat)]) hq
                have u41 : Same G40 (upd G40 q (.tup [.str "rules", .int (due : Nat)])) := Same.upd_none (d40.sub.free hq)
                have hq41 : SqT K (upd G40 q (.tup [.str "rules", .int (due : Nat)])) q [.str "rules", .int (due : Nat)] := SqT.of upd_same
                generalize upd G40 q (.tup [.str "rules", .int (due : Nat)]) = G41 at d41 u41 hq41
                refine ⟨.ref p, .ref q, rfl, .tup (d41.sub.tp (u41.tp hp40)) (d41.sub.tp hq41) rfl (by show 2 ≤ 10000; decide) (fun i x y e1 e2 => ?_), fun H42 s42 => ⟨_, rfl, ite_n rfl ?_⟩⟩
                · rw [e1] at e2
                  cases e2
                  match i, e1 with
                  | 0, e1 => cases e1; exact .str 0 _
                  | 1, e1 => cases e1; exact .int 0 _
                  | i + 2, e1 => cases e1
                · have d42 := d41.calm (Gr.of d41.sub s42)
                  have u42 := u40.trans u41
                  exact ⟨_, _, _, _, _, _, _, _, G41, rfl, d42, fx38.same u42, u42.tp kq38, od38.same u42⟩
              · clear d36 fx36 kqq odds
                rintro σ H37 ⟨o2, o7, o8, o9, o10, o11, o12, o13, G37, rfl, d37, fx37, kq37, od37⟩
                refine ⟨_, rfl, G37, pl, Tr, bad, names, rfl, d37.sub, fx37.play, hfit, h6, hTl, made.closed, made.rowl, hsrtT, made.bads.1, made.bads.2, fun told4 H38 G38 ys38 Ls38 g38 hn38 hg38 hT38 hset38 thr38 => ?_⟩
                have hll := (lots_same made hsrt hmem thr38 hlots).symm
                subst hll
                have d38 := d37.calm g38
                have fx38 := fx37.same g38.up
                refine ⟨_, rfl, .ref told4, .ref FL, rfl, sm_sets (SqL.of hT38) (d38.sub.seq fx38.lt) (hset38.same d38.sub) (fx38.sets.same d38.sub) (by omega) (fun L m => Nat.le_trans (hL6 L m) (by decide)), fun H39 s39 => ⟨_, rfl, ite_n rfl ?_⟩⟩
                have d39 := d38.calm (Gr.of d38.sub s39)
                exact ⟨_, _, _, _, _, _, _, _, _, _, _, _, rfl, d39.drop.le (by omega)⟩
    · rintro σ H2 ⟨o2, o3, o4, o5, o6, o7, o8, o9, o10, o11, o12, o13, rfl, d2⟩
      exact k H2
end
end K8
-- K8End0
set_option maxRecDepth 100000
set_option maxHeartbeats 1000000
namespace K8
open PySem PySem.Spec PyProof.Rows L2
/-! ### the end: the law is called where no repr is under way -/
/-- what is tracked at the law's call: the script (unless it is of the written part), the empty tables -/
def hp0 (K : PySem.W.Frag) (a : Addr) (o : Obj) (xs : List V) (tabs : List Addr) : Hp := fun b =>
  if b = a ∧ (K.lookup a).isNone = true then some (.frz o (.lst xs)) else if b ∈ tabs then some (.tbl #[]) else none
section
variable {K : PySem.W.Frag} {a b : Addr} {o : Obj} {xs : List V} {tabs : List Addr} {u : HO}
theorem hp0_some (h : hp0 K a o xs tabs b = some u) : (b = a ∧ K.lookup a = none ∧ u = .frz o (.lst xs)) ∨ (b ∈ tabs ∧ u = .tbl #[]) := by
  unfold hp0 at h
  by_cases c : b = a ∧ (K.lookup a).isNone = true
  · rw [if_pos c] at h
    cases h
    exact .inl ⟨c.1, Option.isNone_iff_eq_none.mp c.2, rfl⟩
  · rw [if_neg c] at h
    by_cases d : b ∈ tabs
    · rw [if_pos d] at h; cases h; exact .inr ⟨d, rfl⟩
    · rw [if_neg d] at h; cases h
theorem hp0_a (h : K.lookup a = none) : hp0 K a o xs tabs a = some (.frz o (.lst xs)) := if_pos ⟨rfl, by rw [h]; rfl⟩
theorem hp0_t (h : b ∈ tabs) (n : b ≠ a) : hp0 K a o xs tabs b = some (.tbl #[]) := (if_neg fun z => n z.1).trans (if_pos h)
theorem hp0_no (h : b ∉ tabs) (n : b = a → K.lookup a ≠ none) : hp0 K a o xs tabs b = none := (if_neg fun z => n z.1 (Option.isNone_iff_eq_none.mp z.2)).trans (if_neg h)
end
theorem lawRun {P : Program} {w : World} {K : PySem.W.Frag} {mg mb : Str → Option Value} {k : Nat} {fa a : Addr} {cs : List (Addr × Addr)} {x : Str} {sp : Sp} {t : Shared} {vals : List Value} {ns : List Int}
    (inK : K.In t.heap) (gl : t.heap.Ns mainGlobals mg) (bt : t.heap.Ns builtinsNs mb) (bb : ∀ y : Str, y ≠ "__name__" → mb y = bootBuiltins y) (nl : t.heap.NoLimit) (ng : t.gens = #[])
    (te : ∀ p ∈ cs, t.heap.get? p.2 = some { cls := .none, data := .fields #[] }) (tn : ∀ p ∈ cs, K.lookup p.2 = none) (tc : ∀ p ∈ cs, PySem.W.codeHdIn K p.1 p.2 = true)
    (bm : ∃ (m : Addr) (ob : Obj), mg "__builtins__" = some (.ref m) ∧ m ≠ builtinsNs ∧ t.heap.get? m = some ob ∧ ob.cls = .type "module" ∧ ob.dict = some builtinsNs ∧ ob.data = .plain)
    (so : t.heap.get? a = some { cls := .type "list", data := .seq vals.toArray }) (iv : IntsAre vals ns) (few : ns.length ≤ sizeLine) (room : Room k callerA) (at_ : mg x = some (.ref fa))
    (F : ∀ base : Heap, K.In base → base.Ns mainGlobals mg → (∀ p ∈ cs, LamX.TabB base mg p.1 p.2) → ClG P w K mg base k x sp)
    (sat : ∀ H : Hp, (∀ p ∈ cs, H p.2 = some (.tbl #[])) → SqL K H a (ns.map V.int) → sp [.ref a] H (fun v _ => v = .bl true) fun _ _ _ => False) :
    codeAny (model P w) callerA (.call (.ref fa) ⟨[.ref a], []⟩) (fun r t' => r = .ok (.ret (.bool true)) ∧ OldK t.heap t'.heap ∧ t'.os = t.os ∧ AllBare t'.gens) t := by
  have rel := vals_ints iv
  have many : vals.length = ns.length := by rw [← rel.length, List.length_map]
  have empty : ∀ {b : Addr}, b ∈ cs.map (·.2) → t.heap.get? b = some { cls := .none, data := .fields #[] } := fun {b} m => by
    obtain ⟨p, mp, rfl⟩ := List.mem_map.mp m
    exact te p mp
  have apart : ∀ {b : Addr}, b ∈ cs.map (·.2) → b ≠ a := fun {b} m z => by
    have e := empty m
    rw [z, so] at e
    cases e
  generalize hH : hp0 K a { cls := .type "list", data := .seq vals.toArray } (ns.map V.int) (cs.map (·.2)) = H
  have some_ : ∀ {b : Addr} {u : HO}, H b = some u → (b = a ∧ K.lookup a = none ∧ u = .frz { cls := .type "list", data := .seq vals.toArray } (.lst (ns.map V.int))) ∨ (b ∈ cs.map (·.2) ∧ u = .tbl #[]) := fun {b u} h => hp0_some (by rw [hH]; exact h)
  have tabs : ∀ p ∈ cs, H p.2 = some (.tbl #[]) := fun p mp => by
    have m : p.2 ∈ cs.map (·.2) := List.mem_map.mpr ⟨p, mp, rfl⟩
    rw [← hH]
    exact hp0_t m (apart m)
  have lenOk : (ns.map V.int).length ≤ sizeLine := by rw [List.length_map]; exact few
  have seq : SqL K H a (ns.map V.int) := by
    cases q : K.lookup a with
    | none => exact .inl (.inr ⟨_, by rw [← hH]; exact hp0_a q⟩)
    | some ob =>
      have e := inK a ob q
      rw [so] at e
      cases e
      exact .inr ⟨_, vals.toArray, 0, q, rfl, rfl, rfl, (by rw [List.size_toArray, many]; exact few), (by simpa using rel)⟩
  have fine : HOk P w H t.heap := fun b u h => by
    rcases some_ h with ⟨rfl, _, rfl⟩ | ⟨m, rfl⟩
    · exact ⟨so, lenOk, vals, 0, rel, so⟩
    · exact empty m
  -- what is neither a list nor a table stands in the base
  have free : ∀ {b : Addr} {ob : Obj}, t.heap.get? b = some ob → ((∃ es n, ob.data = .dict es n) ∨ ob.data = .plain) → H b = none := fun {b ob} e kind => by
    cases q : H b with
    | none => rfl
    | some u =>
      exfalso
      rcases some_ q with ⟨rfl, _, _⟩ | ⟨m, _⟩
      · rw [so] at e
        cases e
        rcases kind with ⟨_, _, z⟩ | z <;> cases z
      · rw [empty m] at e
        cases e
        rcases kind with ⟨_, _, z⟩ | z <;> cases z
  have names : ∀ {b : Addr} {m : Str → Option Value}, t.heap.Ns b m → (hidT t.heap H).Ns b m := by
    rintro b m ⟨ob, es, ep, e, hd, more⟩
    exact ⟨ob, es, ep, hidT_get e (free e (.inl ⟨_, _, hd⟩)), hd, more⟩
  have inB : K.In (hidT t.heap H) := fun b ob q => hidT_get (inK b ob q) (by
    cases z : H b with
    | none => rfl
    | some u =>
      exfalso
      rcases some_ z with ⟨rfl, n, _⟩ | ⟨m, _⟩
      · rw [n] at q; cases q
      · obtain ⟨p, mp, rfl⟩ := List.mem_map.mp m
        rw [tn p mp] at q; cases q)
  have module : L2.Mod K mg (hidT t.heap H) := ⟨inB, names gl, ⟨mb, names bt, bb⟩, (let ⟨mc, h1, h2⟩ := nl; ⟨mc, names h1, h2⟩)⟩
  have books : ∀ p ∈ cs, LamX.TabB (hidT t.heap H) mg p.1 p.2 := fun p mp => by
    obtain ⟨m, ob, h1, h2, h3, h4, h5, h6⟩ := bm
    refine ⟨PySem.W.codeHd_of_K inB (tc p mp), ⟨m, ob, h1, h2, ?_, ?_, hidT_get h3 (free h3 (.inr h6)), h4, h5, h6⟩, ?_⟩
    · rintro rfl
      obtain ⟨_, _, _, e, hd, _⟩ := gl
      rw [h3] at e
      cases e
      rw [h6] at hd; cases hd
    · rintro rfl
      rw [te p mp] at h3
      cases h3
      cases h6
    · intro z
      obtain ⟨_, _, _, e, hd, _⟩ := gl
      rw [z, te p mp] at e
      cases e
      cases hd
  have env : Env0 P w K mg (hidT t.heap H) callerA [] t H := ⟨rfl, module, fun b ob e => of_hidT e, Nat.le_of_eq (hidT_size _ _), trivial, fun b m => (nomatch m), fine, .of_eq ng⟩
  obtain ⟨f, fd, ps, len, run, m, _, bd⟩ := (F _ inB (names gl) books).ex
  obtain rfl : f = fa := by
    rw [at_] at m
    cases m; rfl
  have ready := sat H tabs seq
  have one : ([Value.ref a] ++ []).length = ps.length := len _ _ _ _ ready
  refine codeAny_mono (run callerA [] t H ⟨[.ref a], []⟩ [.ref a] [.ref a] _ _ rfl room env (bd t [.ref a] inK one) (.cons rfl .nil) ready) ?_
  rintro (er | _ | _ | _ | v) t' out
  all_goals try exact False.elim out
  obtain ⟨y, J, os, bare, un, ok, rv, q⟩ := out
  obtain rfl : y = .bl true := q
  obtain rfl : v = Value.bool true := rv
  have kept : ∀ b ob, b ∉ cs.map (·.2) → t.heap.get? b = some ob → t'.heap.get? b = some ob := fun b ob nm e => by
    cases z : H b with
    | none => exact un.keep b ob e z (fun m => (nomatch m)) (fun m => (nomatch m))
    | some u =>
      rcases some_ z with ⟨rfl, _, rfl⟩ | ⟨m, _⟩
      · have h2 := (ok _ _ (un.frzs _ _ _ z)).1
        rw [so] at e
        cases e
        exact h2
      · exact absurd m nm
  have grown : ∀ p ∈ cs, ∃ more : Array Value, t'.heap.get? p.2 = some { cls := .none, data := .fields more } := fun p mp => by
    obtain ⟨more, z⟩ := un.tbls p.2 #[] (tabs p mp)
    exact ⟨_, ok p.2 _ z⟩
  refine ⟨rfl, ⟨fun b ob e => ?_, fun b ob e => ?_⟩, os, bare⟩ <;> by_cases m : b ∈ cs.map (·.2)
  · obtain ⟨p, mp, rfl⟩ := List.mem_map.mp m
    obtain ⟨more, g⟩ := grown p mp
    rw [te p mp] at e
    cases e
    exact .inr (.inl ⟨((PySem.W.codeHd_of_K inK (tc p mp)).tab (te p mp)).isCodeTable, rfl, #[], more, rfl, by rw [Array.empty_append]; exact g⟩)
  · exact .inl (kept b ob m e)
  · obtain ⟨p, mp, rfl⟩ := List.mem_map.mp m
    obtain ⟨more, g⟩ := grown p mp
    exact ⟨_, g⟩
  · exact ⟨ob, kept b ob m e⟩
end K8
-- K8End
set_option maxRecDepth 100000
set_option maxHeartbeats 1000000
namespace K8
open PySem PySem.Spec PyProof.Rows L2
abbrev cB (K : PySem.W.Frag) : Addr × Addr := He.cT K ("_law_barring_right", none)
abbrev cL (K : PySem.W.Frag) : Addr × Addr := He.cT K ("law", none)
/-- the tables and the lambdas' names -/
def Tb2 (K : PySem.W.Frag) : List (Addr × Str) := [((cB K).2, "_law_barring_right" ++ ".<locals>." ++ "<lambda>"), ((cL K).2, "law" ++ ".<locals>." ++ "<lambda>")]
theorem tb_ok {K : PySem.W.Frag} {mg : Str → Option Value} {base : Heap} (ne : (cB K).2 ≠ (cL K).2) (h : ∀ p ∈ tf.map (He.cT K), LamX.TabB base mg p.1 p.2) : TbOk K mg base (Tb2 K) "_law_barring_right" ∧ TbOk K mg base (Tb2 K) "law" := by
  have h1 := h (cB K) (List.mem_map.mpr ⟨("_law_barring_right", none), List.mem_cons_self, rfl⟩)
  have h2 := h (cL K) (List.mem_map.mpr ⟨("law", none), List.mem_cons_of_mem _ List.mem_cons_self, rfl⟩)
  refine ⟨⟨h1, List.mem_cons_self, fun p m e => ?_⟩, ⟨h2, List.mem_cons_of_mem _ List.mem_cons_self, fun p m e => ?_⟩⟩
  · rcases List.mem_cons.mp m with rfl | m
    · rfl
    · rw [List.mem_singleton.mp m] at e
      exact absurd e.symm ne
  · rcases List.mem_cons.mp m with rfl | m
    · exact absurd e ne
    · rw [List.mem_singleton.mp m]
end K8
open PySem PySem.W PySem.Calls PyProof.Rows
theorem PySem.Challenge.cw_farfolder_k08_whole_what_bars_runs_holds : PySem.Challenge.rw_farfolder_k08_whole_what_bars_runs.Holds := by
  w_on; o_law
  refine HandSHeadRun.head_any (r := K8.R) (q := view K8.R.prog [70]) (H := K8.hk) (ob := K8.ob) (M := 4000) (loose := K8.nms) (d := HandSHeadRun.topDef K8.R.prog 70) (kwd := []) K8.ob_eq
    (by kernel_rfl) (fun s => by kernel_rfl) K8.run (by kernel_rfl) (by kernel_rfl) (by kernel_rfl) (by rfl) (by first | assumption | decide +kernel) (by decide +kernel) ⟨rfl, rfl, rfl, rfl, rfl, by decide +kernel⟩ ?hw ?hc
  case hw => w_witness2
  case hc =>
    refine Att.attach_callB (l := PySem.Challenge.rw_farfolder_k08_whole_what_bars_runs) (n := 63) rfl (by kernel_rfl) ?_
    intro w s₀ t mg mb fa o pm cd doc a vals ns G Y ho hd hcd hmg0 hobj hints hlen hbits hg
    obtain ⟨K, inK, c⟩ := Y
    have hmg : mg ("law" : PySem.Str) = some (.ref fa) := by
      have e : (HandSHeadRun.topDef K8.R.prog 70).name = ("law" : PySem.Str) := by kernel_rfl
      rw [← e]
      exact hmg0
    have more := c.more
    have ex : K8.exB K = true := (Bool.and_eq_true_iff.mp more).1
    have ne : (K8.cB K).2 ≠ (K8.cL K).2 := by
      have z := (Bool.and_eq_true_iff.mp more).2
      rw [Bool.not_eq_true'] at z
      exact of_decide_eq_false z
    have T : K8.Txt K mg := ⟨c.t.d, ex, ⟨_, inK, G.T.g⟩⟩
    refine K8.lawRun (k := 12) (x := "law") (cs := K8.tf.map (He.cT K)) (sp := K8.spLaw K (K8.Tb2 K)) inK G.T.g G.T.b G.T.builtins G.T.nolimit hg ?_ ?_ ?_ G.T.bmain hobj hints (Nat.le_trans hlen (by decide)) ⟨rfl, by decide, by decide⟩ hmg ?_ ?_
    · intro p m
      obtain ⟨q, mq, rfl⟩ := List.mem_map.mp m
      exact c.empty q mq
    · intro p m
      obtain ⟨q, mq, rfl⟩ := List.mem_map.mp m
      exact c.out q mq
    · intro p m
      obtain ⟨q, mq, rfl⟩ := List.mem_map.mp m
      exact c.hd q mq
    · intro base _ _ books
      obtain ⟨B, BL⟩ := K8.tb_ok ne books
      exact K8.ok_law T B BL
    · intro H tabs seq
      refine ⟨a, ns, rfl, seq, hlen, ?_, fun _ => rfl⟩
      intro p m
      rcases List.mem_cons.mp m with rfl | m
      · exact LamX.TabS.nil (tabs (K8.cB K) (List.mem_map.mpr ⟨("_law_barring_right", none), List.mem_cons_self, rfl⟩))
      · rw [List.mem_singleton.mp m]
        exact LamX.TabS.nil (tabs (K8.cL K) (List.mem_map.mpr ⟨("law", none), List.mem_cons_of_mem _ List.mem_cons_self, rfl⟩))
