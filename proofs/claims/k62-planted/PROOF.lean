import PyProof.Rows.All
import Wide.All
import OpenK.AllK
import Wide.FinOn
import KE.KStateDown
import Lean
import HandS.Base
import HandS.Call
import HandS.Ends
import HandS.More
import HandS.Words
import HandS.WordsExc
import HandS.Defaults
import HandS.Head0
import HandS.Head1
import HandS.Head2
import HandS.HeadEnd
import HandS.HeadHook1
import HandS.HeadHook2
import HandS.HeadHook3
import HandS.HeadHook4
import PySem.Challenge.RW_plinth_k62_whole_planted_images_run_alik
import HandS.Text
import HandS.List
import HandS.Dict
import HandS.Iter
import HandS.Comp
import HandS.Flow
import HandS.CallLocal
import HandS.IsInst
import HandS.MakeKwOnly
import HandS.Walk
import HandS.WordsList
import HandS.WordsDict
import HandS.Steps
import PyProof.P3Eq
import KE.SortData
import KE.KIntText
set_option Elab.async false
set_option linter.all false
set_option maxRecDepth 100000
set_option maxHeartbeats 0
namespace Pk
open PySem PySem.Spec PyProof.Rows L2
def top (i : Nat) : Stmt := PySem.Challenge.pw_plinth_k62_whole_planted_images_run_alik.main.body.getD i (.Pass ⟨0, 0, 0, 0⟩)
abbrev s_nodes_of : Stmt := top 7
abbrev s_image_of : Stmt := top 8
abbrev s_table_of : Stmt := top 9
abbrev s_is_trap : Stmt := top 27
abbrev s_is_plantable : Stmt := top 28
abbrev s_beginning : Stmt := top 29
abbrev s_comparison : Stmt := top 30
abbrev s_writing : Stmt := top 31
abbrev s_copying : Stmt := top 32
abbrev s_trap_nodes : Stmt := top 33
abbrev s_plant : Stmt := top 34
abbrev s_push : Stmt := top 41
abbrev s_plus : Stmt := top 42
abbrev s_minus : Stmt := top 43
abbrev s_digit : Stmt := top 44
abbrev s_less : Stmt := top 45
abbrev s_same : Stmt := top 46
abbrev s_load : Stmt := top 47
abbrev s_keep : Stmt := top 48
abbrev s_assign : Stmt := top 49
abbrev s_take : Stmt := top 50
abbrev s_rewind : Stmt := top 51
abbrev s_emit : Stmt := top 52
abbrev s_cell : Stmt := top 53
abbrev s_drop : Stmt := top 54
abbrev s_double : Stmt := top 55
abbrev s_exchange : Stmt := top 56
abbrev s_test : Stmt := top 57
abbrev s_call : Stmt := top 58
abbrev s_call_low : Stmt := top 59
abbrev s_return : Stmt := top 60
abbrev s_S_init : Stmt := inClass (top 62) 0
abbrev s_S_pull : Stmt := inClass (top 62) 1
abbrev s_S_has_ended : Stmt := inClass (top 62) 2
abbrev s_S_step : Stmt := inClass (top 62) 3
abbrev s_S_advance : Stmt := inClass (top 62) 4
abbrev s_run : Stmt := top 63
abbrev s_T_init : Stmt := inClass (top 73) 0
abbrev s_T_popped : Stmt := inClass (top 73) 1
abbrev s_T_number : Stmt := inClass (top 73) 2
abbrev s_T_put_node : Stmt := inClass (top 73) 3
abbrev s_T_emit : Stmt := inClass (top 73) 4
abbrev s_T_end_numeral : Stmt := inClass (top 73) 5
abbrev s_T_paired : Stmt := inClass (top 73) 6
abbrev s_T_bracket : Stmt := inClass (top 73) 7
abbrev s_T_sign : Stmt := inClass (top 73) 8
abbrev s_T_take : Stmt := inClass (top 73) 9
abbrev s_T_finish : Stmt := inClass (top 73) 10
abbrev s_translate : Stmt := top 74
abbrev s_law_number : Stmt := top 76
abbrev s_law_draws : Stmt := top 77
abbrev s_law_next : Stmt := top 78
abbrev s_law_op : Stmt := top 79
abbrev s_law_item : Stmt := top 80
abbrev s_law_items : Stmt := top 81
abbrev s_law_tree : Stmt := top 82
abbrev s_law_char : Stmt := top 83
abbrev s_law_write : Stmt := top 84
abbrev s_law_trap : Stmt := top 85
abbrev s_law_extra : Stmt := top 86
abbrev s_law_is_integer : Stmt := top 87
abbrev s_law_is_integers : Stmt := top 88
abbrev s_law_result : Stmt := top 89
abbrev s_law : Stmt := top 90
def d_nodes_of : He.DefD := ⟨("nodes_of", none), "nodes_of", "nodes_of", defArgs s_nodes_of, defBody s_nodes_of, defScope s_nodes_of, [], []⟩
def d_image_of : He.DefD := ⟨("image_of", none), "image_of", "image_of", defArgs s_image_of, defBody s_image_of, defScope s_image_of, [], []⟩
def d_table_of : He.DefD := ⟨("table_of", none), "table_of", "table_of", defArgs s_table_of, defBody s_table_of, defScope s_table_of, [], []⟩
def d_is_trap : He.DefD := ⟨("is_trap", none), "is_trap", "is_trap", defArgs s_is_trap, defBody s_is_trap, defScope s_is_trap, [], []⟩
def d_is_plantable : He.DefD := ⟨("is_plantable", none), "is_plantable", "is_plantable", defArgs s_is_plantable, defBody s_is_plantable, defScope s_is_plantable, [], []⟩
def d_beginning : He.DefD := ⟨("beginning", none), "beginning", "beginning", defArgs s_beginning, defBody s_beginning, defScope s_beginning, [], []⟩
def d_comparison : He.DefD := ⟨("comparison", none), "comparison", "comparison", defArgs s_comparison, defBody s_comparison, defScope s_comparison, [], []⟩
def d_writing : He.DefD := ⟨("writing", none), "writing", "writing", defArgs s_writing, defBody s_writing, defScope s_writing, [], []⟩
def d_copying : He.DefD := ⟨("copying", none), "copying", "copying", defArgs s_copying, defBody s_copying, defScope s_copying, [], []⟩
def d_trap_nodes : He.DefD := ⟨("trap_nodes", none), "trap_nodes", "trap_nodes", defArgs s_trap_nodes, defBody s_trap_nodes, defScope s_trap_nodes, [], []⟩
def d_plant : He.DefD := ⟨("plant", none), "plant", "plant", defArgs s_plant, defBody s_plant, defScope s_plant, [], []⟩
def d_push : He.DefD := ⟨("_push", none), "_push", "_push", defArgs s_push, defBody s_push, defScope s_push, [], []⟩
def d_plus : He.DefD := ⟨("_plus", none), "_plus", "_plus", defArgs s_plus, defBody s_plus, defScope s_plus, [], []⟩
def d_minus : He.DefD := ⟨("_minus", none), "_minus", "_minus", defArgs s_minus, defBody s_minus, defScope s_minus, [], []⟩
def d_digit : He.DefD := ⟨("_digit", none), "_digit", "_digit", defArgs s_digit, defBody s_digit, defScope s_digit, [], []⟩
def d_less : He.DefD := ⟨("_less", none), "_less", "_less", defArgs s_less, defBody s_less, defScope s_less, [], []⟩
def d_same : He.DefD := ⟨("_same", none), "_same", "_same", defArgs s_same, defBody s_same, defScope s_same, [], []⟩
def d_load : He.DefD := ⟨("_load", none), "_load", "_load", defArgs s_load, defBody s_load, defScope s_load, [], []⟩
def d_keep : He.DefD := ⟨("_keep", none), "_keep", "_keep", defArgs s_keep, defBody s_keep, defScope s_keep, [], []⟩
def d_assign : He.DefD := ⟨("_assign", none), "_assign", "_assign", defArgs s_assign, defBody s_assign, defScope s_assign, [], []⟩
def d_take : He.DefD := ⟨("_take", none), "_take", "_take", defArgs s_take, defBody s_take, defScope s_take, [], []⟩
def d_rewind : He.DefD := ⟨("_rewind", none), "_rewind", "_rewind", defArgs s_rewind, defBody s_rewind, defScope s_rewind, [], []⟩
def d_emit : He.DefD := ⟨("_emit", none), "_emit", "_emit", defArgs s_emit, defBody s_emit, defScope s_emit, [], []⟩
def d_cell : He.DefD := ⟨("_cell", none), "_cell", "_cell", defArgs s_cell, defBody s_cell, defScope s_cell, [], []⟩
def d_drop : He.DefD := ⟨("_drop", none), "_drop", "_drop", defArgs s_drop, defBody s_drop, defScope s_drop, [], []⟩
def d_double : He.DefD := ⟨("_double", none), "_double", "_double", defArgs s_double, defBody s_double, defScope s_double, [], []⟩
def d_exchange : He.DefD := ⟨("_exchange", none), "_exchange", "_exchange", defArgs s_exchange, defBody s_exchange, defScope s_exchange, [], []⟩
def d_test : He.DefD := ⟨("_test", none), "_test", "_test", defArgs s_test, defBody s_test, defScope s_test, [], []⟩
def d_call : He.DefD := ⟨("_call", none), "_call", "_call", defArgs s_call, defBody s_call, defScope s_call, [], []⟩
def d_call_low : He.DefD := ⟨("_call_low", none), "_call_low", "_call_low", defArgs s_call_low, defBody s_call_low, defScope s_call_low, [], []⟩
def d_return : He.DefD := ⟨("_return", none), "_return", "_return", defArgs s_return, defBody s_return, defScope s_return, [], []⟩
def d_S_init : He.DefD := ⟨("State", some "__init__"), "__init__", "State.__init__", defArgs s_S_init, defBody s_S_init, defScope s_S_init, [], []⟩
def d_S_pull : He.DefD := ⟨("State", some "pull"), "pull", "State.pull", defArgs s_S_pull, defBody s_S_pull, defScope s_S_pull, [], []⟩
def d_S_has_ended : He.DefD := ⟨("State", some "has_ended"), "has_ended", "State.has_ended", defArgs s_S_has_ended, defBody s_S_has_ended, defScope s_S_has_ended, [], []⟩
def d_S_step : He.DefD := ⟨("State", some "step"), "step", "State.step", defArgs s_S_step, defBody s_S_step, defScope s_S_step, [], []⟩
def d_S_advance : He.DefD := ⟨("State", some "advance"), "advance", "State.advance", defArgs s_S_advance, defBody s_S_advance, defScope s_S_advance, [], []⟩
def d_run : He.DefD := ⟨("run", none), "run", "run", defArgs s_run, defBody s_run, defScope s_run, [], []⟩
def d_T_init : He.DefD := ⟨("Translator", some "__init__"), "__init__", "Translator.__init__", defArgs s_T_init, defBody s_T_init, defScope s_T_init, [], [("first", .int 200), ("by", .int 1)]⟩
def d_T_popped : He.DefD := ⟨("Translator", some "popped"), "popped", "Translator.popped", defArgs s_T_popped, defBody s_T_popped, defScope s_T_popped, [], []⟩
def d_T_number : He.DefD := ⟨("Translator", some "number"), "number", "Translator.number", defArgs s_T_number, defBody s_T_number, defScope s_T_number, [], []⟩
def d_T_put_node : He.DefD := ⟨("Translator", some "put_node"), "put_node", "Translator.put_node", defArgs s_T_put_node, defBody s_T_put_node, defScope s_T_put_node, [], []⟩
def d_T_emit : He.DefD := ⟨("Translator", some "emit"), "emit", "Translator.emit", defArgs s_T_emit, defBody s_T_emit, defScope s_T_emit, [], []⟩
def d_T_end_numeral : He.DefD := ⟨("Translator", some "end_numeral"), "end_numeral", "Translator.end_numeral", defArgs s_T_end_numeral, defBody s_T_end_numeral, defScope s_T_end_numeral, [], []⟩
def d_T_paired : He.DefD := ⟨("Translator", some "paired"), "paired", "Translator.paired", defArgs s_T_paired, defBody s_T_paired, defScope s_T_paired, [], []⟩
def d_T_bracket : He.DefD := ⟨("Translator", some "bracket"), "bracket", "Translator.bracket", defArgs s_T_bracket, defBody s_T_bracket, defScope s_T_bracket, [], []⟩
def d_T_sign : He.DefD := ⟨("Translator", some "sign"), "sign", "Translator.sign", defArgs s_T_sign, defBody s_T_sign, defScope s_T_sign, [], []⟩
def d_T_take : He.DefD := ⟨("Translator", some "take"), "take", "Translator.take", defArgs s_T_take, defBody s_T_take, defScope s_T_take, [], []⟩
def d_T_finish : He.DefD := ⟨("Translator", some "finish"), "finish", "Translator.finish", defArgs s_T_finish, defBody s_T_finish, defScope s_T_finish, [], []⟩
def d_translate : He.DefD := ⟨("translate", none), "translate", "translate", defArgs s_translate, defBody s_translate, defScope s_translate, [], [("first", .int 200), ("by", .int 1)]⟩
def d_law_number : He.DefD := ⟨("_law_number", none), "_law_number", "_law_number", defArgs s_law_number, defBody s_law_number, defScope s_law_number, [], []⟩
def d_law_draws : He.DefD := ⟨("_law_draws", none), "_law_draws", "_law_draws", defArgs s_law_draws, defBody s_law_draws, defScope s_law_draws, [], []⟩
def d_law_next : He.DefD := ⟨("_law_next", none), "_law_next", "_law_next", defArgs s_law_next, defBody s_law_next, defScope s_law_next, [], []⟩
def d_law_op : He.DefD := ⟨("_law_op", none), "_law_op", "_law_op", defArgs s_law_op, defBody s_law_op, defScope s_law_op, [], []⟩
def d_law_item : He.DefD := ⟨("_law_item", none), "_law_item", "_law_item", defArgs s_law_item, defBody s_law_item, defScope s_law_item, [], []⟩
def d_law_items : He.DefD := ⟨("_law_items", none), "_law_items", "_law_items", defArgs s_law_items, defBody s_law_items, defScope s_law_items, [], []⟩
def d_law_tree : He.DefD := ⟨("_law_tree", none), "_law_tree", "_law_tree", defArgs s_law_tree, defBody s_law_tree, defScope s_law_tree, [], []⟩
def d_law_char : He.DefD := ⟨("_law_char", none), "_law_char", "_law_char", defArgs s_law_char, defBody s_law_char, defScope s_law_char, [], []⟩
def d_law_write : He.DefD := ⟨("_law_write", none), "_law_write", "_law_write", defArgs s_law_write, defBody s_law_write, defScope s_law_write, [], []⟩
def d_law_trap : He.DefD := ⟨("_law_trap", none), "_law_trap", "_law_trap", defArgs s_law_trap, defBody s_law_trap, defScope s_law_trap, [], []⟩
def d_law_extra : He.DefD := ⟨("_law_extra", none), "_law_extra", "_law_extra", defArgs s_law_extra, defBody s_law_extra, defScope s_law_extra, [], []⟩
def d_law_is_integer : He.DefD := ⟨("_law_is_integer", none), "_law_is_integer", "_law_is_integer", defArgs s_law_is_integer, defBody s_law_is_integer, defScope s_law_is_integer, [], []⟩
def d_law_is_integers : He.DefD := ⟨("_law_is_integers", none), "_law_is_integers", "_law_is_integers", defArgs s_law_is_integers, defBody s_law_is_integers, defScope s_law_is_integers, [], []⟩
def d_law_result : He.DefD := ⟨("_law_result", none), "_law_result", "_law_result", defArgs s_law_result, defBody s_law_result, defScope s_law_result, [], []⟩
def d_law : He.DefD := ⟨("law", none), "law", "law", defArgs s_law, defBody s_law, defScope s_law, [], []⟩
def fnl : List He.DefD := [d_nodes_of, d_image_of, d_table_of, d_is_trap, d_is_plantable, d_beginning, d_comparison, d_writing, d_copying, d_trap_nodes, d_plant, d_push, d_plus, d_minus, d_digit, d_less, d_same, d_load, d_keep, d_assign, d_take, d_rewind, d_emit, d_cell, d_drop, d_double, d_exchange, d_test, d_call, d_call_low, d_return, d_S_init, d_S_pull, d_S_has_ended, d_S_step, d_S_advance, d_run, d_T_init, d_T_popped, d_T_number, d_T_put_node, d_T_emit, d_T_end_numeral, d_T_paired, d_T_bracket, d_T_sign, d_T_take, d_T_finish, d_translate, d_law_number, d_law_draws, d_law_next, d_law_op, d_law_item, d_law_items, d_law_tree, d_law_char, d_law_write, d_law_trap, d_law_extra, d_law_is_integer, d_law_is_integers, d_law_result, d_law]
def fal : List He.Fa := [.glo "nodes_of", .glo "image_of", .glo "table_of", .glo "is_trap", .glo "is_plantable", .glo "beginning", .glo "comparison", .glo "writing", .glo "copying", .glo "trap_nodes", .glo "plant", .glo "_push", .glo "_plus", .glo "_minus", .glo "_digit", .glo "_less", .glo "_same", .glo "_load", .glo "_keep", .glo "_assign", .glo "_take", .glo "_rewind", .glo "_emit", .glo "_cell", .glo "_drop", .glo "_double", .glo "_exchange", .glo "_test", .glo "_call", .glo "_call_low", .glo "_return", .glo "run", .glo "translate", .glo "_law_number", .glo "_law_draws", .glo "_law_next", .glo "_law_op", .glo "_law_item", .glo "_law_items", .glo "_law_tree", .glo "_law_char", .glo "_law_write", .glo "_law_trap", .glo "_law_extra", .glo "_law_is_integer", .glo "_law_is_integers", .glo "_law_result", .glo "law", .glo "State", .cls "State", .mkr "State", .noat "State" "image", .noat "State" "numbers", .noat "State" "table", .noat "State" "at", .noat "State" "stack", .noat "State" "store", .noat "State" "back", .noat "State" "place", .noat "State" "output", .noat "State" "steps", .meth "State" "pull", .meth "State" "has_ended", .meth "State" "step", .meth "State" "advance", .glo "Translator", .cls "Translator", .mkr "Translator", .noat "Translator" "by", .noat "Translator" "image", .noat "Translator" "m", .noat "Translator" "k", .noat "Translator" "pile", .noat "Translator" "numeral", .noat "Translator" "waiting", .noat "Translator" "over", .noat "Translator" "finished", .meth "Translator" "popped", .meth "Translator" "number", .meth "Translator" "put_node", .meth "Translator" "emit", .meth "Translator" "end_numeral", .meth "Translator" "paired", .meth "Translator" "bracket", .meth "Translator" "sign", .meth "Translator" "take", .meth "Translator" "finish", .glo "DEEDS", .free "len", .free "list", .free "tuple", .free "range", .free "int", .free "any", .free "str", .free "ord", .free "isinstance", .free "bool", .int "BASE" 1000000, .int "MOST_LURE" 12, .int "MOST_EXTRA" 24, .int "FIXED" 14, .int "PUSH_traps" 35, .int "CELL" 38, .int "CALL" 40, .int "RETURN_traps" 41, .int "PLUS" 43, .int "TAKE" 44, .int "GIVE" 46, .int "DOUBLE" 34, .int "TEST_traps" 63, .int "REWIND" 94, .int "DROP" 95, .int "SAME" 126, .int "FIRST_LETTER" 97, .int "LAST_LETTER" 122, .int "FIRST_CAPITAL" 65, .int "LAST_CAPITAL" 90, .int "LAST_LOW" 199, .int "BLANK" 32, .int "QUOTE" 39, .int "RETURN_translate" 41, .int "COLON" 58, .int "SEMICOLON" 59, .int "ASSIGN" 61, .int "PUSH_translate" 35, .int "TEST_translate" 63]
def deedsL : List (Int × Str) := [(35, "_push"), (43, "_plus"), (45, "_minus"), (42, "_digit"), (60, "_less"), (126, "_same"), (64, "_load"), (33, "_keep"), (61, "_assign"), (44, "_take"), (94, "_rewind"), (46, "_emit"), (38, "_cell"), (95, "_drop"), (34, "_double"), (92, "_exchange"), (63, "_test"), (40, "_call"), (36, "_call_low"), (41, "_return")]
def names0 : List Str := ["_wall", "__name__", "PlinthError", "BadFuel", "BadTrap", "NotPlantable", "nodes_of", "image_of", "table_of", "BASE", "MOST_LURE", "MOST_EXTRA", "FIXED", "PUSH_traps", "CELL", "CALL", "RETURN_traps", "PLUS", "TAKE", "GIVE", "DOUBLE", "TEST_traps", "REWIND", "DROP", "SAME", "is_trap", "is_plantable", "beginning", "comparison", "writing"]
def names1 : List Str := ["copying", "trap_nodes", "plant", "FIRST_LETTER", "LAST_LETTER", "FIRST_CAPITAL", "LAST_CAPITAL", "LAST_LOW", "_push", "_plus", "_minus", "_digit", "_less", "_same", "_load", "_keep", "_assign", "_take", "_rewind", "_emit", "_cell", "_drop", "_double", "_exchange", "_test", "_call", "_call_low", "_return", "DEEDS", "State"]
def names2 : List Str := ["run", "BLANK", "QUOTE", "RETURN_translate", "COLON", "SEMICOLON", "ASSIGN", "PUSH_translate", "TEST_translate", "Translator", "translate", "_law_number", "_law_draws", "_law_next", "_law_op", "_law_item", "_law_items", "_law_tree", "_law_char", "_law_write", "_law_trap", "_law_extra", "_law_is_integer", "_law_is_integers", "_law_result"]
def namesL : List Str := names0 ++ names1 ++ names2
def lawAt : Nat := 90
/-- the table of deeds stands at DEEDS -/
def deedOne (K : PySem.W.Frag) (q : Int × Str) (e : DictEntry) : Bool := match e.key, e.val with
  | .int i _, .ref a => decide (i = q.1) && (decide (e.hash = hashInt q.1) && decide (a = He.ga K q.2))
  | _, _ => false
def deedAll (K : PySem.W.Frag) : List (Int × Str) → List DictEntry → Bool
  | [], [] => true
  | q :: qs, e :: es => deedOne K q e && deedAll K qs es
  | _, _ => false
def deedsB (K : PySem.W.Frag) : Bool := match K.lookup (He.ga K "DEEDS") with
  | some ⟨.type c, none, .dict es _, sl⟩ => decide (c = "dict") && (sl.isEmpty && (!(He.ga K "DEEDS" == sysModules) && deedAll K deedsL es.toList))
  | _ => false
/-- what the walks lean on -/
structure Txt (w : World) (K : PySem.W.Frag) (mg : Str → Option Value) : Prop where
  says : He.SaysD fal fnl K
  at_ : ∃ h : Heap, K.In h ∧ h.Ns mainGlobals mg
  deeds : deedsB K = true
section
variable {w : World} {K : PySem.W.Frag} {mg : Str → Option Value}
theorem Txt.glo (T : Txt w K mg) {x : Str} (i : Nat) (h : fal[i]? = some (.glo x) := by rfl) : mg x = some (.ref (He.ga K x)) := by
  obtain ⟨_, X, G⟩ := T.at_
  exact He.glo_ok X G (T.says.fact i h)
theorem Txt.fre (T : Txt w K mg) {x : Str} (i : Nat) (h : fal[i]? = some (.free x) := by rfl) : mg x = none := by
  obtain ⟨_, X, G⟩ := T.at_
  exact He.free_ok X G (T.says.fact i h)
theorem Txt.num (T : Txt w K mg) {x : Str} {n : Int} (i : Nat) (h : fal[i]? = some (.int x n) := by rfl) : ∃ t, mg x = some (.int n t) := by
  obtain ⟨_, X, G⟩ := T.at_
  exact He.int_ok X G (T.says.fact i h)
theorem g_nodes_of (T : Txt w K mg) : mg "nodes_of" = some (.ref (He.ga K "nodes_of")) := T.glo 0
theorem g_image_of (T : Txt w K mg) : mg "image_of" = some (.ref (He.ga K "image_of")) := T.glo 1
theorem g_table_of (T : Txt w K mg) : mg "table_of" = some (.ref (He.ga K "table_of")) := T.glo 2
theorem g_is_trap (T : Txt w K mg) : mg "is_trap" = some (.ref (He.ga K "is_trap")) := T.glo 3
theorem g_is_plantable (T : Txt w K mg) : mg "is_plantable" = some (.ref (He.ga K "is_plantable")) := T.glo 4
theorem g_beginning (T : Txt w K mg) : mg "beginning" = some (.ref (He.ga K "beginning")) := T.glo 5
theorem g_comparison (T : Txt w K mg) : mg "comparison" = some (.ref (He.ga K "comparison")) := T.glo 6
theorem g_writing (T : Txt w K mg) : mg "writing" = some (.ref (He.ga K "writing")) := T.glo 7
theorem g_copying (T : Txt w K mg) : mg "copying" = some (.ref (He.ga K "copying")) := T.glo 8
theorem g_trap_nodes (T : Txt w K mg) : mg "trap_nodes" = some (.ref (He.ga K "trap_nodes")) := T.glo 9
theorem g_plant (T : Txt w K mg) : mg "plant" = some (.ref (He.ga K "plant")) := T.glo 10
theorem g_push (T : Txt w K mg) : mg "_push" = some (.ref (He.ga K "_push")) := T.glo 11
theorem g_plus (T : Txt w K mg) : mg "_plus" = some (.ref (He.ga K "_plus")) := T.glo 12
theorem g_minus (T : Txt w K mg) : mg "_minus" = some (.ref (He.ga K "_minus")) := T.glo 13
theorem g_digit (T : Txt w K mg) : mg "_digit" = some (.ref (He.ga K "_digit")) := T.glo 14
theorem g_less (T : Txt w K mg) : mg "_less" = some (.ref (He.ga K "_less")) := T.glo 15
theorem g_same (T : Txt w K mg) : mg "_same" = some (.ref (He.ga K "_same")) := T.glo 16
theorem g_load (T : Txt w K mg) : mg "_load" = some (.ref (He.ga K "_load")) := T.glo 17
theorem g_keep (T : Txt w K mg) : mg "_keep" = some (.ref (He.ga K "_keep")) := T.glo 18
theorem g_assign (T : Txt w K mg) : mg "_assign" = some (.ref (He.ga K "_assign")) := T.glo 19
theorem g_take (T : Txt w K mg) : mg "_take" = some (.ref (He.ga K "_take")) := T.glo 20
theorem g_rewind (T : Txt w K mg) : mg "_rewind" = some (.ref (He.ga K "_rewind")) := T.glo 21
theorem g_emit (T : Txt w K mg) : mg "_emit" = some (.ref (He.ga K "_emit")) := T.glo 22
theorem g_cell (T : Txt w K mg) : mg "_cell" = some (.ref (He.ga K "_cell")) := T.glo 23
theorem g_drop (T : Txt w K mg) : mg "_drop" = some (.ref (He.ga K "_drop")) := T.glo 24
theorem g_double (T : Txt w K mg) : mg "_double" = some (.ref (He.ga K "_double")) := T.glo 25
theorem g_exchange (T : Txt w K mg) : mg "_exchange" = some (.ref (He.ga K "_exchange")) := T.glo 26
theorem g_test (T : Txt w K mg) : mg "_test" = some (.ref (He.ga K "_test")) := T.glo 27
theorem g_call (T : Txt w K mg) : mg "_call" = some (.ref (He.ga K "_call")) := T.glo 28
theorem g_call_low (T : Txt w K mg) : mg "_call_low" = some (.ref (He.ga K "_call_low")) := T.glo 29
theorem g_return (T : Txt w K mg) : mg "_return" = some (.ref (He.ga K "_return")) := T.glo 30
theorem g_run (T : Txt w K mg) : mg "run" = some (.ref (He.ga K "run")) := T.glo 31
theorem g_translate (T : Txt w K mg) : mg "translate" = some (.ref (He.ga K "translate")) := T.glo 32
theorem g_law_number (T : Txt w K mg) : mg "_law_number" = some (.ref (He.ga K "_law_number")) := T.glo 33
theorem g_law_draws (T : Txt w K mg) : mg "_law_draws" = some (.ref (He.ga K "_law_draws")) := T.glo 34
theorem g_law_next (T : Txt w K mg) : mg "_law_next" = some (.ref (He.ga K "_law_next")) := T.glo 35
theorem g_law_op (T : Txt w K mg) : mg "_law_op" = some (.ref (He.ga K "_law_op")) := T.glo 36
theorem g_law_item (T : Txt w K mg) : mg "_law_item" = some (.ref (He.ga K "_law_item")) := T.glo 37
theorem g_law_items (T : Txt w K mg) : mg "_law_items" = some (.ref (He.ga K "_law_items")) := T.glo 38
theorem g_law_tree (T : Txt w K mg) : mg "_law_tree" = some (.ref (He.ga K "_law_tree")) := T.glo 39
theorem g_law_char (T : Txt w K mg) : mg "_law_char" = some (.ref (He.ga K "_law_char")) := T.glo 40
theorem g_law_write (T : Txt w K mg) : mg "_law_write" = some (.ref (He.ga K "_law_write")) := T.glo 41
theorem g_law_trap (T : Txt w K mg) : mg "_law_trap" = some (.ref (He.ga K "_law_trap")) := T.glo 42
theorem g_law_extra (T : Txt w K mg) : mg "_law_extra" = some (.ref (He.ga K "_law_extra")) := T.glo 43
theorem g_law_is_integer (T : Txt w K mg) : mg "_law_is_integer" = some (.ref (He.ga K "_law_is_integer")) := T.glo 44
theorem g_law_is_integers (T : Txt w K mg) : mg "_law_is_integers" = some (.ref (He.ga K "_law_is_integers")) := T.glo 45
theorem g_law_result (T : Txt w K mg) : mg "_law_result" = some (.ref (He.ga K "_law_result")) := T.glo 46
theorem g_law (T : Txt w K mg) : mg "law" = some (.ref (He.ga K "law")) := T.glo 47
theorem g_State (T : Txt w K mg) : mg "State" = some (.ref (He.ga K "State")) := T.glo 48
theorem cls_State (T : Txt w K mg) : Cls K (He.ga K "State") := He.cls_ok (T.says.fact 49)
theorem mk_State (T : Txt w K mg) : Mk K (He.ga K "State") (He.ma K (He.ga K "State") "__init__") := He.mkr_ok (T.says.fact 50)
theorem na_State_image (T : Txt w K mg) : NoAttr K (He.ga K "State") "image" := He.noat_ok (T.says.fact 51)
theorem na_State_numbers (T : Txt w K mg) : NoAttr K (He.ga K "State") "numbers" := He.noat_ok (T.says.fact 52)
theorem na_State_table (T : Txt w K mg) : NoAttr K (He.ga K "State") "table" := He.noat_ok (T.says.fact 53)
theorem na_State_at (T : Txt w K mg) : NoAttr K (He.ga K "State") "at" := He.noat_ok (T.says.fact 54)
theorem na_State_stack (T : Txt w K mg) : NoAttr K (He.ga K "State") "stack" := He.noat_ok (T.says.fact 55)
theorem na_State_store (T : Txt w K mg) : NoAttr K (He.ga K "State") "store" := He.noat_ok (T.says.fact 56)
theorem na_State_back (T : Txt w K mg) : NoAttr K (He.ga K "State") "back" := He.noat_ok (T.says.fact 57)
theorem na_State_place (T : Txt w K mg) : NoAttr K (He.ga K "State") "place" := He.noat_ok (T.says.fact 58)
theorem na_State_output (T : Txt w K mg) : NoAttr K (He.ga K "State") "output" := He.noat_ok (T.says.fact 59)
theorem na_State_steps (T : Txt w K mg) : NoAttr K (He.ga K "State") "steps" := He.noat_ok (T.says.fact 60)
theorem m_State_pull (T : Txt w K mg) : Meth K (He.ga K "State") "pull" (He.ma K (He.ga K "State") "pull") := He.meth_ok (T.says.fact 61)
theorem m_State_has_ended (T : Txt w K mg) : Meth K (He.ga K "State") "has_ended" (He.ma K (He.ga K "State") "has_ended") := He.meth_ok (T.says.fact 62)
theorem m_State_step (T : Txt w K mg) : Meth K (He.ga K "State") "step" (He.ma K (He.ga K "State") "step") := He.meth_ok (T.says.fact 63)
theorem m_State_advance (T : Txt w K mg) : Meth K (He.ga K "State") "advance" (He.ma K (He.ga K "State") "advance") := He.meth_ok (T.says.fact 64)
theorem g_Translator (T : Txt w K mg) : mg "Translator" = some (.ref (He.ga K "Translator")) := T.glo 65
theorem cls_Translator (T : Txt w K mg) : Cls K (He.ga K "Translator") := He.cls_ok (T.says.fact 66)
theorem mk_Translator (T : Txt w K mg) : Mk K (He.ga K "Translator") (He.ma K (He.ga K "Translator") "__init__") := He.mkr_ok (T.says.fact 67)
theorem na_Translator_by (T : Txt w K mg) : NoAttr K (He.ga K "Translator") "by" := He.noat_ok (T.says.fact 68)
theorem na_Translator_image (T : Txt w K mg) : NoAttr K (He.ga K "Translator") "image" := He.noat_ok (T.says.fact 69)
theorem na_Translator_m (T : Txt w K mg) : NoAttr K (He.ga K "Translator") "m" := He.noat_ok (T.says.fact 70)
theorem na_Translator_k (T : Txt w K mg) : NoAttr K (He.ga K "Translator") "k" := He.noat_ok (T.says.fact 71)
theorem na_Translator_pile (T : Txt w K mg) : NoAttr K (He.ga K "Translator") "pile" := He.noat_ok (T.says.fact 72)
theorem na_Translator_numeral (T : Txt w K mg) : NoAttr K (He.ga K "Translator") "numeral" := He.noat_ok (T.says.fact 73)
theorem na_Translator_waiting (T : Txt w K mg) : NoAttr K (He.ga K "Translator") "waiting" := He.noat_ok (T.says.fact 74)
theorem na_Translator_over (T : Txt w K mg) : NoAttr K (He.ga K "Translator") "over" := He.noat_ok (T.says.fact 75)
theorem na_Translator_finished (T : Txt w K mg) : NoAttr K (He.ga K "Translator") "finished" := He.noat_ok (T.says.fact 76)
theorem m_Translator_popped (T : Txt w K mg) : Meth K (He.ga K "Translator") "popped" (He.ma K (He.ga K "Translator") "popped") := He.meth_ok (T.says.fact 77)
theorem m_Translator_number (T : Txt w K mg) : Meth K (He.ga K "Translator") "number" (He.ma K (He.ga K "Translator") "number") := He.meth_ok (T.says.fact 78)
theorem m_Translator_put_node (T : Txt w K mg) : Meth K (He.ga K "Translator") "put_node" (He.ma K (He.ga K "Translator") "put_node") := He.meth_ok (T.says.fact 79)
theorem m_Translator_emit (T : Txt w K mg) : Meth K (He.ga K "Translator") "emit" (He.ma K (He.ga K "Translator") "emit") := He.meth_ok (T.says.fact 80)
theorem m_Translator_end_numeral (T : Txt w K mg) : Meth K (He.ga K "Translator") "end_numeral" (He.ma K (He.ga K "Translator") "end_numeral") := He.meth_ok (T.says.fact 81)
theorem m_Translator_paired (T : Txt w K mg) : Meth K (He.ga K "Translator") "paired" (He.ma K (He.ga K "Translator") "paired") := He.meth_ok (T.says.fact 82)
theorem m_Translator_bracket (T : Txt w K mg) : Meth K (He.ga K "Translator") "bracket" (He.ma K (He.ga K "Translator") "bracket") := He.meth_ok (T.says.fact 83)
theorem m_Translator_sign (T : Txt w K mg) : Meth K (He.ga K "Translator") "sign" (He.ma K (He.ga K "Translator") "sign") := He.meth_ok (T.says.fact 84)
theorem m_Translator_take (T : Txt w K mg) : Meth K (He.ga K "Translator") "take" (He.ma K (He.ga K "Translator") "take") := He.meth_ok (T.says.fact 85)
theorem m_Translator_finish (T : Txt w K mg) : Meth K (He.ga K "Translator") "finish" (He.ma K (He.ga K "Translator") "finish") := He.meth_ok (T.says.fact 86)
theorem g_DEEDS (T : Txt w K mg) : mg "DEEDS" = some (.ref (He.ga K "DEEDS")) := T.glo 87
theorem f_len (T : Txt w K mg) : mg "len" = none := T.fre 88
theorem f_list (T : Txt w K mg) : mg "list" = none := T.fre 89
theorem f_tuple (T : Txt w K mg) : mg "tuple" = none := T.fre 90
theorem f_range (T : Txt w K mg) : mg "range" = none := T.fre 91
theorem f_int (T : Txt w K mg) : mg "int" = none := T.fre 92
theorem f_any (T : Txt w K mg) : mg "any" = none := T.fre 93
theorem f_str (T : Txt w K mg) : mg "str" = none := T.fre 94
theorem f_ord (T : Txt w K mg) : mg "ord" = none := T.fre 95
theorem f_isinstance (T : Txt w K mg) : mg "isinstance" = none := T.fre 96
theorem f_bool (T : Txt w K mg) : mg "bool" = none := T.fre 97
theorem i_BASE (T : Txt w K mg) : ∃ t, mg "BASE" = some (.int 1000000 t) := T.num 98
theorem i_MOST_LURE (T : Txt w K mg) : ∃ t, mg "MOST_LURE" = some (.int 12 t) := T.num 99
theorem i_MOST_EXTRA (T : Txt w K mg) : ∃ t, mg "MOST_EXTRA" = some (.int 24 t) := T.num 100
theorem i_FIXED (T : Txt w K mg) : ∃ t, mg "FIXED" = some (.int 14 t) := T.num 101
theorem i_PUSH_traps (T : Txt w K mg) : ∃ t, mg "PUSH_traps" = some (.int 35 t) := T.num 102
theorem i_CELL (T : Txt w K mg) : ∃ t, mg "CELL" = some (.int 38 t) := T.num 103
theorem i_CALL (T : Txt w K mg) : ∃ t, mg "CALL" = some (.int 40 t) := T.num 104
theorem i_RETURN_traps (T : Txt w K mg) : ∃ t, mg "RETURN_traps" = some (.int 41 t) := T.num 105
theorem i_PLUS (T : Txt w K mg) : ∃ t, mg "PLUS" = some (.int 43 t) := T.num 106
theorem i_TAKE (T : Txt w K mg) : ∃ t, mg "TAKE" = some (.int 44 t) := T.num 107
theorem i_GIVE (T : Txt w K mg) : ∃ t, mg "GIVE" = some (.int 46 t) := T.num 108
theorem i_DOUBLE (T : Txt w K mg) : ∃ t, mg "DOUBLE" = some (.int 34 t) := T.num 109
theorem i_TEST_traps (T : Txt w K mg) : ∃ t, mg "TEST_traps" = some (.int 63 t) := T.num 110
theorem i_REWIND (T : Txt w K mg) : ∃ t, mg "REWIND" = some (.int 94 t) := T.num 111
theorem i_DROP (T : Txt w K mg) : ∃ t, mg "DROP" = some (.int 95 t) := T.num 112
theorem i_SAME (T : Txt w K mg) : ∃ t, mg "SAME" = some (.int 126 t) := T.num 113
theorem i_FIRST_LETTER (T : Txt w K mg) : ∃ t, mg "FIRST_LETTER" = some (.int 97 t) := T.num 114
theorem i_LAST_LETTER (T : Txt w K mg) : ∃ t, mg "LAST_LETTER" = some (.int 122 t) := T.num 115
theorem i_FIRST_CAPITAL (T : Txt w K mg) : ∃ t, mg "FIRST_CAPITAL" = some (.int 65 t) := T.num 116
theorem i_LAST_CAPITAL (T : Txt w K mg) : ∃ t, mg "LAST_CAPITAL" = some (.int 90 t) := T.num 117
theorem i_LAST_LOW (T : Txt w K mg) : ∃ t, mg "LAST_LOW" = some (.int 199 t) := T.num 118
theorem i_BLANK (T : Txt w K mg) : ∃ t, mg "BLANK" = some (.int 32 t) := T.num 119
theorem i_QUOTE (T : Txt w K mg) : ∃ t, mg "QUOTE" = some (.int 39 t) := T.num 120
theorem i_RETURN_translate (T : Txt w K mg) : ∃ t, mg "RETURN_translate" = some (.int 41 t) := T.num 121
theorem i_COLON (T : Txt w K mg) : ∃ t, mg "COLON" = some (.int 58 t) := T.num 122
theorem i_SEMICOLON (T : Txt w K mg) : ∃ t, mg "SEMICOLON" = some (.int 59 t) := T.num 123
theorem i_ASSIGN (T : Txt w K mg) : ∃ t, mg "ASSIGN" = some (.int 61 t) := T.num 124
theorem i_PUSH_translate (T : Txt w K mg) : ∃ t, mg "PUSH_translate" = some (.int 35 t) := T.num 125
theorem i_TEST_translate (T : Txt w K mg) : ∃ t, mg "TEST_translate" = some (.int 63 t) := T.num 126
abbrev ps_nodes_of : List Str := ["image"]
abbrev ns_nodes_of : List Str := ["image", "start"]
theorem sc_nodes_of : FnScope ns_nodes_of ps_nodes_of (defScope s_nodes_of) := ⟨rfl, rfl, rfl, by decide +kernel, rfl, by decide +kernel, by decide +kernel⟩
theorem fd_nodes_of (T : Txt w K mg) : ∃ fd, FunD K "nodes_of" "nodes_of" (defArgs s_nodes_of) (defBody s_nodes_of) (defScope s_nodes_of) [] [] (He.ga K "nodes_of") fd := T.says.def_ 0 (d := d_nodes_of)
theorem bd_nodes_of {f : Addr} {fd : FuncData} (F : FunD K "nodes_of" "nodes_of" (defArgs s_nodes_of) (defBody s_nodes_of) (defScope s_nodes_of) [] [] f fd) : Binds K fd ps_nodes_of [] := F.bindsN fun _ _ _ _ _ _ us hl => match us, hl with | [_], _ => rfl
abbrev ps_image_of : List Str := ["nodes"]
abbrev ns_image_of : List Str := ["nodes", "image", "number", "operation", "argument", "successor"]
theorem sc_image_of : FnScope ns_image_of ps_image_of (defScope s_image_of) := ⟨rfl, rfl, rfl, by decide +kernel, rfl, by decide +kernel, by decide +kernel⟩
theorem fd_image_of (T : Txt w K mg) : ∃ fd, FunD K "image_of" "image_of" (defArgs s_image_of) (defBody s_image_of) (defScope s_image_of) [] [] (He.ga K "image_of") fd := T.says.def_ 1 (d := d_image_of)
theorem bd_image_of {f : Addr} {fd : FuncData} (F : FunD K "image_of" "image_of" (defArgs s_image_of) (defBody s_image_of) (defScope s_image_of) [] [] f fd) : Binds K fd ps_image_of [] := F.bindsN fun _ _ _ _ _ _ us hl => match us, hl with | [_], _ => rfl
abbrev ps_table_of : List Str := ["image"]
abbrev ns_table_of : List Str := ["image", "table", "number", "operation", "argument", "successor"]
theorem sc_table_of : FnScope ns_table_of ps_table_of (defScope s_table_of) := ⟨rfl, rfl, rfl, by decide +kernel, rfl, by decide +kernel, by decide +kernel⟩
theorem fd_table_of (T : Txt w K mg) : ∃ fd, FunD K "table_of" "table_of" (defArgs s_table_of) (defBody s_table_of) (defScope s_table_of) [] [] (He.ga K "table_of") fd := T.says.def_ 2 (d := d_table_of)
theorem bd_table_of {f : Addr} {fd : FuncData} (F : FunD K "table_of" "table_of" (defArgs s_table_of) (defBody s_table_of) (defScope s_table_of) [] [] f fd) : Binds K fd ps_table_of [] := F.bindsN fun _ _ _ _ _ _ us hl => match us, hl with | [_], _ => rfl
abbrev ps_is_trap : List Str := ["lure", "extra"]
abbrev ns_is_trap : List Str := ["lure", "extra", "code"]
theorem sc_is_trap : FnScope ns_is_trap ps_is_trap (defScope s_is_trap) := ⟨rfl, rfl, rfl, by decide +kernel, rfl, by decide +kernel, by decide +kernel⟩
theorem fd_is_trap (T : Txt w K mg) : ∃ fd, FunD K "is_trap" "is_trap" (defArgs s_is_trap) (defBody s_is_trap) (defScope s_is_trap) [] [] (He.ga K "is_trap") fd := T.says.def_ 3 (d := d_is_trap)
theorem bd_is_trap {f : Addr} {fd : FuncData} (F : FunD K "is_trap" "is_trap" (defArgs s_is_trap) (defBody s_is_trap) (defScope s_is_trap) [] [] f fd) : Binds K fd ps_is_trap [] := F.bindsN fun _ _ _ _ _ _ us hl => match us, hl with | [_, _], _ => rfl
abbrev ps_is_plantable : List Str := ["image"]
abbrev ns_is_plantable : List Str := ["image", "number", "operation", "_"]
theorem sc_is_plantable : FnScope ns_is_plantable ps_is_plantable (defScope s_is_plantable) := ⟨rfl, rfl, rfl, by decide +kernel, rfl, by decide +kernel, by decide +kernel⟩
theorem fd_is_plantable (T : Txt w K mg) : ∃ fd, FunD K "is_plantable" "is_plantable" (defArgs s_is_plantable) (defBody s_is_plantable) (defScope s_is_plantable) [] [] (He.ga K "is_plantable") fd := T.says.def_ 4 (d := d_is_plantable)
theorem bd_is_plantable {f : Addr} {fd : FuncData} (F : FunD K "is_plantable" "is_plantable" (defArgs s_is_plantable) (defBody s_is_plantable) (defScope s_is_plantable) [] [] f fd) : Binds K fd ps_is_plantable [] := F.bindsN fun _ _ _ _ _ _ us hl => match us, hl with | [_], _ => rfl
abbrev ps_beginning : List Str := []
abbrev ns_beginning : List Str := []
theorem sc_beginning : FnScope ns_beginning ps_beginning (defScope s_beginning) := ⟨rfl, rfl, rfl, by decide +kernel, rfl, by decide +kernel, by decide +kernel⟩
theorem fd_beginning (T : Txt w K mg) : ∃ fd, FunD K "beginning" "beginning" (defArgs s_beginning) (defBody s_beginning) (defScope s_beginning) [] [] (He.ga K "beginning") fd := T.says.def_ 5 (d := d_beginning)
theorem bd_beginning {f : Addr} {fd : FuncData} (F : FunD K "beginning" "beginning" (defArgs s_beginning) (defBody s_beginning) (defScope s_beginning) [] [] f fd) : Binds K fd ps_beginning [] := F.bindsN fun _ _ _ _ _ _ us hl => match us, hl with | [], _ => rfl
abbrev ps_comparison : List Str := ["at", "code", "end"]
abbrev ns_comparison : List Str := ["at", "code", "end"]
theorem sc_comparison : FnScope ns_comparison ps_comparison (defScope s_comparison) := ⟨rfl, rfl, rfl, by decide +kernel, rfl, by decide +kernel, by decide +kernel⟩
theorem fd_comparison (T : Txt w K mg) : ∃ fd, FunD K "comparison" "comparison" (defArgs s_comparison) (defBody s_comparison) (defScope s_comparison) [] [] (He.ga K "comparison") fd := T.says.def_ 6 (d := d_comparison)
theorem bd_comparison {f : Addr} {fd : FuncData} (F : FunD K "comparison" "comparison" (defArgs s_comparison) (defBody s_comparison) (defScope s_comparison) [] [] f fd) : Binds K fd ps_comparison [] := F.bindsN fun _ _ _ _ _ _ us hl => match us, hl with | [_, _, _], _ => rfl
abbrev ps_writing : List Str := ["at", "number"]
abbrev ns_writing : List Str := ["at", "number"]
theorem sc_writing : FnScope ns_writing ps_writing (defScope s_writing) := ⟨rfl, rfl, rfl, by decide +kernel, rfl, by decide +kernel, by decide +kernel⟩
theorem fd_writing (T : Txt w K mg) : ∃ fd, FunD K "writing" "writing" (defArgs s_writing) (defBody s_writing) (defScope s_writing) [] [] (He.ga K "writing") fd := T.says.def_ 7 (d := d_writing)
theorem bd_writing {f : Addr} {fd : FuncData} (F : FunD K "writing" "writing" (defArgs s_writing) (defBody s_writing) (defScope s_writing) [] [] f fd) : Binds K fd ps_writing [] := F.bindsN fun _ _ _ _ _ _ us hl => match us, hl with | [_, _], _ => rfl
abbrev ps_copying : List Str := ["at", "cells"]
abbrev ns_copying : List Str := ["at", "cells", "end"]
theorem sc_copying : FnScope ns_copying ps_copying (defScope s_copying) := ⟨rfl, rfl, rfl, by decide +kernel, rfl, by decide +kernel, by decide +kernel⟩
theorem fd_copying (T : Txt w K mg) : ∃ fd, FunD K "copying" "copying" (defArgs s_copying) (defBody s_copying) (defScope s_copying) [] [] (He.ga K "copying") fd := T.says.def_ 8 (d := d_copying)
theorem bd_copying {f : Addr} {fd : FuncData} (F : FunD K "copying" "copying" (defArgs s_copying) (defBody s_copying) (defScope s_copying) [] [] f fd) : Binds K fd ps_copying [] := F.bindsN fun _ _ _ _ _ _ us hl => match us, hl with | [_, _], _ => rfl
abbrev ps_trap_nodes : List Str := ["lure", "extra"]
abbrev ns_trap_nodes : List Str := ["lure", "extra", "start", "after", "nodes", "at", "code", "number", "cells"]
theorem sc_trap_nodes : FnScope ns_trap_nodes ps_trap_nodes (defScope s_trap_nodes) := ⟨rfl, rfl, rfl, by decide +kernel, rfl, by decide +kernel, by decide +kernel⟩
theorem fd_trap_nodes (T : Txt w K mg) : ∃ fd, FunD K "trap_nodes" "trap_nodes" (defArgs s_trap_nodes) (defBody s_trap_nodes) (defScope s_trap_nodes) [] [] (He.ga K "trap_nodes") fd := T.says.def_ 9 (d := d_trap_nodes)
theorem bd_trap_nodes {f : Addr} {fd : FuncData} (F : FunD K "trap_nodes" "trap_nodes" (defArgs s_trap_nodes) (defBody s_trap_nodes) (defScope s_trap_nodes) [] [] f fd) : Binds K fd ps_trap_nodes [] := F.bindsN fun _ _ _ _ _ _ us hl => match us, hl with | [_, _], _ => rfl
abbrev ps_plant : List Str := ["image", "lure", "extra"]
abbrev ns_plant : List Str := ["image", "lure", "extra"]
theorem sc_plant : FnScope ns_plant ps_plant (defScope s_plant) := ⟨rfl, rfl, rfl, by decide +kernel, rfl, by decide +kernel, by decide +kernel⟩
theorem fd_plant (T : Txt w K mg) : ∃ fd, FunD K "plant" "plant" (defArgs s_plant) (defBody s_plant) (defScope s_plant) [] [] (He.ga K "plant") fd := T.says.def_ 10 (d := d_plant)
theorem bd_plant {f : Addr} {fd : FuncData} (F : FunD K "plant" "plant" (defArgs s_plant) (defBody s_plant) (defScope s_plant) [] [] f fd) : Binds K fd ps_plant [] := F.bindsN fun _ _ _ _ _ _ us hl => match us, hl with | [_, _, _], _ => rfl
abbrev ps_push : List Str := ["state", "argument"]
abbrev ns_push : List Str := ["state", "argument"]
theorem sc_push : FnScope ns_push ps_push (defScope s_push) := ⟨rfl, rfl, rfl, by decide +kernel, rfl, by decide +kernel, by decide +kernel⟩
theorem fd_push (T : Txt w K mg) : ∃ fd, FunD K "_push" "_push" (defArgs s_push) (defBody s_push) (defScope s_push) [] [] (He.ga K "_push") fd := T.says.def_ 11 (d := d_push)
theorem bd_push {f : Addr} {fd : FuncData} (F : FunD K "_push" "_push" (defArgs s_push) (defBody s_push) (defScope s_push) [] [] f fd) : Binds K fd ps_push [] := F.bindsN fun _ _ _ _ _ _ us hl => match us, hl with | [_, _], _ => rfl
abbrev ps_plus : List Str := ["state", "argument"]
abbrev ns_plus : List Str := ["state", "argument", "second"]
theorem sc_plus : FnScope ns_plus ps_plus (defScope s_plus) := ⟨rfl, rfl, rfl, by decide +kernel, rfl, by decide +kernel, by decide +kernel⟩
theorem fd_plus (T : Txt w K mg) : ∃ fd, FunD K "_plus" "_plus" (defArgs s_plus) (defBody s_plus) (defScope s_plus) [] [] (He.ga K "_plus") fd := T.says.def_ 12 (d := d_plus)
theorem bd_plus {f : Addr} {fd : FuncData} (F : FunD K "_plus" "_plus" (defArgs s_plus) (defBody s_plus) (defScope s_plus) [] [] f fd) : Binds K fd ps_plus [] := F.bindsN fun _ _ _ _ _ _ us hl => match us, hl with | [_, _], _ => rfl
abbrev ps_minus : List Str := ["state", "argument"]
abbrev ns_minus : List Str := ["state", "argument", "second"]
theorem sc_minus : FnScope ns_minus ps_minus (defScope s_minus) := ⟨rfl, rfl, rfl, by decide +kernel, rfl, by decide +kernel, by decide +kernel⟩
theorem fd_minus (T : Txt w K mg) : ∃ fd, FunD K "_minus" "_minus" (defArgs s_minus) (defBody s_minus) (defScope s_minus) [] [] (He.ga K "_minus") fd := T.says.def_ 13 (d := d_minus)
theorem bd_minus {f : Addr} {fd : FuncData} (F : FunD K "_minus" "_minus" (defArgs s_minus) (defBody s_minus) (defScope s_minus) [] [] f fd) : Binds K fd ps_minus [] := F.bindsN fun _ _ _ _ _ _ us hl => match us, hl with | [_, _], _ => rfl
abbrev ps_digit : List Str := ["state", "argument"]
abbrev ns_digit : List Str := ["state", "argument", "second"]
theorem sc_digit : FnScope ns_digit ps_digit (defScope s_digit) := ⟨rfl, rfl, rfl, by decide +kernel, rfl, by decide +kernel, by decide +kernel⟩
theorem fd_digit (T : Txt w K mg) : ∃ fd, FunD K "_digit" "_digit" (defArgs s_digit) (defBody s_digit) (defScope s_digit) [] [] (He.ga K "_digit") fd := T.says.def_ 14 (d := d_digit)
theorem bd_digit {f : Addr} {fd : FuncData} (F : FunD K "_digit" "_digit" (defArgs s_digit) (defBody s_digit) (defScope s_digit) [] [] f fd) : Binds K fd ps_digit [] := F.bindsN fun _ _ _ _ _ _ us hl => match us, hl with | [_, _], _ => rfl
abbrev ps_less : List Str := ["state", "argument"]
abbrev ns_less : List Str := ["state", "argument", "second"]
theorem sc_less : FnScope ns_less ps_less (defScope s_less) := ⟨rfl, rfl, rfl, by decide +kernel, rfl, by decide +kernel, by decide +kernel⟩
theorem fd_less (T : Txt w K mg) : ∃ fd, FunD K "_less" "_less" (defArgs s_less) (defBody s_less) (defScope s_less) [] [] (He.ga K "_less") fd := T.says.def_ 15 (d := d_less)
theorem bd_less {f : Addr} {fd : FuncData} (F : FunD K "_less" "_less" (defArgs s_less) (defBody s_less) (defScope s_less) [] [] f fd) : Binds K fd ps_less [] := F.bindsN fun _ _ _ _ _ _ us hl => match us, hl with | [_, _], _ => rfl
abbrev ps_same : List Str := ["state", "argument"]
abbrev ns_same : List Str := ["state", "argument", "second"]
theorem sc_same : FnScope ns_same ps_same (defScope s_same) := ⟨rfl, rfl, rfl, by decide +kernel, rfl, by decide +kernel, by decide +kernel⟩
theorem fd_same (T : Txt w K mg) : ∃ fd, FunD K "_same" "_same" (defArgs s_same) (defBody s_same) (defScope s_same) [] [] (He.ga K "_same") fd := T.says.def_ 16 (d := d_same)
theorem bd_same {f : Addr} {fd : FuncData} (F : FunD K "_same" "_same" (defArgs s_same) (defBody s_same) (defScope s_same) [] [] f fd) : Binds K fd ps_same [] := F.bindsN fun _ _ _ _ _ _ us hl => match us, hl with | [_, _], _ => rfl
abbrev ps_load : List Str := ["state", "argument"]
abbrev ns_load : List Str := ["state", "argument"]
theorem sc_load : FnScope ns_load ps_load (defScope s_load) := ⟨rfl, rfl, rfl, by decide +kernel, rfl, by decide +kernel, by decide +kernel⟩
theorem fd_load (T : Txt w K mg) : ∃ fd, FunD K "_load" "_load" (defArgs s_load) (defBody s_load) (defScope s_load) [] [] (He.ga K "_load") fd := T.says.def_ 17 (d := d_load)
theorem bd_load {f : Addr} {fd : FuncData} (F : FunD K "_load" "_load" (defArgs s_load) (defBody s_load) (defScope s_load) [] [] f fd) : Binds K fd ps_load [] := F.bindsN fun _ _ _ _ _ _ us hl => match us, hl with | [_, _], _ => rfl
abbrev ps_keep : List Str := ["state", "argument"]
abbrev ns_keep : List Str := ["state", "argument", "address"]
theorem sc_keep : FnScope ns_keep ps_keep (defScope s_keep) := ⟨rfl, rfl, rfl, by decide +kernel, rfl, by decide +kernel, by decide +kernel⟩
theorem fd_keep (T : Txt w K mg) : ∃ fd, FunD K "_keep" "_keep" (defArgs s_keep) (defBody s_keep) (defScope s_keep) [] [] (He.ga K "_keep") fd := T.says.def_ 18 (d := d_keep)
theorem bd_keep {f : Addr} {fd : FuncData} (F : FunD K "_keep" "_keep" (defArgs s_keep) (defBody s_keep) (defScope s_keep) [] [] f fd) : Binds K fd ps_keep [] := F.bindsN fun _ _ _ _ _ _ us hl => match us, hl with | [_, _], _ => rfl
abbrev ps_assign : List Str := ["state", "argument"]
abbrev ns_assign : List Str := ["state", "argument"]
theorem sc_assign : FnScope ns_assign ps_assign (defScope s_assign) := ⟨rfl, rfl, rfl, by decide +kernel, rfl, by decide +kernel, by decide +kernel⟩
theorem fd_assign (T : Txt w K mg) : ∃ fd, FunD K "_assign" "_assign" (defArgs s_assign) (defBody s_assign) (defScope s_assign) [] [] (He.ga K "_assign") fd := T.says.def_ 19 (d := d_assign)
theorem bd_assign {f : Addr} {fd : FuncData} (F : FunD K "_assign" "_assign" (defArgs s_assign) (defBody s_assign) (defScope s_assign) [] [] f fd) : Binds K fd ps_assign [] := F.bindsN fun _ _ _ _ _ _ us hl => match us, hl with | [_, _], _ => rfl
abbrev ps_take : List Str := ["state", "argument"]
abbrev ns_take : List Str := ["state", "argument"]
theorem sc_take : FnScope ns_take ps_take (defScope s_take) := ⟨rfl, rfl, rfl, by decide +kernel, rfl, by decide +kernel, by decide +kernel⟩
theorem fd_take (T : Txt w K mg) : ∃ fd, FunD K "_take" "_take" (defArgs s_take) (defBody s_take) (defScope s_take) [] [] (He.ga K "_take") fd := T.says.def_ 20 (d := d_take)
theorem bd_take {f : Addr} {fd : FuncData} (F : FunD K "_take" "_take" (defArgs s_take) (defBody s_take) (defScope s_take) [] [] f fd) : Binds K fd ps_take [] := F.bindsN fun _ _ _ _ _ _ us hl => match us, hl with | [_, _], _ => rfl
abbrev ps_rewind : List Str := ["state", "argument"]
abbrev ns_rewind : List Str := ["state", "argument"]
theorem sc_rewind : FnScope ns_rewind ps_rewind (defScope s_rewind) := ⟨rfl, rfl, rfl, by decide +kernel, rfl, by decide +kernel, by decide +kernel⟩
theorem fd_rewind (T : Txt w K mg) : ∃ fd, FunD K "_rewind" "_rewind" (defArgs s_rewind) (defBody s_rewind) (defScope s_rewind) [] [] (He.ga K "_rewind") fd := T.says.def_ 21 (d := d_rewind)
theorem bd_rewind {f : Addr} {fd : FuncData} (F : FunD K "_rewind" "_rewind" (defArgs s_rewind) (defBody s_rewind) (defScope s_rewind) [] [] f fd) : Binds K fd ps_rewind [] := F.bindsN fun _ _ _ _ _ _ us hl => match us, hl with | [_, _], _ => rfl
abbrev ps_emit : List Str := ["state", "argument"]
abbrev ns_emit : List Str := ["state", "argument"]
theorem sc_emit : FnScope ns_emit ps_emit (defScope s_emit) := ⟨rfl, rfl, rfl, by decide +kernel, rfl, by decide +kernel, by decide +kernel⟩
theorem fd_emit (T : Txt w K mg) : ∃ fd, FunD K "_emit" "_emit" (defArgs s_emit) (defBody s_emit) (defScope s_emit) [] [] (He.ga K "_emit") fd := T.says.def_ 22 (d := d_emit)
theorem bd_emit {f : Addr} {fd : FuncData} (F : FunD K "_emit" "_emit" (defArgs s_emit) (defBody s_emit) (defScope s_emit) [] [] f fd) : Binds K fd ps_emit [] := F.bindsN fun _ _ _ _ _ _ us hl => match us, hl with | [_, _], _ => rfl
abbrev ps_cell : List Str := ["state", "argument"]
abbrev ns_cell : List Str := ["state", "argument", "index"]
theorem sc_cell : FnScope ns_cell ps_cell (defScope s_cell) := ⟨rfl, rfl, rfl, by decide +kernel, rfl, by decide +kernel, by decide +kernel⟩
theorem fd_cell (T : Txt w K mg) : ∃ fd, FunD K "_cell" "_cell" (defArgs s_cell) (defBody s_cell) (defScope s_cell) [] [] (He.ga K "_cell") fd := T.says.def_ 23 (d := d_cell)
theorem bd_cell {f : Addr} {fd : FuncData} (F : FunD K "_cell" "_cell" (defArgs s_cell) (defBody s_cell) (defScope s_cell) [] [] f fd) : Binds K fd ps_cell [] := F.bindsN fun _ _ _ _ _ _ us hl => match us, hl with | [_, _], _ => rfl
abbrev ps_drop : List Str := ["state", "argument"]
abbrev ns_drop : List Str := ["state", "argument"]
theorem sc_drop : FnScope ns_drop ps_drop (defScope s_drop) := ⟨rfl, rfl, rfl, by decide +kernel, rfl, by decide +kernel, by decide +kernel⟩
theorem fd_drop (T : Txt w K mg) : ∃ fd, FunD K "_drop" "_drop" (defArgs s_drop) (defBody s_drop) (defScope s_drop) [] [] (He.ga K "_drop") fd := T.says.def_ 24 (d := d_drop)
theorem bd_drop {f : Addr} {fd : FuncData} (F : FunD K "_drop" "_drop" (defArgs s_drop) (defBody s_drop) (defScope s_drop) [] [] f fd) : Binds K fd ps_drop [] := F.bindsN fun _ _ _ _ _ _ us hl => match us, hl with | [_, _], _ => rfl
abbrev ps_double : List Str := ["state", "argument"]
abbrev ns_double : List Str := ["state", "argument", "top"]
theorem sc_double : FnScope ns_double ps_double (defScope s_double) := ⟨rfl, rfl, rfl, by decide +kernel, rfl, by decide +kernel, by decide +kernel⟩
theorem fd_double (T : Txt w K mg) : ∃ fd, FunD K "_double" "_double" (defArgs s_double) (defBody s_double) (defScope s_double) [] [] (He.ga K "_double") fd := T.says.def_ 25 (d := d_double)
theorem bd_double {f : Addr} {fd : FuncData} (F : FunD K "_double" "_double" (defArgs s_double) (defBody s_double) (defScope s_double) [] [] f fd) : Binds K fd ps_double [] := F.bindsN fun _ _ _ _ _ _ us hl => match us, hl with | [_, _], _ => rfl
abbrev ps_exchange : List Str := ["state", "argument"]
abbrev ns_exchange : List Str := ["state", "argument", "second", "first"]
theorem sc_exchange : FnScope ns_exchange ps_exchange (defScope s_exchange) := ⟨rfl, rfl, rfl, by decide +kernel, rfl, by decide +kernel, by decide +kernel⟩
theorem fd_exchange (T : Txt w K mg) : ∃ fd, FunD K "_exchange" "_exchange" (defArgs s_exchange) (defBody s_exchange) (defScope s_exchange) [] [] (He.ga K "_exchange") fd := T.says.def_ 26 (d := d_exchange)
theorem bd_exchange {f : Addr} {fd : FuncData} (F : FunD K "_exchange" "_exchange" (defArgs s_exchange) (defBody s_exchange) (defScope s_exchange) [] [] f fd) : Binds K fd ps_exchange [] := F.bindsN fun _ _ _ _ _ _ us hl => match us, hl with | [_, _], _ => rfl
abbrev ps_test : List Str := ["state", "argument"]
abbrev ns_test : List Str := ["state", "argument"]
theorem sc_test : FnScope ns_test ps_test (defScope s_test) := ⟨rfl, rfl, rfl, by decide +kernel, rfl, by decide +kernel, by decide +kernel⟩
theorem fd_test (T : Txt w K mg) : ∃ fd, FunD K "_test" "_test" (defArgs s_test) (defBody s_test) (defScope s_test) [] [] (He.ga K "_test") fd := T.says.def_ 27 (d := d_test)
theorem bd_test {f : Addr} {fd : FuncData} (F : FunD K "_test" "_test" (defArgs s_test) (defBody s_test) (defScope s_test) [] [] f fd) : Binds K fd ps_test [] := F.bindsN fun _ _ _ _ _ _ us hl => match us, hl with | [_, _], _ => rfl
abbrev ps_call : List Str := ["state", "argument"]
abbrev ns_call : List Str := ["state", "argument", "number"]
theorem sc_call : FnScope ns_call ps_call (defScope s_call) := ⟨rfl, rfl, rfl, by decide +kernel, rfl, by decide +kernel, by decide +kernel⟩
theorem fd_call (T : Txt w K mg) : ∃ fd, FunD K "_call" "_call" (defArgs s_call) (defBody s_call) (defScope s_call) [] [] (He.ga K "_call") fd := T.says.def_ 28 (d := d_call)
theorem bd_call {f : Addr} {fd : FuncData} (F : FunD K "_call" "_call" (defArgs s_call) (defBody s_call) (defScope s_call) [] [] f fd) : Binds K fd ps_call [] := F.bindsN fun _ _ _ _ _ _ us hl => match us, hl with | [_, _], _ => rfl
abbrev ps_call_low : List Str := ["state", "argument"]
abbrev ns_call_low : List Str := ["state", "argument", "number"]
theorem sc_call_low : FnScope ns_call_low ps_call_low (defScope s_call_low) := ⟨rfl, rfl, rfl, by decide +kernel, rfl, by decide +kernel, by decide +kernel⟩
theorem fd_call_low (T : Txt w K mg) : ∃ fd, FunD K "_call_low" "_call_low" (defArgs s_call_low) (defBody s_call_low) (defScope s_call_low) [] [] (He.ga K "_call_low") fd := T.says.def_ 29 (d := d_call_low)
theorem bd_call_low {f : Addr} {fd : FuncData} (F : FunD K "_call_low" "_call_low" (defArgs s_call_low) (defBody s_call_low) (defScope s_call_low) [] [] f fd) : Binds K fd ps_call_low [] := F.bindsN fun _ _ _ _ _ _ us hl => match us, hl with | [_, _], _ => rfl
abbrev ps_return : List Str := ["state", "argument"]
abbrev ns_return : List Str := ["state", "argument"]
theorem sc_return : FnScope ns_return ps_return (defScope s_return) := ⟨rfl, rfl, rfl, by decide +kernel, rfl, by decide +kernel, by decide +kernel⟩
theorem fd_return (T : Txt w K mg) : ∃ fd, FunD K "_return" "_return" (defArgs s_return) (defBody s_return) (defScope s_return) [] [] (He.ga K "_return") fd := T.says.def_ 30 (d := d_return)
theorem bd_return {f : Addr} {fd : FuncData} (F : FunD K "_return" "_return" (defArgs s_return) (defBody s_return) (defScope s_return) [] [] f fd) : Binds K fd ps_return [] := F.bindsN fun _ _ _ _ _ _ us hl => match us, hl with | [_, _], _ => rfl
abbrev ps_S_init : List Str := ["self", "image", "numbers"]
abbrev ns_S_init : List Str := ["self", "image", "numbers"]
theorem sc_S_init : FnScope ns_S_init ps_S_init (defScope s_S_init) := ⟨rfl, rfl, rfl, by decide +kernel, rfl, by decide +kernel, by decide +kernel⟩
theorem fd_S_init (T : Txt w K mg) : ∃ fd, FunD K "__init__" "State.__init__" (defArgs s_S_init) (defBody s_S_init) (defScope s_S_init) [] [] (He.ma K (He.ga K "State") "__init__") fd := T.says.def_ 31 (d := d_S_init)
theorem bd_S_init {f : Addr} {fd : FuncData} (F : FunD K "__init__" "State.__init__" (defArgs s_S_init) (defBody s_S_init) (defScope s_S_init) [] [] f fd) : Binds K fd ps_S_init [] := F.bindsN fun _ _ _ _ _ _ us hl => match us, hl with | [_, _, _], _ => rfl
abbrev ps_S_pull : List Str := ["self"]
abbrev ns_S_pull : List Str := ["self"]
theorem sc_S_pull : FnScope ns_S_pull ps_S_pull (defScope s_S_pull) := ⟨rfl, rfl, rfl, by decide +kernel, rfl, by decide +kernel, by decide +kernel⟩
theorem fd_S_pull (T : Txt w K mg) : ∃ fd, FunD K "pull" "State.pull" (defArgs s_S_pull) (defBody s_S_pull) (defScope s_S_pull) [] [] (He.ma K (He.ga K "State") "pull") fd := T.says.def_ 32 (d := d_S_pull)
theorem bd_S_pull {f : Addr} {fd : FuncData} (F : FunD K "pull" "State.pull" (defArgs s_S_pull) (defBody s_S_pull) (defScope s_S_pull) [] [] f fd) : Binds K fd ps_S_pull [] := F.bindsN fun _ _ _ _ _ _ us hl => match us, hl with | [_], _ => rfl
abbrev ps_S_has_ended : List Str := ["self"]
abbrev ns_S_has_ended : List Str := ["self"]
theorem sc_S_has_ended : FnScope ns_S_has_ended ps_S_has_ended (defScope s_S_has_ended) := ⟨rfl, rfl, rfl, by decide +kernel, rfl, by decide +kernel, by decide +kernel⟩
theorem fd_S_has_ended (T : Txt w K mg) : ∃ fd, FunD K "has_ended" "State.has_ended" (defArgs s_S_has_ended) (defBody s_S_has_ended) (defScope s_S_has_ended) [] [] (He.ma K (He.ga K "State") "has_ended") fd := T.says.def_ 33 (d := d_S_has_ended)
theorem bd_S_has_ended {f : Addr} {fd : FuncData} (F : FunD K "has_ended" "State.has_ended" (defArgs s_S_has_ended) (defBody s_S_has_ended) (defScope s_S_has_ended) [] [] f fd) : Binds K fd ps_S_has_ended [] := F.bindsN fun _ _ _ _ _ _ us hl => match us, hl with | [_], _ => rfl
abbrev ps_S_step : List Str := ["self"]
abbrev ns_S_step : List Str := ["self", "operation", "argument", "successor", "deed"]
theorem sc_S_step : FnScope ns_S_step ps_S_step (defScope s_S_step) := ⟨rfl, rfl, rfl, by decide +kernel, rfl, by decide +kernel, by decide +kernel⟩
theorem fd_S_step (T : Txt w K mg) : ∃ fd, FunD K "step" "State.step" (defArgs s_S_step) (defBody s_S_step) (defScope s_S_step) [] [] (He.ma K (He.ga K "State") "step") fd := T.says.def_ 34 (d := d_S_step)
theorem bd_S_step {f : Addr} {fd : FuncData} (F : FunD K "step" "State.step" (defArgs s_S_step) (defBody s_S_step) (defScope s_S_step) [] [] f fd) : Binds K fd ps_S_step [] := F.bindsN fun _ _ _ _ _ _ us hl => match us, hl with | [_], _ => rfl
abbrev ps_S_advance : List Str := ["self", "fuel"]
abbrev ns_S_advance : List Str := ["self", "fuel", "made"]
theorem sc_S_advance : FnScope ns_S_advance ps_S_advance (defScope s_S_advance) := ⟨rfl, rfl, rfl, by decide +kernel, rfl, by decide +kernel, by decide +kernel⟩
theorem fd_S_advance (T : Txt w K mg) : ∃ fd, FunD K "advance" "State.advance" (defArgs s_S_advance) (defBody s_S_advance) (defScope s_S_advance) [] [] (He.ma K (He.ga K "State") "advance") fd := T.says.def_ 35 (d := d_S_advance)
abbrev ps_run : List Str := ["image", "numbers", "fuel"]
abbrev ns_run : List Str := ["image", "numbers", "fuel", "state", "steps"]
theorem sc_run : FnScope ns_run ps_run (defScope s_run) := ⟨rfl, rfl, rfl, by decide +kernel, rfl, by decide +kernel, by decide +kernel⟩
theorem fd_run (T : Txt w K mg) : ∃ fd, FunD K "run" "run" (defArgs s_run) (defBody s_run) (defScope s_run) [] [] (He.ga K "run") fd := T.says.def_ 36 (d := d_run)
abbrev ps_T_init : List Str := ["self", "first", "by"]
abbrev ns_T_init : List Str := ["self", "first", "by"]
theorem sc_T_init : FnScope ns_T_init ps_T_init (defScope s_T_init) := ⟨rfl, rfl, rfl, by decide +kernel, rfl, by decide +kernel, by decide +kernel⟩
theorem fd_T_init (T : Txt w K mg) : ∃ fd, FunD K "__init__" "Translator.__init__" (defArgs s_T_init) (defBody s_T_init) (defScope s_T_init) [] [("first", .int 200), ("by", .int 1)] (He.ma K (He.ga K "Translator") "__init__") fd := T.says.def_ 37 (d := d_T_init)
abbrev ps_T_popped : List Str := ["self"]
abbrev ns_T_popped : List Str := ["self"]
theorem sc_T_popped : FnScope ns_T_popped ps_T_popped (defScope s_T_popped) := ⟨rfl, rfl, rfl, by decide +kernel, rfl, by decide +kernel, by decide +kernel⟩
theorem fd_T_popped (T : Txt w K mg) : ∃ fd, FunD K "popped" "Translator.popped" (defArgs s_T_popped) (defBody s_T_popped) (defScope s_T_popped) [] [] (He.ma K (He.ga K "Translator") "popped") fd := T.says.def_ 38 (d := d_T_popped)
theorem bd_T_popped {f : Addr} {fd : FuncData} (F : FunD K "popped" "Translator.popped" (defArgs s_T_popped) (defBody s_T_popped) (defScope s_T_popped) [] [] f fd) : Binds K fd ps_T_popped [] := F.bindsN fun _ _ _ _ _ _ us hl => match us, hl with | [_], _ => rfl
abbrev ps_T_number : List Str := ["self"]
abbrev ns_T_number : List Str := ["self", "taken"]
theorem sc_T_number : FnScope ns_T_number ps_T_number (defScope s_T_number) := ⟨rfl, rfl, rfl, by decide +kernel, rfl, by decide +kernel, by decide +kernel⟩
theorem fd_T_number (T : Txt w K mg) : ∃ fd, FunD K "number" "Translator.number" (defArgs s_T_number) (defBody s_T_number) (defScope s_T_number) [] [] (He.ma K (He.ga K "Translator") "number") fd := T.says.def_ 39 (d := d_T_number)
theorem bd_T_number {f : Addr} {fd : FuncData} (F : FunD K "number" "Translator.number" (defArgs s_T_number) (defBody s_T_number) (defScope s_T_number) [] [] f fd) : Binds K fd ps_T_number [] := F.bindsN fun _ _ _ _ _ _ us hl => match us, hl with | [_], _ => rfl
abbrev ps_T_put_node : List Str := ["self", "op", "arg", "successor"]
abbrev ns_T_put_node : List Str := ["self", "op", "arg", "successor"]
theorem sc_T_put_node : FnScope ns_T_put_node ps_T_put_node (defScope s_T_put_node) := ⟨rfl, rfl, rfl, by decide +kernel, rfl, by decide +kernel, by decide +kernel⟩
theorem fd_T_put_node (T : Txt w K mg) : ∃ fd, FunD K "put_node" "Translator.put_node" (defArgs s_T_put_node) (defBody s_T_put_node) (defScope s_T_put_node) [] [] (He.ma K (He.ga K "Translator") "put_node") fd := T.says.def_ 40 (d := d_T_put_node)
theorem bd_T_put_node {f : Addr} {fd : FuncData} (F : FunD K "put_node" "Translator.put_node" (defArgs s_T_put_node) (defBody s_T_put_node) (defScope s_T_put_node) [] [] f fd) : Binds K fd ps_T_put_node [] := F.bindsN fun _ _ _ _ _ _ us hl => match us, hl with | [_, _, _, _], _ => rfl
abbrev ps_T_emit : List Str := ["self", "op", "arg"]
abbrev ns_T_emit : List Str := ["self", "op", "arg"]
theorem sc_T_emit : FnScope ns_T_emit ps_T_emit (defScope s_T_emit) := ⟨rfl, rfl, rfl, by decide +kernel, rfl, by decide +kernel, by decide +kernel⟩
theorem fd_T_emit (T : Txt w K mg) : ∃ fd, FunD K "emit" "Translator.emit" (defArgs s_T_emit) (defBody s_T_emit) (defScope s_T_emit) [] [] (He.ma K (He.ga K "Translator") "emit") fd := T.says.def_ 41 (d := d_T_emit)
theorem bd_T_emit {f : Addr} {fd : FuncData} (F : FunD K "emit" "Translator.emit" (defArgs s_T_emit) (defBody s_T_emit) (defScope s_T_emit) [] [] f fd) : Binds K fd ps_T_emit [] := F.bindsN fun _ _ _ _ _ _ us hl => match us, hl with | [_, _, _], _ => rfl
abbrev ps_T_end_numeral : List Str := ["self"]
abbrev ns_T_end_numeral : List Str := ["self"]
theorem sc_T_end_numeral : FnScope ns_T_end_numeral ps_T_end_numeral (defScope s_T_end_numeral) := ⟨rfl, rfl, rfl, by decide +kernel, rfl, by decide +kernel, by decide +kernel⟩
theorem fd_T_end_numeral (T : Txt w K mg) : ∃ fd, FunD K "end_numeral" "Translator.end_numeral" (defArgs s_T_end_numeral) (defBody s_T_end_numeral) (defScope s_T_end_numeral) [] [] (He.ma K (He.ga K "Translator") "end_numeral") fd := T.says.def_ 42 (d := d_T_end_numeral)
theorem bd_T_end_numeral {f : Addr} {fd : FuncData} (F : FunD K "end_numeral" "Translator.end_numeral" (defArgs s_T_end_numeral) (defBody s_T_end_numeral) (defScope s_T_end_numeral) [] [] f fd) : Binds K fd ps_T_end_numeral [] := F.bindsN fun _ _ _ _ _ _ us hl => match us, hl with | [_], _ => rfl
abbrev ps_T_paired : List Str := ["self", "code"]
abbrev ns_T_paired : List Str := ["self", "code", "sign"]
theorem sc_T_paired : FnScope ns_T_paired ps_T_paired (defScope s_T_paired) := ⟨rfl, rfl, rfl, by decide +kernel, rfl, by decide +kernel, by decide +kernel⟩
theorem fd_T_paired (T : Txt w K mg) : ∃ fd, FunD K "paired" "Translator.paired" (defArgs s_T_paired) (defBody s_T_paired) (defScope s_T_paired) [] [] (He.ma K (He.ga K "Translator") "paired") fd := T.says.def_ 43 (d := d_T_paired)
theorem bd_T_paired {f : Addr} {fd : FuncData} (F : FunD K "paired" "Translator.paired" (defArgs s_T_paired) (defBody s_T_paired) (defScope s_T_paired) [] [] f fd) : Binds K fd ps_T_paired [] := F.bindsN fun _ _ _ _ _ _ us hl => match us, hl with | [_, _], _ => rfl
abbrev ps_T_bracket : List Str := ["self", "code"]
abbrev ns_T_bracket : List Str := ["self", "code", "other", "after", "start"]
theorem sc_T_bracket : FnScope ns_T_bracket ps_T_bracket (defScope s_T_bracket) := ⟨rfl, rfl, rfl, by decide +kernel, rfl, by decide +kernel, by decide +kernel⟩
theorem fd_T_bracket (T : Txt w K mg) : ∃ fd, FunD K "bracket" "Translator.bracket" (defArgs s_T_bracket) (defBody s_T_bracket) (defScope s_T_bracket) [] [] (He.ma K (He.ga K "Translator") "bracket") fd := T.says.def_ 44 (d := d_T_bracket)
theorem bd_T_bracket {f : Addr} {fd : FuncData} (F : FunD K "bracket" "Translator.bracket" (defArgs s_T_bracket) (defBody s_T_bracket) (defScope s_T_bracket) [] [] f fd) : Binds K fd ps_T_bracket [] := F.bindsN fun _ _ _ _ _ _ us hl => match us, hl with | [_, _], _ => rfl
abbrev ps_T_sign : List Str := ["self", "code"]
abbrev ns_T_sign : List Str := ["self", "code"]
theorem sc_T_sign : FnScope ns_T_sign ps_T_sign (defScope s_T_sign) := ⟨rfl, rfl, rfl, by decide +kernel, rfl, by decide +kernel, by decide +kernel⟩
theorem fd_T_sign (T : Txt w K mg) : ∃ fd, FunD K "sign" "Translator.sign" (defArgs s_T_sign) (defBody s_T_sign) (defScope s_T_sign) [] [] (He.ma K (He.ga K "Translator") "sign") fd := T.says.def_ 45 (d := d_T_sign)
theorem bd_T_sign {f : Addr} {fd : FuncData} (F : FunD K "sign" "Translator.sign" (defArgs s_T_sign) (defBody s_T_sign) (defScope s_T_sign) [] [] f fd) : Binds K fd ps_T_sign [] := F.bindsN fun _ _ _ _ _ _ us hl => match us, hl with | [_, _], _ => rfl
abbrev ps_T_take : List Str := ["self", "code"]
abbrev ns_T_take : List Str := ["self", "code", "value"]
theorem sc_T_take : FnScope ns_T_take ps_T_take (defScope s_T_take) := ⟨rfl, rfl, rfl, by decide +kernel, rfl, by decide +kernel, by decide +kernel⟩
theorem fd_T_take (T : Txt w K mg) : ∃ fd, FunD K "take" "Translator.take" (defArgs s_T_take) (defBody s_T_take) (defScope s_T_take) [] [] (He.ma K (He.ga K "Translator") "take") fd := T.says.def_ 46 (d := d_T_take)
theorem bd_T_take {f : Addr} {fd : FuncData} (F : FunD K "take" "Translator.take" (defArgs s_T_take) (defBody s_T_take) (defScope s_T_take) [] [] f fd) : Binds K fd ps_T_take [] := F.bindsN fun _ _ _ _ _ _ us hl => match us, hl with | [_, _], _ => rfl
abbrev ps_T_finish : List Str := ["self"]
abbrev ns_T_finish : List Str := ["self"]
theorem sc_T_finish : FnScope ns_T_finish ps_T_finish (defScope s_T_finish) := ⟨rfl, rfl, rfl, by decide +kernel, rfl, by decide +kernel, by decide +kernel⟩
theorem fd_T_finish (T : Txt w K mg) : ∃ fd, FunD K "finish" "Translator.finish" (defArgs s_T_finish) (defBody s_T_finish) (defScope s_T_finish) [] [] (He.ma K (He.ga K "Translator") "finish") fd := T.says.def_ 47 (d := d_T_finish)
theorem bd_T_finish {f : Addr} {fd : FuncData} (F : FunD K "finish" "Translator.finish" (defArgs s_T_finish) (defBody s_T_finish) (defScope s_T_finish) [] [] f fd) : Binds K fd ps_T_finish [] := F.bindsN fun _ _ _ _ _ _ us hl => match us, hl with | [_], _ => rfl
abbrev ps_translate : List Str := ["codes", "first", "by"]
abbrev ns_translate : List Str := ["codes", "first", "by", "translator", "code"]
theorem sc_translate : FnScope ns_translate ps_translate (defScope s_translate) := ⟨rfl, rfl, rfl, by decide +kernel, rfl, by decide +kernel, by decide +kernel⟩
theorem fd_translate (T : Txt w K mg) : ∃ fd, FunD K "translate" "translate" (defArgs s_translate) (defBody s_translate) (defScope s_translate) [] [("first", .int 200), ("by", .int 1)] (He.ga K "translate") fd := T.says.def_ 48 (d := d_translate)
abbrev ps_law_number : List Str := ["_law_cell"]
abbrev ns_law_number : List Str := ["_law_cell"]
theorem sc_law_number : FnScope ns_law_number ps_law_number (defScope s_law_number) := ⟨rfl, rfl, rfl, by decide +kernel, rfl, by decide +kernel, by decide +kernel⟩
theorem fd_law_number (T : Txt w K mg) : ∃ fd, FunD K "_law_number" "_law_number" (defArgs s_law_number) (defBody s_law_number) (defScope s_law_number) [] [] (He.ga K "_law_number") fd := T.says.def_ 49 (d := d_law_number)
theorem bd_law_number {f : Addr} {fd : FuncData} (F : FunD K "_law_number" "_law_number" (defArgs s_law_number) (defBody s_law_number) (defScope s_law_number) [] [] f fd) : Binds K fd ps_law_number [] := F.bindsN fun _ _ _ _ _ _ us hl => match us, hl with | [_], _ => rfl
abbrev ps_law_draws : List Str := ["_law_script"]
abbrev ns_law_draws : List Str := ["_law_script", "_law_draws_here", "_law_cell", "_law_rest", "_law_k", "_law_once", "_law_twice"]
theorem sc_law_draws : FnScope ns_law_draws ps_law_draws (defScope s_law_draws) := ⟨rfl, rfl, rfl, by decide +kernel, rfl, by decide +kernel, by decide +kernel⟩
theorem fd_law_draws (T : Txt w K mg) : ∃ fd, FunD K "_law_draws" "_law_draws" (defArgs s_law_draws) (defBody s_law_draws) (defScope s_law_draws) [] [] (He.ga K "_law_draws") fd := T.says.def_ 50 (d := d_law_draws)
theorem bd_law_draws {f : Addr} {fd : FuncData} (F : FunD K "_law_draws" "_law_draws" (defArgs s_law_draws) (defBody s_law_draws) (defScope s_law_draws) [] [] f fd) : Binds K fd ps_law_draws [] := F.bindsN fun _ _ _ _ _ _ us hl => match us, hl with | [_], _ => rfl
abbrev ps_law_next : List Str := ["_law_draws_here"]
abbrev ns_law_next : List Str := ["_law_draws_here"]
theorem sc_law_next : FnScope ns_law_next ps_law_next (defScope s_law_next) := ⟨rfl, rfl, rfl, by decide +kernel, rfl, by decide +kernel, by decide +kernel⟩
theorem fd_law_next (T : Txt w K mg) : ∃ fd, FunD K "_law_next" "_law_next" (defArgs s_law_next) (defBody s_law_next) (defScope s_law_next) [] [] (He.ga K "_law_next") fd := T.says.def_ 51 (d := d_law_next)
theorem bd_law_next {f : Addr} {fd : FuncData} (F : FunD K "_law_next" "_law_next" (defArgs s_law_next) (defBody s_law_next) (defScope s_law_next) [] [] f fd) : Binds K fd ps_law_next [] := F.bindsN fun _ _ _ _ _ _ us hl => match us, hl with | [_], _ => rfl
abbrev ps_law_op : List Str := ["_law_draw"]
abbrev ns_law_op : List Str := ["_law_draw", "_law_signs"]
theorem sc_law_op : FnScope ns_law_op ps_law_op (defScope s_law_op) := ⟨rfl, rfl, rfl, by decide +kernel, rfl, by decide +kernel, by decide +kernel⟩
theorem fd_law_op (T : Txt w K mg) : ∃ fd, FunD K "_law_op" "_law_op" (defArgs s_law_op) (defBody s_law_op) (defScope s_law_op) [] [] (He.ga K "_law_op") fd := T.says.def_ 52 (d := d_law_op)
theorem bd_law_op {f : Addr} {fd : FuncData} (F : FunD K "_law_op" "_law_op" (defArgs s_law_op) (defBody s_law_op) (defScope s_law_op) [] [] f fd) : Binds K fd ps_law_op [] := F.bindsN fun _ _ _ _ _ _ us hl => match us, hl with | [_], _ => rfl
abbrev ps_law_item : List Str := ["_law_draws_here", "_law_depth"]
abbrev ns_law_item : List Str := ["_law_draws_here", "_law_depth", "_law_draw", "_law_kind", "_law_rest", "_law_first"]
theorem sc_law_item : FnScope ns_law_item ps_law_item (defScope s_law_item) := ⟨rfl, rfl, rfl, by decide +kernel, rfl, by decide +kernel, by decide +kernel⟩
theorem fd_law_item (T : Txt w K mg) : ∃ fd, FunD K "_law_item" "_law_item" (defArgs s_law_item) (defBody s_law_item) (defScope s_law_item) [] [] (He.ga K "_law_item") fd := T.says.def_ 53 (d := d_law_item)
theorem bd_law_item {f : Addr} {fd : FuncData} (F : FunD K "_law_item" "_law_item" (defArgs s_law_item) (defBody s_law_item) (defScope s_law_item) [] [] f fd) : Binds K fd ps_law_item [] := F.bindsN fun _ _ _ _ _ _ us hl => match us, hl with | [_, _], _ => rfl
abbrev ps_law_items : List Str := ["_law_draws_here", "_law_depth", "_law_most"]
abbrev ns_law_items : List Str := ["_law_draws_here", "_law_depth", "_law_most", "_law_items_here", "_law_k"]
theorem sc_law_items : FnScope ns_law_items ps_law_items (defScope s_law_items) := ⟨rfl, rfl, rfl, by decide +kernel, rfl, by decide +kernel, by decide +kernel⟩
theorem fd_law_items (T : Txt w K mg) : ∃ fd, FunD K "_law_items" "_law_items" (defArgs s_law_items) (defBody s_law_items) (defScope s_law_items) [] [] (He.ga K "_law_items") fd := T.says.def_ 54 (d := d_law_items)
theorem bd_law_items {f : Addr} {fd : FuncData} (F : FunD K "_law_items" "_law_items" (defArgs s_law_items) (defBody s_law_items) (defScope s_law_items) [] [] f fd) : Binds K fd ps_law_items [] := F.bindsN fun _ _ _ _ _ _ us hl => match us, hl with | [_, _, _], _ => rfl
abbrev ps_law_tree : List Str := ["_law_draws_here"]
abbrev ns_law_tree : List Str := ["_law_draws_here", "_law_tree_here", "_law_k", "_law_name"]
theorem sc_law_tree : FnScope ns_law_tree ps_law_tree (defScope s_law_tree) := ⟨rfl, rfl, rfl, by decide +kernel, rfl, by decide +kernel, by decide +kernel⟩
theorem fd_law_tree (T : Txt w K mg) : ∃ fd, FunD K "_law_tree" "_law_tree" (defArgs s_law_tree) (defBody s_law_tree) (defScope s_law_tree) [] [] (He.ga K "_law_tree") fd := T.says.def_ 55 (d := d_law_tree)
theorem bd_law_tree {f : Addr} {fd : FuncData} (F : FunD K "_law_tree" "_law_tree" (defArgs s_law_tree) (defBody s_law_tree) (defScope s_law_tree) [] [] f fd) : Binds K fd ps_law_tree [] := F.bindsN fun _ _ _ _ _ _ us hl => match us, hl with | [_], _ => rfl
abbrev ps_law_char : List Str := ["_law_code"]
abbrev ns_law_char : List Str := ["_law_code", "_law_chars"]
theorem sc_law_char : FnScope ns_law_char ps_law_char (defScope s_law_char) := ⟨rfl, rfl, rfl, by decide +kernel, rfl, by decide +kernel, by decide +kernel⟩
theorem fd_law_char (T : Txt w K mg) : ∃ fd, FunD K "_law_char" "_law_char" (defArgs s_law_char) (defBody s_law_char) (defScope s_law_char) [] [] (He.ga K "_law_char") fd := T.says.def_ 56 (d := d_law_char)
theorem bd_law_char {f : Addr} {fd : FuncData} (F : FunD K "_law_char" "_law_char" (defArgs s_law_char) (defBody s_law_char) (defScope s_law_char) [] [] f fd) : Binds K fd ps_law_char [] := F.bindsN fun _ _ _ _ _ _ us hl => match us, hl with | [_], _ => rfl
abbrev ps_law_write : List Str := ["_law_items_here"]
abbrev ns_law_write : List Str := ["_law_items_here", "_law_text", "_law_last", "_law_item_here", "_law_kind"]
theorem sc_law_write : FnScope ns_law_write ps_law_write (defScope s_law_write) := ⟨rfl, rfl, rfl, by decide +kernel, rfl, by decide +kernel, by decide +kernel⟩
theorem fd_law_write (T : Txt w K mg) : ∃ fd, FunD K "_law_write" "_law_write" (defArgs s_law_write) (defBody s_law_write) (defScope s_law_write) [] [] (He.ga K "_law_write") fd := T.says.def_ 57 (d := d_law_write)
theorem bd_law_write {f : Addr} {fd : FuncData} (F : FunD K "_law_write" "_law_write" (defArgs s_law_write) (defBody s_law_write) (defScope s_law_write) [] [] f fd) : Binds K fd ps_law_write [] := F.bindsN fun _ _ _ _ _ _ us hl => match us, hl with | [_], _ => rfl
abbrev ps_law_trap : List Str := ["_law_lure", "_law_extra_here"]
abbrev ns_law_trap : List Str := ["_law_lure", "_law_extra_here", "_law_b", "_law_nodes", "_law_p", "_law_r", "_law_end", "_law_code", "_law_number_here", "_law_cells", "_law_image", "_law_node"]
theorem sc_law_trap : FnScope ns_law_trap ps_law_trap (defScope s_law_trap) := ⟨rfl, rfl, rfl, by decide +kernel, rfl, by decide +kernel, by decide +kernel⟩
theorem fd_law_trap (T : Txt w K mg) : ∃ fd, FunD K "_law_trap" "_law_trap" (defArgs s_law_trap) (defBody s_law_trap) (defScope s_law_trap) [] [] (He.ga K "_law_trap") fd := T.says.def_ 58 (d := d_law_trap)
theorem bd_law_trap {f : Addr} {fd : FuncData} (F : FunD K "_law_trap" "_law_trap" (defArgs s_law_trap) (defBody s_law_trap) (defScope s_law_trap) [] [] f fd) : Binds K fd ps_law_trap [] := F.bindsN fun _ _ _ _ _ _ us hl => match us, hl with | [_, _], _ => rfl
abbrev ps_law_extra : List Str := ["_law_draws_here"]
abbrev ns_law_extra : List Str := ["_law_draws_here", "_law_extra_here", "_law_k", "_law_number_here", "_law_op_here"]
theorem sc_law_extra : FnScope ns_law_extra ps_law_extra (defScope s_law_extra) := ⟨rfl, rfl, rfl, by decide +kernel, rfl, by decide +kernel, by decide +kernel⟩
theorem fd_law_extra (T : Txt w K mg) : ∃ fd, FunD K "_law_extra" "_law_extra" (defArgs s_law_extra) (defBody s_law_extra) (defScope s_law_extra) [] [] (He.ga K "_law_extra") fd := T.says.def_ 59 (d := d_law_extra)
theorem bd_law_extra {f : Addr} {fd : FuncData} (F : FunD K "_law_extra" "_law_extra" (defArgs s_law_extra) (defBody s_law_extra) (defScope s_law_extra) [] [] f fd) : Binds K fd ps_law_extra [] := F.bindsN fun _ _ _ _ _ _ us hl => match us, hl with | [_], _ => rfl
abbrev ps_law_is_integer : List Str := ["_law_actual"]
abbrev ns_law_is_integer : List Str := ["_law_actual"]
theorem sc_law_is_integer : FnScope ns_law_is_integer ps_law_is_integer (defScope s_law_is_integer) := ⟨rfl, rfl, rfl, by decide +kernel, rfl, by decide +kernel, by decide +kernel⟩
theorem fd_law_is_integer (T : Txt w K mg) : ∃ fd, FunD K "_law_is_integer" "_law_is_integer" (defArgs s_law_is_integer) (defBody s_law_is_integer) (defScope s_law_is_integer) [] [] (He.ga K "_law_is_integer") fd := T.says.def_ 60 (d := d_law_is_integer)
theorem bd_law_is_integer {f : Addr} {fd : FuncData} (F : FunD K "_law_is_integer" "_law_is_integer" (defArgs s_law_is_integer) (defBody s_law_is_integer) (defScope s_law_is_integer) [] [] f fd) : Binds K fd ps_law_is_integer [] := F.bindsN fun _ _ _ _ _ _ us hl => match us, hl with | [_], _ => rfl
abbrev ps_law_is_integers : List Str := ["_law_actual"]
abbrev ns_law_is_integers : List Str := ["_law_actual", "_law_number_here"]
theorem sc_law_is_integers : FnScope ns_law_is_integers ps_law_is_integers (defScope s_law_is_integers) := ⟨rfl, rfl, rfl, by decide +kernel, rfl, by decide +kernel, by decide +kernel⟩
theorem fd_law_is_integers (T : Txt w K mg) : ∃ fd, FunD K "_law_is_integers" "_law_is_integers" (defArgs s_law_is_integers) (defBody s_law_is_integers) (defScope s_law_is_integers) [] [] (He.ga K "_law_is_integers") fd := T.says.def_ 61 (d := d_law_is_integers)
theorem bd_law_is_integers {f : Addr} {fd : FuncData} (F : FunD K "_law_is_integers" "_law_is_integers" (defArgs s_law_is_integers) (defBody s_law_is_integers) (defScope s_law_is_integers) [] [] f fd) : Binds K fd ps_law_is_integers [] := F.bindsN fun _ _ _ _ _ _ us hl => match us, hl with | [_], _ => rfl
abbrev ps_law_result : List Str := ["_law_actual"]
abbrev ns_law_result : List Str := ["_law_actual"]
theorem sc_law_result : FnScope ns_law_result ps_law_result (defScope s_law_result) := ⟨rfl, rfl, rfl, by decide +kernel, rfl, by decide +kernel, by decide +kernel⟩
theorem fd_law_result (T : Txt w K mg) : ∃ fd, FunD K "_law_result" "_law_result" (defArgs s_law_result) (defBody s_law_result) (defScope s_law_result) [] [] (He.ga K "_law_result") fd := T.says.def_ 62 (d := d_law_result)
theorem bd_law_result {f : Addr} {fd : FuncData} (F : FunD K "_law_result" "_law_result" (defArgs s_law_result) (defBody s_law_result) (defScope s_law_result) [] [] f fd) : Binds K fd ps_law_result [] := F.bindsN fun _ _ _ _ _ _ us hl => match us, hl with | [_], _ => rfl
abbrev ps_law : List Str := ["_law_script"]
abbrev ns_law : List Str := ["_law_script", "_law_draws_here", "_law_choice", "_law_fuel", "_law_numbers", "_law_lure", "_law_wanted", "_law_extra_here", "_law_tree_here", "_law_name", "_law_image", "_law_changed", "_law_before", "_law_due", "_law_after", "_law_k", "_law_code", "_law_char_here"]
theorem sc_law : FnScope ns_law ps_law (defScope s_law) := ⟨rfl, rfl, rfl, by decide +kernel, rfl, by decide +kernel, by decide +kernel⟩
theorem fd_law (T : Txt w K mg) : ∃ fd, FunD K "law" "law" (defArgs s_law) (defBody s_law) (defScope s_law) [] [] (He.ga K "law") fd := T.says.def_ 63 (d := d_law)
theorem bd_law {f : Addr} {fd : FuncData} (F : FunD K "law" "law" (defArgs s_law) (defBody s_law) (defScope s_law) [] [] f fd) : Binds K fd ps_law [] := F.bindsN fun _ _ _ _ _ _ us hl => match us, hl with | [_], _ => rfl
end
end Pk
namespace Pk
open PySem PySem.Spec PyProof.Rows L2
abbrev R : PySem.W.OpenRow := PySem.W.OpenLaw.row PySem.Challenge.rw_plinth_k62_whole_planted_images_run_alik
abbrev hk : PySem.W.Hook := He.hookX 5 fal fnl [] [] deedsB
def ob (s : PySem.W.SharedT) : He.AlX := He.obsX 5 fal fnl [] [] deedsB (HandSHeadRun.getT s)
theorem ob_eq (s : PySem.W.SharedT) : ob s = hk.obs s.abs := He.obsX_eq (HandSHeadRun.getT_eq s)
theorem head_runF (w : World) : HandSHeadRun.RunEq R (PySem.W.view R.prog [lawAt]) hk ob 6000 namesL (w.withFollow "special-get-raises" false) := by
  intro os
  kernel_rfl
theorem head_runT (w : World) : HandSHeadRun.RunEq R (PySem.W.view R.prog [lawAt]) hk ob 6000 namesL (w.withFollow "special-get-raises" true) := by
  intro os
  kernel_rfl
theorem head_run (w : World) : HandSHeadRun.RunEq R (PySem.W.view R.prog [lawAt]) hk ob 6000 namesL w :=
  PySem.W.byRow2 "special-get-raises" (P := fun w => HandSHeadRun.RunEq R (PySem.W.view R.prog [lawAt]) hk ob 6000 namesL w) head_runF head_runT w
end Pk
namespace Pk
/-- a node: number, operation, argument, successor -/
abbrev Nd := Int × Int × Int × Int
def flat : List Nd → List Int
  | [] => []
  | (a, b, c, d) :: r => a :: b :: c :: d :: flat r
theorem flat_app : ∀ xs ys : List Nd, flat (xs ++ ys) = flat xs ++ flat ys
  | [], _ => rfl
  | (a, b, c, d) :: r, ys => by simp [flat, flat_app r ys]
theorem flat_len : ∀ xs : List Nd, (flat xs).length = 4 * xs.length
  | [] => rfl
  | (a, b, c, d) :: r => by simp [flat, flat_len r]; omega
/-- the last node of a number counts -/
def tabOf (ns : List Nd) : Int → Option (Int × Int × Int) := ns.foldl (fun f nd => fun x => if x = nd.1 then some nd.2 else f x) (fun _ => none)
theorem tabOf_nil (n : Int) : tabOf [] n = none := rfl
theorem tabOf_snoc (ns : List Nd) (nd : Nd) (n : Int) : tabOf (ns ++ [nd]) n = if n = nd.1 then some nd.2 else tabOf ns n := by
  unfold tabOf; rw [List.foldl_append]; rfl
theorem foldl_tab (ns : List Nd) : ∀ (f : Int → Option (Int × Int × Int)) (n : Int), (ns.foldl (fun f nd => fun x => if x = nd.1 then some nd.2 else f x) f) n = (tabOf ns n).or (f n) := by
  induction ns with
  | nil => intro f n; simp [tabOf]
  | cons a r ih =>
    intro f n
    rw [List.foldl_cons, ih]
    have h : tabOf (a :: r) n = (tabOf r n).or (if n = a.1 then some a.2 else none) := by
      unfold tabOf
      rw [List.foldl_cons]
      exact ih _ n
    rw [h]
    cases tabOf r n with
    | some v => simp
    | none => by_cases e : n = a.1 <;> simp [e]
theorem tabOf_app (xs ys : List Nd) (n : Int) : tabOf (xs ++ ys) n = (tabOf ys n).or (tabOf xs n) := by
  conv => lhs; unfold tabOf
  rw [List.foldl_append]
  exact foldl_tab ys _ n
theorem tabOf_cons (a : Nd) (ys : List Nd) (n : Int) : tabOf (a :: ys) n = (tabOf ys n).or (if n = a.1 then some a.2 else none) := by
  rw [show a :: ys = [a] ++ ys from rfl, tabOf_app]; rfl
theorem tabOf_mem {ns : List Nd} {n : Int} {v : Int × Int × Int} (h : tabOf ns n = some v) : (n, v) ∈ ns := by
  induction ns with
  | nil => cases h
  | cons a r ih =>
    rw [tabOf_cons] at h
    cases e : tabOf r n with
    | some w => rw [e] at h; simp at h; subst h; exact List.mem_cons_of_mem _ (ih e)
    | none =>
      rw [e] at h
      by_cases q : n = a.1
      · rw [if_pos q] at h; simp at h; subst h; subst q; exact List.mem_cons_self
      · rw [if_neg q] at h; cases h
theorem tabOf_none {ns : List Nd} {n : Int} : tabOf ns n = none ↔ n ∉ ns.map (·.1) := by
  induction ns with
  | nil => simp [tabOf]
  | cons a r ih =>
    rw [tabOf_cons]
    simp only [Option.or_eq_none_iff, ih, List.map_cons, List.mem_cons, not_or]
    by_cases q : n = a.1 <;> simp [q]
theorem tabOf_some {ns : List Nd} {n : Int} (h : n ∈ ns.map (·.1)) : tabOf ns n ≠ none := fun e => (tabOf_none.mp e) h
/-- numbers that stand once -/
theorem tabOf_nd {ns : List Nd} (hn : (ns.map (·.1)).Nodup) {nd : Nd} (h : nd ∈ ns) : tabOf ns nd.1 = some nd.2 := by
  induction ns with
  | nil => cases h
  | cons a r ih =>
    rw [List.map_cons, List.nodup_cons] at hn
    rw [tabOf_cons]
    rcases List.mem_cons.mp h with rfl | h
    · rw [tabOf_none.mpr hn.1]; simp
    · rw [ih hn.2 h]; rfl

structure Cfg where
  at_ : Int
  stk : List Int
  sto : Int → Int
  bck : List Int
  plc : Nat
  out : List Int
structure Mac where
  img : List Int
  nums : List Int
  tab : Int → Option (Int × Int × Int)
def hd0 (l : List Int) : Int := l.headD 0
def cellAt (img : List Int) (i : Int) : Int := if -(img.length : Int) ≤ i ∧ i < (img.length : Int) then img.getD (if 0 ≤ i then i.toNat else (i + img.length).toNat) 0 else 0
def dPush (a : Int) (c : Cfg) : Cfg := { c with stk := a :: c.stk }
def dPlus (_ : Int) (c : Cfg) : Cfg := { c with stk := (hd0 c.stk.tail + hd0 c.stk) :: c.stk.tail.tail }
def dMinus (_ : Int) (c : Cfg) : Cfg := { c with stk := (hd0 c.stk.tail - hd0 c.stk) :: c.stk.tail.tail }
def dDigit (_ : Int) (c : Cfg) : Cfg := { c with stk := (10 * hd0 c.stk.tail + hd0 c.stk) :: c.stk.tail.tail }
def dLess (_ : Int) (c : Cfg) : Cfg := { c with stk := (if hd0 c.stk.tail < hd0 c.stk then 1 else 0) :: c.stk.tail.tail }
def dSame (_ : Int) (c : Cfg) : Cfg := { c with stk := (if hd0 c.stk.tail = hd0 c.stk then 1 else 0) :: c.stk.tail.tail }
def dLoad (_ : Int) (c : Cfg) : Cfg := { c with stk := c.sto (hd0 c.stk) :: c.stk.tail }
def dKeep (_ : Int) (c : Cfg) : Cfg := { c with stk := c.stk.tail.tail, sto := fun k => if k = hd0 c.stk then hd0 c.stk.tail else c.sto k }
def dAssign (a : Int) (c : Cfg) : Cfg := { c with stk := c.stk.tail, sto := fun k => if k = a then hd0 c.stk else c.sto k }
def dTake (M : Mac) (_ : Int) (c : Cfg) : Cfg := if c.plc < M.nums.length then { c with stk := M.nums.getD c.plc 0 :: c.stk, plc := c.plc + 1 } else { c with stk := -1 :: c.stk }
def dRewind (_ : Int) (c : Cfg) : Cfg := { c with plc := 0 }
def dEmit (_ : Int) (c : Cfg) : Cfg := { c with stk := c.stk.tail, out := c.out ++ [hd0 c.stk] }
def dCell (M : Mac) (_ : Int) (c : Cfg) : Cfg := { c with stk := cellAt M.img (hd0 c.stk) :: c.stk.tail }
def dDrop (_ : Int) (c : Cfg) : Cfg := { c with stk := c.stk.tail }
def dDouble (_ : Int) (c : Cfg) : Cfg := { c with stk := hd0 c.stk :: hd0 c.stk :: c.stk.tail }
def dExch (_ : Int) (c : Cfg) : Cfg := { c with stk := hd0 c.stk.tail :: hd0 c.stk :: c.stk.tail.tail }
def dTest (a : Int) (c : Cfg) : Cfg := if hd0 c.stk = 0 then { c with stk := c.stk.tail, at_ := a } else { c with stk := c.stk.tail }
def dCall (_ : Int) (c : Cfg) : Cfg := { c with stk := c.stk.tail, bck := c.at_ :: c.bck, at_ := hd0 c.stk }
def dCallLow (M : Mac) (_ : Int) (c : Cfg) : Cfg := if 1 ≤ hd0 c.stk ∧ hd0 c.stk ≤ 199 ∧ (M.tab (hd0 c.stk)).isSome = true then { c with stk := c.stk.tail, bck := c.at_ :: c.bck, at_ := hd0 c.stk } else { c with stk := hd0 c.stk :: c.stk.tail }
def dRet (_ : Int) (c : Cfg) : Cfg := match c.bck with
  | [] => c
  | b :: r => { c with at_ := b, bck := r }
def dLetter (op : Int) (c : Cfg) : Cfg := { c with stk := c.sto op :: c.stk }
def dName (op : Int) (c : Cfg) : Cfg := { c with bck := c.at_ :: c.bck, at_ := op }
def doOp (M : Mac) (op a : Int) (c : Cfg) : Cfg :=
  if op = 35 then dPush a c else if op = 43 then dPlus a c else if op = 45 then dMinus a c else if op = 42 then dDigit a c
  else if op = 60 then dLess a c else if op = 126 then dSame a c else if op = 64 then dLoad a c else if op = 33 then dKeep a c
  else if op = 61 then dAssign a c else if op = 44 then dTake M a c else if op = 94 then dRewind a c else if op = 46 then dEmit a c
  else if op = 38 then dCell M a c else if op = 95 then dDrop a c else if op = 34 then dDouble a c else if op = 92 then dExch a c
  else if op = 63 then dTest a c else if op = 40 then dCall a c else if op = 36 then dCallLow M a c else if op = 41 then dRet a c
  else if 97 ≤ op ∧ op ≤ 122 then dLetter op c else if 65 ≤ op ∧ op ≤ 90 then dName op c else c
def stepC (M : Mac) (c : Cfg) : Option Cfg := match M.tab c.at_ with
  | none => none
  | some (op, a, s) => some (doOp M op a { c with at_ := s })
def runN (M : Mac) : Nat → Cfg → Cfg × Nat
  | 0, c => (c, 0)
  | n + 1, c => match stepC M c with
    | none => (c, 0)
    | some c' => ((runN M n c').1, (runN M n c').2 + 1)
def c0 : Cfg := ⟨0, [], fun _ => 0, [], 0, []⟩

def StepsTo (M : Mac) : Nat → Cfg → Cfg → Prop
  | 0, c, d => c = d
  | k + 1, c, d => ∃ c1, stepC M c = some c1 ∧ StepsTo M k c1 d
theorem StepsTo.trans {M : Mac} : ∀ {j k : Nat} {c d e : Cfg}, StepsTo M j c d → StepsTo M k d e → StepsTo M (j + k) c e
  | 0, k, c, d, e, h, h' => by cases h; rw [Nat.zero_add]; exact h'
  | j + 1, k, c, d, e, ⟨c1, h1, h2⟩, h' => by
    rw [show j + 1 + k = (j + k) + 1 by omega]
    exact ⟨c1, h1, h2.trans h'⟩
theorem StepsTo.one {M : Mac} {c d : Cfg} (h : stepC M c = some d) : StepsTo M 1 c d := ⟨d, h, rfl⟩
theorem StepsTo.run {M : Mac} : ∀ {k : Nat} {c d : Cfg}, StepsTo M k c d → ∀ n, runN M (k + n) c = ((runN M n d).1, (runN M n d).2 + k)
  | 0, c, d, h, n => by cases h; rw [Nat.zero_add]; rfl
  | k + 1, c, d, ⟨c1, h1, h2⟩, n => by
    rw [show k + 1 + n = (k + n) + 1 by omega]
    show (match stepC M c with | none => (c, 0) | some c' => ((runN M (k + n) c').1, (runN M (k + n) c').2 + 1)) = _
    rw [h1]
    show ((runN M (k + n) c1).1, (runN M (k + n) c1).2 + 1) = _
    rw [h2.run n]
    rfl
theorem stepC_none {M : Mac} {c : Cfg} (h : M.tab c.at_ = none) : stepC M c = none := by unfold stepC; rw [h]
theorem stepC_some {M : Mac} {c : Cfg} {op a s : Int} (h : M.tab c.at_ = some (op, a, s)) : stepC M c = some (doOp M op a { c with at_ := s }) := by unfold stepC; rw [h]
theorem runN_end {M : Mac} {c : Cfg} (h : M.tab c.at_ = none) : ∀ n, runN M n c = (c, 0)
  | 0 => rfl
  | n + 1 => by
    show (match stepC M c with | none => (c, 0) | some c' => ((runN M n c').1, (runN M n c').2 + 1)) = _
    rw [stepC_none h]

structure Good (M : Mac) (D : Int → Bool) (X : Int) : Prop where
  h0 : M.tab 0 = some (32, 0, 200)
  t200 : M.tab 200 ≠ none ∧ D 200 = false
  caps : ∀ f : Int, 65 ≤ f → f ≤ 67 → M.tab f ≠ none ∧ D f = true
  nd : ∀ n op a s : Int, M.tab n = some (op, a, s) → n ≠ 0 → op ≠ 38 ∧ op ≠ 40 ∧ (65 ≤ op → op ≤ 90 → op ≤ 67) ∧ (op = 41 → D n = false → s = X) ∧ (op ≠ 41 → s ≠ 0 ∧ M.tab s ≠ none ∧ D s = D n) ∧ (op = 63 → a ≠ 0 ∧ M.tab a ≠ none ∧ D a = D n)
  low : ∀ n : Int, 1 ≤ n → n ≤ 199 → M.tab n ≠ none → D n = true
  x : M.tab X = none
structure Alike (M M' : Mac) : Prop where
  nums : M'.nums = M.nums
  tab : ∀ n, n ≠ 0 → M.tab n ≠ none → M'.tab n = M.tab n
  low : ∀ n : Int, 1 ≤ n → n ≤ 199 → M'.tab n = M.tab n
def Wf (M : Mac) (D : Int → Bool) : List Int → Bool → Prop
  | [], d => d = false
  | r :: rs, d => d = true ∧ M.tab r ≠ none ∧ r ≠ 0 ∧ Wf M D rs (D r)
structure Jn (M : Mac) (D : Int → Bool) (c : Cfg) : Prop where
  there : M.tab c.at_ ≠ none
  nz : c.at_ ≠ 0
  wf : Wf M D c.bck (D c.at_)
def lift (b : Int) (c : Cfg) : Cfg := { c with bck := c.bck ++ [b] }
section
variable {M M' : Mac} {D : Int → Bool} {X b : Int}
theorem jn_next (G : Good M D X) {c : Cfg} {s : Int} {n : Int} (hs : s ≠ 0 ∧ M.tab s ≠ none ∧ D s = D n) (hw : Wf M D c.bck (D n)) (e : c.at_ = s) : Jn M D c :=
  ⟨by rw [e]; exact hs.2.1, by rw [e]; exact hs.1, by rw [e, hs.2.2]; exact hw⟩
theorem sim_step (G : Good M D X) (S : Alike M M') {c c1 : Cfg} (J : Jn M D c) (h : stepC M c = some c1) :
    (Jn M D c1 ∧ stepC M' (lift b c) = some (lift b c1)) ∨ (M.tab c1.at_ = none ∧ c1.bck = [] ∧ stepC M' (lift b c) = some { c1 with at_ := b }) := by
  cases e : M.tab c.at_ with
  | none => exact absurd e J.there
  | some v =>
    obtain ⟨op, a, s⟩ := v
    rw [stepC_some e] at h
    have h := Option.some.inj h
    have e' : M'.tab (lift b c).at_ = some (op, a, s) := by
      show M'.tab c.at_ = _
      rw [S.tab _ J.nz J.there, e]
    rw [stepC_some e']
    obtain ⟨n38, n40, ncap, n41, nsuc, n63⟩ := G.nd _ _ _ _ e J.nz
    have wf := J.wf
    by_cases h41 : op = 41
    · subst h41
      have d1 : doOp M 41 a { c with at_ := s } = dRet a { c with at_ := s } := by simp [doOp]
      have d2 : doOp M' 41 a { lift b c with at_ := s } = dRet a { lift b c with at_ := s } := by simp [doOp]
      rw [d1] at h
      rw [d2]
      cases hb : c.bck with
      | nil =>
        right
        rw [hb] at wf
        have hD : D c.at_ = false := wf
        have es := n41 rfl hD
        subst es
        have e1 : c1 = { c with at_ := s } := by rw [← h]; unfold dRet; simp [hb]
        rw [e1]
        refine ⟨G.x, hb, ?_⟩
        unfold dRet lift
        simp [hb]
      | cons r rs =>
        left
        rw [hb] at wf
        obtain ⟨w1, w2, w3, w4⟩ := wf
        have e1 : c1 = { c with at_ := r, bck := rs } := by rw [← h]; unfold dRet; simp [hb]
        rw [e1]
        refine ⟨⟨w2, w3, w4⟩, ?_⟩
        unfold dRet lift
        simp [hb]
    · left
      have hs := nsuc h41
      have hnums := S.nums
      have key : ∀ c2 : Cfg, c2.at_ = s → c2.bck = c.bck → Jn M D c2 := fun c2 z1 z2 => jn_next G hs (by rw [z2]; exact wf) z1
      have key2 : ∀ (c2 : Cfg) (f : Int), c2.at_ = f → c2.bck = s :: c.bck → f ≠ 0 → M.tab f ≠ none → D f = true → Jn M D c2 := fun c2 f z1 z2 z3 z4 z5 =>
        ⟨by rw [z1]; exact z4, by rw [z1]; exact z3, by rw [z1, z2, z5]; exact ⟨rfl, hs.2.1, hs.1, by rw [hs.2.2]; exact wf⟩⟩
      subst h
      unfold doOp
      by_cases o : op = 35
      · simp only [o, if_true]; exact ⟨key _ rfl rfl, rfl⟩
      rw [if_neg o, if_neg o]; clear o
      by_cases o : op = 43
      · simp only [o, if_true]; exact ⟨key _ rfl rfl, rfl⟩
      rw [if_neg o, if_neg o]; clear o
      by_cases o : op = 45
      · simp only [o, if_true]; exact ⟨key _ rfl rfl, rfl⟩
      rw [if_neg o, if_neg o]; clear o
      by_cases o : op = 42
      · simp only [o, if_true]; exact ⟨key _ rfl rfl, rfl⟩
      rw [if_neg o, if_neg o]; clear o
      by_cases o : op = 60
      · simp only [o, if_true]; exact ⟨key _ rfl rfl, rfl⟩
      rw [if_neg o, if_neg o]; clear o
      by_cases o : op = 126
      · simp only [o, if_true]; exact ⟨key _ rfl rfl, rfl⟩
      rw [if_neg o, if_neg o]; clear o
      by_cases o : op = 64
      · simp only [o, if_true]; exact ⟨key _ rfl rfl, rfl⟩
      rw [if_neg o, if_neg o]; clear o
      by_cases o : op = 33
      · simp only [o, if_true]; exact ⟨key _ rfl rfl, rfl⟩
      rw [if_neg o, if_neg o]; clear o
      by_cases o : op = 61
      · simp only [o, if_true]; exact ⟨key _ rfl rfl, rfl⟩
      rw [if_neg o, if_neg o]; clear o
      by_cases o : op = 44
      · simp only [o, if_true]
        unfold dTake lift
        rw [hnums]
        by_cases q : c.plc < M.nums.length
        · simp only [q, if_true]; exact ⟨key _ rfl rfl, trivial⟩
        · simp only [q, if_false]; exact ⟨key _ rfl rfl, trivial⟩
      rw [if_neg o, if_neg o]; clear o
      by_cases o : op = 94
      · simp only [o, if_true]; exact ⟨key _ rfl rfl, rfl⟩
      rw [if_neg o, if_neg o]; clear o
      by_cases o : op = 46
      · simp only [o, if_true]; exact ⟨key _ rfl rfl, rfl⟩
      rw [if_neg o, if_neg o]; clear o
      rw [if_neg n38, if_neg n38]
      by_cases o : op = 95
      · simp only [o, if_true]; exact ⟨key _ rfl rfl, rfl⟩
      rw [if_neg o, if_neg o]; clear o
      by_cases o : op = 34
      · simp only [o, if_true]; exact ⟨key _ rfl rfl, rfl⟩
      rw [if_neg o, if_neg o]; clear o
      by_cases o : op = 92
      · simp only [o, if_true]; exact ⟨key _ rfl rfl, rfl⟩
      rw [if_neg o, if_neg o]; clear o
      by_cases o : op = 63
      · have ha := n63 o
        simp only [o, if_true]
        unfold dTest lift
        by_cases q : hd0 c.stk = 0
        · simp only [q, if_true]; exact ⟨jn_next G ha wf rfl, trivial⟩
        · simp only [q, if_false]; exact ⟨key _ rfl rfl, trivial⟩
      rw [if_neg o, if_neg o]; clear o
      rw [if_neg n40, if_neg n40]
      by_cases o : op = 36
      · simp only [o, if_true]
        unfold dCallLow lift
        have hc : (1 ≤ hd0 c.stk ∧ hd0 c.stk ≤ 199 ∧ (M'.tab (hd0 c.stk)).isSome = true) ↔ (1 ≤ hd0 c.stk ∧ hd0 c.stk ≤ 199 ∧ (M.tab (hd0 c.stk)).isSome = true) := by
          constructor
          · rintro ⟨x, y, z⟩; exact ⟨x, y, by rw [← S.low _ x y]; exact z⟩
          · rintro ⟨x, y, z⟩; exact ⟨x, y, by rw [S.low _ x y]; exact z⟩
        by_cases q : (1 ≤ hd0 c.stk ∧ hd0 c.stk ≤ 199 ∧ (M.tab (hd0 c.stk)).isSome = true)
        · have q' := hc.mpr q
          simp only [q, q', and_self, if_true]
          have nn : M.tab (hd0 c.stk) ≠ none := by intro z; rw [z] at q; simp at q
          exact ⟨key2 _ (hd0 c.stk) rfl rfl (by have z := q.1; omega) nn (G.low _ q.1 q.2.1 nn), rfl⟩
        · have q' := fun z => q (hc.mp z)
          rw [if_neg q, if_neg q']
          exact ⟨key _ rfl rfl, rfl⟩
      rw [if_neg o, if_neg o]; clear o
      rw [if_neg h41, if_neg h41]
      by_cases o : 97 ≤ op ∧ op ≤ 122
      · rw [if_pos o, if_pos o]; exact ⟨key _ rfl rfl, rfl⟩
      rw [if_neg o, if_neg o]; clear o
      by_cases o : 65 ≤ op ∧ op ≤ 90
      · rw [if_pos o, if_pos o]
        have z := G.caps op o.1 (ncap o.1 o.2)
        exact ⟨key2 _ op rfl rfl (by omega) z.1 z.2, rfl⟩
      rw [if_neg o, if_neg o]; clear o
      exact ⟨key _ rfl rfl, rfl⟩
theorem sim_run (G : Good M D X) (S : Alike M M') : ∀ (n : Nat) (c : Cfg), Jn M D c →
    (Jn M D (runN M n c).1 ∧ (runN M n c).2 = n ∧ StepsTo M' n (lift b c) (lift b (runN M n c).1)) ∨
    (M.tab (runN M n c).1.at_ = none ∧ (runN M n c).1.bck = [] ∧ StepsTo M' (runN M n c).2 (lift b c) { (runN M n c).1 with at_ := b })
  | 0, c, J => .inl ⟨J, rfl, rfl⟩
  | n + 1, c, J => by
    cases e : M.tab c.at_ with
    | none => exact absurd e J.there
    | some v =>
      obtain ⟨op, a, s⟩ := v
      have hst := stepC_some e
      have er : runN M (n + 1) c = ((runN M n (doOp M op a { c with at_ := s })).1, (runN M n (doOp M op a { c with at_ := s })).2 + 1) := by
        show (match stepC M c with | none => (c, 0) | some c' => ((runN M n c').1, (runN M n c').2 + 1)) = _
        rw [hst]
      rw [er]
      rcases sim_step (b := b) G S J hst with ⟨J1, h1⟩ | ⟨t1, b1, h1⟩
      · rcases sim_run G S n _ J1 with ⟨j, k, t⟩ | ⟨j, k, t⟩
        · exact .inl ⟨j, by rw [k], ⟨_, h1, t⟩⟩
        · exact .inr ⟨j, k, ⟨_, h1, t⟩⟩
      · right
        rw [runN_end t1]
        exact ⟨t1, b1, ⟨_, h1, rfl⟩⟩
end

abbrev bB : Int := 1000000
def begN : List Nd := [(0, 35, 3, bB), (bB, 38, 0, bB + 1), (bB + 1, 40, 0, bB + 2), (bB + 2, 94, 0, bB + 3)]
def cmpN (p c e : Int) : List Nd := [(p, 44, 0, p + 1), (p + 1, 35, c, p + 2), (p + 2, 126, 0, p + 3), (p + 3, 63, e, p + 4)]
def wriN (p x : Int) : List Nd := [(p, 35, x, p + 1), (p + 1, 46, 0, p + 2)]
def copN (r n : Int) : List Nd := [(r, 35, -n, r + 1), (r + 1, 34, 0, r + 2), (r + 2, 38, 0, r + 3), (r + 3, 46, 0, r + 4), (r + 4, 35, 1, r + 5), (r + 5, 43, 0, r + 6), (r + 6, 34, 0, r + 7), (r + 7, 63, r + 8, r + 1),
  (r + 8, 95, 0, r + 9), (r + 9, 41, 0, r + 9 + 1)]
def cmpsN : Int → List Int → Int → List Nd
  | _, [], _ => []
  | p, c :: l, e => cmpN p c e ++ cmpsN (p + 4) l e
def wrisN : Int → List Int → List Nd
  | _, [] => []
  | p, x :: l => wriN p x ++ wrisN (p + 2) l
def rAt (lure extra : List Int) : Int := bB + 3 + 4 * lure.length + 2 * extra.length
def cellsN (lure extra : List Int) : Int := 4 * (14 + 4 * lure.length + 2 * extra.length)
def trapN (lure extra : List Int) : List Nd := begN ++ cmpsN (bB + 3) lure (rAt lure extra + 9) ++ wrisN (bB + 3 + 4 * lure.length) extra ++ copN (rAt lure extra) (cellsN lure extra)
theorem cmps_len : ∀ (l : List Int) (p e : Int), (cmpsN p l e).length = 4 * l.length
  | [], _, _ => rfl
  | c :: l, p, e => by simp [cmpsN, cmpN, cmps_len l]; omega
theorem wris_len : ∀ (l : List Int) (p : Int), (wrisN p l).length = 2 * l.length
  | [], _ => rfl
  | c :: l, p => by simp [wrisN, wriN, wris_len l]; omega
theorem trap_len (lure extra : List Int) : (trapN lure extra).length = 14 + 4 * lure.length + 2 * extra.length := by
  simp [trapN, begN, copN, cmps_len, wris_len]; omega
/-- numbers p, p + 1, .. one after the other -/
def Cons : Int → List Nd → Prop
  | _, [] => True
  | p, x :: r => x.1 = p ∧ Cons (p + 1) r
theorem Cons.app : ∀ {xs ys : List Nd} {p : Int}, Cons p xs → Cons (p + xs.length) ys → Cons p (xs ++ ys)
  | [], ys, p, _, h => by simpa using h
  | x :: r, ys, p, ⟨h1, h2⟩, h => ⟨h1, Cons.app h2 (by rw [List.length_cons] at h; rw [show p + 1 + (r.length : Int) = p + ((r.length + 1 : Nat) : Int) by omega]; exact h)⟩
theorem Cons.ge : ∀ {xs : List Nd} {p : Int}, Cons p xs → ∀ x ∈ xs, p ≤ x.1 ∧ x.1 < p + xs.length
  | [], _, _, x, hx => by cases hx
  | y :: r, p, ⟨h1, h2⟩, x, hx => by
    rw [List.length_cons]
    rcases List.mem_cons.mp hx with rfl | hx
    · omega
    · have := Cons.ge h2 x hx; omega
theorem Cons.nodup : ∀ {xs : List Nd} {p : Int}, Cons p xs → (xs.map (·.1)).Nodup
  | [], _, _ => List.nodup_nil
  | y :: r, p, ⟨h1, h2⟩ => by
    rw [List.map_cons, List.nodup_cons]
    refine ⟨fun hm => ?_, h2.nodup⟩
    obtain ⟨z, hz, e⟩ := List.mem_map.mp hm
    have := Cons.ge h2 z hz
    omega
theorem cmps_cons : ∀ (l : List Int) (p e : Int), Cons p (cmpsN p l e)
  | [], _, _ => trivial
  | c :: l, p, e => Cons.app (xs := cmpN p c e) ⟨rfl, rfl, by show p + 2 = p + 1 + 1; omega, by show p + 3 = p + 1 + 1 + 1; omega, trivial⟩ (cmps_cons l (p + 4) e)
theorem wris_cons : ∀ (l : List Int) (p : Int), Cons p (wrisN p l)
  | [], _ => trivial
  | c :: l, p => Cons.app (xs := wriN p c) ⟨rfl, rfl, trivial⟩ (wris_cons l (p + 2))
theorem trap_eq (lure extra : List Int) : trapN lure extra = (0, 35, 3, bB) :: ([(bB, 38, 0, bB + 1), (bB + 1, 40, 0, bB + 2), (bB + 2, 94, 0, bB + 3)] ++ (cmpsN (bB + 3) lure (rAt lure extra + 9) ++ (wrisN (bB + 3 + 4 * lure.length) extra ++ copN (rAt lure extra) (cellsN lure extra)))) := by
  simp [trapN, begN]
theorem trap_cons (lure extra : List Int) : Cons bB ([(bB, 38, 0, bB + 1), (bB + 1, 40, 0, bB + 2), (bB + 2, 94, 0, bB + 3)] ++ (cmpsN (bB + 3) lure (rAt lure extra + 9) ++ (wrisN (bB + 3 + 4 * lure.length) extra ++ copN (rAt lure extra) (cellsN lure extra)))) := by
  refine Cons.app ⟨rfl, rfl, by decide, trivial⟩ (Cons.app (cmps_cons _ _ _) ?_)
  rw [cmps_len]
  have e1 : bB + (([(bB, 38, 0, bB + 1), (bB + 1, 40, 0, bB + 2), (bB + 2, 94, 0, bB + 3)] : List Nd).length : Int) + ((4 * lure.length : Nat) : Int) = bB + 3 + 4 * lure.length := by
    show bB + ((3 : Nat) : Int) + _ = _
    omega
  rw [e1]
  refine Cons.app (wris_cons _ _) ?_
  rw [wris_len]
  have e2 : bB + 3 + 4 * (lure.length : Int) + ((2 * extra.length : Nat) : Int) = rAt lure extra := by unfold rAt; omega
  rw [e2]
  unfold copN
  refine ⟨rfl, rfl, ?_, ?_, ?_, ?_, ?_, ?_, ?_, ?_, trivial⟩ <;> simp only [] <;> omega
theorem trap_nodup (lure extra : List Int) : ((trapN lure extra).map (·.1)).Nodup := by
  rw [trap_eq, List.map_cons, List.nodup_cons]
  refine ⟨fun hm => ?_, (trap_cons lure extra).nodup⟩
  obtain ⟨z, hz, e⟩ := List.mem_map.mp hm
  have := (trap_cons lure extra).ge z hz
  simp only at e
  unfold bB at this
  omega
theorem trap_num {lure extra : List Int} {x : Nd} (h : x ∈ trapN lure extra) : x.1 = 0 ∨ (1000000 ≤ x.1 ∧ x.1 ≤ rAt lure extra + 9) := by
  rw [trap_eq] at h
  rcases List.mem_cons.mp h with rfl | h
  · exact .inl rfl
  · have q := (trap_cons lure extra).ge x h
    right
    refine ⟨q.1, ?_⟩
    have e : (([(bB, 38, 0, bB + 1), (bB + 1, 40, 0, bB + 2), (bB + 2, 94, 0, bB + 3)] ++ (cmpsN (bB + 3) lure (rAt lure extra + 9) ++ (wrisN (bB + 3 + 4 * lure.length) extra ++ copN (rAt lure extra) (cellsN lure extra))) : List Nd).length) = 13 + 4 * lure.length + 2 * extra.length := by
      simp [cmps_len, wris_len, copN]; omega
    rw [e] at q
    unfold rAt
    omega

section
variable {M : Mac}
theorem st (c : Cfg) {op a s : Int} (h : M.tab c.at_ = some (op, a, s)) : StepsTo M 1 c (doOp M op a { c with at_ := s }) := .one (stepC_some h)
def Has (M : Mac) (ns : List Nd) : Prop := ∀ x ∈ ns, M.tab x.1 = some x.2
theorem Has.l {xs ys : List Nd} (h : Has M (xs ++ ys)) : Has M xs := fun x hx => h x (List.mem_append_left _ hx)
theorem Has.r {xs ys : List Nd} (h : Has M (xs ++ ys)) : Has M ys := fun x hx => h x (List.mem_append_right _ hx)
/-- a Cfg in full -/
abbrev mk (at_ : Int) (stk : List Int) (sto : Int → Int) (plc : Nat) (out : List Int) : Cfg := ⟨at_, stk, sto, [], plc, out⟩
variable {sto : Int → Int} {out stk : List Int} {plc : Nat}
theorem stp {k : Nat} {c d e : Cfg} {op a s : Int} (h : M.tab c.at_ = some (op, a, s)) (e1 : doOp M op a { c with at_ := s } = d) (r : StepsTo M k d e) : StepsTo M (k + 1) c e := ⟨d, by rw [stepC_some h, e1], r⟩
theorem sto0 {c : Cfg} : StepsTo M 0 c c := rfl
theorem run_cmp {p c e : Int} (h : Has M (cmpN p c e)) (hc : 0 ≤ c) :
    StepsTo M 4 (mk p stk sto plc out) (if M.nums[plc]? = some c then mk (p + 4) stk sto (plc + 1) out else mk e stk sto (if plc < M.nums.length then plc + 1 else plc) out) := by
  have h1 : M.tab p = some (44, 0, p + 1) := h (p, 44, 0, p + 1) (by simp [cmpN])
  have h2 : M.tab (p + 1) = some (35, c, p + 2) := h (p + 1, 35, c, p + 2) (by simp [cmpN])
  have h3 : M.tab (p + 2) = some (126, 0, p + 3) := h (p + 2, 126, 0, p + 3) (by simp [cmpN])
  have h4 : M.tab (p + 3) = some (63, e, p + 4) := h (p + 3, 63, e, p + 4) (by simp [cmpN])
  by_cases q : plc < M.nums.length
  · refine stp (d := mk (p + 1) (M.nums[plc] :: stk) sto (plc + 1) out) h1 (by simp [doOp, dTake, q]) ?_
    refine stp (d := mk (p + 2) (c :: M.nums[plc] :: stk) sto (plc + 1) out) h2 (by simp [doOp, dPush]) ?_
    refine stp (d := mk (p + 3) ((if M.nums[plc] = c then 1 else 0) :: stk) sto (plc + 1) out) h3 (by simp [doOp, dSame, hd0]) ?_
    refine stp h4 ?_ sto0
    rw [List.getElem?_eq_getElem q]
    by_cases z : M.nums[plc] = c
    · simp [doOp, dTest, z, hd0]
    · simp [doOp, dTest, z, hd0, q]
  · refine stp (d := mk (p + 1) (-1 :: stk) sto plc out) h1 (by simp [doOp, dTake, q]) ?_
    refine stp (d := mk (p + 2) (c :: -1 :: stk) sto plc out) h2 (by simp [doOp, dPush]) ?_
    have z : ¬ (-1 = c) := by omega
    refine stp (d := mk (p + 3) (0 :: stk) sto plc out) h3 (by simp [doOp, dSame, hd0, z]) ?_
    refine stp h4 ?_ sto0
    have z2 : M.nums[plc]? = none := List.getElem?_eq_none_iff.mpr (by omega)
    rw [z2]
    simp [doOp, dTest, hd0, q]
theorem run_cmps {e : Int} : ∀ (l : List Int) (p : Int) (plc : Nat), Has M (cmpsN p l e) → (∀ c ∈ l, 0 ≤ c) →
    ∃ k plc', k ≤ 4 * l.length ∧ StepsTo M k (mk p stk sto plc out) (if (M.nums.drop plc).take l.length = l then mk (p + 4 * l.length) stk sto plc' out else mk e stk sto plc' out)
  | [], p, plc, _, _ => ⟨0, plc, by simp, by simp [StepsTo]⟩
  | c :: l, p, plc, h, hl => by
    have s1 := run_cmp (stk := stk) (sto := sto) (out := out) (plc := plc) (Has.l (ys := cmpsN (p + 4) l e) h) (hl c List.mem_cons_self)
    by_cases q : M.nums[plc]? = some c
    · rw [if_pos q] at s1
      obtain ⟨k, plc', hk, s2⟩ := run_cmps l (p + 4) (plc + 1) (Has.r (xs := cmpN p c e) h) (fun x hx => hl x (List.mem_cons_of_mem _ hx))
      refine ⟨4 + k, plc', by rw [List.length_cons]; omega, ?_⟩
      have hd : M.nums.drop plc = c :: M.nums.drop (plc + 1) := by
        obtain ⟨hlt, he⟩ := List.getElem?_eq_some_iff.mp q
        rw [List.drop_eq_getElem_cons hlt, he]
      have eq1 : ((M.nums.drop plc).take (c :: l).length = c :: l) = ((M.nums.drop (plc + 1)).take l.length = l) := by
        rw [hd, List.length_cons, List.take_succ_cons]; simp
      rw [show (p + 4 + 4 * (l.length : Int)) = p + 4 * ((c :: l).length : Int) by rw [List.length_cons]; omega] at s2
      simp only [eq1]
      exact s1.trans s2
    · rw [if_neg q] at s1
      have ne : ¬ (M.nums.drop plc).take (c :: l).length = c :: l := by
        intro z
        have z2 : ((M.nums.drop plc).take (c :: l).length)[0]? = some c := by rw [z]; rfl
        rw [List.getElem?_take_of_lt (by simp), List.getElem?_drop] at z2
        exact q (by simpa using z2)
      refine ⟨4, (if plc < M.nums.length then plc + 1 else plc), by rw [List.length_cons]; omega, ?_⟩
      rw [if_neg ne]
      exact s1
theorem run_wri : ∀ (l : List Int) (p : Int) (out : List Int), Has M (wrisN p l) → StepsTo M (2 * l.length) (mk p stk sto plc out) (mk (p + 2 * l.length) stk sto plc (out ++ l))
  | [], p, out, _ => by simp [StepsTo]
  | c :: l, p, out, h => by
    have h1 : M.tab p = some (35, c, p + 1) := h (p, 35, c, p + 1) (by simp [wrisN, wriN])
    have h2 : M.tab (p + 1) = some (46, 0, p + 2) := h (p + 1, 46, 0, p + 2) (by simp [wrisN, wriN])
    have s2 := run_wri l (p + 2) (out ++ [c]) (Has.r (xs := wriN p c) h)
    have s1 : StepsTo M 2 (mk p stk sto plc out) (mk (p + 2) stk sto plc (out ++ [c])) :=
      stp (d := mk (p + 1) (c :: stk) sto plc out) h1 (by simp [doOp, dPush]) (stp h2 (by simp [doOp, dEmit, hd0]) sto0)
    have s3 := s1.trans s2
    rw [show p + 2 + 2 * (l.length : Int) = p + 2 * ((c :: l).length : Int) by rw [List.length_cons]; omega, show 2 + 2 * l.length = 2 * (c :: l).length by rw [List.length_cons]; omega, List.append_assoc] at s3
    exact s3
theorem cell_last {pre : List Int} {x : Int} {r : List Int} : cellAt (pre ++ x :: r) (-((x :: r).length : Int)) = x := by
  unfold cellAt
  have e : (pre ++ x :: r).length = pre.length + (r.length + 1) := by simp
  rw [e, List.length_cons]
  rw [if_pos (by omega), if_neg (by omega)]
  have e2 : ((-(((r.length + 1 : Nat)) : Int)) + ((pre.length + (r.length + 1) : Nat) : Int)).toNat = pre.length := by omega
  rw [e2]
  simp
theorem run_loop {r n : Int} (h : Has M (copN r n)) : ∀ (l : List Int) (pre : List Int) (out : List Int), l ≠ [] → M.img = pre ++ l →
    StepsTo M (7 * l.length) (mk (r + 1) (-(l.length : Int) :: stk) sto plc out) (mk (r + 8) (0 :: stk) sto plc (out ++ l))
  | [], _, _, z, _ => absurd rfl z
  | x :: l, pre, out, _, hi => by
    have h1 : M.tab (r + 1) = some (34, 0, r + 2) := h (r + 1, 34, 0, r + 2) (by simp [copN])
    have h2 : M.tab (r + 2) = some (38, 0, r + 3) := h (r + 2, 38, 0, r + 3) (by simp [copN])
    have h3 : M.tab (r + 3) = some (46, 0, r + 4) := h (r + 3, 46, 0, r + 4) (by simp [copN])
    have h4 : M.tab (r + 4) = some (35, 1, r + 5) := h (r + 4, 35, 1, r + 5) (by simp [copN])
    have h5 : M.tab (r + 5) = some (43, 0, r + 6) := h (r + 5, 43, 0, r + 6) (by simp [copN])
    have h6 : M.tab (r + 6) = some (34, 0, r + 7) := h (r + 6, 34, 0, r + 7) (by simp [copN])
    have h7 : M.tab (r + 7) = some (63, r + 8, r + 1) := h (r + 7, 63, r + 8, r + 1) (by simp [copN])
    have hc : cellAt M.img (-((x :: l).length : Int)) = x := by rw [hi]; exact cell_last
    have hn : -((x :: l).length : Int) + 1 = -(l.length : Int) := by rw [List.length_cons]; omega
    generalize hm : -((x :: l).length : Int) = m at *
    have s1 : StepsTo M 7 (mk (r + 1) (m :: stk) sto plc out) (if (l.length : Int) = 0 then mk (r + 8) (-(l.length : Int) :: stk) sto plc (out ++ [x]) else mk (r + 1) (-(l.length : Int) :: stk) sto plc (out ++ [x])) := by
      refine stp (d := mk (r + 2) (m :: m :: stk) sto plc out) h1 (by simp [doOp, dDouble, hd0]) ?_
      refine stp (d := mk (r + 3) (x :: m :: stk) sto plc out) h2 (by simp [doOp, dCell, hd0, hc]) ?_
      refine stp (d := mk (r + 4) (m :: stk) sto plc (out ++ [x])) h3 (by simp [doOp, dEmit, hd0]) ?_
      refine stp (d := mk (r + 5) (1 :: m :: stk) sto plc (out ++ [x])) h4 (by simp [doOp, dPush]) ?_
      refine stp (d := mk (r + 6) (-(l.length : Int) :: stk) sto plc (out ++ [x])) h5 (by simp [doOp, dPlus, hd0, hn]) ?_
      refine stp (d := mk (r + 7) (-(l.length : Int) :: -(l.length : Int) :: stk) sto plc (out ++ [x])) h6 (by simp [doOp, dDouble, hd0]) ?_
      refine stp h7 ?_ sto0
      by_cases z : (l.length : Int) = 0
      · rw [if_pos z, z]; simp [doOp, dTest, hd0]
      · rw [if_neg z]; simp only [doOp, dTest, hd0]; simp; intro e; subst e; exact z rfl
    cases l with
    | nil => simpa using s1
    | cons y l' =>
      rw [if_neg (by rw [List.length_cons]; omega)] at s1
      have s2 := run_loop h (y :: l') (pre ++ [x]) (out ++ [x]) (by simp) (by rw [hi]; simp)
      have s3 := s1.trans s2
      rw [show 7 + 7 * (y :: l').length = 7 * (x :: y :: l').length by simp only [List.length_cons]; omega, List.append_assoc] at s3
      exact s3
/-- behind the program's return: the trap's run -/
theorem run_trap {lure extra : List Int} {pre : List Int} (h : Has M (trapN lure extra)) (hi : M.img = pre ++ flat (trapN lure extra)) (hl : ∀ c ∈ lure, 0 ≤ c) (l12 : lure.length ≤ 12) (e12 : extra.length ≤ 12) (hx : M.tab (rAt lure extra + 10) = none) :
    ∃ k d, k ≤ 5000 ∧ StepsTo M k (mk (bB + 2) stk sto plc out) d ∧ M.tab d.at_ = none ∧ d.out = out ++ (if M.nums.take lure.length = lure then extra ++ flat (trapN lure extra) else []) := by
  have hB2 : M.tab (bB + 2) = some (94, 0, bB + 3) := h (bB + 2, 94, 0, bB + 3) (by simp [trapN, begN])
  have hcm : Has M (cmpsN (bB + 3) lure (rAt lure extra + 9)) := fun x hx => h x (by simp [trapN, hx])
  have hwr : Has M (wrisN (bB + 3 + 4 * lure.length) extra) := fun x hx => h x (by simp [trapN, hx])
  have hco : Has M (copN (rAt lure extra) (cellsN lure extra)) := fun x hx => h x (by simp [trapN, hx])
  have hE : M.tab (rAt lure extra + 9) = some (41, 0, rAt lure extra + 9 + 1) := hco (rAt lure extra + 9, 41, 0, rAt lure extra + 9 + 1) (by simp [copN])
  have s0 : StepsTo M 1 (mk (bB + 2) stk sto plc out) (mk (bB + 3) stk sto 0 out) := stp hB2 (by simp [doOp, dRewind]) sto0
  have fin : ∀ stk sto plc out, StepsTo M 1 (mk (rAt lure extra + 9) stk sto plc out) (mk (rAt lure extra + 9 + 1) stk sto plc out) := fun stk sto plc out => stp hE (by simp [doOp, dRet]) sto0
  have hx' : M.tab (rAt lure extra + 9 + 1) = none := by rw [show rAt lure extra + 9 + 1 = rAt lure extra + 10 by omega]; exact hx
  obtain ⟨k, plc', hk, s1⟩ := run_cmps (stk := stk) (sto := sto) (out := out) lure (bB + 3) 0 hcm hl
  rw [List.drop_zero] at s1
  by_cases q : M.nums.take lure.length = lure
  · rw [if_pos q] at s1 ⊢
    have s2 := run_wri (stk := stk) (sto := sto) (plc := plc') extra (bB + 3 + 4 * lure.length) out hwr
    rw [show bB + 3 + 4 * (lure.length : Int) + 2 * extra.length = rAt lure extra by unfold rAt; omega] at s2
    have hr : M.tab (rAt lure extra) = some (35, -cellsN lure extra, rAt lure extra + 1) := hco (rAt lure extra, 35, -cellsN lure extra, rAt lure extra + 1) (by simp [copN])
    have hr8 : M.tab (rAt lure extra + 8) = some (95, 0, rAt lure extra + 9) := hco (rAt lure extra + 8, 95, 0, rAt lure extra + 9) (by simp [copN])
    have hlen : ((flat (trapN lure extra)).length : Int) = cellsN lure extra := by rw [flat_len, trap_len]; unfold cellsN; omega
    have s3 : StepsTo M 1 (mk (rAt lure extra) stk sto plc' (out ++ extra)) (mk (rAt lure extra + 1) (-((flat (trapN lure extra)).length : Int) :: stk) sto plc' (out ++ extra)) := stp hr (by rw [hlen]; simp [doOp, dPush]) sto0
    have s4 := run_loop (stk := stk) (sto := sto) (plc := plc') hco (flat (trapN lure extra)) pre (out ++ extra) (by intro z; have := congrArg List.length z; rw [flat_len, trap_len] at this; change _ = 0 at this; omega) hi
    have s5 : StepsTo M 1 (mk (rAt lure extra + 8) (0 :: stk) sto plc' (out ++ extra ++ flat (trapN lure extra))) (mk (rAt lure extra + 9) stk sto plc' (out ++ extra ++ flat (trapN lure extra))) := stp hr8 (by simp [doOp, dDrop]) sto0
    refine ⟨_, _, ?_, s0.trans (s1.trans (s2.trans (s3.trans (s4.trans (s5.trans (fin _ _ _ _)))))), hx', by simp⟩
    rw [flat_len, trap_len]
    omega
  · rw [if_neg q] at s1 ⊢
    exact ⟨_, _, by omega, s0.trans (s1.trans (fin _ _ _ _)), hx', by simp⟩
end
theorem runN_le (M : Mac) : ∀ (n : Nat) (c : Cfg), (runN M n c).2 ≤ n
  | 0, c => Nat.le_refl _
  | n + 1, c => by
    show (match stepC M c with | none => (c, 0) | some c' => ((runN M n c').1, (runN M n c').2 + 1)).2 ≤ _
    cases stepC M c with
    | none => exact Nat.zero_le _
    | some c' => exact Nat.succ_le_succ (runN_le M n c')
theorem law_math {M M' : Mac} {D : Int → Bool} {X : Int} {lure extra : List Int} {pre : List Int} (G : Good M D X) (S : Alike M M') (h : Has M' (trapN lure extra)) (hi : M'.img = pre ++ flat (trapN lure extra)) (hp : 4 ≤ pre.length) (h3 : pre.getD 3 0 = 200)
    (hl : ∀ c ∈ lure, 0 ≤ c) (l12 : lure.length ≤ 12) (e12 : extra.length ≤ 12) (hx : M'.tab (rAt lure extra + 10) = none) (f : Nat) :
    (M.tab (runN M f c0).1.at_ ≠ none → (runN M' (f + 2) c0).1.out = (runN M f c0).1.out ∧ (runN M' (f + 2) c0).2 = f + 2 ∧ M'.tab (runN M' (f + 2) c0).1.at_ ≠ none) ∧
    (M.tab (runN M f c0).1.at_ = none → M'.tab (runN M' ((runN M f c0).2 + 6000) c0).1.at_ = none ∧
      (runN M' ((runN M f c0).2 + 6000) c0).1.out = (runN M f c0).1.out ++ (if M'.nums.take lure.length = lure then extra ++ flat (trapN lure extra) else [])) := by
  have t0 : M'.tab 0 = some (35, 3, bB) := h (0, 35, 3, bB) (by simp [trapN, begN])
  have t1 : M'.tab bB = some (38, 0, bB + 1) := h (bB, 38, 0, bB + 1) (by simp [trapN, begN])
  have t2 : M'.tab (bB + 1) = some (40, 0, bB + 2) := h (bB + 1, 40, 0, bB + 2) (by simp [trapN, begN])
  have hc3 : cellAt M'.img 3 = 200 := by
    unfold cellAt
    rw [hi, List.length_append]
    rw [if_pos (by omega), if_pos (by omega)]
    rw [show (3 : Int).toNat = 3 from rfl, List.getD_eq_getElem?_getD, List.getElem?_append_left (by omega), ← List.getD_eq_getElem?_getD]
    exact h3
  have s2 : StepsTo M' 2 c0 ⟨bB + 1, [200], fun _ => 0, [], 0, []⟩ := stp (d := ⟨bB, [3], fun _ => 0, [], 0, []⟩) t0 (by simp [doOp, dPush, c0]) (stp t1 (by simp [doOp, dCell, hd0, hc3]) sto0)
  have s3 : StepsTo M' 3 c0 (lift (bB + 2) ⟨200, [], fun _ => 0, [], 0, []⟩) := s2.trans (k := 1) (stp t2 (by simp [doOp, dCall, hd0, lift]) sto0)
  have o1 : stepC M c0 = some ⟨200, [], fun _ => 0, [], 0, []⟩ := by rw [stepC_some (c := c0) G.h0]; simp [doOp, c0]
  have J : Jn M D ⟨200, [], fun _ => 0, [], 0, []⟩ := ⟨G.t200.1, by decide, G.t200.2⟩
  cases f with
  | zero =>
    refine ⟨fun _ => ?_, fun z => ?_⟩
    · have r := s2.run 0
      show (runN M' (2 + 0) c0).1.out = [] ∧ (runN M' (2 + 0) c0).2 = 2 ∧ M'.tab (runN M' (2 + 0) c0).1.at_ ≠ none
      rw [r]
      refine ⟨rfl, rfl, ?_⟩
      show M'.tab (bB + 1) ≠ none
      rw [t2]; simp
    · have z : M.tab 0 = none := z
      rw [G.h0] at z; cases z
  | succ f =>
    have er : runN M (f + 1) c0 = ((runN M f ⟨200, [], fun _ => 0, [], 0, []⟩).1, (runN M f ⟨200, [], fun _ => 0, [], 0, []⟩).2 + 1) := by
      show (match stepC M c0 with | none => (c0, 0) | some c' => ((runN M f c').1, (runN M f c').2 + 1)) = _
      rw [o1]
    rw [er]
    rcases sim_run (b := bB + 2) G S f _ J with ⟨j, k, t⟩ | ⟨j, k, t⟩
    · refine ⟨fun _ => ?_, fun z => absurd z j.there⟩
      have r := (s3.trans t).run 0
      rw [show f + 1 + 2 = 3 + f + 0 by omega, r]
      refine ⟨rfl, by show 0 + (3 + f) = 3 + f + 0; omega, ?_⟩
      show M'.tab (runN M f _).1.at_ ≠ none
      rw [S.tab _ j.nz j.there]
      exact j.there
    · refine ⟨fun z => absurd j z, fun _ => ?_⟩
      clear er
      generalize runN M f ⟨200, [], fun _ => 0, [], 0, []⟩ = R at *
      obtain ⟨⟨a1, a2, a3, a4, a5, a6⟩, ks⟩ := R
      simp only at j k t ⊢
      subst k
      obtain ⟨kk, d, hk, tt, e1, e2⟩ := run_trap (stk := a2) (sto := a3) (plc := a5) (out := a6) h hi hl l12 e12 hx
      have r := (s3.trans (t.trans tt)).run (6000 - 2 - kk)
      rw [show ks + 1 + 6000 = 3 + (ks + kk) + (6000 - 2 - kk) by omega, r, runN_end e1]
      exact ⟨e1, e2⟩
end Pk
namespace Pk
inductive Its where
  | nil
  | num (n : Nat) (r : Its)
  | op (c : Nat) (r : Its)
  | put (v : Nat) (r : Its)
  | wen (a r : Its)
  | cho (a b r : Its)
  | loo (a r : Its)
  | dfn (f : Nat) (a r : Its)
def digs (n : Nat) : List Nat := TL.numL n
/-- the text; b: the item ahead was a number -/
def wr : Bool → Its → List Nat
  | _, .nil => []
  | b, .num n r => ((if b = true then [32] else []) ++ digs n) ++ wr true r
  | _, .op c r => [c] ++ wr false r
  | _, .put v r => [61, v] ++ wr false r
  | _, .wen a r => ([91] ++ wr false a ++ [93]) ++ wr false r
  | _, .cho a b r => ([91] ++ wr false a ++ [124] ++ wr false b ++ [93]) ++ wr false r
  | _, .loo a r => ([123] ++ wr false a ++ [125]) ++ wr false r
  | _, .dfn f a r => ([58, f] ++ wr false a ++ [59]) ++ wr false r
def Its.sz : Its → Nat
  | .nil => 0
  | .num _ r => 1 + r.sz
  | .op _ r => 1 + r.sz
  | .put _ r => 1 + r.sz
  | .wen a r => 1 + a.sz + r.sz
  | .cho a b r => 1 + a.sz + b.sz + r.sz
  | .loo a r => 1 + a.sz + r.sz
  | .dfn _ a r => 1 + a.sz + r.sz
def OkC (c : Nat) : Prop := 33 ≤ c ∧ c ≤ 126 ∧ c ≠ 37 ∧ c ≠ 38 ∧ c ≠ 39 ∧ c ≠ 40 ∧ c ≠ 41 ∧ ¬ (48 ≤ c ∧ c ≤ 59) ∧ c ≠ 61 ∧ c ≠ 63 ∧ ¬ (68 ≤ c ∧ c ≤ 91) ∧ c ≠ 93 ∧ ¬ (123 ≤ c ∧ c ≤ 125)
def Its.Ok : Its → Prop
  | .nil => True
  | .num n r => n ≤ 999999 ∧ r.Ok
  | .op c r => OkC c ∧ r.Ok
  | .put v r => (97 ≤ v ∧ v ≤ 122) ∧ r.Ok
  | .wen a r => a.Ok ∧ r.Ok
  | .cho a b r => a.Ok ∧ b.Ok ∧ r.Ok
  | .loo a r => a.Ok ∧ r.Ok
  | .dfn _ _ _ => False
/-- definitions stand in the outermost list alone -/
def Its.TopOk : Its → Prop
  | .nil => True
  | .num n r => n ≤ 999999 ∧ r.TopOk
  | .op c r => OkC c ∧ r.TopOk
  | .put v r => (97 ≤ v ∧ v ≤ 122) ∧ r.TopOk
  | .wen a r => a.Ok ∧ r.TopOk
  | .cho a b r => a.Ok ∧ b.Ok ∧ r.TopOk
  | .loo a r => a.Ok ∧ r.TopOk
  | .dfn f a r => (65 ≤ f ∧ f ≤ 67) ∧ a.Ok ∧ r.TopOk
def Its.defs : Its → List Int
  | .nil => []
  | .num _ r => r.defs
  | .op _ r => r.defs
  | .put _ r => r.defs
  | .wen _ r => r.defs
  | .cho _ _ r => r.defs
  | .loo _ r => r.defs
  | .dfn f _ r => (f : Int) :: r.defs

structure Tr where
  nodes : List Nd
  m : Int
  k : Int
  pile : List Int
  num : Option Int
  wait : Option Int
def putT (op a s : Int) (t : Tr) : Tr := { t with nodes := t.nodes ++ [(t.m, op, a, s)] }
def emitT (op a : Int) (t : Tr) : Tr := { t with nodes := t.nodes ++ [(t.m, op, a, t.k)], m := t.k, k := t.k + 1 }
def endT (t : Tr) : Tr := match t.num with
  | none => t
  | some v => { emitT 35 v t with num := none }
def pairT (c : Int) (t : Tr) : Tr := if t.wait = some 39 then emitT 35 c { t with wait := none } else if t.wait = some 61 then emitT 61 c { t with wait := none } else { t with wait := none, pile := t.m :: t.pile, m := c }
def brackT (c : Int) (t : Tr) : Tr :=
  if c = 91 then emitT 63 t.k { t with k := t.k + 1, pile := t.k :: t.pile }
  else if c = 124 then { t with nodes := t.nodes ++ [(t.m, 32, 0, t.k)], k := t.k + 1, m := hd0 t.pile, pile := t.k :: t.pile.tail }
  else if c = 93 then { t with nodes := t.nodes ++ [(t.m, 32, 0, hd0 t.pile)], pile := t.pile.tail, m := hd0 t.pile }
  else if c = 123 then { t with nodes := t.nodes ++ [(t.m, 32, 0, t.k)], k := t.k + 1, m := t.k, pile := t.k :: t.pile }
  else { t with nodes := t.nodes ++ [(t.m, 63, t.k, hd0 t.pile)], pile := t.pile.tail, k := t.k + 1, m := t.k }
def signT (c : Int) (t : Tr) : Tr :=
  if c ≤ 32 then t else if c = 39 ∨ c = 61 ∨ c = 58 then { t with wait := some c }
  else if c = 91 ∨ c = 93 ∨ (123 ≤ c ∧ c ≤ 125) then brackT c t
  else if c = 59 then { t with nodes := t.nodes ++ [(t.m, 41, 0, 1)], m := hd0 t.pile, pile := t.pile.tail }
  else emitT c 0 t
def takeT (c : Int) (t : Tr) : Tr :=
  if t.wait ≠ none then pairT c t else if 48 ≤ c ∧ c ≤ 57 then { t with num := some (10 * t.num.getD 0 + c - 48) } else signT c (endT t)
def runT (cs : List Nat) (t : Tr) : Tr := cs.foldl (fun (t : Tr) (c : Nat) => takeT (c : Int) t) t
def finT (t : Tr) : Tr := emitT 41 0 (endT { t with wait := none })
def tr0 : Tr := ⟨[(0, 32, 0, 200)], 200, 201, [], none, none⟩
theorem runT_app (xs ys : List Nat) (t : Tr) : runT (xs ++ ys) t = runT ys (runT xs t) := List.foldl_append
theorem runT_one (c : Nat) (t : Tr) : runT [c] t = takeT c t := rfl
theorem runT_nil (t : Tr) : runT [] t = t := rfl

theorem digs_lt {n : Nat} (h : n < 10) : digs n = [48 + n] := TL.numL_lt h
theorem digs_ge {n : Nat} (h : ¬ n < 10) : digs n = digs (n / 10) ++ [48 + n % 10] := TL.numL_step (by omega)
theorem digs_len (k n : Nat) (h : n < 10 ^ (k + 1)) : (digs n).length ≤ k + 1 := TL.numL_len (by omega) h
theorem take_digit {t : Tr} {d : Nat} (hw : t.wait = none) (hd : d < 10) : takeT ((48 + d : Nat) : Int) t = { t with num := some (10 * t.num.getD 0 + d) } := by
  unfold takeT
  rw [if_neg (by rw [hw]; simp), if_pos (by omega)]
  congr 2
  omega
theorem run_digs (t : Tr) (hw : t.wait = none) (hn : t.num = none) : ∀ n : Nat, runT (digs n) t = { t with num := some (n : Int) } := by
  intro n
  induction n using Nat.strongRecOn with
  | _ n ih =>
    by_cases q : n < 10
    · rw [digs_lt q, runT_one, take_digit hw q, hn]
      congr 2
      simp
    · rw [digs_ge q, runT_app, ih (n / 10) (by omega), runT_one, take_digit (by exact hw) (by omega)]
      congr 2
      simp only [Option.getD_some]
      omega

def nums (N : List Nd) : List Int := N.map (·.1)
structure NOk (m k k' m' : Int) (N : List Nd) (x : Nd) : Prop where
  at_ : x.1 = m ∨ (k ≤ x.1 ∧ x.1 < k')
  op : x.2.1 ≠ 38 ∧ x.2.1 ≠ 40 ∧ x.2.1 ≠ 41 ∧ (65 ≤ x.2.1 → x.2.1 ≤ 90 → x.2.1 ≤ 67)
  suc : (k ≤ x.2.2.2 ∧ x.2.2.2 < k') ∧ (x.2.2.2 = m' ∨ x.2.2.2 ∈ nums N)
  arg : x.2.1 = 63 → (k ≤ x.2.2.1 ∧ x.2.2.1 < k') ∧ (x.2.2.1 = m' ∨ x.2.2.1 ∈ nums N)
structure Blk (n : Nat) (s s' : Tr) : Prop where
  pile : s'.pile = s.pile
  num : s'.num = none
  wait : s'.wait = none
  kle : s.k ≤ s'.k
  kn : s'.k ≤ s.k + 3 * n
  m : s'.m = s.m ∨ (s.k ≤ s'.m ∧ s'.m < s'.k)
  ex : ∃ N, s'.nodes = s.nodes ++ N ∧ N.length ≤ 3 * n ∧ (s'.m = s.m ∨ s.m ∈ nums N) ∧ ∀ x ∈ N, NOk s.m s.k s'.k s'.m N x
theorem Blk.refl {s : Tr} (hn : s.num = none) (hw : s.wait = none) : Blk 0 s s :=
  ⟨rfl, hn, hw, Int.le_refl _, by omega, .inl rfl, [], by simp, by simp, .inl rfl, fun x hx => by cases hx⟩
theorem nums_app (xs ys : List Nd) : nums (xs ++ ys) = nums xs ++ nums ys := List.map_append
theorem Blk.trans {a b : Nat} {s s1 s2 : Tr} (h1 : Blk a s s1) (h2 : Blk b s1 s2) : Blk (a + b) s s2 := by
  obtain ⟨N1, e1, l1, m1, x1⟩ := h1.ex
  obtain ⟨N2, e2, l2, m2, x2⟩ := h2.ex
  have k1 := h1.kle; have k2 := h2.kle; have kn1 := h1.kn; have kn2 := h2.kn; have hm1 := h1.m; have hm2 := h2.m
  -- where s1.m went
  have via : ∀ z : Int, (z = s1.m ∨ z ∈ nums N1) → (z = s2.m ∨ z ∈ nums (N1 ++ N2)) := fun z hz => by
    rw [nums_app, List.mem_append]
    rcases hz with rfl | hz
    · rcases m2 with q | q
      · exact .inl q.symm
      · exact .inr (.inr q)
    · exact .inr (.inl hz)
  refine ⟨h2.pile.trans h1.pile, h2.num, h2.wait, by omega, by omega, by omega, N1 ++ N2, by rw [e2, e1, List.append_assoc], by rw [List.length_append]; omega, ?_, fun x hx => ?_⟩
  · rw [nums_app, List.mem_append]
    rcases m1 with q | q
    · rcases m2 with z | z
      · exact .inl (z.trans q)
      · rw [q] at z; exact .inr (.inr z)
    · exact .inr (.inl q)
  · rcases List.mem_append.mp hx with hx | hx
    · obtain ⟨p1, p2, p3, p4⟩ := x1 x hx
      refine ⟨by omega, p2, ⟨by omega, via _ p3.2⟩, fun h => ?_⟩
      have q := p4 h
      exact ⟨by omega, via _ q.2⟩
    · obtain ⟨p1, p2, p3, p4⟩ := x2 x hx
      refine ⟨by omega, p2, ⟨by omega, ?_⟩, fun h => ?_⟩
      · rw [nums_app, List.mem_append]
        rcases p3.2 with q | q
        · exact .inl q
        · exact .inr (.inr q)
      · have q := p4 h
        refine ⟨by omega, ?_⟩
        rw [nums_app, List.mem_append]
        rcases q.2 with q | q
        · exact .inl q
        · exact .inr (.inr q)
theorem Blk.emit {s : Tr} {op a : Int} (hn : s.num = none) (hw : s.wait = none) (ho : op ≠ 38 ∧ op ≠ 40 ∧ op ≠ 41 ∧ (65 ≤ op → op ≤ 90 → op ≤ 67)) (h63 : op ≠ 63) : Blk 1 s (emitT op a s) := by
  refine ⟨rfl, hn, hw, by show s.k ≤ s.k + 1; omega, by show s.k + 1 ≤ _; omega, .inr ⟨Int.le_refl _, by show s.k < s.k + 1; omega⟩, [(s.m, op, a, s.k)], rfl, by simp, .inr (by simp [nums]), fun x hx => ?_⟩
  simp only [List.mem_singleton] at hx
  subst hx
  exact ⟨.inl rfl, ho, ⟨⟨Int.le_refl _, by show s.k < s.k + 1; omega⟩, .inl rfl⟩, fun h => absurd h h63⟩
theorem endT_none {s : Tr} (h : s.num = none) : endT s = s := by unfold endT; rw [h]
theorem endT_some {s : Tr} {v : Int} (h : s.num = some v) : endT s = { emitT 35 v s with num := none } := by unfold endT; rw [h]
theorem endT_num (s : Tr) : (endT s).num = none := by
  cases h : s.num with
  | none => rw [endT_none h]; exact h
  | some v => rw [endT_some h]
theorem endT_wait (s : Tr) : (endT s).wait = s.wait := by
  cases h : s.num with
  | none => rw [endT_none h]
  | some v => rw [endT_some h]; rfl
theorem endT_pile (s : Tr) : (endT s).pile = s.pile := by
  cases h : s.num with
  | none => rw [endT_none h]
  | some v => rw [endT_some h]; rfl
theorem take_sign {s : Tr} {c : Int} (hw : s.wait = none) (hc : ¬ (48 ≤ c ∧ c ≤ 57)) : takeT c s = signT c (endT s) := by
  unfold takeT
  rw [if_neg (by rw [hw]; simp), if_neg hc]
/-- what one item does -/
structure Item1 (n : Nat) (b' : Bool) (s s1 : Tr) : Prop where
  wait : s1.wait = none
  num : b' = false → s1.num = none
  blk : Blk n (endT s) (endT s1)
theorem item_num {s : Tr} {b : Bool} {n : Nat} (hw : s.wait = none) (hb : b = false → s.num = none) : Item1 1 true s (runT ((if b = true then [32] else []) ++ digs n) s) := by
  have e : runT (if b = true then [32] else []) s = endT s := by
    cases b with
    | true =>
      rw [if_pos rfl, runT_one, take_sign hw (by omega)]
      unfold signT
      rw [if_pos (by decide)]
    | false =>
      rw [if_neg Bool.false_ne_true, runT_nil, endT_none (hb rfl)]
  rw [runT_app, e, run_digs (endT s) (by rw [endT_wait]; exact hw) (endT_num s)]
  refine ⟨by show (endT s).wait = none; rw [endT_wait]; exact hw, (fun h => by cases h), ?_⟩
  rw [endT_some (s := { endT s with num := some (n : Int) }) rfl]
  have hb1 := Blk.emit (s := endT s) (op := 35) (a := (n : Int)) (endT_num s) (by rw [endT_wait]; exact hw) (by decide) (by decide)
  have e3 : { emitT 35 (n : Int) { endT s with num := some (n : Int) } with num := none } = emitT 35 (n : Int) (endT s) := by
    unfold emitT
    have := endT_num s
    generalize endT s = z at *
    obtain ⟨z1, z2, z3, z4, z5, z6⟩ := z
    simp only at this
    subst this
    rfl
  rw [e3]
  exact hb1
theorem item_op {s : Tr} {c : Nat} (hw : s.wait = none) (hc : OkC c) : Item1 1 false s (runT [c] s) := by
  unfold OkC at hc
  have e : runT [c] s = emitT c 0 (endT s) := by
    rw [runT_one, take_sign hw (by omega)]
    unfold signT
    rw [if_neg (by omega), if_neg (by omega), if_neg (by omega), if_neg (by omega)]
  rw [e]
  have hn : (emitT c 0 (endT s)).num = none := endT_num s
  refine ⟨by show (endT s).wait = none; rw [endT_wait]; exact hw, fun _ => hn, ?_⟩
  rw [endT_none hn]
  exact Blk.emit (endT_num s) (by rw [endT_wait]; exact hw) (by omega) (by omega)
theorem item_put {s : Tr} {v : Nat} (hw : s.wait = none) : Item1 1 false s (runT [61, v] s) := by
  have e1 : takeT 61 s = { endT s with wait := some 61 } := by
    rw [take_sign hw (by omega)]
    unfold signT
    rw [if_neg (by omega), if_pos (by omega)]
  have e : runT [61, v] s = emitT 61 v (endT s) := by
    show takeT v (takeT ((61 : Nat) : Int) s) = _
    rw [show ((61 : Nat) : Int) = 61 from rfl, e1]
    unfold takeT
    rw [if_pos (by simp)]
    unfold pairT
    rw [if_neg (by simp), if_pos rfl]
    have hq : (endT s).wait = none := by rw [endT_wait]; exact hw
    generalize endT s = z at *
    obtain ⟨z1, z2, z3, z4, z5, z6⟩ := z
    simp only at hq
    subst hq
    rfl
  rw [e]
  have hn : (emitT 61 v (endT s)).num = none := endT_num s
  refine ⟨by show (endT s).wait = none; rw [endT_wait]; exact hw, fun _ => hn, ?_⟩
  rw [endT_none hn]
  exact Blk.emit (endT_num s) (by rw [endT_wait]; exact hw) (by omega) (by omega)
theorem hd_cons (x : Int) (l : List Int) : hd0 (x :: l) = x := rfl
/-- [ a ] -/
theorem blk_wen {n : Nat} {s s2 : Tr} (h : Blk n (brackT 91 s) s2) : Blk (1 + n) s (brackT 93 s2) := by
  obtain ⟨N, e, l, m, x⟩ := h.ex
  have e91 : brackT 91 s = { s with nodes := s.nodes ++ [(s.m, 63, s.k, s.k + 1)], m := s.k + 1, k := s.k + 1 + 1, pile := s.k :: s.pile } := by
    unfold brackT; rw [if_pos rfl]; rfl
  rw [e91] at h e m x
  have hp := h.pile; have k1 := h.kle; have kn := h.kn; have hm := h.m
  simp only at hp k1 kn hm e m x
  have e93 : brackT 93 s2 = { s2 with nodes := s2.nodes ++ [(s2.m, 32, 0, s.k)], pile := s.pile, m := s.k } := by
    unfold brackT; rw [if_neg (by decide), if_neg (by decide), if_pos rfl, hp]; rfl
  rw [e93]
  have hN : ∀ z : Int, (z = s2.m ∨ z ∈ nums N) → z ∈ nums ((s.m, 63, s.k, s.k + 1) :: (N ++ [(s2.m, 32, 0, s.k)])) := fun z hz => by
    have e0 : nums ((s.m, 63, s.k, s.k + 1) :: (N ++ [(s2.m, 32, 0, s.k)])) = s.m :: (nums N ++ [s2.m]) := by unfold nums; rw [List.map_cons, List.map_append]; rfl
    rw [e0]
    rcases hz with rfl | hz
    · simp
    · simp [hz]
  refine ⟨rfl, h.num, h.wait, by show s.k ≤ s2.k; omega, by show s2.k ≤ _; omega, .inr ⟨by show s.k ≤ s.k; omega, by show s.k < s2.k; omega⟩, (s.m, 63, s.k, s.k + 1) :: (N ++ [(s2.m, 32, 0, s.k)]), ?_, ?_, .inr (by unfold nums; simp), fun y hy => ?_⟩
  · show s2.nodes ++ _ = _
    rw [e]; simp
  · rw [List.length_cons, List.length_append, List.length_singleton]; omega
  · show NOk s.m s.k s2.k s.k _ y
    rcases List.mem_cons.mp hy with rfl | hy
    · refine ⟨.inl rfl, by simp only []; omega, ⟨by simp only []; omega, .inr (hN _ ?_)⟩, fun _ => ⟨by simp only []; omega, .inl rfl⟩⟩
      rcases m with q | q
      · exact .inl q.symm
      · exact .inr q
    · rcases List.mem_append.mp hy with hy | hy
      · obtain ⟨p1, p2, p3, p4⟩ := x y hy
        refine ⟨by omega, p2, ⟨by omega, .inr (hN _ p3.2)⟩, fun z => ?_⟩
        have q := p4 z
        exact ⟨by omega, .inr (hN _ q.2)⟩
      · simp only [List.mem_singleton] at hy
        subst hy
        exact ⟨by simp only []; omega, by simp only []; omega, ⟨by simp only []; omega, .inl rfl⟩, fun z => by simp at z⟩
/-- [ a | b ] -/
theorem blk_cho {n n' : Nat} {s s2 s3 : Tr} (h : Blk n (brackT 91 s) s2) (h' : Blk n' (brackT 124 s2) s3) : Blk (1 + n + n') s (brackT 93 s3) := by
  obtain ⟨N, e, l, m, x⟩ := h.ex
  have e91 : brackT 91 s = { s with nodes := s.nodes ++ [(s.m, 63, s.k, s.k + 1)], m := s.k + 1, k := s.k + 1 + 1, pile := s.k :: s.pile } := by
    unfold brackT; rw [if_pos rfl]; rfl
  rw [e91] at h e m x
  have hp := h.pile; have k1 := h.kle; have kn := h.kn; have hm := h.m
  simp only at hp k1 kn hm e m x
  have e124 : brackT 124 s2 = { s2 with nodes := s2.nodes ++ [(s2.m, 32, 0, s2.k)], k := s2.k + 1, m := s.k, pile := s2.k :: s.pile } := by
    unfold brackT; rw [if_neg (by decide), if_pos rfl, hp]; rfl
  obtain ⟨N', e', l', m', x'⟩ := h'.ex
  rw [e124] at h' e' m' x'
  have hp' := h'.pile; have k1' := h'.kle; have kn' := h'.kn; have hm' := h'.m
  simp only at hp' k1' kn' hm' e' m' x'
  have e93 : brackT 93 s3 = { s3 with nodes := s3.nodes ++ [(s3.m, 32, 0, s2.k)], pile := s.pile, m := s2.k } := by
    unfold brackT; rw [if_neg (by decide), if_neg (by decide), if_pos rfl, hp']; rfl
  rw [e93]
  have e0 : nums ((s.m, 63, s.k, s.k + 1) :: (N ++ ((s2.m, 32, 0, s2.k) :: (N' ++ [(s3.m, 32, 0, s2.k)])))) = s.m :: (nums N ++ (s2.m :: (nums N' ++ [s3.m]))) := by unfold nums; simp
  have hN : ∀ z : Int, (z = s2.m ∨ z ∈ nums N) → z ∈ nums ((s.m, 63, s.k, s.k + 1) :: (N ++ ((s2.m, 32, 0, s2.k) :: (N' ++ [(s3.m, 32, 0, s2.k)])))) := fun z hz => by
    rw [e0]
    rcases hz with rfl | hz
    · simp
    · simp [hz]
  have hN' : ∀ z : Int, (z = s3.m ∨ z ∈ nums N') → z ∈ nums ((s.m, 63, s.k, s.k + 1) :: (N ++ ((s2.m, 32, 0, s2.k) :: (N' ++ [(s3.m, 32, 0, s2.k)])))) := fun z hz => by
    rw [e0]
    rcases hz with rfl | hz
    · simp
    · simp [hz]
  have hk : s.k ∈ nums ((s.m, 63, s.k, s.k + 1) :: (N ++ ((s2.m, 32, 0, s2.k) :: (N' ++ [(s3.m, 32, 0, s2.k)])))) := hN' _ (by
    rcases m' with q | q
    · exact .inl q.symm
    · exact .inr q)
  refine ⟨rfl, h'.num, h'.wait, by show s.k ≤ s3.k; omega, by show s3.k ≤ _; omega, .inr ⟨by show s.k ≤ s2.k; omega, by show s2.k < s3.k; omega⟩, (s.m, 63, s.k, s.k + 1) :: (N ++ ((s2.m, 32, 0, s2.k) :: (N' ++ [(s3.m, 32, 0, s2.k)]))), ?_, ?_, .inr (by unfold nums; simp), fun y hy => ?_⟩
  · show s3.nodes ++ _ = _
    rw [e', e]; simp
  · simp only [List.length_cons, List.length_append, List.length_nil]; omega
  · show NOk s.m s.k s3.k s2.k _ y
    rcases List.mem_cons.mp hy with rfl | hy
    · refine ⟨.inl rfl, by simp only []; omega, ⟨by simp only []; omega, .inr (hN _ ?_)⟩, fun _ => ⟨by simp only []; omega, .inr hk⟩⟩
      rcases m with q | q
      · exact .inl q.symm
      · exact .inr q
    · rcases List.mem_append.mp hy with hy | hy
      · obtain ⟨p1, p2, p3, p4⟩ := x y hy
        refine ⟨by omega, p2, ⟨by omega, .inr (hN _ p3.2)⟩, fun z => ?_⟩
        have q := p4 z
        exact ⟨by omega, .inr (hN _ q.2)⟩
      · rcases List.mem_cons.mp hy with rfl | hy
        · exact ⟨by simp only []; omega, by simp only []; omega, ⟨by simp only []; omega, .inl rfl⟩, fun z => by simp at z⟩
        · rcases List.mem_append.mp hy with hy | hy
          · obtain ⟨p1, p2, p3, p4⟩ := x' y hy
            refine ⟨by omega, p2, ⟨by omega, .inr (hN' _ p3.2)⟩, fun z => ?_⟩
            have q := p4 z
            exact ⟨by omega, .inr (hN' _ q.2)⟩
          · simp only [List.mem_singleton] at hy
            subst hy
            exact ⟨by simp only []; omega, by simp only []; omega, ⟨by simp only []; omega, .inl rfl⟩, fun z => by simp at z⟩
/-- { a } -/
theorem blk_loo {n : Nat} {s s2 : Tr} (h : Blk n (brackT 123 s) s2) : Blk (1 + n) s (brackT 125 s2) := by
  obtain ⟨N, e, l, m, x⟩ := h.ex
  have e91 : brackT 123 s = { s with nodes := s.nodes ++ [(s.m, 32, 0, s.k)], m := s.k, k := s.k + 1, pile := s.k :: s.pile } := by
    unfold brackT; rw [if_neg (by decide), if_neg (by decide), if_neg (by decide), if_pos rfl]
  rw [e91] at h e m x
  have hp := h.pile; have k1 := h.kle; have kn := h.kn; have hm := h.m
  simp only at hp k1 kn hm e m x
  have e93 : brackT 125 s2 = { s2 with nodes := s2.nodes ++ [(s2.m, 63, s2.k, s.k)], pile := s.pile, k := s2.k + 1, m := s2.k } := by
    unfold brackT; rw [if_neg (by decide), if_neg (by decide), if_neg (by decide), if_neg (by decide), hp]; rfl
  rw [e93]
  have e0 : nums ((s.m, 32, 0, s.k) :: (N ++ [(s2.m, 63, s2.k, s.k)])) = s.m :: (nums N ++ [s2.m]) := by unfold nums; simp
  have hN : ∀ z : Int, (z = s2.m ∨ z ∈ nums N) → z ∈ nums ((s.m, 32, 0, s.k) :: (N ++ [(s2.m, 63, s2.k, s.k)])) := fun z hz => by
    rw [e0]
    rcases hz with rfl | hz
    · simp
    · simp [hz]
  have hk : s.k ∈ nums ((s.m, 32, 0, s.k) :: (N ++ [(s2.m, 63, s2.k, s.k)])) := hN _ (by
    rcases m with q | q
    · exact .inl q.symm
    · exact .inr q)
  refine ⟨rfl, h.num, h.wait, by show s.k ≤ s2.k + 1; omega, by show s2.k + 1 ≤ _; omega, .inr ⟨by show s.k ≤ s2.k; omega, by show s2.k < s2.k + 1; omega⟩, (s.m, 32, 0, s.k) :: (N ++ [(s2.m, 63, s2.k, s.k)]), ?_, ?_, .inr (by unfold nums; simp), fun y hy => ?_⟩
  · show s2.nodes ++ _ = _
    rw [e]; simp
  · rw [List.length_cons, List.length_append, List.length_singleton]; omega
  · show NOk s.m s.k (s2.k + 1) s2.k _ y
    rcases List.mem_cons.mp hy with rfl | hy
    · exact ⟨.inl rfl, by simp only []; omega, ⟨by simp only []; omega, .inr hk⟩, fun z => by simp at z⟩
    · rcases List.mem_append.mp hy with hy | hy
      · obtain ⟨p1, p2, p3, p4⟩ := x y hy
        refine ⟨by omega, p2, ⟨by omega, .inr (hN _ p3.2)⟩, fun z => ?_⟩
        have q := p4 z
        exact ⟨by omega, .inr (hN _ q.2)⟩
      · simp only [List.mem_singleton] at hy
        subst hy
        exact ⟨by simp only []; omega, by simp only []; omega, ⟨by simp only []; omega, .inr hk⟩, fun _ => ⟨by simp only []; omega, .inl rfl⟩⟩
theorem brack_num {c : Int} {s : Tr} : (brackT c s).num = s.num ∧ (brackT c s).wait = s.wait := by
  unfold brackT emitT
  repeat' split
  all_goals exact ⟨rfl, rfl⟩
theorem take_brack {s : Tr} {c : Nat} (hw : s.wait = none) (hc : c = 91 ∨ c = 93 ∨ c = 123 ∨ c = 124 ∨ c = 125) : runT [c] s = brackT c (endT s) := by
  rw [runT_one, take_sign hw (by omega)]
  unfold signT
  rw [if_neg (by omega), if_neg (by omega), if_pos (by omega)]
/-- a bracket leaves nothing waiting -/
theorem brack_ends {s : Tr} {c : Int} (hw : s.wait = none) : (brackT c (endT s)).num = none ∧ (brackT c (endT s)).wait = none := by
  rw [brack_num.1, brack_num.2, endT_wait]
  exact ⟨endT_num s, hw⟩
/-- the sequence of items within brackets -/
def Seq1 (t : Its) : Prop := ∀ (b : Bool) (s : Tr), s.wait = none → (b = false → s.num = none) → (runT (wr b t) s).wait = none ∧ Blk t.sz (endT s) (endT (runT (wr b t) s))
theorem item_wen {a : Its} (ih : Seq1 a) {s : Tr} (hw : s.wait = none) : Item1 (1 + a.sz) false s (runT ([91] ++ wr false a ++ [93]) s) := by
  rw [runT_app, runT_app, take_brack hw (by omega)]
  obtain ⟨z1, z2⟩ := brack_ends (c := ((91 : Nat) : Int)) hw
  obtain ⟨w1, b1⟩ := ih false _ z2 fun _ => z1
  rw [endT_none z1] at b1
  rw [take_brack w1 (by omega)]
  obtain ⟨y1, y2⟩ := brack_ends (c := ((93 : Nat) : Int)) w1
  refine ⟨y2, fun _ => y1, ?_⟩
  rw [endT_none y1]
  exact blk_wen b1
theorem item_loo {a : Its} (ih : Seq1 a) {s : Tr} (hw : s.wait = none) : Item1 (1 + a.sz) false s (runT ([123] ++ wr false a ++ [125]) s) := by
  rw [runT_app, runT_app, take_brack hw (by omega)]
  obtain ⟨z1, z2⟩ := brack_ends (c := ((123 : Nat) : Int)) hw
  obtain ⟨w1, b1⟩ := ih false _ z2 fun _ => z1
  rw [endT_none z1] at b1
  rw [take_brack w1 (by omega)]
  obtain ⟨y1, y2⟩ := brack_ends (c := ((125 : Nat) : Int)) w1
  refine ⟨y2, fun _ => y1, ?_⟩
  rw [endT_none y1]
  exact blk_loo b1
theorem item_cho {a b : Its} (ih : Seq1 a) (ih' : Seq1 b) {s : Tr} (hw : s.wait = none) : Item1 (1 + a.sz + b.sz) false s (runT ([91] ++ wr false a ++ [124] ++ wr false b ++ [93]) s) := by
  rw [runT_app, runT_app, runT_app, runT_app, take_brack hw (by omega)]
  obtain ⟨z1, z2⟩ := brack_ends (c := ((91 : Nat) : Int)) hw
  obtain ⟨w1, b1⟩ := ih false _ z2 fun _ => z1
  rw [endT_none z1] at b1
  rw [take_brack w1 (by omega)]
  obtain ⟨y1, y2⟩ := brack_ends (c := ((124 : Nat) : Int)) w1
  obtain ⟨w2, b2⟩ := ih' false _ y2 fun _ => y1
  rw [endT_none y1] at b2
  rw [take_brack w2 (by omega)]
  obtain ⟨x1, x2⟩ := brack_ends (c := ((93 : Nat) : Int)) w2
  refine ⟨x2, fun _ => x1, ?_⟩
  rw [endT_none x1]
  exact blk_cho b1 b2
theorem seq_next {n : Nat} {b' : Bool} {s s1 : Tr} {r : Its} (h : Item1 n b' s s1) (ih : Seq1 r) : (runT (wr b' r) s1).wait = none ∧ Blk (n + r.sz) (endT s) (endT (runT (wr b' r) s1)) := by
  obtain ⟨w, b⟩ := ih b' s1 h.wait h.num
  exact ⟨w, h.blk.trans b⟩
theorem seq_all : ∀ t : Its, t.Ok → Seq1 t
  | .nil, _ => fun b s hw hb => ⟨hw, by rw [show wr b .nil = [] from rfl, runT_nil]; exact Blk.refl (endT_num s) (by rw [endT_wait]; exact hw)⟩
  | .num n r, h => fun b s hw hb => by
    show (runT (((if b = true then [32] else []) ++ digs n) ++ wr true r) s).wait = none ∧ Blk (1 + r.sz) (endT s) (endT (runT (((if b = true then [32] else []) ++ digs n) ++ wr true r) s))
    rw [runT_app]
    exact seq_next (item_num hw hb) (seq_all r h.2)
  | .op c r, h => fun b s hw hb => by
    show (runT ([c] ++ wr false r) s).wait = none ∧ Blk (1 + r.sz) (endT s) (endT (runT ([c] ++ wr false r) s))
    rw [runT_app]
    exact seq_next (item_op hw h.1) (seq_all r h.2)
  | .put v r, h => fun b s hw hb => by
    show (runT ([61, v] ++ wr false r) s).wait = none ∧ Blk (1 + r.sz) (endT s) (endT (runT ([61, v] ++ wr false r) s))
    rw [runT_app]
    exact seq_next (item_put hw) (seq_all r h.2)
  | .wen a r, h => fun b s hw hb => by
    show (runT (([91] ++ wr false a ++ [93]) ++ wr false r) s).wait = none ∧ Blk (1 + a.sz + r.sz) (endT s) (endT (runT (([91] ++ wr false a ++ [93]) ++ wr false r) s))
    rw [runT_app]
    exact seq_next (item_wen (seq_all a h.1) hw) (seq_all r h.2)
  | .cho a b' r, h => fun b s hw hb => by
    show (runT (([91] ++ wr false a ++ [124] ++ wr false b' ++ [93]) ++ wr false r) s).wait = none ∧ Blk (1 + a.sz + b'.sz + r.sz) (endT s) (endT (runT (([91] ++ wr false a ++ [124] ++ wr false b' ++ [93]) ++ wr false r) s))
    rw [runT_app]
    exact seq_next (item_cho (seq_all a h.1) (seq_all b' h.2.1) hw) (seq_all r h.2.2)
  | .loo a r, h => fun b s hw hb => by
    show (runT (([123] ++ wr false a ++ [125]) ++ wr false r) s).wait = none ∧ Blk (1 + a.sz + r.sz) (endT s) (endT (runT (([123] ++ wr false a ++ [125]) ++ wr false r) s))
    rw [runT_app]
    exact seq_next (item_loo (seq_all a h.1) hw) (seq_all r h.2)
  | .dfn _ _ _, h => False.elim h
end Pk
namespace Pk
structure TOk (D : Int → Bool) (m k k' m' : Int) (N : List Nd) (x : Nd) : Prop where
  at_ : x.1 = m ∨ (k ≤ x.1 ∧ x.1 < k') ∨ (65 ≤ x.1 ∧ x.1 ≤ 67)
  op : x.2.1 ≠ 38 ∧ x.2.1 ≠ 40 ∧ (65 ≤ x.2.1 → x.2.1 ≤ 90 → x.2.1 ≤ 67)
  ret : x.2.1 = 41 → D x.1 = true
  suc : x.2.1 ≠ 41 → (k ≤ x.2.2.2 ∧ x.2.2.2 < k') ∧ D x.2.2.2 = D x.1 ∧ (x.2.2.2 = m' ∨ x.2.2.2 ∈ nums N)
  arg : x.2.1 = 63 → (k ≤ x.2.2.1 ∧ x.2.2.1 < k') ∧ D x.2.2.1 = D x.1 ∧ (x.2.2.1 = m' ∨ x.2.2.1 ∈ nums N)
structure TB (n : Nat) (fs : List Int) (s s' : Tr) : Prop where
  pile : s'.pile = s.pile
  num : s'.num = none
  wait : s'.wait = none
  kle : s.k ≤ s'.k
  kn : s'.k ≤ s.k + 3 * n
  m : s'.m = s.m ∨ (s.k ≤ s'.m ∧ s'.m < s'.k)
  ex : ∃ (N : List Nd) (D : Int → Bool), s'.nodes = s.nodes ++ N ∧ N.length ≤ 3 * n ∧ (s'.m = s.m ∨ s.m ∈ nums N) ∧ D s.m = false ∧ D s'.m = false ∧ (∀ f : Int, 65 ≤ f → f ≤ 67 → D f = true) ∧ (∀ f ∈ fs, f ∈ nums N) ∧
    ∀ x ∈ N, TOk D s.m s.k s'.k s'.m N x
theorem TB.of_blk {n : Nat} {s s' : Tr} (h : Blk n s s') (h2 : 200 ≤ s.m) (h3 : s.m < s.k) : TB n [] s s' := by
  obtain ⟨N, e, l, m, x⟩ := h.ex
  have hm := h.m
  have k1 := h.kle
  have far : ∀ z : Int, 200 ≤ z → decide (65 ≤ z ∧ z ≤ 67) = false := fun z hz => decide_eq_false (by omega)
  refine ⟨h.pile, h.num, h.wait, h.kle, h.kn, h.m, N, fun z => decide (65 ≤ z ∧ z ≤ 67), e, l, m, far _ h2, far _ (by omega), fun f a b => decide_eq_true ⟨a, b⟩, (fun f hf => by cases hf), fun y hy => ?_⟩
  obtain ⟨p1, p2, p3, p4⟩ := x y hy
  refine ⟨by omega, ⟨p2.1, p2.2.1, p2.2.2.2⟩, fun z => absurd z p2.2.2.1, fun _ => ⟨p3.1, ?_, p3.2⟩, fun z => ?_⟩
  · show decide _ = decide _
    rw [far _ (by omega), far _ (by omega)]
  · have q := p4 z
    refine ⟨q.1, ?_, q.2⟩
    show decide _ = decide _
    rw [far _ (by omega), far _ (by omega)]
def mixD (k : Int) (D1 D2 : Int → Bool) (z : Int) : Bool := if z < k then D1 z else D2 z
theorem TB.trans {a b : Nat} {f1 f2 : List Int} {s s1 s2 : Tr} (h1 : TB a f1 s s1) (h2 : TB b f2 s1 s2) (hm0 : 200 ≤ s.m) (hmk : s.m < s.k) : TB (a + b) (f1 ++ f2) s s2 := by
  obtain ⟨N1, D1, e1, l1, m1, d1, d1', c1, q1, x1⟩ := h1.ex
  obtain ⟨N2, D2, e2, l2, m2, d2, d2', c2, q2, x2⟩ := h2.ex
  have k1 := h1.kle; have k2 := h2.kle; have kn1 := h1.kn; have kn2 := h2.kn; have hm1 := h1.m; have hm2 := h2.m
  have via : ∀ z : Int, (z = s1.m ∨ z ∈ nums N1) → (z = s2.m ∨ z ∈ nums (N1 ++ N2)) := fun z hz => by
    rw [nums_app, List.mem_append]
    rcases hz with rfl | hz
    · rcases m2 with q | q
      · exact .inl q.symm
      · exact .inr (.inr q)
    · exact .inr (.inl hz)
  -- the colours of both
  have lo : ∀ z : Int, z < s1.k → mixD s1.k D1 D2 z = D1 z := fun z hz => if_pos hz
  have hi : ∀ z : Int, s1.k ≤ z → mixD s1.k D1 D2 z = D2 z := fun z hz => if_neg (by omega)
  have s1m : s1.m < s1.k := by omega
  have col2 : ∀ z : Int, (z = s1.m ∨ (s1.k ≤ z ∧ z < s2.k) ∨ (65 ≤ z ∧ z ≤ 67)) → mixD s1.k D1 D2 z = D2 z := fun z hz => by
    rcases hz with rfl | hz | hz
    · rw [lo _ s1m, d1', d2]
    · exact hi z hz.1
    · rw [lo _ (by omega), c1 z hz.1 hz.2, c2 z hz.1 hz.2]
  refine ⟨h2.pile.trans h1.pile, h2.num, h2.wait, by omega, by omega, by omega, N1 ++ N2, mixD s1.k D1 D2, by rw [e2, e1, List.append_assoc], by rw [List.length_append]; omega, ?_, ?_, ?_, ?_, ?_, fun x hx => ?_⟩
  · rw [nums_app, List.mem_append]
    rcases m1 with q | q
    · rcases m2 with z | z
      · exact .inl (z.trans q)
      · rw [q] at z; exact .inr (.inr z)
    · exact .inr (.inl q)
  · rw [lo _ (by omega)]; exact d1
  · rw [col2 _ (by omega)]; exact d2'
  · intro f z1 z2
    rw [lo _ (by omega)]
    exact c1 f z1 z2
  · intro f hf
    rw [nums_app, List.mem_append]
    rcases List.mem_append.mp hf with hf | hf
    · exact .inl (q1 f hf)
    · exact .inr (q2 f hf)
  · rcases List.mem_append.mp hx with hx | hx
    · obtain ⟨p1, p2, p3, p4, p5⟩ := x1 x hx
      refine ⟨by omega, p2, fun z => ?_, fun z => ?_, fun z => ?_⟩
      · rw [lo _ (by omega)]; exact p3 z
      · have q := p4 z
        refine ⟨by omega, ?_, via _ q.2.2⟩
        rw [lo _ (by omega), lo _ (by omega)]; exact q.2.1
      · have q := p5 z
        refine ⟨by omega, ?_, via _ q.2.2⟩
        rw [lo _ (by omega), lo _ (by omega)]; exact q.2.1
    · obtain ⟨p1, p2, p3, p4, p5⟩ := x2 x hx
      refine ⟨by omega, p2, fun z => ?_, fun z => ?_, fun z => ?_⟩
      · rw [col2 _ p1]; exact p3 z
      · have q := p4 z
        refine ⟨by omega, ?_, ?_⟩
        · rw [col2 _ p1, col2 _ (.inr (.inl q.1))]; exact q.2.1
        · rw [nums_app, List.mem_append]
          rcases q.2.2 with z | z
          · exact .inl z
          · exact .inr (.inr z)
      · have q := p5 z
        refine ⟨by omega, ?_, ?_⟩
        · rw [col2 _ p1, col2 _ (.inr (.inl q.1))]; exact q.2.1
        · rw [nums_app, List.mem_append]
          rcases q.2.2 with z | z
          · exact .inl z
          · exact .inr (.inr z)
/-- : f a ; -/
theorem tb_dfn {n : Nat} {f : Int} {s s2 : Tr} (hf : 65 ≤ f ∧ f ≤ 67) (h2 : 200 ≤ s.m) (h3 : s.m < s.k) (h : Blk n { s with pile := s.m :: s.pile, m := f } s2) :
    TB (1 + n) [f] s { s2 with nodes := s2.nodes ++ [(s2.m, 41, 0, 1)], m := hd0 s2.pile, pile := s2.pile.tail } := by
  obtain ⟨N, e, l, m, x⟩ := h.ex
  have hp := h.pile; have k1 := h.kle; have kn := h.kn; have hm := h.m
  simp only at hp k1 kn hm e m x
  rw [hp]
  have e0 : nums (N ++ [(s2.m, 41, 0, 1)]) = nums N ++ [s2.m] := by unfold nums; simp
  have col : ∀ z : Int, (s.k ≤ z ∨ (65 ≤ z ∧ z ≤ 67)) → decide (z ≠ s.m) = true := fun z hz => decide_eq_true (by omega)
  refine ⟨rfl, h.num, h.wait, k1, by show s2.k ≤ _; omega, .inl rfl, N ++ [(s2.m, 41, 0, 1)], fun z => decide (z ≠ s.m), ?_, ?_, .inl rfl, by simp, by show decide (s.m ≠ s.m) = false; simp, fun z a b => col z (.inr ⟨a, b⟩), ?_, fun y hy => ?_⟩
  · show s2.nodes ++ _ = _
    rw [e, List.append_assoc]
  · rw [List.length_append, List.length_singleton]; omega
  · intro z hz
    simp only [List.mem_singleton] at hz
    subst hz
    rw [e0, List.mem_append]
    rcases m with q | q
    · rw [q]; simp
    · exact .inl q
  · show TOk _ s.m s.k s2.k s.m _ y
    rcases List.mem_append.mp hy with hy | hy
    · obtain ⟨p1, p2, p3, p4⟩ := x y hy
      have via : ∀ z : Int, (z = s2.m ∨ z ∈ nums N) → z ∈ nums (N ++ [(s2.m, 41, 0, 1)]) := fun z hz => by
        rw [e0, List.mem_append]
        rcases hz with rfl | hz
        · simp
        · exact .inl hz
      refine ⟨by omega, ⟨p2.1, p2.2.1, p2.2.2.2⟩, fun z => absurd z p2.2.2.1, fun _ => ⟨p3.1, ?_, .inr (via _ p3.2)⟩, fun z => ?_⟩
      · show decide _ = decide _
        rw [col _ (by omega), col _ (by omega)]
      · have q := p4 z
        refine ⟨q.1, ?_, .inr (via _ q.2)⟩
        show decide _ = decide _
        rw [col _ (by omega), col _ (by omega)]
    · simp only [List.mem_singleton] at hy
      subst hy
      refine ⟨by simp only []; omega, by simp only []; omega, fun _ => col _ (by simp only []; omega), fun z => absurd rfl z, fun z => by simp at z⟩
theorem item_dfn {a : Its} {f : Nat} (ih : Seq1 a) (hf : 65 ≤ f ∧ f ≤ 67) {s : Tr} (hw : s.wait = none) (h2 : 200 ≤ (endT s).m) (h3 : (endT s).m < (endT s).k) :
    (runT ([58, f] ++ wr false a ++ [59]) s).wait = none ∧ (runT ([58, f] ++ wr false a ++ [59]) s).num = none ∧ TB (1 + a.sz) [(f : Int)] (endT s) (runT ([58, f] ++ wr false a ++ [59]) s) := by
  have e1 : takeT 58 s = { endT s with wait := some 58 } := by
    rw [take_sign hw (by omega)]
    unfold signT
    rw [if_neg (by omega), if_pos (by omega)]
  have e2 : runT [58, f] s = { endT s with pile := (endT s).m :: (endT s).pile, m := (f : Int) } := by
    show takeT f (takeT ((58 : Nat) : Int) s) = _
    rw [show ((58 : Nat) : Int) = 58 from rfl, e1]
    unfold takeT
    rw [if_pos (by simp)]
    unfold pairT
    rw [if_neg (by simp), if_neg (by simp)]
    have hq : (endT s).wait = none := by rw [endT_wait]; exact hw
    generalize endT s = z at *
    obtain ⟨z1, z2, z3, z4, z5, z6⟩ := z
    simp only at hq
    subst hq
    rfl
  rw [runT_app, runT_app, e2]
  obtain ⟨w1, b1⟩ := ih false { endT s with pile := (endT s).m :: (endT s).pile, m := (f : Int) } (by show (endT s).wait = none; rw [endT_wait]; exact hw) (fun _ => endT_num s)
  rw [endT_none (s := { endT s with pile := (endT s).m :: (endT s).pile, m := (f : Int) }) (endT_num s)] at b1
  generalize runT (wr false a) { endT s with pile := (endT s).m :: (endT s).pile, m := (f : Int) } = s2 at *
  have e3 : runT [59] s2 = { endT s2 with nodes := (endT s2).nodes ++ [((endT s2).m, 41, 0, 1)], m := hd0 (endT s2).pile, pile := (endT s2).pile.tail } := by
    rw [runT_one, take_sign w1 (by omega)]
    unfold signT
    rw [if_neg (by omega), if_neg (by omega), if_neg (by omega), if_pos (by rfl)]
  rw [e3]
  refine ⟨by show (endT s2).wait = none; rw [endT_wait]; exact w1, endT_num s2, tb_dfn (by omega) h2 h3 b1⟩
def SeqT (t : Its) : Prop := ∀ (b : Bool) (s : Tr), s.wait = none → (b = false → s.num = none) → 200 ≤ (endT s).m → (endT s).m < (endT s).k → (runT (wr b t) s).wait = none ∧ TB t.sz t.defs (endT s) (endT (runT (wr b t) s))
theorem top_next {n : Nat} {b' : Bool} {s s1 : Tr} {r : Its} (h : Item1 n b' s s1) (ih : SeqT r) (h2 : 200 ≤ (endT s).m) (h3 : (endT s).m < (endT s).k) : (runT (wr b' r) s1).wait = none ∧ TB (n + r.sz) r.defs (endT s) (endT (runT (wr b' r) s1)) := by
  have q1 := h.blk.m; have q2 := h.blk.kle
  obtain ⟨w, b⟩ := ih b' s1 h.wait h.num (by omega) (by omega)
  exact ⟨w, (TB.of_blk h.blk h2 h3).trans b h2 h3⟩
theorem top_all : ∀ t : Its, t.TopOk → SeqT t
  | .nil, _ => fun b s hw hb h2 h3 => ⟨by exact hw, by rw [show wr b .nil = [] from rfl, runT_nil]; exact TB.of_blk (Blk.refl (endT_num s) (by rw [endT_wait]; exact hw)) h2 h3⟩
  | .num n r, h => fun b s hw hb h2 h3 => by
    show (runT (((if b = true then [32] else []) ++ digs n) ++ wr true r) s).wait = none ∧ TB (1 + r.sz) r.defs (endT s) (endT (runT (((if b = true then [32] else []) ++ digs n) ++ wr true r) s))
    rw [runT_app]
    exact top_next (item_num hw hb) (top_all r h.2) h2 h3
  | .op c r, h => fun b s hw hb h2 h3 => by
    show (runT ([c] ++ wr false r) s).wait = none ∧ TB (1 + r.sz) r.defs (endT s) (endT (runT ([c] ++ wr false r) s))
    rw [runT_app]
    exact top_next (item_op hw h.1) (top_all r h.2) h2 h3
  | .put v r, h => fun b s hw hb h2 h3 => by
    show (runT ([61, v] ++ wr false r) s).wait = none ∧ TB (1 + r.sz) r.defs (endT s) (endT (runT ([61, v] ++ wr false r) s))
    rw [runT_app]
    exact top_next (item_put hw) (top_all r h.2) h2 h3
  | .wen a r, h => fun b s hw hb h2 h3 => by
    show (runT (([91] ++ wr false a ++ [93]) ++ wr false r) s).wait = none ∧ TB (1 + a.sz + r.sz) r.defs (endT s) (endT (runT (([91] ++ wr false a ++ [93]) ++ wr false r) s))
    rw [runT_app]
    exact top_next (item_wen (seq_all a h.1) hw) (top_all r h.2) h2 h3
  | .cho a b' r, h => fun b s hw hb h2 h3 => by
    show (runT (([91] ++ wr false a ++ [124] ++ wr false b' ++ [93]) ++ wr false r) s).wait = none ∧ TB (1 + a.sz + b'.sz + r.sz) r.defs (endT s) (endT (runT (([91] ++ wr false a ++ [124] ++ wr false b' ++ [93]) ++ wr false r) s))
    rw [runT_app]
    exact top_next (item_cho (seq_all a h.1) (seq_all b' h.2.1) hw) (top_all r h.2.2) h2 h3
  | .loo a r, h => fun b s hw hb h2 h3 => by
    show (runT (([123] ++ wr false a ++ [125]) ++ wr false r) s).wait = none ∧ TB (1 + a.sz + r.sz) r.defs (endT s) (endT (runT (([123] ++ wr false a ++ [125]) ++ wr false r) s))
    rw [runT_app]
    exact top_next (item_loo (seq_all a h.1) hw) (top_all r h.2) h2 h3
  | .dfn f a r, h => fun b s hw hb h2 h3 => by
    show (runT (([58, f] ++ wr false a ++ [59]) ++ wr false r) s).wait = none ∧ TB (1 + a.sz + r.sz) ([(f : Int)] ++ r.defs) (endT s) (endT (runT (([58, f] ++ wr false a ++ [59]) ++ wr false r) s))
    rw [runT_app]
    obtain ⟨z1, z2, z3⟩ := item_dfn (seq_all a h.2.1) h.1 hw h2 h3
    have q1 := z3.m; have q2 := z3.kle
    rw [← endT_none z2] at q1 q2
    obtain ⟨w, bb⟩ := top_all r h.2.2 false _ z1 (fun _ => z2) (by omega) (by omega)
    rw [endT_none z2] at bb
    exact ⟨w, z3.trans bb h2 h3⟩
/-- the translation's nodes -/
def transN (t : Its) : List Nd := (finT (runT (wr false t) tr0)).nodes
structure ImgOk (n : Nat) (ns : List Nd) : Prop where
  hd : ∃ r, ns = (0, 32, 0, 200) :: r ∧ ∀ x ∈ r, x.1 ≠ 0 ∧ x.1 < 201 + 3 * n ∧ x.2.1 ≠ 38
  len : ns.length ≤ 2 + 3 * n
  good : ∃ D X, ∀ (img nums : List Int), Good ⟨img, nums, tabOf ns⟩ D X
theorem trans_ok {t : Its} (h : t.TopOk) (hd : ∀ f : Int, 65 ≤ f → f ≤ 67 → f ∈ t.defs) : ImgOk t.sz (transN t) := by
  obtain ⟨w, b⟩ := top_all t h false tr0 rfl (fun _ => rfl) (by decide) (by decide)
  rw [endT_none (s := tr0) rfl] at b
  have ef : transN t = (endT (runT (wr false t) tr0)).nodes ++ [((endT (runT (wr false t) tr0)).m, 41, 0, (endT (runT (wr false t) tr0)).k)] := by
    unfold transN finT
    have ew : { runT (wr false t) tr0 with wait := none } = runT (wr false t) tr0 := by rw [← w]
    rw [ew]
    rfl
  rw [ef]
  generalize endT (runT (wr false t) tr0) = s at *
  obtain ⟨N, D, e, l, m, d0, d1, dc, df, x⟩ := b.ex
  have k1 := b.kle; have kn := b.kn; have hm := b.m
  have t0 : tr0.m = 200 := rfl
  have t1 : tr0.k = 201 := rfl
  have t2 : tr0.nodes = [(0, 32, 0, 200)] := rfl
  rw [t0] at hm m d0 x; rw [t1] at k1 kn hm x; rw [t2] at e
  rw [e]
  have en : ([(0, 32, 0, 200)] ++ N ++ [(s.m, 41, 0, s.k)] : List Nd) = (0, 32, 0, 200) :: (N ++ [(s.m, 41, 0, s.k)]) := by simp
  rw [en]
  refine ⟨⟨_, rfl, fun y hy => ?_⟩, by rw [List.length_cons, List.length_append, List.length_singleton]; omega, D, s.k, fun img nums' => ?_⟩
  · rcases List.mem_append.mp hy with hy | hy
    · obtain ⟨p1, p2, _⟩ := x y hy
      exact ⟨by omega, by omega, p2.1⟩
    · simp only [List.mem_singleton] at hy
      subst hy
      exact ⟨by simp only []; omega, by simp only []; omega, by simp⟩
  · -- the table
    have there : ∀ z : Int, (z = s.m ∨ z ∈ nums N) → tabOf ((0, 32, 0, 200) :: (N ++ [(s.m, 41, 0, s.k)])) z ≠ none := fun z hz => by
      refine tabOf_some ?_
      rw [List.map_cons, List.map_append]
      rcases hz with rfl | hz
      · simp
      · unfold nums at hz
        simp only [List.mem_cons, List.mem_append]
        exact .inr (.inl hz)
    have inv : ∀ (n : Int) v, tabOf ((0, 32, 0, 200) :: (N ++ [(s.m, 41, 0, s.k)])) n = some v → n ≠ 0 → ((n, v) ∈ N ∨ (n = s.m ∧ v = (41, 0, s.k))) := fun n v hv hn => by
      have hmem := tabOf_mem hv
      rcases List.mem_cons.mp hmem with q | q
      · exact absurd (congrArg Prod.fst q) hn
      · rcases List.mem_append.mp q with q | q
        · exact .inl q
        · simp only [List.mem_singleton, Prod.mk.injEq] at q
          exact .inr q
    refine ⟨?_, ⟨there 200 ?_, d0⟩, fun f a b => ⟨there f (.inr (df f (hd f a b))), dc f a b⟩, fun n op a su hv hn => ?_, fun n a b hv => ?_, ?_⟩
    · show tabOf _ 0 = _
      rw [tabOf_cons]
      have : tabOf (N ++ [(s.m, 41, 0, s.k)]) 0 = none := by
        refine tabOf_none.mpr fun hz => ?_
        rw [List.map_append, List.mem_append] at hz
        rcases hz with hz | hz
        · obtain ⟨y, hy, e0⟩ := List.mem_map.mp hz
          have := (x y hy).at_
          omega
        · simp only [List.map_cons, List.map_nil, List.mem_singleton] at hz
          omega
      rw [this]; rfl
    · rcases m with q | q
      · exact .inl q.symm
      · exact .inr q
    · have hv : tabOf ((0, 32, 0, 200) :: (N ++ [(s.m, 41, 0, s.k)])) n = some (op, a, su) := hv
      rcases inv n _ hv hn with q | ⟨q1, q2⟩
      · obtain ⟨p1, p2, p3, p4, p5⟩ := x _ q
        simp only at p1 p2 p3 p4 p5
        refine ⟨p2.1, p2.2.1, p2.2.2, fun z zz => ?_, fun z => ?_, fun z => ?_⟩
        · rw [p3 z] at zz; cases zz
        · have r := p4 z
          exact ⟨by omega, there _ r.2.2, r.2.1⟩
        · have r := p5 z
          exact ⟨by omega, there _ r.2.2, r.2.1⟩
      · simp only [Prod.mk.injEq] at q2
        obtain ⟨rfl, rfl, rfl⟩ := q2
        exact ⟨by decide, by decide, by decide, fun _ _ => rfl, fun z => absurd rfl z, fun z => by simp at z⟩
    · cases ev : tabOf ((0, 32, 0, 200) :: (N ++ [(s.m, 41, 0, s.k)])) n with
      | none => exact absurd ev hv
      | some v =>
        rcases inv n v ev (by omega) with q | ⟨q1, _⟩
        · have p1 := (x _ q).at_
          simp only at p1
          exact dc n (by omega) (by omega)
        · omega
    · show tabOf _ s.k = none
      refine tabOf_none.mpr fun hz => ?_
      rw [List.map_cons, List.map_append, List.mem_cons, List.mem_append] at hz
      rcases hz with hz | hz | hz
      · simp only at hz; omega
      · obtain ⟨y, hy, e0⟩ := List.mem_map.mp hz
        have := (x y hy).at_
        omega
      · simp only [List.map_cons, List.map_nil, List.mem_singleton] at hz
        omega
/-- the law over the mirror -/
theorem law_plain {n : Nat} {ns : List Nd} {nms lure extra : List Int} (h : ImgOk n ns) (hn : n ≤ 200000) (hl : ∀ c ∈ lure, 0 ≤ c) (l12 : lure.length ≤ 12) (e12 : extra.length ≤ 12) (f : Nat) :
    let M : Mac := ⟨flat ns, nms, tabOf ns⟩
    let M' : Mac := ⟨flat (ns ++ trapN lure extra), nms, tabOf (ns ++ trapN lure extra)⟩
    (M.tab (runN M f c0).1.at_ ≠ none → (runN M' (f + 2) c0).1.out = (runN M f c0).1.out ∧ (runN M' (f + 2) c0).2 = f + 2 ∧ M'.tab (runN M' (f + 2) c0).1.at_ ≠ none) ∧
    (M.tab (runN M f c0).1.at_ = none → M'.tab (runN M' ((runN M f c0).2 + 6000) c0).1.at_ = none ∧
      (runN M' ((runN M f c0).2 + 6000) c0).1.out = (runN M f c0).1.out ++ (if nms.take lure.length = lure then extra ++ flat (trapN lure extra) else [])) := by
  intro M M'
  obtain ⟨r, er, hr⟩ := h.hd
  obtain ⟨D, X, G⟩ := h.good
  have old : ∀ z : Int, z ≠ 0 → z < 1000000 → tabOf (ns ++ trapN lure extra) z = tabOf ns z := fun z h0 h1 => by
    rw [tabOf_app]
    have : tabOf (trapN lure extra) z = none := tabOf_none.mpr fun hz => by
      obtain ⟨y, hy, e0⟩ := List.mem_map.mp hz
      have := trap_num hy
      omega
    rw [this]; rfl
  have small : ∀ z : Int, tabOf ns z ≠ none → z < 1000000 := fun z hz => by
    cases e : tabOf ns z with
    | none => exact absurd e hz
    | some v =>
      have hm := tabOf_mem e
      rw [er] at hm
      rcases List.mem_cons.mp hm with q | q
      · have := congrArg Prod.fst q
        simp only at this; omega
      · have := (hr _ q).2.1
        simp only at this; omega
  refine law_math (M := M) (M' := M') (pre := flat ns) (G _ _) ⟨rfl, fun z a b => old z a (small z b), fun z a b => old z (by omega) (by omega)⟩ (fun x hx => ?_) (flat_app _ _) ?_ ?_ hl l12 e12 ?_ f
  · show tabOf (ns ++ trapN lure extra) x.1 = some x.2
    rw [tabOf_app, tabOf_nd (trap_nodup lure extra) hx]; rfl
  · rw [flat_len, er, List.length_cons]; omega
  · rw [er]; rfl
  · show tabOf (ns ++ trapN lure extra) (rAt lure extra + 10) = none
    refine tabOf_none.mpr fun hz => ?_
    rw [List.map_append, List.mem_append] at hz
    rcases hz with hz | hz
    · have := small _ (tabOf_some hz)
      unfold rAt bB at this; omega
    · obtain ⟨y, hy, e0⟩ := List.mem_map.mp hz
      have := trap_num hy
      unfold rAt bB at *
      omega
/-- a text's length -/
theorem wr_len : ∀ (t : Its), (t.Ok ∨ t.TopOk) → ∀ b : Bool, (wr b t).length ≤ 8 * t.sz
  | .nil, _, b => by simp [wr, Its.sz]
  | .num n r, h, b => by
    have hn : n ≤ 999999 := by rcases h with h | h <;> exact h.1
    have := wr_len r (h.imp (·.2) (·.2)) true
    have h2 := digs_len 5 n (by omega)
    cases b <;> simp only [wr, Its.sz, List.length_append, if_true, Bool.false_eq_true, if_false, List.length_nil, List.length_singleton] <;> omega
  | .op c r, h, b => by
    have := wr_len r (h.imp (·.2) (·.2)) false
    simp only [wr, Its.sz, List.length_append, List.length_cons, List.length_nil]; omega
  | .put c r, h, b => by
    have := wr_len r (h.imp (·.2) (·.2)) false
    simp only [wr, Its.sz, List.length_append, List.length_cons, List.length_nil]; omega
  | .wen a r, h, b => by
    have h1 := wr_len a (.inl (h.elim (·.1) (·.1))) false
    have := wr_len r (h.imp (·.2) (·.2)) false
    simp only [wr, Its.sz, List.length_append, List.length_cons, List.length_nil]; omega
  | .cho a b' r, h, b => by
    have h1 := wr_len a (.inl (h.elim (·.1) (·.1))) false
    have h2 := wr_len b' (.inl (h.elim (·.2.1) (·.2.1))) false
    have := wr_len r (h.imp (·.2.2) (·.2.2)) false
    simp only [wr, Its.sz, List.length_append, List.length_cons, List.length_nil]; omega
  | .loo a r, h, b => by
    have h1 := wr_len a (.inl (h.elim (·.1) (·.1))) false
    have := wr_len r (h.imp (·.2) (·.2)) false
    simp only [wr, Its.sz, List.length_append, List.length_cons, List.length_nil]; omega
  | .dfn f a r, h, b => by
    rcases h with h | h
    · exact False.elim h
    · have h1 := wr_len a (.inl h.2.1) false
      have := wr_len r (.inr h.2.2) false
      simp only [wr, Its.sz, List.length_append, List.length_cons, List.length_nil]; omega
end Pk
namespace Pk
open PySem PySem.Spec PyProof.Rows L2
abbrev ivs (l : List Int) : List V := l.map V.int
/-- a promise: a, what the arguments are; pre ahead; post behind -/
def mkSp {α : Type} (args : α → List V) (pre : α → Hp → Prop) (post : α → Hp → V → Hp → Prop) : Sp := fun vs H Q _ => ∃ a : α, vs = args a ∧ pre a H ∧ ∀ v H', post a H v H' → Q v H'
structure Kept (P : Program) (w : World) (K : PySem.W.Frag) (mg : Str → Option Value) (base : Heap) (k : Nat) (f : Addr) (ps : List Str) (sp : Sp) : Prop where
  ex : ∃ fd, FnOk P w K mg base CX0 k f fd ps sp ∧ PySem.W.keepIn K (.ref f) = true ∧ Binds K fd ps []
theorem Kept.mono {P : Program} {w : World} {K : PySem.W.Frag} {mg : Str → Option Value} {base : Heap} {j k : Nat} {f : Addr} {ps : List Str} {sp : Sp} (h : Kept P w K mg base j f ps sp) (hk : j ≤ k) : Kept P w K mg base k f ps sp := by
  obtain ⟨fd, G, a, b⟩ := h.ex
  exact ⟨fd, G.mono hk, a, b⟩
section
variable {X : Cx} {k : Nat} {f C : Addr} {ps : List Str} {sp : Sp} {x m : Str} {p pos apos : Pos} {e o : Expr} {es : List Expr} {ta : TE} {t : TA}
theorem pe_fn (G : Kept X.prog X.w X.K X.mg X.base k f ps sp) (hr : Room k X.A) (hg : Gl X x) (hm : X.mg x = some (.ref f)) (ha : PA X (e :: es) t) (hdb : (x == ("__debug__" : Str)) = false := by decide)
    (he : starEach (e :: es) X.env = (false, eval e X.env) :: starEach es X.env := by rfl) (hpl : (backTo pos (starEach es X.env)).any (·.1) = false := by rfl) : PE X (.Call (.Name x p) (e :: es) [] pos) (tCall sp [] E0 t) := by
  obtain ⟨fd, F, hk, hb⟩ := G.ex
  exact pe_call F hr hg hm hk hb .nil pass0 ha hdb he hpl
theorem pe_fn0 (G : Kept X.prog X.w X.K X.mg X.base k f ps sp) (hr : Room k X.A) (hg : Gl X x) (hm : X.mg x = some (.ref f)) (hdb : (x == ("__debug__" : Str)) = false := by decide) : PE X (.Call (.Name x p) [] [] pos) (tCall sp [] E0 tNil) := by
  obtain ⟨fd, F, hk, hb⟩ := G.ex
  exact pe_call0 F hr hg hm hk hb .nil pass0 hdb
theorem pe_mt {pl : Sem Bool} (G : Kept X.prog X.w X.K X.mg X.base k f ps sp) (he : PE X o ta) (c : Cls X.K C) (hm : Meth X.K C m f) (hr : Room k X.A) (ha : PA X (e :: es) t)
    (hst : starEach (e :: es) X.env = (false, eval e X.env) :: starEach es X.env := by rfl) (hpl : (backTo pos (starEach es X.env)).any (·.1) = false := by rfl)
    (ht : eval (.Call (.Attribute o m apos) (e :: es) [] pos) X.env = (do
      let ov ← eval o X.env
      standAt apos.atName
      let (f, first) ← holding [ov] (getMethod ov m pl)
      callWith pos f first (backTo pos (starEach (e :: es) X.env)) (backToKw pos (keywordEach [] X.env))) := by rfl) : PE X (.Call (.Attribute o m apos) (e :: es) [] pos) (tMeth C m sp [] E0 ta t) := by
  obtain ⟨fd, F, hk, hb⟩ := G.ex
  exact pe_meth he c hm F hr hb .nil pass0 ha hst hpl ht
theorem pe_mt0 {pl : Sem Bool} (G : Kept X.prog X.w X.K X.mg X.base k f ps sp) (he : PE X o ta) (c : Cls X.K C) (hm : Meth X.K C m f) (hr : Room k X.A)
    (ht : eval (.Call (.Attribute o m apos) [] [] pos) X.env = (do
      let ov ← eval o X.env
      standAt apos.atName
      let (f, first) ← holding [ov] (getMethod ov m pl)
      callWith pos f first (backTo pos (starEach [] X.env)) (backToKw pos (keywordEach [] X.env))) := by rfl) : PE X (.Call (.Attribute o m apos) [] [] pos) (tMeth C m sp [] E0 ta tNil) := by
  obtain ⟨fd, F, hk, hb⟩ := G.ex
  exact pe_meth0 he c hm F hr hb .nil pass0 ht
end
/-- all but S stands -/
def Fr (S : List Addr) (H H' : Hp) : Prop := ∀ b o, H b = some o → b ∉ S → H' b = some o
theorem Fr.refl (S : List Addr) (H : Hp) : Fr S H H := fun _ _ h _ => h
theorem Fr.trans {S : List Addr} {H H1 H2 : Hp} (a : Fr S H H1) (b : Fr S H1 H2) : Fr S H H2 := fun c o h n => b c o (a c o h n) n
theorem Fr.mono {S S' : List Addr} {H H1 : Hp} (a : Fr S H H1) (h : ∀ x ∈ S, x ∈ S') : Fr S' H H1 := fun c o e n => a c o e fun z => n (h c z)
theorem Fr.wr {S : List Addr} {H H1 : Hp} {a : Addr} {o : HO} (h : Fr S H H1) (ha : a ∈ S) : Fr S H (upd H1 a o) := fun b u e n => by
  rw [upd_ne (fun z => n (by rw [z]; exact ha))]
  exact h b u e n
theorem Fr.new {S : List Addr} {H H1 : Hp} {a : Addr} {o : HO} (h : Fr S H H1) (ha : H1 a = none) : Fr S H (upd H1 a o) := fun b u e n => by
  rw [upd_ne (ne_of_none (h b u e n) ha)]
  exact h b u e n
theorem Fr.nil {S : List Addr} {H H' : Hp} (h : Fr [] H H') : Fr S H H' := h.mono fun x hx => by cases hx
/-- new ahead of it, new before -/
theorem Fr.back {S : List Addr} {H H1 : Hp} {a : Addr} (h : Fr S H H1) (ha : H1 a = none) (hs : a ∉ S) : H a = none := by
  cases q : H a with
  | none => rfl
  | some o => rw [h a o q hs] at ha; cases ha

structure ML where
  p : Addr
  dx : Addr
  im : Addr
  nu : Addr
  tb : Addr
  st : Addr
  so : Addr
  ba : Addr
  ou : Addr
def ML.wr (l : ML) : List Addr := [l.p, l.st, l.so, l.ba, l.ou]
def flS (l : ML) (at_ : Int) (pl sp : Int) : List (Str × V) := [("image", .ref l.im), ("numbers", .ref l.nu), ("table", .ref l.tb), ("at", .int at_), ("stack", .ref l.st), ("store", .ref l.so), ("back", .ref l.ba), ("place", .int pl), ("output", .ref l.ou), ("steps", .int sp)]
section
variable (l : ML) (at_ pl sp z : Int)
theorem lkS_image : (flS l at_ pl sp).lookup ("image" : Str) = some (.ref l.im) := by kernel_rfl
theorem lkS_numbers : (flS l at_ pl sp).lookup ("numbers" : Str) = some (.ref l.nu) := by kernel_rfl
theorem lkS_table : (flS l at_ pl sp).lookup ("table" : Str) = some (.ref l.tb) := by kernel_rfl
theorem lkS_at : (flS l at_ pl sp).lookup ("at" : Str) = some (.int at_) := by kernel_rfl
theorem lkS_stack : (flS l at_ pl sp).lookup ("stack" : Str) = some (.ref l.st) := by kernel_rfl
theorem lkS_store : (flS l at_ pl sp).lookup ("store" : Str) = some (.ref l.so) := by kernel_rfl
theorem lkS_back : (flS l at_ pl sp).lookup ("back" : Str) = some (.ref l.ba) := by kernel_rfl
theorem lkS_place : (flS l at_ pl sp).lookup ("place" : Str) = some (.int pl) := by kernel_rfl
theorem lkS_output : (flS l at_ pl sp).lookup ("output" : Str) = some (.ref l.ou) := by kernel_rfl
theorem lkS_steps : (flS l at_ pl sp).lookup ("steps" : Str) = some (.int sp) := by kernel_rfl
theorem lkS_pull : (flS l at_ pl sp).lookup ("pull" : Str) = none := by kernel_rfl
theorem lkS_step : (flS l at_ pl sp).lookup ("step" : Str) = none := by kernel_rfl
theorem lkS_advance : (flS l at_ pl sp).lookup ("advance" : Str) = none := by kernel_rfl
theorem lkS_has_ended : (flS l at_ pl sp).lookup ("has_ended" : Str) = none := by kernel_rfl
theorem puS_at : putF "at" (.int z) (flS l at_ pl sp) = flS l z pl sp := by kernel_rfl
theorem puS_place : putF "place" (.int z) (flS l at_ pl sp) = flS l at_ z sp := by kernel_rfl
theorem puS_steps : putF "steps" (.int z) (flS l at_ pl sp) = flS l at_ pl z := by kernel_rfl
theorem lenS : (flS l at_ pl sp).length < 1000 := by show 10 < 1000; decide
end
/-- the table's dict -/
def TabAt (H : Hp) (d : Addr) (f : Int → Option (Int × Int × Int)) : Prop := ∃ kvs : List (Key × V), H d = some (.dK kvs) ∧
  ∀ n : Int, (f n = none ∧ valV kvs (Sum.inl n) = none) ∨ ∃ o a s p, f n = some (o, a, s) ∧ valV kvs (Sum.inl n) = some (.ref p) ∧ H p = some (.tup [.int o, .int a, .int s])
/-- the store's dict -/
def StoAt (H : Hp) (d : Addr) (f : Int → Int) (b : Nat) : Prop := ∃ kvs : List (Key × V), H d = some (.dK kvs) ∧ kvs.length ≤ b ∧ ∀ n : Int, (valV kvs (Sum.inl n)).getD (.int 0) = .int (f n)
structure MAt (C : Addr) (M : Mac) (l : ML) (c : Cfg) (n : Int) (b : Nat) (H : Hp) : Prop where
  ob : H l.p = some (.ins C l.dx (flS l c.at_ c.plc n))
  im : H l.im = some (.lst (ivs M.img))
  nu : H l.nu = some (.lst (ivs M.nums))
  tb : TabAt H l.tb M.tab
  st : H l.st = some (.lst (ivs c.stk.reverse))
  so : StoAt H l.so c.sto b
  ba : H l.ba = some (.lst (ivs c.bck.reverse))
  ou : H l.ou = some (.lst (ivs c.out))
  nd : [l.st, l.ba, l.ou, l.im, l.nu].Nodup
  ndd : l.tb ≠ l.so
  lst : c.stk.length ≤ b
  lba : c.bck.length ≤ b
  lou : c.out.length ≤ b
section
variable {C : Addr} {M : Mac} {l : ML} {c : Cfg} {n : Int} {b : Nat} {H H' : Hp}
theorem MAt.mono (h : MAt C M l c n b H) {b' : Nat} (hb : b ≤ b') : MAt C M l c n b' H := by
  obtain ⟨kvs, e, z, q⟩ := h.so
  exact { h with so := ⟨kvs, e, Nat.le_trans z hb, q⟩, lst := Nat.le_trans h.lst hb, lba := Nat.le_trans h.lba hb, lou := Nat.le_trans h.lou hb }
/-- no tuple is written -/
theorem MAt.tup_out (h : MAt C M l c n b H) {p : Addr} {xs : List V} (hp : H p = some (.tup xs)) : p ∉ l.wr := by
  intro hm
  unfold ML.wr at hm
  obtain ⟨kvs, e, _, _⟩ := h.so
  simp only [List.mem_cons, List.not_mem_nil, or_false] at hm
  rcases hm with rfl | rfl | rfl | rfl | rfl
  · rw [h.ob] at hp; cases hp
  · rw [h.st] at hp; cases hp
  · rw [e] at hp; cases hp
  · rw [h.ba] at hp; cases hp
  · rw [h.ou] at hp; cases hp
theorem TabAt.stay {d : Addr} {f : Int → Option (Int × Int × Int)} (h : TabAt H d f) (hd : ∀ o, H d = some o → H' d = some o) (ht : ∀ p xs, H p = some (.tup xs) → H' p = some (.tup xs)) : TabAt H' d f := by
  obtain ⟨kvs, e, q⟩ := h
  refine ⟨kvs, hd _ e, fun z => ?_⟩
  rcases q z with q | ⟨o, a, s, p, q1, q2, q3⟩
  · exact .inl q
  · exact .inr ⟨o, a, s, p, q1, q2, ht _ _ q3⟩
theorem ne_kind {H : Hp} {a b : Addr} {o u : HO} (h : H a = some o) (h' : H b = some u) (d : o ≠ u) : a ≠ b := ne_of h h' d
/-- the stack is another list -/
theorem MAt.setStk (h : MAt C M l c n b H) {s : List Int} (hs : s.length ≤ b) : MAt C M l { c with stk := s } n b (upd H l.st (.lst (ivs s.reverse))) := by
  obtain ⟨kt, et, qt⟩ := id h.tb
  obtain ⟨ks, es, zs, qs⟩ := h.so
  have nd := h.nd
  simp only [List.nodup_cons, List.mem_cons, List.not_mem_nil, or_false, not_or] at nd
  obtain ⟨⟨n1, n2, n3, n4⟩, _⟩ := nd
  have d1 : l.tb ≠ l.st := ne_of et h.st (by intro z; cases z)
  have d2 : l.so ≠ l.st := ne_of es h.st (by intro z; cases z)
  exact { ob := by rw [upd_ne (ne_of h.ob h.st (by intro z; cases z))]; exact h.ob
          im := by rw [upd_ne (Ne.symm n3)]; exact h.im
          nu := by rw [upd_ne (Ne.symm n4)]; exact h.nu
          tb := h.tb.stay (fun o e => by rw [upd_ne d1]; exact e) (fun p xs e => by rw [upd_ne (ne_of e h.st (by intro z; cases z))]; exact e)
          st := upd_same
          so := ⟨ks, by rw [upd_ne d2]; exact es, zs, qs⟩
          ba := by rw [upd_ne (Ne.symm n1)]; exact h.ba
          ou := by rw [upd_ne (Ne.symm n2)]; exact h.ou
          nd := h.nd, ndd := h.ndd, lst := hs, lba := h.lba, lou := h.lou }
theorem MAt.setBck (h : MAt C M l c n b H) {s : List Int} (hs : s.length ≤ b) : MAt C M l { c with bck := s } n b (upd H l.ba (.lst (ivs s.reverse))) := by
  obtain ⟨kt, et, qt⟩ := id h.tb
  obtain ⟨ks, es, zs, qs⟩ := h.so
  have nd := h.nd
  simp only [List.nodup_cons, List.mem_cons, List.not_mem_nil, or_false, not_or] at nd
  obtain ⟨⟨n1, n2, n3, n4⟩, ⟨n5, n6, n7⟩, _⟩ := nd
  have d1 : l.tb ≠ l.ba := ne_of et h.ba (by intro z; cases z)
  have d2 : l.so ≠ l.ba := ne_of es h.ba (by intro z; cases z)
  exact { ob := by rw [upd_ne (ne_of h.ob h.ba (by intro z; cases z))]; exact h.ob
          im := by rw [upd_ne (Ne.symm n6)]; exact h.im
          nu := by rw [upd_ne (Ne.symm n7)]; exact h.nu
          tb := h.tb.stay (fun o e => by rw [upd_ne d1]; exact e) (fun p xs e => by rw [upd_ne (ne_of e h.ba (by intro z; cases z))]; exact e)
          st := by rw [upd_ne n1]; exact h.st
          so := ⟨ks, by rw [upd_ne d2]; exact es, zs, qs⟩
          ba := upd_same
          ou := by rw [upd_ne (Ne.symm n5)]; exact h.ou
          nd := h.nd, ndd := h.ndd, lst := h.lst, lba := hs, lou := h.lou }
theorem MAt.setOut (h : MAt C M l c n b H) {s : List Int} (hs : s.length ≤ b) : MAt C M l { c with out := s } n b (upd H l.ou (.lst (ivs s))) := by
  obtain ⟨kt, et, qt⟩ := id h.tb
  obtain ⟨ks, es, zs, qs⟩ := h.so
  have nd := h.nd
  simp only [List.nodup_cons, List.mem_cons, List.not_mem_nil, or_false, not_or] at nd
  obtain ⟨⟨n1, n2, n3, n4⟩, ⟨n5, n6, n7⟩, ⟨n8, n9⟩, _⟩ := nd
  have d1 : l.tb ≠ l.ou := ne_of et h.ou (by intro z; cases z)
  have d2 : l.so ≠ l.ou := ne_of es h.ou (by intro z; cases z)
  exact { ob := by rw [upd_ne (ne_of h.ob h.ou (by intro z; cases z))]; exact h.ob
          im := by rw [upd_ne (Ne.symm n8)]; exact h.im
          nu := by rw [upd_ne (Ne.symm n9)]; exact h.nu
          tb := h.tb.stay (fun o e => by rw [upd_ne d1]; exact e) (fun p xs e => by rw [upd_ne (ne_of e h.ou (by intro z; cases z))]; exact e)
          st := by rw [upd_ne n2]; exact h.st
          so := ⟨ks, by rw [upd_ne d2]; exact es, zs, qs⟩
          ba := by rw [upd_ne n5]; exact h.ba
          ou := upd_same
          nd := h.nd, ndd := h.ndd, lst := h.lst, lba := h.lba, lou := hs }
theorem MAt.setSto (h : MAt C M l c n b H) {kvs : List (Key × V)} {f : Int → Int} (hs : kvs.length ≤ b) (hf : ∀ n : Int, (valV kvs (Sum.inl n)).getD (.int 0) = .int (f n)) : MAt C M l { c with sto := f } n b (upd H l.so (.dK kvs)) := by
  obtain ⟨kt, et, qt⟩ := id h.tb
  obtain ⟨ks, es, zs, qs⟩ := h.so
  have k1 : ∀ {a : Addr} {xs : List V}, H a = some (.lst xs) → upd H l.so (.dK kvs) a = some (.lst xs) := fun e => by rw [upd_ne (ne_of e es (by intro z; cases z))]; exact e
  exact { ob := by rw [upd_ne (ne_of h.ob es (by intro z; cases z))]; exact h.ob
          im := k1 h.im
          nu := k1 h.nu
          tb := h.tb.stay (fun o e => by rw [upd_ne h.ndd]; exact e) (fun p xs e => by rw [upd_ne (ne_of e es (by intro z; cases z))]; exact e)
          st := k1 h.st
          so := ⟨kvs, upd_same, hs, hf⟩
          ba := k1 h.ba
          ou := k1 h.ou
          nd := h.nd, ndd := h.ndd, lst := h.lst, lba := h.lba, lou := h.lou }
theorem MAt.setOb (h : MAt C M l c n b H) (a : Int) (pl : Nat) (n' : Int) : MAt C M l { c with at_ := a, plc := pl } n' b (upd H l.p (.ins C l.dx (flS l a pl n'))) := by
  obtain ⟨kt, et, qt⟩ := id h.tb
  obtain ⟨ks, es, zs, qs⟩ := h.so
  have k1 : ∀ {a' : Addr} {xs : List V}, H a' = some (.lst xs) → upd H l.p (.ins C l.dx (flS l a pl n')) a' = some (.lst xs) := fun e => by rw [upd_ne (ne_of e h.ob (by intro z; cases z))]; exact e
  exact { ob := upd_same
          im := k1 h.im
          nu := k1 h.nu
          tb := h.tb.stay (fun o e => by rw [upd_ne (ne_of et h.ob (by intro z; cases z))]; exact e) (fun p xs e => by rw [upd_ne (ne_of e h.ob (by intro z; cases z))]; exact e)
          st := k1 h.st
          so := ⟨ks, by rw [upd_ne (ne_of es h.ob (by intro z; cases z))]; exact es, zs, qs⟩
          ba := k1 h.ba
          ou := k1 h.ou
          nd := h.nd, ndd := h.ndd, lst := h.lst, lba := h.lba, lou := h.lou }
theorem wr_p : l.p ∈ l.wr := by unfold ML.wr; simp
theorem wr_st : l.st ∈ l.wr := by unfold ML.wr; simp
theorem wr_so : l.so ∈ l.wr := by unfold ML.wr; simp
theorem wr_ba : l.ba ∈ l.wr := by unfold ML.wr; simp
theorem wr_ou : l.ou ∈ l.wr := by unfold ML.wr; simp
/-- what stood and is not written here keeps the object as it is -/
theorem MAt.keep (h : MAt C M l c n b H) {S : List Addr} (F : Fr S H H') (hp : l.p ∉ S) (h1 : l.im ∉ S) (h2 : l.nu ∉ S) (h3 : l.tb ∉ S) (h4 : l.st ∉ S) (h5 : l.so ∉ S) (h6 : l.ba ∉ S) (h7 : l.ou ∉ S) (ht : ∀ p xs, H p = some (.tup xs) → p ∉ S) : MAt C M l c n b H' := by
  obtain ⟨ks, es, zs, qs⟩ := h.so
  exact { ob := F _ _ h.ob hp, im := F _ _ h.im h1, nu := F _ _ h.nu h2, tb := h.tb.stay (fun o e => F _ _ e h3) (fun p xs e => F _ _ e (ht p xs e)), st := F _ _ h.st h4
          so := ⟨ks, F _ _ es h5, zs, qs⟩, ba := F _ _ h.ba h6, ou := F _ _ h.ou h7, nd := h.nd, ndd := h.ndd, lst := h.lst, lba := h.lba, lou := h.lou }
theorem ivs_app (xs ys : List Int) : ivs (xs ++ ys) = ivs xs ++ ivs ys := List.map_append
theorem ivs_push (x : Int) (s : List Int) : ivs s.reverse ++ [V.int x] = ivs (x :: s).reverse := by
  rw [List.reverse_cons, ivs_app] <;> rfl
theorem ivs_len (l : List Int) : (ivs l).length = l.length := List.length_map _
theorem line_of {n : Nat} (h : n ≤ 10000000) : n < sizeLine := Nat.lt_of_le_of_lt h (by decide)
theorem line_le {n : Nat} (h : n ≤ 10000000) : n ≤ sizeLine := Nat.le_of_lt (line_of h)
end
end Pk
namespace Pk
open PySem PySem.Spec PyProof.Rows L2
theorem pe_num {X : Cx} {x : Str} {n : Int} {pos : Pos} (hg : Gl X x) (h : ∃ t, X.mg x = some (.int n t)) (hd : (x == ("__debug__" : Str)) = false := by decide) : PE X (.Name x pos) (tC (.int n)) := by
  obtain ⟨t, e⟩ := h
  exact pe_glob hg e ⟨t, rfl⟩ hd
abbrev cS (K : PySem.W.Frag) : Addr := He.ga K "State"
structure MS where
  M : Mac
  l : ML
  c : Cfg
  n : Int
  b : Nat
def sp_S_pull (K : PySem.W.Frag) : Sp := mkSp (α := MS) (fun a => [.ref a.l.p]) (fun a H => MAt (cS K) a.M a.l a.c a.n a.b H)
  (fun a H v H' => v = .int (hd0 a.c.stk) ∧ MAt (cS K) a.M a.l { a.c with stk := a.c.stk.tail } a.n a.b H' ∧ Fr a.l.wr H H')
/-- what every deed promises: f is its mirror -/
def sp_deed (K : PySem.W.Frag) (f : Mac → Int → Cfg → Cfg) : Sp := mkSp (α := MS × Int) (fun a => [.ref a.1.l.p, .int a.2]) (fun a H => MAt (cS K) a.1.M a.1.l a.1.c a.1.n a.1.b H ∧ a.1.b ≤ 100000)
  (fun a H v H' => MAt (cS K) a.1.M a.1.l (f a.1.M a.2 a.1.c) a.1.n (a.1.b + 2) H' ∧ Fr a.1.l.wr H H')
section
variable {P : Program} {w : World} {K : PySem.W.Frag} {mg : Str → Option Value} {base : Heap}
variable {M : Mac} {l : ML} {c : Cfg} {n : Int} {b i : Nat} {σ : L2.St} {H : Hp} {D : Ends} {Q : VK} {te ta tb : TE} {t1 t2 : TS} {r : R2}
theorem seqR (h : t1 { D with nx := t2 D } σ H) : tSeq t1 t2 D σ H := h
theorem setR (h : te σ H fun v H1 => D.nx (σ.set i (some v)) H1) : tAsg te (gName i) D σ H := h
theorem opR (h : ta σ H fun x H1 => tb σ H1 fun y H2 => r x y H2 Q) : tOp r ta tb σ H Q := h
theorem varR {v : V} (h : σ[i]? = some (some v)) (k : Q v H) : tVar i σ H Q := ⟨v, h, k⟩
theorem dropR (h : te σ H fun _ H1 => D.nx σ H1) : tDrop te D σ H := h
theorem retR (h : te σ H D.rt) : tRet te D σ H := h
theorem bmR {rm : V → List V → Hp → VK → Prop} {T : String} (h : ta σ H fun x H1 => tyV K T x H1 ∧ te σ H1 fun y H2 => rm x [y] H2 fun _ H3 => D.nx σ H3) : tDrop (tBM K T rm ta (tCons te tNil)) D σ H := h
theorem bm0R {rm : V → List V → Hp → VK → Prop} {T : String} (h : ta σ H fun x H1 => tyV K T x H1 ∧ rm x [] H1 Q) : tBM0 K T rm ta σ H Q := h
section
variable (T : Txt w K mg) (hs : σ[i]? = some (some (.ref l.p))) (h : MAt (cS K) M l c n b H)
include T hs h
theorem fStk (k : Q (.ref l.st) H) : tFld K (tVar i) "stack" σ H Q := ⟨_, hs, l.p, _, l.dx, _, _, rfl, h.ob, cls_State T, na_State_stack T, lkS_stack _ _ _ _, k⟩
theorem fBck (k : Q (.ref l.ba) H) : tFld K (tVar i) "back" σ H Q := ⟨_, hs, l.p, _, l.dx, _, _, rfl, h.ob, cls_State T, na_State_back T, lkS_back _ _ _ _, k⟩
theorem fOut (k : Q (.ref l.ou) H) : tFld K (tVar i) "output" σ H Q := ⟨_, hs, l.p, _, l.dx, _, _, rfl, h.ob, cls_State T, na_State_output T, lkS_output _ _ _ _, k⟩
theorem fSto (k : Q (.ref l.so) H) : tFld K (tVar i) "store" σ H Q := ⟨_, hs, l.p, _, l.dx, _, _, rfl, h.ob, cls_State T, na_State_store T, lkS_store _ _ _ _, k⟩
theorem fTab (k : Q (.ref l.tb) H) : tFld K (tVar i) "table" σ H Q := ⟨_, hs, l.p, _, l.dx, _, _, rfl, h.ob, cls_State T, na_State_table T, lkS_table _ _ _ _, k⟩
theorem fImg (k : Q (.ref l.im) H) : tFld K (tVar i) "image" σ H Q := ⟨_, hs, l.p, _, l.dx, _, _, rfl, h.ob, cls_State T, na_State_image T, lkS_image _ _ _ _, k⟩
theorem fNum (k : Q (.ref l.nu) H) : tFld K (tVar i) "numbers" σ H Q := ⟨_, hs, l.p, _, l.dx, _, _, rfl, h.ob, cls_State T, na_State_numbers T, lkS_numbers _ _ _ _, k⟩
theorem fAt (k : Q (.int c.at_) H) : tFld K (tVar i) "at" σ H Q := ⟨_, hs, l.p, _, l.dx, _, _, rfl, h.ob, cls_State T, na_State_at T, lkS_at _ _ _ _, k⟩
theorem fPlc (k : Q (.int c.plc) H) : tFld K (tVar i) "place" σ H Q := ⟨_, hs, l.p, _, l.dx, _, _, rfl, h.ob, cls_State T, na_State_place T, lkS_place _ _ _ _, k⟩
end
theorem pullR (hs : σ[i]? = some (some (.ref l.p))) (h : MAt (cS K) M l c n b H) (k : ∀ H', MAt (cS K) M l { c with stk := c.stk.tail } n b H' → Fr l.wr H H' → Q (.int (hd0 c.stk)) H') : tMeth (cS K) "pull" (sp_S_pull K) [] E0 (tVar i) tNil σ H Q :=
  ⟨_, hs, l.p, l.dx, _, rfl, h.ob, lkS_pull _ _ _ _, ⟨M, l, c, n, b⟩, rfl, h, fun v H' ⟨e, h1, h2⟩ => by rw [e]; exact k H' h1 h2⟩
/-- state.stack.append(te) -/
theorem appR (T : Txt w K mg) (hs : σ[i]? = some (some (.ref l.p))) (h : MAt (cS K) M l c n b H) (k : te σ H fun y H2 => rAppend (.ref l.st) [y] H2 fun _ H3 => D.nx σ H3) : tDrop (tBM K "list" rAppend (tFld K (tVar i) "stack") (tCons te tNil)) D σ H :=
  bmR (fStk T hs h ⟨.inl ⟨rfl, _, SqL.of h.st⟩, k⟩)
theorem appE {Q : VK} {x : Int} (h : MAt (cS K) M l c n b H) (hl : c.stk.length + 1 ≤ b + 2) (hb : b ≤ 100000) (k : ∀ H3, MAt (cS K) M l { c with stk := x :: c.stk } n (b + 2) H3 → Fr l.wr H H3 → Q .non H3) : rAppend (.ref l.st) [.int x] H Q :=
  ⟨l.st, _, .int x, rfl, rfl, h.st, by rw [ivs_len, List.length_reverse]; have := h.lst; exact line_of (by omega), by
    rw [ivs_push]
    exact k _ ((h.mono (by omega)).setStk (s := x :: c.stk) (by rw [List.length_cons]; omega)) ((Fr.refl _ _).wr wr_st)⟩
theorem tail_le {s : List Int} {b : Nat} (h : s.length ≤ b) : s.tail.length ≤ b := by rw [List.length_tail]; omega
theorem ok_S_pull (T : Txt w K mg) : Kept P w K mg base 1 (He.ma K (cS K) "pull") ps_S_pull (sp_S_pull K) := by
  obtain ⟨fd, F⟩ := fd_S_pull T
  refine ⟨fd, F.ok sc_S_pull (fun vs H Q E ⟨a, e, _⟩ => by rw [e] <;> rfl) (fun cdv A outer s H vs Q E hr h => ?_), F.kp, bd_S_pull F⟩
  obtain ⟨⟨M, l, c, n, b⟩, rfl, h, k⟩ := h
  refine ⟨_, PSs.nox (pss_cons (ps_if (pt_truth (pe_fld (pv 0) rfl) (by intro _; rfl)) (pss_one (ps_ret (pe_bm0 PySem.F.plainAttrs_list PySem.F.slot_list_pop PySem.F.type_list_pop mt_pop (pe_fld (pv 0) rfl)))) pss_nil)
    (pss_one (ps_ret pe_int))), ?_⟩
  refine seqR ?_
  cases e : c.stk with
  | nil =>
    refine fStk T (i := 0) rfl h ⟨false, .inl ⟨_, SqL.of h.st, by rw [e] <;> rfl⟩, iteF ?_⟩
    refine k _ _ ⟨by rw [e] <;> rfl, ?_, Fr.refl _ _⟩
    have e2 : { c with stk := c.stk.tail } = c := by
      obtain ⟨a1, a2, a3, a4, a5, a6⟩ := c
      simp only at e
      rw [e] <;> rfl
    rw [e2]
    exact h
  | cons x s =>
    have ex : ivs c.stk.reverse = ivs s.reverse ++ [V.int x] := by rw [e, ivs_push]
    have hst : H l.st = some (.lst (ivs s.reverse ++ [V.int x])) := by rw [← ex]; exact h.st
    refine fStk T (i := 0) rfl h ⟨true, .inl ⟨_, SqL.of hst, by simp⟩, iteT ?_⟩
    refine retR (bm0R (fStk T (i := 0) rfl h ⟨.inl ⟨rfl, _, SqL.of hst⟩, l.st, _, .int x, rfl, rfl, hst, by simp, ?_⟩))
    rw [List.dropLast_concat]
    refine k _ _ ⟨by rw [e] <;> rfl, ?_, (Fr.refl _ _).wr wr_st⟩
    rw [e]
    exact h.setStk (s := s) (by have := h.lst; rw [e, List.length_cons] at this; omega)
theorem ok_push (T : Txt w K mg) : Kept P w K mg base 1 (He.ga K "_push") ps_push (sp_deed K fun _ => dPush) := by
  obtain ⟨fd, F⟩ := fd_push T
  refine ⟨fd, F.ok sc_push (fun vs H Q E ⟨a, e, _⟩ => by rw [e] <;> rfl) (fun cdv A outer s H vs Q E hr h => ?_), F.kp, bd_push F⟩
  obtain ⟨⟨⟨M, l, c, n, b⟩, a⟩, rfl, ⟨h, hb⟩, k⟩ := h
  refine ⟨_, PSs.nox (pss_one (ps_expr (pe_bm PySem.F.plainAttrs_list PySem.F.slot_list_append PySem.F.type_list_append mt_append (pe_fld (pv 0) rfl) (pa_cons (pv 1) pa_nil)))), ?_⟩
  refine appR T (i := 0) rfl h (varR (i := 1) rfl ?_)
  exact appE h (by have := h.lst; omega) hb fun H3 h3 F3 => k _ _ ⟨h3, F3⟩
theorem ok_plus (T : Txt w K mg) : Kept P w K mg base 2 (He.ga K "_plus") ps_plus (sp_deed K fun _ => dPlus) := by
  obtain ⟨fd, F⟩ := fd_plus T
  refine ⟨fd, F.ok sc_plus (fun vs H Q E ⟨a, e, _⟩ => by rw [e] <;> rfl) (fun cdv A outer s H vs Q E hr h => ?_), F.kp, bd_plus F⟩
  obtain ⟨⟨⟨M, l, c, n, b⟩, a⟩, rfl, ⟨h, hb⟩, k⟩ := h
  refine ⟨_, PSs.nox (pss_cons (ps_set (i := 2) sc_plus.nd rfl (Or.inl rfl) (pe_mt0 (ok_S_pull T) (pv 0) (cls_State T) (m_State_pull T) (hr.mono (by decide))))
    (pss_one (ps_expr (pe_bm PySem.F.plainAttrs_list PySem.F.slot_list_append PySem.F.type_list_append mt_append (pe_fld (pv 0) rfl) (pa_cons (pe_op op_add (pe_mt0 (ok_S_pull T) (pv 0) (cls_State T) (m_State_pull T) (hr.mono (by decide))) (pv 2)) pa_nil))))), ?_⟩
  refine seqR (setR (pullR (i := 0) rfl h fun H1 h1 F1 => ?_))
  refine appR T (i := 0) rfl h1 (opR (pullR (i := 0) rfl h1 fun H2 h2 F2 => varR (i := 2) rfl ⟨_, _, rfl, rfl, ?_⟩))
  exact appE h2 (by have := h2.lst; omega) hb fun H3 h3 F3 => k _ _ ⟨h3, (F1.trans F2).trans F3⟩
end
end Pk
namespace Pk
open PySem PySem.Spec PyProof.Rows L2
section
variable {P : Program} {w : World} {K : PySem.W.Frag} {mg : Str → Option Value} {base : Heap}
variable {M : Mac} {l : ML} {c : Cfg} {n : Int} {b i : Nat} {σ : L2.St} {H : Hp} {D : Ends} {Q : VK} {te ta tb : TE} {t1 t2 : TS} {r : R2} {tt : TT}
theorem cR {v : V} (k : Q v H) : tC v σ H Q := k
theorem callR {rc : List V → Hp → VK → Prop} (h : te σ H fun x H1 => rc [x] H1 Q) : tCB rc (tCons te tNil) σ H Q := h
theorem ifR (h : tt σ H fun k H1 => if k = true then t1 D σ H1 else t2 D σ H1) : tIfS tt t1 t2 D σ H := h
theorem andR {u : TT} {Q : Bool → Hp → Prop} (h : tt σ H fun c H1 => if c = true then u σ H1 Q else Q false H1) : tAnd tt u σ H Q := h
theorem chainR {r r' : R2} {tc : TE} (h : ta σ H fun x H1 => tb σ H1 fun y H2 => r x y H2 fun z H3 => ∃ k, z = .bl k ∧ (if k = true then tc σ H3 fun w' H4 => r' y w' H4 Q else Q (.bl false) H3)) : tChain r r' ta tb tc σ H Q := h
theorem unR {ru : V → Hp → VK → Prop} (h : ta σ H fun x H1 => ru x H1 Q) : tUn ru ta σ H Q := h
theorem sfR {f : Str} (h : tb σ H fun y H1 => ta σ H1 fun x H2 => ∃ a C dx fs, x = .ref a ∧ H2 a = some (.ins C dx fs) ∧ Cls K C ∧ NoAttr K C f ∧ fs.length < 1000 ∧ D.nx σ (upd H2 a (.ins C dx (putF f y fs)))) : sFld K ta tb f D σ H := h
theorem dinR (h : ta σ H fun y H1 => tb σ H1 fun x H2 => ∃ a o, x = .ref a ∧ DGet H2 a y o ∧ Q (.bl o.isSome) H2) : tDIn ta tb σ H Q := h
theorem tbR {Q : Bool → Hp → Prop} (h : ta σ H fun x H1 => ∃ c, x = .bl c ∧ Q c H1) : tB ta σ H Q := h
theorem testR {Q : Bool → Hp → Prop} (h : te σ H fun x H' => ∃ k, x = .bl k ∧ Q k H') : tTest te σ H Q := h
/-- state.at = .. at a heap that is reached -/
theorem atR (T : Txt w K mg) {z : Int} (h1 : MAt (cS K) M l c n b H) (k : ∀ H2, MAt (cS K) M l { c with at_ := z } n b H2 → Fr l.wr H H2 → D.nx σ H2) :
    ∃ a C dx fs, (V.ref l.p) = .ref a ∧ H a = some (.ins C dx fs) ∧ Cls K C ∧ NoAttr K C "at" ∧ fs.length < 1000 ∧ D.nx σ (upd H a (.ins C dx (putF "at" (.int z) fs))) := by
  refine ⟨l.p, cS K, l.dx, _, rfl, h1.ob, cls_State T, na_State_at T, lenS _ _ _ _, ?_⟩
  rw [puS_at]
  exact k _ (h1.setOb z c.plc n) ((Fr.refl _ _).wr wr_p)
theorem plcR (T : Txt w K mg) {z : Nat} (h1 : MAt (cS K) M l c n b H) (k : ∀ H2, MAt (cS K) M l { c with plc := z } n b H2 → Fr l.wr H H2 → D.nx σ H2) :
    ∃ a C dx fs, (V.ref l.p) = .ref a ∧ H a = some (.ins C dx fs) ∧ Cls K C ∧ NoAttr K C "place" ∧ fs.length < 1000 ∧ D.nx σ (upd H a (.ins C dx (putF "place" (.int z) fs))) := by
  refine ⟨l.p, cS K, l.dx, _, rfl, h1.ob, cls_State T, na_State_place T, lenS _ _ _ _, ?_⟩
  rw [puS_place]
  exact k _ (h1.setOb c.at_ z n) ((Fr.refl _ _).wr wr_p)
/-- back.append -/
theorem bckE {Q : VK} {x : Int} (h : MAt (cS K) M l c n b H) (hb : b ≤ 100000) (k : ∀ H3, MAt (cS K) M l { c with bck := x :: c.bck } n (b + 2) H3 → Fr l.wr H H3 → Q .non H3) : rAppend (.ref l.ba) [.int x] H Q :=
  ⟨l.ba, _, .int x, rfl, rfl, h.ba, by rw [ivs_len, List.length_reverse]; have := h.lba; exact line_of (by omega), by
    rw [ivs_push]
    exact k _ ((h.mono (by omega)).setBck (s := x :: c.bck) (by rw [List.length_cons]; have := h.lba; omega)) ((Fr.refl _ _).wr wr_ba)⟩
theorem outE {Q : VK} {x : Int} (h : MAt (cS K) M l c n b H) (hb : b ≤ 100000) (k : ∀ H3, MAt (cS K) M l { c with out := c.out ++ [x] } n (b + 2) H3 → Fr l.wr H H3 → Q .non H3) : rAppend (.ref l.ou) [.int x] H Q :=
  ⟨l.ou, _, .int x, rfl, rfl, h.ou, by rw [ivs_len]; have := h.lou; exact line_of (by omega), by
    rw [show ivs c.out ++ [V.int x] = ivs (c.out ++ [x]) by rw [ivs_app] <;> rfl]
    exact k _ ((h.mono (by omega)).setOut (s := c.out ++ [x]) (by rw [List.length_append, List.length_singleton]; have := h.lou; omega)) ((Fr.refl _ _).wr wr_ou)⟩
/-- stack.extend([x, y]) -/
theorem extR (T : Txt w K mg) (hs : σ[i]? = some (some (.ref l.p))) (h : MAt (cS K) M l c n b H) (hl : c.stk.length + 2 ≤ b + 2) (hb : b ≤ 100000) {x y : Int} {i1 i2 : Nat} (h1 : σ[i1]? = some (some (.int x))) (h2 : σ[i2]? = some (some (.int y)))
    (k : ∀ H3, MAt (cS K) M l { c with stk := y :: x :: c.stk } n (b + 2) H3 → Fr l.wr H H3 → D.nx σ H3) : tDrop (tBM K "list" rExtend (tFld K (tVar i) "stack") (tCons (tLst (tCons (tVar i1) (tCons (tVar i2) tNil))) tNil)) D σ H := by
  refine bmR (fStk T hs h ⟨.inl ⟨rfl, _, SqL.of h.st⟩, _, h1, _, h2, (by show 2 ≤ sizeLine; decide), fun p hp => ?_⟩)
  have np : l.st ≠ p := ne_of_none h.st hp
  have F1 : Fr [] H (upd H p (.lst [V.int x, V.int y])) := (Fr.refl _ _).new hp
  have h' : MAt (cS K) M l c n b (upd H p (.lst [V.int x, V.int y])) := h.keep F1 (by simp) (by simp) (by simp) (by simp) (by simp) (by simp) (by simp) (by simp) (fun _ _ _ => by simp)
  refine ⟨l.st, p, _, _, rfl, rfl, h'.st, upd_same, ?_, ?_⟩
  · rw [ivs_len, List.length_reverse]; have := h.lst; show _ + 2 ≤ _; exact line_le (by omega)
  · have e : ivs c.stk.reverse ++ [V.int x, V.int y] = ivs (y :: x :: c.stk).reverse := by
      rw [← ivs_push, ← ivs_push, List.append_assoc] <;> rfl
    rw [e]
    exact k _ ((h'.mono (by omega)).setStk (s := y :: x :: c.stk) (by simp only [List.length_cons]; omega)) (F1.nil.wr wr_st)
theorem ok_minus (T : Txt w K mg) : Kept P w K mg base 2 (He.ga K "_minus") ps_minus (sp_deed K fun _ => dMinus) := by
  obtain ⟨fd, F⟩ := fd_minus T
  refine ⟨fd, F.ok sc_minus (fun vs H Q E ⟨a, e, _⟩ => by rw [e] <;> rfl) (fun cdv A outer s H vs Q E hr h => ?_), F.kp, bd_minus F⟩
  obtain ⟨⟨⟨M, l, c, n, b⟩, a⟩, rfl, ⟨h, hb⟩, k⟩ := h
  replace h : MAt (cS K) M l c n b H := h
  replace hb : b ≤ 100000 := hb
  replace k : ∀ v H', MAt (cS K) M l (dMinus a c) n (b + 2) H' ∧ Fr l.wr H H' → Q v H' := k
  refine ⟨_, PSs.nox (pss_cons (ps_set (i := 2) sc_minus.nd rfl (Or.inl rfl) (pe_mt0 (ok_S_pull T) (pv 0) (cls_State T) (m_State_pull T) (hr.mono (by decide))))
    (pss_one (ps_expr (pe_bm PySem.F.plainAttrs_list PySem.F.slot_list_append PySem.F.type_list_append mt_append (pe_fld (pv 0) rfl) (pa_cons (pe_op op_sub (pe_mt0 (ok_S_pull T) (pv 0) (cls_State T) (m_State_pull T) (hr.mono (by decide))) (pv 2)) pa_nil))))), ?_⟩
  refine seqR (setR (pullR (i := 0) rfl h fun H1 h1 F1 => ?_))
  refine appR T (i := 0) rfl h1 (opR (pullR (i := 0) rfl h1 fun H2 h2 F2 => varR (i := 2) rfl ⟨_, _, rfl, rfl, ?_⟩))
  exact appE h2 (by have := h2.lst; omega) hb fun H3 h3 F3 => k _ _ ⟨h3, (F1.trans F2).trans F3⟩
theorem ok_digit (T : Txt w K mg) : Kept P w K mg base 2 (He.ga K "_digit") ps_digit (sp_deed K fun _ => dDigit) := by
  obtain ⟨fd, F⟩ := fd_digit T
  refine ⟨fd, F.ok sc_digit (fun vs H Q E ⟨a, e, _⟩ => by rw [e] <;> rfl) (fun cdv A outer s H vs Q E hr h => ?_), F.kp, bd_digit F⟩
  obtain ⟨⟨⟨M, l, c, n, b⟩, a⟩, rfl, ⟨h, hb⟩, k⟩ := h
  replace h : MAt (cS K) M l c n b H := h
  replace hb : b ≤ 100000 := hb
  replace k : ∀ v H', MAt (cS K) M l (dDigit a c) n (b + 2) H' ∧ Fr l.wr H H' → Q v H' := k
  refine ⟨_, PSs.nox (pss_cons (ps_set (i := 2) sc_digit.nd rfl (Or.inl rfl) (pe_mt0 (ok_S_pull T) (pv 0) (cls_State T) (m_State_pull T) (hr.mono (by decide))))
    (pss_one (ps_expr (pe_bm PySem.F.plainAttrs_list PySem.F.slot_list_append PySem.F.type_list_append mt_append (pe_fld (pv 0) rfl) (pa_cons (pe_op op_add (pe_op op_mul pe_int (pe_mt0 (ok_S_pull T) (pv 0) (cls_State T) (m_State_pull T) (hr.mono (by decide)))) (pv 2)) pa_nil))))), ?_⟩
  refine seqR (setR (pullR (i := 0) rfl h fun H1 h1 F1 => ?_))
  refine appR T (i := 0) rfl h1 (opR (opR (cR (pullR (i := 0) rfl h1 fun H2 h2 F2 => ⟨_, _, rfl, rfl, .inl ⟨by decide, by decide⟩, varR (i := 2) rfl ⟨_, _, rfl, rfl, ?_⟩⟩))))
  exact appE h2 (by have := h2.lst; omega) hb fun H3 h3 F3 => k _ _ ⟨h3, (F1.trans F2).trans F3⟩
theorem ok_less (T : Txt w K mg) : Kept P w K mg base 2 (He.ga K "_less") ps_less (sp_deed K fun _ => dLess) := by
  obtain ⟨fd, F⟩ := fd_less T
  refine ⟨fd, F.ok sc_less (fun vs H Q E ⟨a, e, _⟩ => by rw [e] <;> rfl) (fun cdv A outer s H vs Q E hr h => ?_), F.kp, bd_less F⟩
  obtain ⟨⟨⟨M, l, c, n, b⟩, a⟩, rfl, ⟨h, hb⟩, k⟩ := h
  replace h : MAt (cS K) M l c n b H := h
  replace hb : b ≤ 100000 := hb
  replace k : ∀ v H', MAt (cS K) M l (dLess a c) n (b + 2) H' ∧ Fr l.wr H H' → Q v H' := k
  refine ⟨_, PSs.nox (pss_cons (ps_set (i := 2) sc_less.nd rfl (Or.inl rfl) (pe_mt0 (ok_S_pull T) (pv 0) (cls_State T) (m_State_pull T) (hr.mono (by decide))))
    (pss_one (ps_expr (pe_bm PySem.F.plainAttrs_list PySem.F.slot_list_append PySem.F.type_list_append mt_append (pe_fld (pv 0) rfl) (pa_cons (pe_callTy call_int1 rfl (f_int T) (by decide +kernel) (pa_cons (pe_cmpR op_lt (pe_mt0 (ok_S_pull T) (pv 0) (cls_State T) (m_State_pull T) (hr.mono (by decide))) (pv 2) (nomark _)) pa_nil)) pa_nil))))), ?_⟩
  refine seqR (setR (pullR (i := 0) rfl h fun H1 h1 F1 => ?_))
  refine appR T (i := 0) rfl h1 (callR (opR (pullR (i := 0) rfl h1 fun H2 h2 F2 => varR (i := 2) rfl ⟨_, _, rfl, rfl, .inr ⟨_, rfl, ?_⟩⟩)))
  refine appE h2 (by have := h2.lst; omega) hb fun H3 h3 F3 => k _ _ ⟨?_, (F1.trans F2).trans F3⟩
  simp only [decide_eq_true_eq] at h3
  exact h3
theorem ok_same (T : Txt w K mg) : Kept P w K mg base 2 (He.ga K "_same") ps_same (sp_deed K fun _ => dSame) := by
  obtain ⟨fd, F⟩ := fd_same T
  refine ⟨fd, F.ok sc_same (fun vs H Q E ⟨a, e, _⟩ => by rw [e] <;> rfl) (fun cdv A outer s H vs Q E hr h => ?_), F.kp, bd_same F⟩
  obtain ⟨⟨⟨M, l, c, n, b⟩, a⟩, rfl, ⟨h, hb⟩, k⟩ := h
  replace h : MAt (cS K) M l c n b H := h
  replace hb : b ≤ 100000 := hb
  replace k : ∀ v H', MAt (cS K) M l (dSame a c) n (b + 2) H' ∧ Fr l.wr H H' → Q v H' := k
  refine ⟨_, PSs.nox (pss_cons (ps_set (i := 2) sc_same.nd rfl (Or.inl rfl) (pe_mt0 (ok_S_pull T) (pv 0) (cls_State T) (m_State_pull T) (hr.mono (by decide))))
    (pss_one (ps_expr (pe_bm PySem.F.plainAttrs_list PySem.F.slot_list_append PySem.F.type_list_append mt_append (pe_fld (pv 0) rfl) (pa_cons (pe_callTy call_int1 rfl (f_int T) (by decide +kernel) (pa_cons (pe_cmpR op_eq (pe_mt0 (ok_S_pull T) (pv 0) (cls_State T) (m_State_pull T) (hr.mono (by decide))) (pv 2) (nomark _)) pa_nil)) pa_nil))))), ?_⟩
  refine seqR (setR (pullR (i := 0) rfl h fun H1 h1 F1 => ?_))
  refine appR T (i := 0) rfl h1 (callR (opR (pullR (i := 0) rfl h1 fun H2 h2 F2 => varR (i := 2) rfl ⟨rfl, .inr ⟨_, rfl, ?_⟩⟩)))
  refine appE h2 (by have := h2.lst; omega) hb fun H3 h3 F3 => k _ _ ⟨?_, (F1.trans F2).trans F3⟩
  simp only [decide_eq_true_eq, V.int.injEq] at h3
  exact h3
theorem ok_load (T : Txt w K mg) : Kept P w K mg base 2 (He.ga K "_load") ps_load (sp_deed K fun _ => dLoad) := by
  obtain ⟨fd, F⟩ := fd_load T
  refine ⟨fd, F.ok sc_load (fun vs H Q E ⟨a, e, _⟩ => by rw [e] <;> rfl) (fun cdv A outer s H vs Q E hr h => ?_), F.kp, bd_load F⟩
  obtain ⟨⟨⟨M, l, c, n, b⟩, a⟩, rfl, ⟨h, hb⟩, k⟩ := h
  replace h : MAt (cS K) M l c n b H := h
  replace hb : b ≤ 100000 := hb
  replace k : ∀ v H', MAt (cS K) M l (dLoad a c) n (b + 2) H' ∧ Fr l.wr H H' → Q v H' := k
  refine ⟨_, PSs.nox (pss_one (ps_expr (pe_bm PySem.F.plainAttrs_list PySem.F.slot_list_append PySem.F.type_list_append mt_append (pe_fld (pv 0) rfl) (pa_cons (pe_dget2 (hu_of hr) (pe_fld (pv 0) rfl) (pe_mt0 (ok_S_pull T) (pv 0) (cls_State T) (m_State_pull T) (hr.mono (by decide))) pe_int ⟨rfl, rfl, rfl, rfl⟩) pa_nil)))), ?_⟩
  obtain ⟨ks, es, zs, qs⟩ := id h.so
  refine appR T (i := 0) rfl h (fSto T (i := 0) rfl h ⟨l.so, rfl, .inl ⟨_, .of es⟩, pullR (i := 0) rfl h fun H2 h2 F2 => ?_⟩)
  obtain ⟨ks2, es2, zs2, qs2⟩ := id h2.so
  refine ⟨_, DGet.k (k := Sum.inl (hd0 c.stk)) es2, ?_⟩
  rw [qs2]
  exact appE h2 (by have := h2.lst; omega) hb fun H3 h3 F3 => k _ _ ⟨h3, F2.trans F3⟩
theorem ok_keep (T : Txt w K mg) : Kept P w K mg base 2 (He.ga K "_keep") ps_keep (sp_deed K fun _ => dKeep) := by
  obtain ⟨fd, F⟩ := fd_keep T
  refine ⟨fd, F.ok sc_keep (fun vs H Q E ⟨a, e, _⟩ => by rw [e] <;> rfl) (fun cdv A outer s H vs Q E hr h => ?_), F.kp, bd_keep F⟩
  obtain ⟨⟨⟨M, l, c, n, b⟩, a⟩, rfl, ⟨h, hb⟩, k⟩ := h
  replace h : MAt (cS K) M l c n b H := h
  replace hb : b ≤ 100000 := hb
  replace k : ∀ v H', MAt (cS K) M l (dKeep a c) n (b + 2) H' ∧ Fr l.wr H H' → Q v H' := k
  refine ⟨_, PSs.nox (pss_cons (ps_set (i := 2) sc_keep.nd rfl (Or.inl rfl) (pe_mt0 (ok_S_pull T) (pv 0) (cls_State T) (m_State_pull T) (hr.mono (by decide))))
    (pss_one (ps_dput (hu_of hr) (pe_fld (pv 0) rfl) (pv 2) (pe_mt0 (ok_S_pull T) (pv 0) (cls_State T) (m_State_pull T) (hr.mono (by decide))) rfl))), ?_⟩
  refine seqR (setR (pullR (i := 0) rfl h fun H1 h1 F1 => ?_))
  show tMeth (cS K) "pull" (sp_S_pull K) [] E0 (tVar 0) tNil _ H1 _
  refine pullR (i := 0) rfl h1 fun H2 h2 F2 => fSto T (i := 0) rfl h2 (varR (i := 2) rfl ?_)
  obtain ⟨ks2, es2, zs2, qs2⟩ := id h2.so
  refine ⟨l.so, _, rfl, DPut.k (k := Sum.inl (hd0 c.stk)) es2 (line_of (by omega)), ?_⟩
  refine k _ _ ⟨(h2.mono (by omega)).setSto (f := fun k => if k = hd0 c.stk then hd0 c.stk.tail else c.sto k) (Nat.le_trans (length_putK _ _ _) (by omega)) (fun z => ?_), (F1.trans F2).wr wr_so⟩
  rw [valV_put]
  by_cases e : z = hd0 c.stk
  · rw [if_pos (by rw [e]), if_pos e] <;> rfl
  · rw [if_neg (fun q => e (Sum.inl.inj q)), if_neg e]; exact qs2 z
theorem ok_assign (T : Txt w K mg) : Kept P w K mg base 2 (He.ga K "_assign") ps_assign (sp_deed K fun _ => dAssign) := by
  obtain ⟨fd, F⟩ := fd_assign T
  refine ⟨fd, F.ok sc_assign (fun vs H Q E ⟨a, e, _⟩ => by rw [e] <;> rfl) (fun cdv A outer s H vs Q E hr h => ?_), F.kp, bd_assign F⟩
  obtain ⟨⟨⟨M, l, c, n, b⟩, a⟩, rfl, ⟨h, hb⟩, k⟩ := h
  replace h : MAt (cS K) M l c n b H := h
  replace hb : b ≤ 100000 := hb
  replace k : ∀ v H', MAt (cS K) M l (dAssign a c) n (b + 2) H' ∧ Fr l.wr H H' → Q v H' := k
  refine ⟨_, PSs.nox (pss_one (ps_dput (hu_of hr) (pe_fld (pv 0) rfl) (pv 1) (pe_mt0 (ok_S_pull T) (pv 0) (cls_State T) (m_State_pull T) (hr.mono (by decide))) rfl)), ?_⟩
  show tMeth (cS K) "pull" (sp_S_pull K) [] E0 (tVar 0) tNil _ H _
  refine pullR (i := 0) rfl h fun H2 h2 F2 => fSto T (i := 0) rfl h2 (varR (i := 1) rfl ?_)
  obtain ⟨ks2, es2, zs2, qs2⟩ := id h2.so
  refine ⟨l.so, _, rfl, DPut.k (k := Sum.inl a) es2 (line_of (by omega)), ?_⟩
  refine k _ _ ⟨(h2.mono (by omega)).setSto (f := fun k => if k = a then hd0 c.stk else c.sto k) (Nat.le_trans (length_putK _ _ _) (by omega)) (fun z => ?_), F2.wr wr_so⟩
  rw [valV_put]
  by_cases e : z = a
  · rw [if_pos (by rw [e]), if_pos e] <;> rfl
  · rw [if_neg (fun q => e (Sum.inl.inj q)), if_neg e]; exact qs2 z
theorem ok_take (T : Txt w K mg) : Kept P w K mg base 1 (He.ga K "_take") ps_take (sp_deed K fun M => dTake M) := by
  obtain ⟨fd, F⟩ := fd_take T
  refine ⟨fd, F.ok sc_take (fun vs H Q E ⟨a, e, _⟩ => by rw [e] <;> rfl) (fun cdv A outer s H vs Q E hr h => ?_), F.kp, bd_take F⟩
  obtain ⟨⟨⟨M, l, c, n, b⟩, a⟩, rfl, ⟨h, hb⟩, k⟩ := h
  replace h : MAt (cS K) M l c n b H := h
  replace hb : b ≤ 100000 := hb
  replace k : ∀ v H', MAt (cS K) M l (dTake M a c) n (b + 2) H' ∧ Fr l.wr H H' → Q v H' := k
  refine ⟨_, PSs.nox (pss_one (ps_if (pt_cmpR op_lt (pe_fld (pv 0) rfl) (pe_callB call_len_seq rfl (f_len T) PySem.boot_len (pa_cons (pe_fld (pv 0) rfl) pa_nil)) (nomark _)) (pss_cons (ps_expr (pe_bm PySem.F.plainAttrs_list PySem.F.slot_list_append PySem.F.type_list_append mt_append (pe_fld (pv 0) rfl) (pa_cons (pe_ix ix_list (pe_fld (pv 0) rfl) (pe_fld (pv 0) rfl) (fun _ _ => rfl)) pa_nil)))
    (pss_one (ps_fldaug (pv 0) pe_int in_add))) (pss_one (ps_expr (pe_bm PySem.F.plainAttrs_list PySem.F.slot_list_append PySem.F.type_list_append mt_append (pe_fld (pv 0) rfl) (pa_cons (pe_un un_neg pe_int) pa_nil)))))), ?_⟩
  refine ifR (testR (opR (fPlc T (i := 0) rfl h (callR (fNum T (i := 0) rfl h ⟨l.nu, _, rfl, .inl (SqL.of h.nu), _, _, rfl, rfl, _, rfl, ?_⟩)))))
  rw [ivs_len]
  refine ite2 (fun q => ?_) (fun q => ?_)
  · have q' : c.plc < M.nums.length := by have z := of_decide_eq_true q; omega
    have ex : M.nums.getD c.plc 0 = M.nums[c.plc] := by rw [List.getD_eq_getElem?_getD, List.getElem?_eq_getElem q'] <;> rfl
    refine seqR (appR T (i := 0) rfl h (opR (fNum T (i := 0) rfl h (fPlc T (i := 0) rfl h ⟨l.nu, _, _, .int (M.nums.getD c.plc 0), rfl, rfl, SqL.of h.nu, atI_nat (by rw [ex, List.getElem?_map, List.getElem?_eq_getElem q'] <;> rfl), ?_⟩))))
    refine appE h (by have := h.lst; omega) hb fun H3 h3 F3 => ?_
    refine ⟨_, rfl, l.p, _, l.dx, _, _, rfl, h3.ob, cls_State T, na_State_place T, lkS_place _ _ _ _, _, _, rfl, rfl, l.dx, _, h3.ob, lenS _ _ _ _, ?_⟩
    rw [show ((c.plc : Int) + 1) = ((c.plc + 1 : Nat) : Int) by omega, puS_place]
    refine k _ _ ⟨?_, F3.wr wr_p⟩
    have e2 : dTake M a c = { c with stk := M.nums.getD c.plc 0 :: c.stk, plc := c.plc + 1 } := if_pos q'
    rw [e2]
    exact h3.setOb c.at_ (c.plc + 1) n
  · have q' : ¬ c.plc < M.nums.length := by intro z; exact q (decide_eq_true (by omega))
    refine appR T (i := 0) rfl h (unR (cR ⟨_, rfl, ?_⟩))
    refine appE h (by have := h.lst; omega) hb fun H3 h3 F3 => k _ _ ⟨?_, F3⟩
    have e2 : dTake M a c = { c with stk := -1 :: c.stk } := if_neg q'
    rw [e2]
    exact h3
theorem ok_rewind (T : Txt w K mg) : Kept P w K mg base 1 (He.ga K "_rewind") ps_rewind (sp_deed K fun _ => dRewind) := by
  obtain ⟨fd, F⟩ := fd_rewind T
  refine ⟨fd, F.ok sc_rewind (fun vs H Q E ⟨a, e, _⟩ => by rw [e] <;> rfl) (fun cdv A outer s H vs Q E hr h => ?_), F.kp, bd_rewind F⟩
  obtain ⟨⟨⟨M, l, c, n, b⟩, a⟩, rfl, ⟨h, hb⟩, k⟩ := h
  replace h : MAt (cS K) M l c n b H := h
  replace hb : b ≤ 100000 := hb
  replace k : ∀ v H', MAt (cS K) M l (dRewind a c) n (b + 2) H' ∧ Fr l.wr H H' → Q v H' := k
  refine ⟨_, PSs.nox (pss_one (ps_fld (pv 0) pe_int rfl)), ?_⟩
  refine cR ⟨_, rfl, plcR (z := 0) T h fun H2 h2 F2 => k _ _ ⟨h2.mono (by show b ≤ b + 2; omega), F2⟩⟩
theorem ok_emit (T : Txt w K mg) : Kept P w K mg base 2 (He.ga K "_emit") ps_emit (sp_deed K fun _ => dEmit) := by
  obtain ⟨fd, F⟩ := fd_emit T
  refine ⟨fd, F.ok sc_emit (fun vs H Q E ⟨a, e, _⟩ => by rw [e] <;> rfl) (fun cdv A outer s H vs Q E hr h => ?_), F.kp, bd_emit F⟩
  obtain ⟨⟨⟨M, l, c, n, b⟩, a⟩, rfl, ⟨h, hb⟩, k⟩ := h
  replace h : MAt (cS K) M l c n b H := h
  replace hb : b ≤ 100000 := hb
  replace k : ∀ v H', MAt (cS K) M l (dEmit a c) n (b + 2) H' ∧ Fr l.wr H H' → Q v H' := k
  refine ⟨_, PSs.nox (pss_one (ps_expr (pe_bm PySem.F.plainAttrs_list PySem.F.slot_list_append PySem.F.type_list_append mt_append (pe_fld (pv 0) rfl) (pa_cons (pe_mt0 (ok_S_pull T) (pv 0) (cls_State T) (m_State_pull T) (hr.mono (by decide))) pa_nil)))), ?_⟩
  refine bmR (fOut T (i := 0) rfl h ⟨.inl ⟨rfl, _, SqL.of h.ou⟩, pullR (i := 0) rfl h fun H2 h2 F2 => ?_⟩)
  exact outE h2 hb fun H3 h3 F3 => k _ _ ⟨h3, F2.trans F3⟩
theorem ok_cell (T : Txt w K mg) : Kept P w K mg base 2 (He.ga K "_cell") ps_cell (sp_deed K fun M => dCell M) := by
  obtain ⟨fd, F⟩ := fd_cell T
  refine ⟨fd, F.ok sc_cell (fun vs H Q E ⟨a, e, _⟩ => by rw [e] <;> rfl) (fun cdv A outer s H vs Q E hr h => ?_), F.kp, bd_cell F⟩
  obtain ⟨⟨⟨M, l, c, n, b⟩, a⟩, rfl, ⟨h, hb⟩, k⟩ := h
  replace h : MAt (cS K) M l c n b H := h
  replace hb : b ≤ 100000 := hb
  replace k : ∀ v H', MAt (cS K) M l (dCell M a c) n (b + 2) H' ∧ Fr l.wr H H' → Q v H' := k
  refine ⟨_, PSs.nox (pss_cons (ps_set (i := 2) sc_cell.nd rfl (Or.inl rfl) (pe_mt0 (ok_S_pull T) (pv 0) (cls_State T) (m_State_pull T) (hr.mono (by decide))))
    (pss_one (ps_if (pt_chain op_le op_lt (pe_un un_neg (pe_callB call_len_seq rfl (f_len T) PySem.boot_len (pa_cons (pe_fld (pv 0) rfl) pa_nil))) (pv 2) (pe_callB call_len_seq rfl (f_len T) PySem.boot_len (pa_cons (pe_fld (pv 0) rfl) pa_nil))) (pss_one (ps_expr (pe_bm PySem.F.plainAttrs_list PySem.F.slot_list_append PySem.F.type_list_append mt_append (pe_fld (pv 0) rfl) (pa_cons (pe_ix ix_list (pe_fld (pv 0) rfl) (pv 2) (fun _ _ => rfl)) pa_nil)))) (pss_one (ps_expr (pe_bm PySem.F.plainAttrs_list PySem.F.slot_list_append PySem.F.type_list_append mt_append (pe_fld (pv 0) rfl) (pa_cons pe_int pa_nil))))))), ?_⟩
  refine seqR (setR (pullR (i := 0) rfl h fun H1 h1 F1 => ?_))
  dsimp only
  refine ifR ?_
  refine testR ?_
  refine chainR ?_
  refine unR ?_
  refine callR ?_
  refine fImg T (i := 0) rfl h1 ?_
  refine ⟨l.im, _, rfl, .inl (SqL.of h1.im), ⟨_, rfl, varR (i := 2) rfl ⟨_, _, rfl, rfl, _, rfl, ?_⟩⟩⟩
  rw [ivs_len]
  have fin : ∀ (x : Int) (H2 : Hp), x = cellAt M.img (hd0 c.stk) → MAt (cS K) M l { c with stk := x :: c.stk.tail } n (b + 2) H2 → Fr l.wr H1 H2 → Q .non H2 := fun x H2 e h2 F2 => k _ _ ⟨by rw [e] at h2; exact h2, F1.trans F2⟩
  have no : ¬ (-(M.img.length : Int) ≤ hd0 c.stk ∧ hd0 c.stk < (M.img.length : Int)) → cellAt M.img (hd0 c.stk) = 0 := fun z => if_neg z
  refine ite2 (fun q => ?_) (fun q => ?_)
  · have q1 : -(M.img.length : Int) ≤ hd0 c.stk := of_decide_eq_true q
    refine callR (fImg T (i := 0) rfl h1 ⟨l.im, _, rfl, .inl (SqL.of h1.im), _, _, rfl, rfl, _, rfl, ?_⟩)
    rw [ivs_len]
    refine ite2 (fun q => ?_) (fun q => ?_)
    · have q2 : hd0 c.stk < (M.img.length : Int) := of_decide_eq_true q
      have ea : atI (ivs M.img) (hd0 c.stk) = some (.int (cellAt M.img (hd0 c.stk))) := by
        unfold atI ixN cellAt
        rw [ivs_len, if_pos (show -(M.img.length : Int) ≤ hd0 c.stk ∧ hd0 c.stk < (M.img.length : Int) from ⟨q1, q2⟩)]
        by_cases z : 0 ≤ hd0 c.stk
        · rw [if_pos z, if_pos q2, if_pos z]
          show (ivs M.img)[(hd0 c.stk).toNat]? = _
          rw [List.getElem?_map, List.getElem?_eq_getElem (by omega), List.getD_eq_getElem?_getD, List.getElem?_eq_getElem (by omega)] <;> rfl
        · rw [if_neg z, if_pos q1, if_neg z]
          show (ivs M.img)[(hd0 c.stk + (M.img.length : Int)).toNat]? = _
          rw [List.getElem?_map, List.getElem?_eq_getElem (by omega), List.getD_eq_getElem?_getD, List.getElem?_eq_getElem (by omega)] <;> rfl
      refine appR T (i := 0) rfl h1 (opR (fImg T (i := 0) rfl h1 (varR (i := 2) rfl ⟨l.im, _, _, _, rfl, rfl, SqL.of h1.im, ea, ?_⟩)))
      exact appE h1 (by have := h1.lst; omega) hb fun H3 h3 F3 => fin _ _ rfl h3 F3
    · refine appR T (i := 0) rfl h1 (cR ?_)
      exact appE h1 (by have := h1.lst; omega) hb fun H3 h3 F3 => fin _ _ (no fun z => q (decide_eq_true z.2)).symm h3 F3
  · refine ⟨_, rfl, iteF ?_⟩
    refine appR T (i := 0) rfl h1 (cR ?_)
    exact appE h1 (by have := h1.lst; omega) hb fun H3 h3 F3 => fin _ _ (no fun z => q (decide_eq_true z.1)).symm h3 F3
theorem ok_drop (T : Txt w K mg) : Kept P w K mg base 2 (He.ga K "_drop") ps_drop (sp_deed K fun _ => dDrop) := by
  obtain ⟨fd, F⟩ := fd_drop T
  refine ⟨fd, F.ok sc_drop (fun vs H Q E ⟨a, e, _⟩ => by rw [e] <;> rfl) (fun cdv A outer s H vs Q E hr h => ?_), F.kp, bd_drop F⟩
  obtain ⟨⟨⟨M, l, c, n, b⟩, a⟩, rfl, ⟨h, hb⟩, k⟩ := h
  replace h : MAt (cS K) M l c n b H := h
  replace hb : b ≤ 100000 := hb
  replace k : ∀ v H', MAt (cS K) M l (dDrop a c) n (b + 2) H' ∧ Fr l.wr H H' → Q v H' := k
  refine ⟨_, PSs.nox (pss_one (ps_expr (pe_mt0 (ok_S_pull T) (pv 0) (cls_State T) (m_State_pull T) (hr.mono (by decide))))), ?_⟩
  refine dropR (pullR (i := 0) rfl h fun H1 h1 F1 => k _ _ ⟨h1.mono (by show b ≤ b + 2; omega), F1⟩)
theorem ok_double (T : Txt w K mg) : Kept P w K mg base 2 (He.ga K "_double") ps_double (sp_deed K fun _ => dDouble) := by
  obtain ⟨fd, F⟩ := fd_double T
  refine ⟨fd, F.ok sc_double (fun vs H Q E ⟨a, e, _⟩ => by rw [e] <;> rfl) (fun cdv A outer s H vs Q E hr h => ?_), F.kp, bd_double F⟩
  obtain ⟨⟨⟨M, l, c, n, b⟩, a⟩, rfl, ⟨h, hb⟩, k⟩ := h
  replace h : MAt (cS K) M l c n b H := h
  replace hb : b ≤ 100000 := hb
  replace k : ∀ v H', MAt (cS K) M l (dDouble a c) n (b + 2) H' ∧ Fr l.wr H H' → Q v H' := k
  refine ⟨_, PSs.nox (pss_cons (ps_set (i := 2) sc_double.nd rfl (Or.inl rfl) (pe_mt0 (ok_S_pull T) (pv 0) (cls_State T) (m_State_pull T) (hr.mono (by decide))))
    (pss_one (ps_expr (pe_bm PySem.F.plainAttrs_list PySem.F.slot_list_extend PySem.F.type_list_extend mt_extend (pe_fld (pv 0) rfl) (pa_cons (pe_lst (pa_cons (pv 2) (pa_cons (pv 2) pa_nil))) pa_nil))))), ?_⟩
  refine seqR (setR (pullR (i := 0) rfl h fun H1 h1 F1 => ?_))
  exact extR T (i := 0) rfl h1 (by have := h1.lst; omega) hb (i1 := 2) (i2 := 2) rfl rfl fun H3 h3 F3 => k _ _ ⟨h3, F1.trans F3⟩
theorem ok_exchange (T : Txt w K mg) : Kept P w K mg base 2 (He.ga K "_exchange") ps_exchange (sp_deed K fun _ => dExch) := by
  obtain ⟨fd, F⟩ := fd_exchange T
  refine ⟨fd, F.ok sc_exchange (fun vs H Q E ⟨a, e, _⟩ => by rw [e] <;> rfl) (fun cdv A outer s H vs Q E hr h => ?_), F.kp, bd_exchange F⟩
  obtain ⟨⟨⟨M, l, c, n, b⟩, a⟩, rfl, ⟨h, hb⟩, k⟩ := h
  replace h : MAt (cS K) M l c n b H := h
  replace hb : b ≤ 100000 := hb
  replace k : ∀ v H', MAt (cS K) M l (dExch a c) n (b + 2) H' ∧ Fr l.wr H H' → Q v H' := k
  refine ⟨_, PSs.nox (pss_cons (ps_set (i := 2) sc_exchange.nd rfl (Or.inl rfl) (pe_mt0 (ok_S_pull T) (pv 0) (cls_State T) (m_State_pull T) (hr.mono (by decide))))
    (pss_cons (ps_set (i := 3) sc_exchange.nd rfl (Or.inl rfl) (pe_mt0 (ok_S_pull T) (pv 0) (cls_State T) (m_State_pull T) (hr.mono (by decide))))
    (pss_one (ps_expr (pe_bm PySem.F.plainAttrs_list PySem.F.slot_list_extend PySem.F.type_list_extend mt_extend (pe_fld (pv 0) rfl) (pa_cons (pe_lst (pa_cons (pv 2) (pa_cons (pv 3) pa_nil))) pa_nil)))))), ?_⟩
  refine seqR (setR (pullR (i := 0) rfl h fun H1 h1 F1 => ?_))
  refine seqR (setR (pullR (i := 0) rfl h1 fun H2 h2 F2 => ?_))
  exact extR T (i := 0) rfl h2 (by have := h2.lst; omega) hb (i1 := 2) (i2 := 3) rfl rfl fun H3 h3 F3 => k _ _ ⟨h3, (F1.trans F2).trans F3⟩
theorem ok_test (T : Txt w K mg) : Kept P w K mg base 2 (He.ga K "_test") ps_test (sp_deed K fun _ => dTest) := by
  obtain ⟨fd, F⟩ := fd_test T
  refine ⟨fd, F.ok sc_test (fun vs H Q E ⟨a, e, _⟩ => by rw [e] <;> rfl) (fun cdv A outer s H vs Q E hr h => ?_), F.kp, bd_test F⟩
  obtain ⟨⟨⟨M, l, c, n, b⟩, a⟩, rfl, ⟨h, hb⟩, k⟩ := h
  replace h : MAt (cS K) M l c n b H := h
  replace hb : b ≤ 100000 := hb
  replace k : ∀ v H', MAt (cS K) M l (dTest a c) n (b + 2) H' ∧ Fr l.wr H H' → Q v H' := k
  refine ⟨_, PSs.nox (pss_one (ps_if (pt_cmpR op_eq (pe_mt0 (ok_S_pull T) (pv 0) (cls_State T) (m_State_pull T) (hr.mono (by decide))) pe_int (nomark _)) (pss_one (ps_fld (pv 0) (pv 1) rfl)) pss_nil)), ?_⟩
  refine ifR (testR (opR (pullR (i := 0) rfl h fun H1 h1 F1 => cR ⟨rfl, _, rfl, ?_⟩)))
  refine ite2 (fun q => ?_) (fun q => ?_)
  · have q' : hd0 c.stk = 0 := V.int.inj (of_decide_eq_true q)
    refine sfR (varR (i := 1) rfl (varR (i := 0) rfl (atR T h1 fun H2 h2 F2 => k _ _ ⟨?_, F1.trans F2⟩)))
    have e2 : dTest a c = { c with stk := c.stk.tail, at_ := a } := if_pos q'
    rw [e2]
    exact h2.mono (by omega)
  · have q' : ¬ hd0 c.stk = 0 := fun z => q (decide_eq_true (by rw [z]))
    refine k _ _ ⟨?_, F1⟩
    have e2 : dTest a c = { c with stk := c.stk.tail } := if_neg q'
    rw [e2]
    exact h1.mono (by omega)
theorem ok_call (T : Txt w K mg) : Kept P w K mg base 2 (He.ga K "_call") ps_call (sp_deed K fun _ => dCall) := by
  obtain ⟨fd, F⟩ := fd_call T
  refine ⟨fd, F.ok sc_call (fun vs H Q E ⟨a, e, _⟩ => by rw [e] <;> rfl) (fun cdv A outer s H vs Q E hr h => ?_), F.kp, bd_call F⟩
  obtain ⟨⟨⟨M, l, c, n, b⟩, a⟩, rfl, ⟨h, hb⟩, k⟩ := h
  replace h : MAt (cS K) M l c n b H := h
  replace hb : b ≤ 100000 := hb
  replace k : ∀ v H', MAt (cS K) M l (dCall a c) n (b + 2) H' ∧ Fr l.wr H H' → Q v H' := k
  refine ⟨_, PSs.nox (pss_cons (ps_set (i := 2) sc_call.nd rfl (Or.inl rfl) (pe_mt0 (ok_S_pull T) (pv 0) (cls_State T) (m_State_pull T) (hr.mono (by decide))))
    (pss_cons (ps_expr (pe_bm PySem.F.plainAttrs_list PySem.F.slot_list_append PySem.F.type_list_append mt_append (pe_fld (pv 0) rfl) (pa_cons (pe_fld (pv 0) rfl) pa_nil)))
    (pss_one (ps_fld (pv 0) (pv 2) rfl)))), ?_⟩
  refine seqR (setR (pullR (i := 0) rfl h fun H1 h1 F1 => ?_))
  refine seqR (bmR (fBck T (i := 0) rfl h1 ⟨.inl ⟨rfl, _, SqL.of h1.ba⟩, fAt T (i := 0) rfl h1 ?_⟩))
  refine bckE h1 hb fun H2 h2 F2 => ?_
  exact sfR (varR (i := 2) rfl (varR (i := 0) rfl (atR T h2 fun H3 h3 F3 => k _ _ ⟨h3, (F1.trans F2).trans F3⟩)))
theorem ok_call_low (T : Txt w K mg) : Kept P w K mg base 2 (He.ga K "_call_low") ps_call_low (sp_deed K fun M => dCallLow M) := by
  obtain ⟨fd, F⟩ := fd_call_low T
  refine ⟨fd, F.ok sc_call_low (fun vs H Q E ⟨a, e, _⟩ => by rw [e] <;> rfl) (fun cdv A outer s H vs Q E hr h => ?_), F.kp, bd_call_low F⟩
  obtain ⟨⟨⟨M, l, c, n, b⟩, a⟩, rfl, ⟨h, hb⟩, k⟩ := h
  replace h : MAt (cS K) M l c n b H := h
  replace hb : b ≤ 100000 := hb
  replace k : ∀ v H', MAt (cS K) M l (dCallLow M a c) n (b + 2) H' ∧ Fr l.wr H H' → Q v H' := k
  refine ⟨_, PSs.nox (pss_cons (ps_set (i := 2) sc_call_low.nd rfl (Or.inl rfl) (pe_mt0 (ok_S_pull T) (pv 0) (cls_State T) (m_State_pull T) (hr.mono (by decide))))
    (pss_one (ps_if (PW.pt (pw_and (pt_chain op_le op_le pe_int (pv 2) (pe_num rfl (i_LAST_LOW T))) (pw_and1 (pt_cmp (pc_din (hu_of hr) (pv 2) (pe_fld (pv 0) rfl)))))) (pss_cons (ps_expr (pe_bm PySem.F.plainAttrs_list PySem.F.slot_list_append PySem.F.type_list_append mt_append (pe_fld (pv 0) rfl) (pa_cons (pe_fld (pv 0) rfl) pa_nil)))
    (pss_one (ps_fld (pv 0) (pv 2) rfl))) (pss_one (ps_expr (pe_bm PySem.F.plainAttrs_list PySem.F.slot_list_append PySem.F.type_list_append mt_append (pe_fld (pv 0) rfl) (pa_cons (pv 2) pa_nil))))))), ?_⟩
  refine seqR (setR (pullR (i := 0) rfl h fun H1 h1 F1 => ?_))
  have nope : ¬ (1 ≤ hd0 c.stk ∧ hd0 c.stk ≤ 199 ∧ (M.tab (hd0 c.stk)).isSome = true) → tDrop (tBM K "list" rAppend (tFld K (tVar 0) "stack") (tCons (tVar 2) tNil)) { nx := fun _ H' => Q .non H', rt := Q } ((start ["state", "argument", "number"] [V.ref l.p, V.int a]).set 2 (some (.int (hd0 c.stk)))) H1 := fun z => by
    refine appR T (i := 0) rfl h1 (varR (i := 2) rfl ?_)
    refine appE h1 (by have := h1.lst; omega) hb fun H3 h3 F3 => k _ _ ⟨?_, F1.trans F3⟩
    have e2 : dCallLow M a c = { c with stk := hd0 c.stk :: c.stk.tail } := if_neg z
    rw [e2]
    exact h3
  refine ifR (andR (testR (chainR (cR (varR (i := 2) rfl ⟨_, _, rfl, rfl, _, rfl, ?_⟩)))))
  refine ite2 (fun q => ?_) (fun q => ?_)
  · have q1 : 1 ≤ hd0 c.stk := of_decide_eq_true q
    refine ⟨_, _, rfl, rfl, _, rfl, ?_⟩
    refine ite2 (fun q => ?_) (fun q => ?_)
    · have q2 : hd0 c.stk ≤ 199 := of_decide_eq_true q
      refine tbR (dinR (varR (i := 2) rfl (fTab T (i := 0) rfl h1 ?_)))
      obtain ⟨kt, et, qt⟩ := id h1.tb
      refine ⟨l.tb, _, rfl, DGet.k (k := Sum.inl (hd0 c.stk)) et, _, rfl, ?_⟩
      rcases qt (hd0 c.stk) with ⟨e1, e2⟩ | ⟨o, a1, s1, p1, e1, e2, e3⟩
      · rw [e2]
        refine iteF (nope ?_)
        rintro ⟨_, _, z⟩
        rw [e1] at z; cases z
      · rw [e2]
        refine iteT ?_
        refine seqR (bmR (fBck T (i := 0) rfl h1 ⟨.inl ⟨rfl, _, SqL.of h1.ba⟩, fAt T (i := 0) rfl h1 ?_⟩))
        refine bckE h1 hb fun H2 h2 F2 => ?_
        refine sfR (varR (i := 2) rfl (varR (i := 0) rfl (atR T h2 fun H3 h3 F3 => k _ _ ⟨?_, (F1.trans F2).trans F3⟩)))
        have e4 : dCallLow M a c = { c with stk := c.stk.tail, bck := c.at_ :: c.bck, at_ := hd0 c.stk } := if_pos ⟨q1, q2, by rw [e1] <;> rfl⟩
        rw [e4]
        exact h3
    · exact iteF (nope fun z => q (decide_eq_true z.2.1))
  · refine ⟨_, rfl, iteF ?_⟩
    exact iteF (nope fun z => q (decide_eq_true z.1))
theorem ok_return (T : Txt w K mg) : Kept P w K mg base 1 (He.ga K "_return") ps_return (sp_deed K fun _ => dRet) := by
  obtain ⟨fd, F⟩ := fd_return T
  refine ⟨fd, F.ok sc_return (fun vs H Q E ⟨a, e, _⟩ => by rw [e] <;> rfl) (fun cdv A outer s H vs Q E hr h => ?_), F.kp, bd_return F⟩
  obtain ⟨⟨⟨M, l, c, n, b⟩, a⟩, rfl, ⟨h, hb⟩, k⟩ := h
  replace h : MAt (cS K) M l c n b H := h
  replace hb : b ≤ 100000 := hb
  replace k : ∀ v H', MAt (cS K) M l (dRet a c) n (b + 2) H' ∧ Fr l.wr H H' → Q v H' := k
  refine ⟨_, PSs.nox (pss_one (ps_if (pt_truth (pe_fld (pv 0) rfl) (by intro _; rfl)) (pss_one (ps_fld (pv 0) (pe_bm0 PySem.F.plainAttrs_list PySem.F.slot_list_pop PySem.F.type_list_pop mt_pop (pe_fld (pv 0) rfl)) rfl)) pss_nil)), ?_⟩
  cases e : c.bck with
  | nil =>
    refine ifR (fBck T (i := 0) rfl h ⟨false, .inl ⟨_, SqL.of h.ba, by rw [e] <;> rfl⟩, iteF ?_⟩)
    refine k _ _ ⟨?_, Fr.refl _ _⟩
    have e2 : dRet a c = c := by unfold dRet; rw [e]
    rw [e2]
    exact h.mono (by omega)
  | cons x s =>
    have ex : ivs c.bck.reverse = ivs s.reverse ++ [V.int x] := by rw [e, ivs_push]
    have hst : H l.ba = some (.lst (ivs s.reverse ++ [V.int x])) := by rw [← ex]; exact h.ba
    refine ifR (fBck T (i := 0) rfl h ⟨true, .inl ⟨_, SqL.of hst, by simp⟩, iteT ?_⟩)
    refine bm0R (fBck T (i := 0) rfl h ⟨.inl ⟨rfl, _, SqL.of hst⟩, l.ba, _, .int x, rfl, rfl, hst, by simp, ?_⟩)
    rw [List.dropLast_concat]
    have h1 := h.setBck (s := s) (by have := h.lba; rw [e, List.length_cons] at this; omega)
    refine ⟨_, rfl, atR T h1 fun H3 h3 F3 => k _ _ ⟨?_, ((Fr.refl _ _).wr wr_ba).trans F3⟩⟩
    have e2 : dRet a c = { c with at_ := x, bck := s } := by unfold dRet; rw [e]
    rw [e2]
    exact h3.mono (by omega)
end
end Pk
namespace Pk
open PySem PySem.Spec PyProof.Rows L2
def n4 (x : Nd) : List V := [.int x.1, .int x.2.1, .int x.2.2.1, .int x.2.2.2]
/-- a list of the nodes' tuples -/
def NodesAt (H : Hp) (a : Addr) (ns : List Nd) : Prop := ∃ ps : List Addr, H a = some (.lst (ps.map V.ref)) ∧ Paired (fun p x => H p = some (.tup (n4 x))) ps ns
theorem paired_app {α β : Type} {F : α → β → Prop} : ∀ {l1 m1 : List α} {l2 m2 : List β}, Paired F l1 l2 → Paired F m1 m2 → Paired F (l1 ++ m1) (l2 ++ m2)
  | _, _, _, _, .nil, h => h
  | _, _, _, _, .cons r t, h => .cons r (paired_app t h)
theorem paired_mono {α β : Type} {F G : α → β → Prop} {l1 : List α} {l2 : List β} (h : Paired F l1 l2) (f : ∀ a b, F a b → G a b) : Paired G l1 l2 := Paired.mapP h f
theorem drop_flat : ∀ (ns : List Nd) (i : Nat), (flat ns).drop (4 * i) = flat (ns.drop i)
  | [], i => by simp [flat]
  | x :: r, 0 => rfl
  | (a, b, c, d) :: r, i + 1 => by
    rw [show 4 * (i + 1) = 4 * i + 1 + 1 + 1 + 1 by omega, List.drop_succ_cons]
    simp only [flat, List.drop_succ_cons]
    exact drop_flat r i
theorem cut4 {ns : List Nd} {i : Nat} (h : i < ns.length) : cutV (ivs (flat ns)) (some (0 + (i : Int) * 4)) (some (0 + (i : Int) * 4 + 4)) = n4 ns[i] := by
  have e1 : (0 + (i : Int) * 4) = ((4 * i : Nat) : Int) := by omega
  have e2 : (0 + (i : Int) * 4 + 4) = ((4 * i + 4 : Nat) : Int) := by omega
  rw [e2, e1]
  unfold cutV
  rw [HT.sIx_nat, HT.sIx_nat, ivs_len, flat_len, Nat.min_eq_left (by omega), Nat.min_eq_left (by omega), show 4 * i + 4 - 4 * i = 4 by omega]
  have e3 : (ivs (flat ns)).drop (4 * i) = ivs (flat (ns.drop i)) := by
    show ((flat ns).map V.int).drop (4 * i) = (flat (ns.drop i)).map V.int
    rw [← drop_flat, List.map_drop]
  rw [e3, List.drop_eq_getElem_cons h]
  generalize ns[i] = x
  obtain ⟨a, b, c, d⟩ := x
  rfl
theorem rg4 {m : Nat} (hm : m ≤ 4000000) : RgC 0 (((4 * m : Nat) : Int) - 3) 4 m := by
  have e : Builtin.Range.rangeSize 0 (((4 * m : Nat) : Int) - 3) 4 = m := by
    unfold Builtin.Range.rangeSize
    rw [if_pos (by decide)]
    by_cases h : 0 < m
    · rw [if_pos (by omega)]
      omega
    · rw [if_neg (by omega)]
      omega
  refine ⟨by decide, by decide, ?_, e⟩
  unfold Builtin.Range.small
  rw [e]
  simp only [Builtin.Range.rangeFitsLong, Bool.and_eq_true, Bool.or_eq_true, decide_eq_true_eq, beq_iff_eq, show (4 : Int) > 0 by decide, if_true]
  omega
def rTupK (K : PySem.W.Frag) : List V → Hp → VK → Prop := fun xs H Q => ∃ p ys, xs = [.ref p] ∧ ((SqL K H p ys ∧ ∀ l, H l = none → Q (.ref l) (upd H l (.tup ys))) ∨ (SqT K H p ys ∧ Q (.ref p) H))
theorem call_tupK {X : Cx} {K : PySem.W.Frag} (h : X.K = K) : CallR X (.type "tuple") (rTupK K) := by
  subst h
  exact call_tuple_of
theorem sl_listK {X : Cx} {K : PySem.W.Frag} (h : X.K = K) : SlR X (rSlL K) := by
  subst h
  exact sl_list
def sp_nodes_of : Sp := mkSp (α := Addr × List Nd) (fun a => [.ref a.1]) (fun a H => H a.1 = some (.lst (ivs (flat a.2))) ∧ a.2.length ≤ 4000000) (fun a H v H' => ∃ r, v = .ref r ∧ H r = none ∧ NodesAt H' r a.2 ∧ Fr [] H H')
def sp_image_of : Sp := mkSp (α := Addr × List Nd) (fun a => [.ref a.1]) (fun a H => NodesAt H a.1 a.2 ∧ a.2.length ≤ 2000000) (fun a H v H' => ∃ r, v = .ref r ∧ H r = none ∧ H' r = some (.lst (ivs (flat a.2))) ∧ Fr [] H H')
def sp_table_of : Sp := mkSp (α := Addr × List Nd) (fun a => [.ref a.1]) (fun a H => H a.1 = some (.lst (ivs (flat a.2))) ∧ a.2.length ≤ 4000000) (fun a H v H' => ∃ r, v = .ref r ∧ H r = none ∧ TabAt H' r (tabOf a.2) ∧ Fr [] H H')
section
variable {P : Program} {w : World} {K : PySem.W.Frag} {mg : Str → Option Value} {base : Heap}
theorem ok_nodes_of (T : Txt w K mg) : Kept P w K mg base 1 (He.ga K "nodes_of") ps_nodes_of sp_nodes_of := by
  obtain ⟨fd, F⟩ := fd_nodes_of T
  refine ⟨fd, F.ok sc_nodes_of (fun vs H Q E ⟨a, e, _⟩ => by rw [e] <;> rfl) (fun cdv A outer s H vs Q E hr h => ?_), F.kp, bd_nodes_of F⟩
  obtain ⟨⟨a, ns⟩, rfl, ⟨h, hl⟩, k⟩ := h
  replace h : H a = some (.lst (ivs (flat ns))) := h
  replace hl : ns.length ≤ 4000000 := hl
  replace k : ∀ v H', (∃ r, v = .ref r ∧ H r = none ∧ NodesAt H' r ns ∧ Fr [] H H') → Q v H' := k
  refine ⟨_, PSs.nox (pss_one (ps_ret (pe_lc (own := [("start", 1)]) (g := gName 1) (tt := tYes) rfl sc_nodes_of.nd (pi_range3 rfl (f_range T) (pa_cons pe_int (pa_cons (pe_op op_sub (pe_callB call_len_seq rfl (f_len T) PySem.boot_len (pa_cons (pv 0) pa_nil)) pe_int) (pa_cons pe_int pa_nil)))) (blkOk_by (own := [("start", 1)]) (N := ns_nodes_of) (sc := defScope s_nodes_of) (by decide +kernel)) (fun _ _ _ _ _ => pg_name (i := 1) sc_nodes_of.nd rfl (Or.inl rfl)) (fun _ _ _ _ _ => pts_nil) (fun _ _ _ _ _ => (pe_callTy (call_tupK (K := K) rfl) rfl (f_tuple T) (by decide +kernel) (pa_cons (pe_slice (sl_listK (K := K) rfl) (pv 0) (po_some (pv 1)) (po_some (pe_op op_add (pv 1) pe_int))) pa_nil)))))), ?_⟩
  refine ⟨_, rfl, a, _, rfl, .inl (SqL.of h), _, _, rfl, rfl, 0, _, 4, ns.length, rfl, ?_, fun D hD => ?_⟩
  · rw [ivs_len, flat_len]
    exact rg4 hl
  · have hDa : a ≠ D := ne_of_none h hD
    refine lc_it walk_rangeC (fun i H' => ∃ ps : List Addr, H' D = some (.lst (ps.map V.ref)) ∧ Paired (fun p x => H' p = some (.tup (n4 x))) ps (ns.take i) ∧ Fr [] H H') ⟨[], upd_same, .nil, (Fr.refl _ _).new hD⟩ (fun _ _ _ _ => trivial) ?_ ?_
    · rintro i x H1 H2 hi ⟨ps, hD1, hp, F1⟩ ⟨rfl, rfl⟩
      have ha := F1 _ _ h (by simp)
      refine ⟨rfl, ?_⟩
      refine ⟨_, rfl, _, rfl, _, rfl, _, rfl, _, _, rfl, rfl, _, rfl, a, _, rfl, SqL.of ha, fun p1 n1 => ?_⟩
      have F2 : Fr [] H2 (upd H2 p1 (.lst (cutV (ivs (flat ns)) (some (0 + (i : Int) * 4)) (some (0 + (i : Int) * 4 + 4))))) := (Fr.refl _ _).new n1
      refine ⟨p1, _, rfl, .inl ⟨SqL.of upd_same, fun p2 n2 => ?_⟩⟩
      rw [cut4 hi] at F2 n2 ⊢
      have F3 := F2.new (o := .tup (n4 ns[i])) n2
      refine ⟨ps.map V.ref, F3 _ _ hD1 (by simp), by rw [List.length_map, hp.length, List.length_take]; exact line_of (by omega), ?_⟩
      have nd2 : D ≠ p2 := ne_of_none (F2 _ _ hD1 (by simp)) n2
      refine ⟨ps ++ [p2], by rw [upd_same, List.map_append] <;> rfl, ?_, ?_⟩
      · rw [List.take_succ_eq_append_getElem hi]
        refine paired_app (paired_mono hp fun p y e => ?_) (.cons ?_ .nil)
        · rw [upd_ne (ne_of e hD1 (by intro z; cases z))]
          exact F3 _ _ e (by simp)
        · rw [upd_ne nd2.symm]
          exact upd_same
      · exact fun b o e n => by
          rw [upd_ne (ne_of_none e hD)]
          exact F3 _ _ (F1 b o e n) n
    · rintro H1 ⟨ps, hD1, hp, F1⟩
      rw [List.take_length] at hp
      exact k _ _ ⟨D, rfl, hD, ⟨ps, hD1, hp⟩, F1⟩
theorem flat_snoc (xs : List Nd) (x : Nd) : ivs (flat (xs ++ [x])) = ivs (flat xs) ++ n4 x := by
  rw [flat_app, ivs_app]
  obtain ⟨a, b, c, d⟩ := x
  rfl
theorem ok_image_of (T : Txt w K mg) : Kept P w K mg base 1 (He.ga K "image_of") ps_image_of sp_image_of := by
  obtain ⟨fd, F⟩ := fd_image_of T
  refine ⟨fd, F.ok sc_image_of (fun vs H Q E ⟨a, e, _⟩ => by rw [e] <;> rfl) (fun cdv A outer s H vs Q E hr h => ?_), F.kp, bd_image_of F⟩
  obtain ⟨⟨a, ns⟩, rfl, ⟨⟨ps, h, hp⟩, hl⟩, k⟩ := h
  replace h : H a = some (.lst (ps.map V.ref)) := h
  replace hp : Paired (fun p x => H p = some (.tup (n4 x))) ps ns := hp
  replace hl : ns.length ≤ 2000000 := hl
  replace k : ∀ v H', (∃ r, v = .ref r ∧ H r = none ∧ H' r = some (.lst (ivs (flat ns))) ∧ Fr [] H H') → Q v H' := k
  refine ⟨_, PSs.nox (pss_cons (ps_set (i := 1) sc_image_of.nd rfl (Or.inl rfl) (pe_lst pa_nil))
    (pss_cons (ps_for PassesOwn.never rfl (pi_list (pv 0)) (pg_tup rfl (pgs_cons (pg_name (i := 2) sc_image_of.nd rfl (Or.inl rfl)) (pgs_cons (pg_name (i := 3) sc_image_of.nd rfl (Or.inl rfl)) (pgs_cons (pg_name (i := 4) sc_image_of.nd rfl (Or.inl rfl)) (pgs_cons (pg_name (i := 5) sc_image_of.nd rfl (Or.inl rfl)) pgs_nil))))) (pss_one (ps_expr (pe_bm PySem.F.plainAttrs_list PySem.F.slot_list_extend PySem.F.type_list_extend mt_extend (pv 1) (pa_cons (pe_lst (pa_cons (pv 2) (pa_cons (pv 3) (pa_cons (pv 4) (pa_cons (pv 5) pa_nil))))) pa_nil)))))
    (pss_one (ps_ret (pv 1))))), ?_⟩
  refine ⟨(by show 0 ≤ sizeLine; decide), fun D hD => ?_⟩
  refine ⟨_, rfl, a, rfl, ⟨_, SqL.of (by rw [upd_ne (ne_of_none h hD)]; exact h)⟩, ?_⟩
  refine for_list (xs := ps.map V.ref) (fun i σ H' => (∃ x2 x3 x4 x5, σ = [some (.ref a), some (.ref D), x2, x3, x4, x5]) ∧ H' D = some (.lst (ivs (flat (ns.take i)))) ∧ Fr [] H H') ⟨⟨_, _, _, _, rfl⟩, upd_same, (Fr.refl _ _).new hD⟩ ?_ ?_ ?_
  · rintro i σ H1 _ ⟨_, _, F1⟩
    exact SqL.of (F1 _ _ h (by simp))
  · rintro i x σ H1 hx ⟨⟨x2, x3, x4, x5, rfl⟩, hD1, F1⟩
    rw [List.getElem?_map] at hx
    obtain ⟨p, ep, rfl⟩ := Option.map_eq_some_iff.mp hx
    obtain ⟨nd, en, et⟩ := paired_get hp ep
    have et1 := F1 _ _ et (by simp)
    obtain ⟨hi, ei⟩ := List.getElem?_eq_some_iff.mp en
    refine ⟨p, _, rfl, SqT.of et1, rfl, _, _, rfl, _, _, rfl, _, _, rfl, _, _, rfl, rfl, ?_⟩
    refine bmR ⟨_, rfl, .inl ⟨rfl, _, SqL.of hD1⟩, _, rfl, _, rfl, _, rfl, _, rfl, (by show 4 ≤ sizeLine; decide), fun q nq => ?_⟩
    have F2 : Fr [] H1 (upd H1 q (.lst (n4 nd))) := (Fr.refl _ _).new nq
    refine ⟨D, q, _, _, rfl, rfl, F2 _ _ hD1 (by simp), upd_same, ?_, ?_⟩
    · rw [ivs_len, flat_len, List.length_take]; show _ + 4 ≤ _; exact line_le (by omega)
    · refine ⟨⟨_, _, _, _, rfl⟩, ?_, ?_⟩
      · rw [upd_same, List.take_succ_eq_append_getElem hi, ei, flat_snoc] <;> rfl
      · exact fun b o e n => by
          rw [upd_ne (ne_of_none e hD)]
          exact F2 _ _ (F1 b o e n) n
  · rintro σ H1 ⟨⟨x2, x3, x4, x5, rfl⟩, hD1, F1⟩
    rw [List.length_map, hp.length, List.take_length] at hD1
    exact ⟨_, rfl, k _ _ ⟨D, rfl, hD, hD1, F1⟩⟩
theorem TabAt.put {H : Hp} {p : Addr} {kvs : List (Key × V)} {f : Int → Option (Int × Int × Int)} {n o a s : Int}
    (h : ∀ n : Int, (f n = none ∧ valV kvs (Sum.inl n) = none) ∨ ∃ o a s p, f n = some (o, a, s) ∧ valV kvs (Sum.inl n) = some (.ref p) ∧ H p = some (.tup [.int o, .int a, .int s]))
    (hp : H p = some (.tup [.int o, .int a, .int s])) : ∀ z : Int, ((fun x => if x = n then some (o, a, s) else f x) z = none ∧ valV (putK kvs (Sum.inl n) (.ref p)) (Sum.inl z) = none) ∨
      ∃ o' a' s' p', (fun x => if x = n then some (o, a, s) else f x) z = some (o', a', s') ∧ valV (putK kvs (Sum.inl n) (.ref p)) (Sum.inl z) = some (.ref p') ∧ H p' = some (.tup [.int o', .int a', .int s']) := by
  intro z
  rw [valV_put]
  by_cases e : z = n
  · refine .inr ⟨o, a, s, p, if_pos e, by rw [if_pos (by rw [e])], hp⟩
  · rw [if_neg (fun q => e (Sum.inl.inj q))]
    rcases h z with ⟨h1, h2⟩ | ⟨o', a', s', p', h1, h2, h3⟩
    · exact .inl ⟨by show (if z = n then _ else f z) = none; rw [if_neg e]; exact h1, h2⟩
    · exact .inr ⟨o', a', s', p', by show (if z = n then _ else f z) = _; rw [if_neg e]; exact h1, h2, h3⟩
theorem ok_table_of (T : Txt w K mg) : Kept P w K mg base 2 (He.ga K "table_of") ps_table_of sp_table_of := by
  obtain ⟨fd, F⟩ := fd_table_of T
  refine ⟨fd, F.ok sc_table_of (fun vs H Q E ⟨a, e, _⟩ => by rw [e] <;> rfl) (fun cdv A outer s H vs Q E hr h => ?_), F.kp, bd_table_of F⟩
  obtain ⟨⟨a, ns⟩, rfl, ⟨h, hl⟩, k⟩ := h
  replace h : H a = some (.lst (ivs (flat ns))) := h
  replace hl : ns.length ≤ 4000000 := hl
  replace k : ∀ v H', (∃ r, v = .ref r ∧ H r = none ∧ TabAt H' r (tabOf ns) ∧ Fr [] H H') → Q v H' := k
  refine ⟨_, PSs.nox (pss_cons (ps_set (i := 1) sc_table_of.nd rfl (Or.inl rfl) pe_dnewK)
    (pss_cons (ps_for PassesOwn.never rfl (pi_list (pe_fn (ok_nodes_of T) (hr.mono (by decide)) rfl (g_nodes_of T) (pa_cons (pv 0) pa_nil))) (pg_tup rfl (pgs_cons (pg_name (i := 2) sc_table_of.nd rfl (Or.inl rfl)) (pgs_cons (pg_name (i := 3) sc_table_of.nd rfl (Or.inl rfl)) (pgs_cons (pg_name (i := 4) sc_table_of.nd rfl (Or.inl rfl)) (pgs_cons (pg_name (i := 5) sc_table_of.nd rfl (Or.inl rfl)) pgs_nil))))) (pss_one (ps_dput (hu_of hr) (pv 1) (pv 2) (pe_tup (pa_cons (pv 3) (pa_cons (pv 4) (pa_cons (pv 5) pa_nil)))) rfl)))
    (pss_one (ps_ret (pv 1))))), ?_⟩
  intro D hD
  have F0 : Fr [] H (upd H D (.dK [])) := (Fr.refl _ _).new hD
  refine ⟨_, rfl, ⟨a, ns⟩, rfl, ⟨F0 _ _ h (by simp), hl⟩, ?_⟩
  rintro v H1 ⟨r, rfl, nr, ⟨ps, hr1, hp⟩, F1⟩
  refine ⟨r, rfl, ⟨_, SqL.of hr1⟩, ?_⟩
  have hD1 := F1 _ _ (upd_same (H := H) (a := D) (o := .dK [])) (by simp)
  have FA := F0.trans F1
  refine for_list (xs := ps.map V.ref) (fun i σ H' => (∃ x2 x3 x4 x5, σ = [some (.ref a), some (.ref D), x2, x3, x4, x5]) ∧ (∃ kvs : List (Key × V), H' D = some (.dK kvs) ∧ kvs.length ≤ i ∧
      ∀ n : Int, (tabOf (ns.take i) n = none ∧ valV kvs (Sum.inl n) = none) ∨ ∃ o a s p, tabOf (ns.take i) n = some (o, a, s) ∧ valV kvs (Sum.inl n) = some (.ref p) ∧ H' p = some (.tup [.int o, .int a, .int s])) ∧
      (H' r = some (.lst (ps.map V.ref)) ∧ Paired (fun p x => H' p = some (.tup (n4 x))) ps ns) ∧ Fr [] H H') ⟨⟨_, _, _, _, rfl⟩, ⟨[], hD1, Nat.le_refl _, fun n => .inl ⟨rfl, rfl⟩⟩, ⟨hr1, hp⟩, FA⟩ ?_ ?_ ?_
  · rintro i σ H1 _ ⟨_, _, ⟨q, _⟩, _⟩
    exact SqL.of q
  · rintro i x σ H1 hx ⟨⟨x2, x3, x4, x5, rfl⟩, ⟨kvs, hD1, hk, hv⟩, ⟨hr1, hp⟩, F1⟩
    rw [List.getElem?_map] at hx
    obtain ⟨p, ep, rfl⟩ := Option.map_eq_some_iff.mp hx
    obtain ⟨nd, en, et1⟩ := paired_get hp ep
    obtain ⟨hi, ei⟩ := List.getElem?_eq_some_iff.mp en
    refine ⟨p, _, rfl, SqT.of et1, rfl, _, _, rfl, _, _, rfl, _, _, rfl, _, _, rfl, rfl, ?_⟩
    refine ⟨_, rfl, _, rfl, _, rfl, (by show 3 ≤ sizeLine; decide), fun q nq => ?_⟩
    have F2 : Fr [] H1 (upd H1 q (.tup [.int nd.2.1, .int nd.2.2.1, .int nd.2.2.2])) := (Fr.refl _ _).new nq
    refine ⟨_, rfl, _, rfl, D, _, rfl, DPut.k (k := Sum.inl nd.1) (F2 _ _ hD1 (by simp)) (line_of (by omega)), ?_⟩
    have keepT : ∀ {b : Addr} {xs : List V}, H1 b = some (.tup xs) → (upd (upd H1 q (.tup [.int nd.2.1, .int nd.2.2.1, .int nd.2.2.2])) D (.dK (putK kvs (Sum.inl nd.1) (.ref q)))) b = some (.tup xs) := fun e => by
      rw [upd_ne (ne_of e hD1 (by intro z; cases z))]
      exact F2 _ _ e (by simp)
    have nq2 : q ≠ D := (ne_of_none hD1 nq).symm
    refine ⟨⟨_, _, _, _, rfl⟩, ⟨_, upd_same, Nat.le_trans (length_putK _ _ _) (by omega), ?_⟩, ⟨?_, paired_mono hp fun _ _ e => keepT e⟩, ?_⟩
    · rw [List.take_succ_eq_append_getElem hi, ei]
      have e0 : ∀ z : Int, tabOf (ns.take i ++ [nd]) z = (fun x => if x = nd.1 then some (nd.2.1, nd.2.2.1, nd.2.2.2) else tabOf (ns.take i) x) z := fun z => tabOf_snoc _ _ _
      intro z
      rw [e0]
      refine TabAt.put (fun z => ?_) ?_ z
      · rcases hv z with q1 | ⟨o, a', s', p', q1, q2, q3⟩
        · exact .inl q1
        · exact .inr ⟨o, a', s', p', q1, q2, keepT q3⟩
      · rw [upd_ne nq2]; exact upd_same
    · rw [upd_ne (ne_of hr1 hD1 (by intro z; cases z))]
      exact F2 _ _ hr1 (by simp)
    · exact fun b o e n => by
        rw [upd_ne (ne_of_none e hD)]
        exact F2 _ _ (F1 b o e n) n
  · rintro σ H1 ⟨⟨x2, x3, x4, x5, rfl⟩, ⟨kvs, hD1, hk, hv⟩, ⟨hr1, hp⟩, F1⟩
    rw [List.length_map, hp.length, List.take_length] at hv
    exact ⟨_, rfl, k _ _ ⟨D, rfl, hD, ⟨kvs, hD1, hv⟩, F1⟩⟩
end
end Pk
namespace Pk
open PySem PySem.Spec PyProof.Rows L2
def deedNm (op : Int) : Option Str := (deedsL.find? fun q => decide (q.1 = op)).map (·.2)
theorem deedAll_find {K : PySem.W.Frag} (op : Int) : ∀ {qs : List (Int × Str)} {es : List DictEntry}, deedAll K qs es = true →
    (es.find? fun e => Value.isInt op e.key).map (·.val) = (qs.find? fun q => decide (q.1 = op)).map fun q => Value.ref (He.ga K q.2)
  | [], [], _ => rfl
  | [], _ :: _, h => by cases h
  | _ :: _, [], h => by cases h
  | q :: qs, e :: es, h => by
    obtain ⟨h1, h2⟩ := He.ba (show (deedOne K q e && deedAll K qs es) = true from h)
    have ih := deedAll_find op h2
    obtain ⟨hs, ek, ev⟩ := e
    unfold deedOne at h1
    cases ek with
    | int i t =>
      cases ev with
      | ref a =>
        obtain ⟨h3, h4⟩ := He.ba h1
        obtain ⟨h5, h6⟩ := He.ba h4
        have e3 : i = q.1 := of_decide_eq_true h3
        have e6 : a = He.ga K q.2 := of_decide_eq_true h6
        subst e3 e6
        rw [List.find?_cons, List.find?_cons]
        by_cases z : q.1 = op
        · subst z
          simp [Value.isInt]
        · have z1 : Value.isInt op (.int q.1 t) = false := by
            simp [Value.isInt, z]
          simp only [z1, decide_eq_false z]
          exact ih
      | _ => cases h1
    | _ => cases h1
theorem deedAll_keys {K : PySem.W.Frag} : ∀ {qs : List (Int × Str)} {es : List DictEntry}, deedAll K qs es = true → ∀ e ∈ es, ∃ i t, e.key = .int i t ∧ e.hash = hashInt i
  | [], [], _ => fun e he => by cases he
  | [], _ :: _, h => by cases h
  | _ :: _, [], h => by cases h
  | q :: qs, e :: es, h => fun x hx => by
    obtain ⟨h1, h2⟩ := He.ba (show (deedOne K q e && deedAll K qs es) = true from h)
    rcases List.mem_cons.mp hx with rfl | hx
    · obtain ⟨hs, ek, ev⟩ := x
      unfold deedOne at h1
      cases ek with
      | int i t =>
        cases ev with
        | ref a =>
          obtain ⟨h3, h4⟩ := He.ba h1
          obtain ⟨h5, h6⟩ := He.ba h4
          have e3 : i = q.1 := of_decide_eq_true h3
          exact ⟨i, t, rfl, by rw [e3]; exact of_decide_eq_true h5⟩
        | _ => cases h1
      | _ => cases h1
    · exact deedAll_keys h2 x hx
theorem deeds_map {K : PySem.W.Frag} {h : Heap} {prog : Program} {w : World} (X : K.In h) (d : deedsB K = true) :
    (He.ga K "DEEDS" == sysModules) = false ∧ h.MapOf (intKind prog w) (He.ga K "DEEDS") (fun op => (deedNm op).map fun x => Value.ref (He.ga K x)) := by
  unfold deedsB at d
  cases q : K.lookup (He.ga K "DEEDS") with
  | none =>
    rw [q] at d
    cases d
  | some o =>
    obtain ⟨oc, od, dt, osl⟩ := o
    rw [q] at d
    cases oc with
    | type c =>
      cases od with
      | none =>
        cases dt with
        | dict es n =>
          obtain ⟨h1, h2⟩ := He.ba d
          obtain ⟨h3, h4⟩ := He.ba h2
          obtain ⟨h5, h6⟩ := He.ba h4
          have e1 : c = "dict" := of_decide_eq_true h1
          have e3 : osl = #[] := Array.isEmpty_iff.mp h3
          subst e1 e3
          refine ⟨by cases z : (He.ga K "DEEDS" == sysModules) with | false => rfl | true => (rw [z] at h5; cases h5), _, es, n, X _ _ q, ⟨rfl, rfl, rfl⟩, rfl, fun e he => ?_, fun op => ?_⟩
          · obtain ⟨i, t, k1, k2⟩ := deedAll_keys h6 e (Array.mem_toList_iff.mpr he)
            exact ⟨i, by rw [k1]; exact intKind_is prog w i t, k2⟩
          · have z := deedAll_find op h6
            show (es.find? fun e => Value.isInt op e.key).map (·.val) = _
            rw [← Array.find?_toList, z]
            show _ = (Option.map (fun x => Value.ref (He.ga K x)) (Option.map (fun x => x.2) (List.find? (fun q => decide (q.1 = op)) deedsL)))
            rw [Option.map_map] <;> rfl
        | _ => cases d
      | some a => cases dt <;> cases d
    | _ => cases od <;> cases dt <;> cases d
def rInDeeds (K : PySem.W.Frag) : R2 := fun x y H Q => ∃ op, x = .int op ∧ y = .ref (He.ga K "DEEDS") ∧ Q (.bl (deedNm op).isSome) H
def rIxDeeds (K : PySem.W.Frag) : R2 := fun x y H Q => ∃ op z, x = .ref (He.ga K "DEEDS") ∧ y = .int op ∧ deedNm op = some z ∧ Q (.ref (He.ga K z)) H
theorem op_inDeeds {X : Cx} (d : deedsB X.K = true) : OpR X (compareOp .In) (rInDeeds X.K) := by
  intro pins s σ H x y v u Q I rx ry h
  obtain ⟨op, rfl, rfl, q⟩ := h
  obtain ⟨t, rfl⟩ := (show ∃ t, v = Value.int op t from rx)
  obtain rfl : u = Value.ref (He.ga X.K "DEEDS") := ry
  obtain ⟨lo, hm⟩ := deeds_map (prog := X.prog) (w := X.w) I.kIn d
  refine wpAny_in_of (intKind_is X.prog X.w op t) lo hm ⟨.bl (deedNm op).isSome, H, I.tok _, ?_, q⟩
  cases deedNm op <;> rfl
theorem ix_deeds {X : Cx} (d : deedsB X.K = true) : IxR X (rIxDeeds X.K) := by
  intro value slice pins s σ H x y v u Q I rx ry h hs
  obtain ⟨op, z, rfl, rfl, e, q⟩ := h
  obtain rfl : v = Value.ref (He.ga X.K "DEEDS") := rx
  obtain ⟨t, rfl⟩ := (show ∃ t, u = Value.int op t from ry)
  obtain ⟨lo, hm⟩ := deeds_map (prog := X.prog) (w := X.w) I.kIn d
  exact tail_any hm.typeIs slot_dict_getitem.lookup (wpAny_getItem_of (intKind_is X.prog X.w op t) hm (by rw [e] <;> rfl) ⟨.ref (He.ga X.K z), H, I.tok _, rfl, q⟩) hs
def tCallH (P : Program) (w : World) (K : PySem.W.Frag) (mg : Str → Option Value) (base : Heap) (k i : Nat) (t : TA) : TE := fun σ H Q => ∃ f ps sp, σ[i]? = some (some (.ref f)) ∧ Kept P w K mg base k f ps sp ∧ t σ H fun vs H1 => sp vs H1 Q E0
theorem pe_callH {X : Cx} {k i : Nat} {x : Str} {p pos : Pos} {e : Expr} {es : List Expr} {t : TA} (hr : Room k X.A) (hN : X.N[i]? = some x) (hv : Vis X.env.scope x) (ha : PA X (e :: es) t)
    (hdb : (x == ("__debug__" : Str)) = false := by decide) (hcd : (x == ("__classdict__" : Str)) = false := by decide)
    (he : starEach (e :: es) X.env = (false, eval e X.env) :: starEach es X.env := by rfl) (hpl : (backTo pos (starEach es X.env)).any (·.1) = false := by rfl) : PE X (.Call (.Name x p) (e :: es) [] pos) (tCallH X.prog X.w X.K X.mg X.base k i t) := by
  refine ⟨fun pins s σ H Q I h => ?_⟩
  obtain ⟨f, ps, sp, hs, hG, ht⟩ := h
  obtain ⟨fd, F, hk, hb⟩ := hG.ex
  have ht' : t σ H fun vs H1 => sp (vs ++ []) H1 Q E0 := by simpa only [List.append_nil] using ht
  exact (pe_callL (dvs := []) F hr hN hv hk hb .nil pass0 ha hdb hcd he hpl).run pins s σ H Q I ⟨hs, ht'⟩
structure KeptK (P : Program) (w : World) (K : PySem.W.Frag) (mg : Str → Option Value) (base : Heap) (k : Nat) (f : Addr) (ps : List Str) (n : Nat) (ks : List Str) (sp : Sp) : Prop where
  ex : ∃ fd, FnOk P w K mg base CX0 k f fd ps sp ∧ PySem.W.keepIn K (.ref f) = true ∧ KBn K fd ps n ks (fun us ws => us ++ ws) (fun vs zs => vs ++ zs)
section
variable {X : Cx} {k n : Nat} {f C : Addr} {ps ks : List Str} {sp : Sp} {x m : Str} {p pos apos : Pos} {e o : Expr} {es : List Expr} {kws : List Keyword} {ta : TE} {t tk : TA}
theorem pe_fnK (G : KeptK X.prog X.w X.K X.mg X.base k f ps n ks sp) (hr : Room k X.A) (hg : Gl X x) (hm : X.mg x = some (.ref f)) (ha : PA X (e :: es) t) (hkw : PK X kws tk)
    (hall : (backToKw pos (keywordEach kws X.env)).all (·.1.isSome) = true := by rfl) (hks : (backToKw pos (keywordEach kws X.env)).filterMap (·.1) = ks := by rfl) (hdb : (x == ("__debug__" : Str)) = false := by decide)
    (he : starEach (e :: es) X.env = (false, eval e X.env) :: starEach es X.env := by rfl) (hpl : ((backTo pos (starEach (e :: es) X.env)).any (·.1) || (backToKw pos (keywordEach kws X.env)).any (·.1.isNone)) = false := by rfl) :
    PE X (.Call (.Name x p) (e :: es) kws pos) (tCallN n ks.length sp (fun vs zs => vs ++ zs) E0 t tk) := by
  obtain ⟨fd, F, hk, hb⟩ := G.ex
  exact pe_callN F hr hg hm hk hb pass0 ha hkw hall hks hdb he hpl
def tMethK (C : Addr) (m : Str) (n' : Nat) (sp : Sp) (ta : TE) (tk : TA) : TE := fun σ H Q => ta σ H fun x H1 => ∃ a dx fs, x = .ref a ∧ H1 a = some (.ins C dx fs) ∧ fs.lookup m = none ∧ tk σ H1 fun zs H2 => zs.length = n' ∧ sp (x :: zs) H2 Q E0
/-- o.m(k = v, ..) -/
theorem pe_mtK {pl : Sem Bool} (G : KeptK X.prog X.w X.K X.mg X.base k f ps 1 ks sp) (he : PE X o ta) (c : Cls X.K C) (hm : Meth X.K C m f) (hr : Room k X.A) (hkw : PK X kws tk)
    (hall : (backToKw pos (keywordEach kws X.env)).all (·.1.isSome) = true := by rfl) (hks : (backToKw pos (keywordEach kws X.env)).filterMap (·.1) = ks := by rfl)
    (hpl : ((backTo pos (starEach [] X.env)).any (·.1) || (backToKw pos (keywordEach kws X.env)).any (·.1.isNone)) = false := by rfl)
    (ht : eval (.Call (.Attribute o m apos) [] kws pos) X.env = (do
      let ov ← eval o X.env
      standAt apos.atName
      let (f, first) ← holding [ov] (getMethod ov m pl)
      callWith pos f first (backTo pos (starEach [] X.env)) (backToKw pos (keywordEach kws X.env))) := by rfl) : PE X (.Call (.Attribute o m apos) [] kws pos) (tMethK C m ks.length sp ta tk) := by
  obtain ⟨fd, F, hk, hb⟩ := G.ex
  refine ⟨fun pins s σ H Q I h => ?_⟩
  refine PySem.W.methodCall_KW (pl := pl) (thn (he.run pins s σ H _ I h) fun u s1 ⟨x, H1, I1, rx, a, dx, fs, ex, ea, l, q⟩ => ?_) ht
  subst ex
  obtain rfl : u = Value.ref a := rx
  refine getmeth_ok I1 ea c hm l ?_
  refine PySem.W.callWith_KW0 (first := [.ref a]) (h₀ := X.base) I.ok.mod.kin hm.kp hall ?_ hpl
  refine thn (hkw.run pos pins s1 σ H1 _ I1 q) fun ws s2 ⟨zs, H2, I2, rz, l2, q2⟩ => ⟨I2.kIn, ?_⟩
  rw [hks]
  exact run_fnN (us := [.ref a]) (vs := [.ref a]) F hr hb pass0 I2 (.cons rfl .nil) rz rfl l2 q2
end
end Pk
namespace Pk
open PySem PySem.Spec PyProof.Rows L2
section
variable {X : Cx} {k : Nat} {f C : Addr} {ps : List Str} {sp : Sp} {x : Str} {p pos : Pos} {e : Expr} {es : List Expr} {t : TA}
theorem pe_mk (G : Kept X.prog X.w X.K X.mg X.base k f ps sp) (M : Mk X.K C f) (hr : Room (k + 1) X.A) (hg : Gl X x) (hm : X.mg x = some (.ref C)) (ha : PA X (e :: es) t) (hdb : (x == ("__debug__" : Str)) = false := by decide)
    (he : starEach (e :: es) X.env = (false, eval e X.env) :: starEach es X.env := by rfl) (hpl : (backTo pos (starEach es X.env)).any (·.1) = false := by rfl) : PE X (.Call (.Name x p) (e :: es) [] pos) (tMake C sp [] E0 t) := by
  obtain ⟨fd, F, hk, hb⟩ := G.ex
  exact pe_make M F hr hg hm hb .nil pass0 ha hdb he hpl
end
theorem deed_none {op : Int} (h : deedNm op = none) (M : Mac) (a : Int) (c : Cfg) : doOp M op a c = if 97 ≤ op ∧ op ≤ 122 then dLetter op c else if 65 ≤ op ∧ op ≤ 90 then dName op c else c := by
  unfold deedNm at h
  rw [Option.map_eq_none_iff, List.find?_eq_none] at h
  have z : ∀ q ∈ deedsL, ¬ op = q.1 := fun q hq e => h q hq (decide_eq_true e.symm)
  simp only [deedsL, List.mem_cons, List.not_mem_nil, or_false, forall_eq_or_imp, forall_eq] at z
  obtain ⟨z35, z43, z45, z42, z60, z126, z64, z33, z61, z44, z94, z46, z38, z95, z34, z92, z63, z40, z36, z41⟩ := z
  unfold doOp
  rw [if_neg z35, if_neg z43, if_neg z45, if_neg z42, if_neg z60, if_neg z126, if_neg z64, if_neg z33, if_neg z61, if_neg z44, if_neg z94, if_neg z46, if_neg z38, if_neg z95, if_neg z34, if_neg z92, if_neg z63, if_neg z40, if_neg z36, if_neg z41]
section
variable {P : Program} {w : World} {K : PySem.W.Frag} {mg : Str → Option Value} {base : Heap}
theorem deed_all (T : Txt w K mg) {op : Int} {z : Str} (h : deedNm op = some z) : ∃ ps f', Kept P w K mg base 2 (He.ga K z) ps (sp_deed K f') ∧ ∀ M a c, doOp M op a c = f' M a c := by
  by_cases o : op = 35
  · subst o
    cases (show z = "_push" from Option.some.inj (h.symm.trans (by decide +kernel)))
    exact ⟨_, _, (ok_push T).mono (by decide), fun M a c => by simp [doOp]⟩
  by_cases o : op = 43
  · subst o
    cases (show z = "_plus" from Option.some.inj (h.symm.trans (by decide +kernel)))
    exact ⟨_, _, (ok_plus T).mono (by decide), fun M a c => by simp [doOp]⟩
  by_cases o : op = 45
  · subst o
    cases (show z = "_minus" from Option.some.inj (h.symm.trans (by decide +kernel)))
    exact ⟨_, _, (ok_minus T).mono (by decide), fun M a c => by simp [doOp]⟩
  by_cases o : op = 42
  · subst o
    cases (show z = "_digit" from Option.some.inj (h.symm.trans (by decide +kernel)))
    exact ⟨_, _, (ok_digit T).mono (by decide), fun M a c => by simp [doOp]⟩
  by_cases o : op = 60
  · subst o
    cases (show z = "_less" from Option.some.inj (h.symm.trans (by decide +kernel)))
    exact ⟨_, _, (ok_less T).mono (by decide), fun M a c => by simp [doOp]⟩
  by_cases o : op = 126
  · subst o
    cases (show z = "_same" from Option.some.inj (h.symm.trans (by decide +kernel)))
    exact ⟨_, _, (ok_same T).mono (by decide), fun M a c => by simp [doOp]⟩
  by_cases o : op = 64
  · subst o
    cases (show z = "_load" from Option.some.inj (h.symm.trans (by decide +kernel)))
    exact ⟨_, _, (ok_load T).mono (by decide), fun M a c => by simp [doOp]⟩
  by_cases o : op = 33
  · subst o
    cases (show z = "_keep" from Option.some.inj (h.symm.trans (by decide +kernel)))
    exact ⟨_, _, (ok_keep T).mono (by decide), fun M a c => by simp [doOp]⟩
  by_cases o : op = 61
  · subst o
    cases (show z = "_assign" from Option.some.inj (h.symm.trans (by decide +kernel)))
    exact ⟨_, _, (ok_assign T).mono (by decide), fun M a c => by simp [doOp]⟩
  by_cases o : op = 44
  · subst o
    cases (show z = "_take" from Option.some.inj (h.symm.trans (by decide +kernel)))
    exact ⟨_, _, (ok_take T).mono (by decide), fun M a c => by simp [doOp]⟩
  by_cases o : op = 94
  · subst o
    cases (show z = "_rewind" from Option.some.inj (h.symm.trans (by decide +kernel)))
    exact ⟨_, _, (ok_rewind T).mono (by decide), fun M a c => by simp [doOp]⟩
  by_cases o : op = 46
  · subst o
    cases (show z = "_emit" from Option.some.inj (h.symm.trans (by decide +kernel)))
    exact ⟨_, _, (ok_emit T).mono (by decide), fun M a c => by simp [doOp]⟩
  by_cases o : op = 38
  · subst o
    cases (show z = "_cell" from Option.some.inj (h.symm.trans (by decide +kernel)))
    exact ⟨_, _, (ok_cell T).mono (by decide), fun M a c => by simp [doOp]⟩
  by_cases o : op = 95
  · subst o
    cases (show z = "_drop" from Option.some.inj (h.symm.trans (by decide +kernel)))
    exact ⟨_, _, (ok_drop T).mono (by decide), fun M a c => by simp [doOp]⟩
  by_cases o : op = 34
  · subst o
    cases (show z = "_double" from Option.some.inj (h.symm.trans (by decide +kernel)))
    exact ⟨_, _, (ok_double T).mono (by decide), fun M a c => by simp [doOp]⟩
  by_cases o : op = 92
  · subst o
    cases (show z = "_exchange" from Option.some.inj (h.symm.trans (by decide +kernel)))
    exact ⟨_, _, (ok_exchange T).mono (by decide), fun M a c => by simp [doOp]⟩
  by_cases o : op = 63
  · subst o
    cases (show z = "_test" from Option.some.inj (h.symm.trans (by decide +kernel)))
    exact ⟨_, _, (ok_test T).mono (by decide), fun M a c => by simp [doOp]⟩
  by_cases o : op = 40
  · subst o
    cases (show z = "_call" from Option.some.inj (h.symm.trans (by decide +kernel)))
    exact ⟨_, _, (ok_call T).mono (by decide), fun M a c => by simp [doOp]⟩
  by_cases o : op = 36
  · subst o
    cases (show z = "_call_low" from Option.some.inj (h.symm.trans (by decide +kernel)))
    exact ⟨_, _, (ok_call_low T).mono (by decide), fun M a c => by simp [doOp]⟩
  by_cases o : op = 41
  · subst o
    cases (show z = "_return" from Option.some.inj (h.symm.trans (by decide +kernel)))
    exact ⟨_, _, (ok_return T).mono (by decide), fun M a c => by simp [doOp]⟩
  have q : deedNm op = none := by
    unfold deedNm
    rw [Option.map_eq_none_iff, List.find?_eq_none]
    intro q hq e
    have e := of_decide_eq_true e
    simp only [deedsL, List.mem_cons, List.not_mem_nil, or_false] at hq
    rcases hq with rfl | rfl | rfl | rfl | rfl | rfl | rfl | rfl | rfl | rfl | rfl | rfl | rfl | rfl | rfl | rfl | rfl | rfl | rfl | rfl <;> (simp only at e; omega)
  rw [q] at h
  cases h
def sp_S_step (K : PySem.W.Frag) : Sp := mkSp (α := MS) (fun a => [.ref a.l.p]) (fun a H => MAt (cS K) a.M a.l a.c a.n a.b H ∧ a.b ≤ 100000)
  (fun a H v H' => (match stepC a.M a.c with
    | none => v = .bl false ∧ MAt (cS K) a.M a.l a.c a.n a.b H'
    | some c' => v = .bl true ∧ ∃ n', MAt (cS K) a.M a.l c' n' (a.b + 2) H') ∧ Fr a.l.wr H H')
def sp_S_has_ended (K : PySem.W.Frag) : Sp := mkSp (α := MS) (fun a => [.ref a.l.p]) (fun a H => MAt (cS K) a.M a.l a.c a.n a.b H) (fun a H v H' => v = .bl (decide (a.M.tab a.c.at_ = none)) ∧ H' = H)
variable {M : Mac} {l : ML} {c : Cfg} {n : Int} {b i : Nat} {σ : L2.St} {H : Hp} {D : Ends} {Q : VK} {te ta tb : TE} {t1 t2 : TS} {r : R2} {tt : TT}
theorem asgR {g : TG} (h : te σ H fun x H1 => g x σ H1 D.nx) : tAsg te g D σ H := h
theorem dgetR (h : ta σ H fun x H1 => tb σ H1 fun y H2 => ∃ a v, x = .ref a ∧ DGet H2 a y (some v) ∧ Q v H2) : tDGet ta tb σ H Q := h
theorem dget2R {tc : TE} (h : ta σ H fun x H1 => ∃ a, x = .ref a ∧ IsD H1 a ∧ tb σ H1 fun y H2 => tc σ H2 fun z H3 => ∃ o, DGet H3 a y o ∧ Q (o.getD z) H3) : tDGet2 ta tb tc σ H Q := h
theorem tab_cases (h : MAt (cS K) M l c n b H) (z : Int) : ∃ kvs : List (Key × V), H l.tb = some (.dK kvs) ∧ ((M.tab z = none ∧ valV kvs (Sum.inl z) = none) ∨ ∃ o a s p, M.tab z = some (o, a, s) ∧ valV kvs (Sum.inl z) = some (.ref p) ∧ H p = some (.tup [.int o, .int a, .int s])) := by
  obtain ⟨kvs, e, q⟩ := h.tb
  exact ⟨kvs, e, q z⟩
theorem ok_S_has_ended (T : Txt w K mg) : Kept P w K mg base 1 (He.ma K (cS K) "has_ended") ps_S_has_ended (sp_S_has_ended K) := by
  obtain ⟨fd, F⟩ := fd_S_has_ended T
  refine ⟨fd, F.ok sc_S_has_ended (fun vs H Q E ⟨a, e, _⟩ => by rw [e] <;> rfl) (fun cdv A outer s H vs Q E hr h => ?_), F.kp, bd_S_has_ended F⟩
  obtain ⟨⟨M, l, c, n, b⟩, rfl, h, k⟩ := h
  replace h : MAt (cS K) M l c n b H := h
  replace k : ∀ v H', v = .bl (decide (M.tab c.at_ = none)) ∧ H' = H → Q v H' := k
  refine ⟨_, PSs.nox (pss_one (ps_ret (pe_cmp (pc_dnotin (hu_of hr) (pe_fld (pv 0) rfl) (pe_fld (pv 0) rfl))))), ?_⟩
  refine retR (?_ : tDNotIn _ _ _ _ _)
  obtain ⟨kvs, e, q⟩ := tab_cases h c.at_
  refine (fAt T (i := 0) rfl h (fTab T (i := 0) rfl h ⟨l.tb, _, rfl, DGet.k (k := Sum.inl c.at_) e, k _ _ ⟨?_, rfl⟩⟩))
  rcases q with ⟨q1, q2⟩ | ⟨o, a, s', p', q1, q2, _⟩
  · rw [q2, q1]; rfl
  · rw [q2, q1]; rfl
theorem ok_S_step (T : Txt w K mg) : Kept P w K mg base 3 (He.ma K (cS K) "step") ps_S_step (sp_S_step K) := by
  obtain ⟨fd, F⟩ := fd_S_step T
  refine ⟨fd, F.ok sc_S_step (fun vs H Q E ⟨a, e, _⟩ => by rw [e] <;> rfl) (fun cdv A outer s H vs Q E hr h => ?_), F.kp, bd_S_step F⟩
  obtain ⟨⟨M, l, c, n, b⟩, rfl, ⟨h, hb⟩, k⟩ := h
  replace h : MAt (cS K) M l c n b H := h
  replace hb : b ≤ 100000 := hb
  replace k : ∀ v H', (match stepC M c with
    | none => v = .bl false ∧ MAt (cS K) M l c n b H'
    | some c' => v = .bl true ∧ ∃ n', MAt (cS K) M l c' n' (b + 2) H') ∧ Fr l.wr H H' → Q v H' := k
  refine ⟨_, PSs.nox (pss_cons (ps_if (pt_cmp (pc_dnotin (hu_of hr) (pe_fld (pv 0) rfl) (pe_fld (pv 0) rfl))) (pss_one (ps_ret pe_bl)) pss_nil)
    (pss_cons (ps_asg (pe_dget (hu_of hr) (pe_fld (pv 0) rfl) (pe_fld (pv 0) rfl) (fun _ _ => rfl)) (pg_tup rfl (pgs_cons (pg_name (i := 1) sc_S_step.nd rfl (Or.inl rfl)) (pgs_cons (pg_name (i := 2) sc_S_step.nd rfl (Or.inl rfl)) (pgs_cons (pg_name (i := 3) sc_S_step.nd rfl (Or.inl rfl)) pgs_nil)))))
    (pss_cons (ps_fld (pv 0) (pv 3) rfl)
    (pss_cons (ps_fldaug (pv 0) pe_int in_add)
    (pss_cons (ps_if (pt_cmpR (op_inDeeds T.deeds) (pv 1) (pe_glob (v := .ref (He.ga K "DEEDS")) rfl (g_DEEDS T) rfl) (by rfl)) (pss_cons (ps_set (i := 4) sc_S_step.nd rfl (Or.inl rfl) (pe_ix (ix_deeds T.deeds) (pe_glob (v := .ref (He.ga K "DEEDS")) rfl (g_DEEDS T) rfl) (pv 1) (fun _ _ => rfl)))
    (pss_one (ps_expr (pe_callH (k := 2) (i := 4) (hr.mono (by decide)) rfl (.inl rfl) (pa_cons (pv 0) (pa_cons (pv 2) pa_nil)))))) (pss_one (ps_if (pt_chain op_le op_le (pe_num rfl (i_FIRST_LETTER T)) (pv 1) (pe_num rfl (i_LAST_LETTER T))) (pss_one (ps_expr (pe_bm PySem.F.plainAttrs_list PySem.F.slot_list_append PySem.F.type_list_append mt_append (pe_fld (pv 0) rfl) (pa_cons (pe_dget2 (hu_of hr) (pe_fld (pv 0) rfl) (pv 1) pe_int ⟨rfl, rfl, rfl, rfl⟩) pa_nil)))) (pss_one (ps_if (pt_chain op_le op_le (pe_num rfl (i_FIRST_CAPITAL T)) (pv 1) (pe_num rfl (i_LAST_CAPITAL T))) (pss_cons (ps_expr (pe_bm PySem.F.plainAttrs_list PySem.F.slot_list_append PySem.F.type_list_append mt_append (pe_fld (pv 0) rfl) (pa_cons (pv 3) pa_nil)))
    (pss_one (ps_fld (pv 0) (pv 1) rfl))) pss_nil)))))
    (pss_one (ps_ret pe_bl))))))), ?_⟩
  obtain ⟨kvs, e, q⟩ := tab_cases h c.at_
  refine seqR (ifR (tbR (?_ : tDNotIn _ _ _ _ _)))
  refine (fAt T (i := 0) rfl h (fTab T (i := 0) rfl h ⟨l.tb, _, rfl, DGet.k (k := Sum.inl c.at_) e, _, rfl, ?_⟩))
  rcases q with ⟨q1, q2⟩ | ⟨op, a, s', p', q1, q2, q3⟩
  · rw [q2]
    refine iteT (k _ _ ⟨?_, Fr.refl _ _⟩)
    rw [stepC_none q1]
    exact ⟨rfl, h⟩
  · rw [q2]
    refine iteF ?_
    rw [stepC_some q1] at k
    replace k : ∀ H', (∃ n', MAt (cS K) M l (doOp M op a { c with at_ := s' }) n' (b + 2) H') → Fr l.wr H H' → Q (.bl true) H' := fun H' z1 z2 => k _ _ ⟨⟨rfl, z1⟩, z2⟩
    dsimp only
    refine seqR (asgR (dgetR (fTab T (i := 0) rfl h (fAt T (i := 0) rfl h ⟨l.tb, .ref p', rfl, by rw [← q2]; exact DGet.k (k := Sum.inl c.at_) e, p', _, rfl, SqT.of q3, rfl, _, _, rfl, _, _, rfl, _, _, rfl, rfl, ?_⟩))))
    refine seqR (sfR (varR (i := 3) rfl (varR (i := 0) rfl (atR T h fun H1 h1 F1 => ?_))))
    refine seqR ⟨_, rfl, l.p, _, l.dx, _, _, rfl, h1.ob, cls_State T, na_State_steps T, lkS_steps _ _ _ _, _, _, rfl, rfl, l.dx, _, h1.ob, lenS _ _ _ _, ?_⟩
    rw [puS_steps]
    have h2 := h1.setOb s' c.plc (n + 1)
    have F2 := F1.wr (o := .ins (cS K) l.dx (flS l s' c.plc (n + 1))) wr_p
    refine seqR (ifR (testR (opR (varR (i := 1) rfl (cR ⟨op, rfl, rfl, _, rfl, ?_⟩)))))
    cases dn : deedNm op with
    | some z =>
      refine iteT ?_
      obtain ⟨ps, f', G, ef⟩ := deed_all (P := P) (base := base) T dn
      refine seqR (setR (opR (cR (varR (i := 1) rfl ⟨op, z, rfl, rfl, dn, ?_⟩))))
      dsimp only
      refine dropR ⟨_, _, _, rfl, G, _, rfl, _, rfl, ⟨⟨M, l, { c with at_ := s' }, n + 1, b⟩, a⟩, rfl, ⟨h2, hb⟩, fun v H3 ⟨h3, F3⟩ => ?_⟩
      exact k _ ⟨n + 1, by rw [ef]; exact h3⟩ (F2.trans F3)
    | none =>
      refine iteF ?_
      rw [deed_none dn] at k
      refine ifR (testR (chainR (cR (varR (i := 1) rfl ⟨_, _, rfl, rfl, _, rfl, ?_⟩))))
      have low : ¬ (97 ≤ op ∧ op ≤ 122) → tIfS (tTest (tChain (rI0 fun i j => V.bl (decide (i ≤ j))) (rI0 fun i j => V.bl (decide (i ≤ j))) (tC (V.int 65)) (tVar 1) (tC (V.int 90)))) (tSeq (tDrop (tBM K "list" rAppend (tFld K (tVar 0) "back") (tCons (tVar 3) tNil))) (sFld K (tVar 0) (tVar 1) "at")) tNext
          { nx := fun _ H' => Q (.bl true) H', rt := Q } [some (.ref l.p), some (.int op), some (.int a), some (.int s'), none] (upd H1 l.p (.ins (cS K) l.dx (flS l s' c.plc (n + 1)))) := fun no => by
        rw [if_neg no] at k
        refine ifR (testR (chainR (cR (varR (i := 1) rfl ⟨_, _, rfl, rfl, _, rfl, ?_⟩))))
        refine ite2 (fun y => ?_) (fun y => ?_)
        · have y1 : 65 ≤ op := of_decide_eq_true y
          refine cR ⟨_, _, rfl, rfl, _, rfl, ?_⟩
          refine ite2 (fun y => ?_) (fun y => ?_)
          · have y2 : op ≤ 90 := of_decide_eq_true y
            rw [if_pos ⟨y1, y2⟩] at k
            refine seqR (bmR (fBck T (i := 0) rfl h2 ⟨.inl ⟨rfl, _, SqL.of h2.ba⟩, varR (i := 3) rfl ?_⟩))
            refine bckE h2 hb fun H3 h3 F3 => ?_
            exact sfR (varR (i := 1) rfl (varR (i := 0) rfl (atR T h3 fun H4 h4 F4 => k _ ⟨_, h4⟩ ((F2.trans F3).trans F4))))
          · rw [if_neg (fun z => y (decide_eq_true z.2))] at k
            exact k _ ⟨_, h2.mono (by omega)⟩ F2
        · rw [if_neg (fun z => y (decide_eq_true z.1))] at k
          exact ⟨_, rfl, iteF (k _ ⟨_, h2.mono (by omega)⟩ F2)⟩
      refine ite2 (fun y => ?_) (fun y => ?_)
      · have y1 : 97 ≤ op := of_decide_eq_true y
        refine cR ⟨_, _, rfl, rfl, _, rfl, ?_⟩
        refine ite2 (fun y => ?_) (fun y => ?_)
        · have y2 : op ≤ 122 := of_decide_eq_true y
          rw [if_pos ⟨y1, y2⟩] at k
          obtain ⟨ks, es, zs, qs⟩ := id h2.so
          refine appR T (i := 0) rfl h2 (dget2R (fSto T (i := 0) rfl h2 ⟨l.so, rfl, .inl ⟨_, .of es⟩, varR (i := 1) rfl (cR ⟨_, DGet.k (k := Sum.inl op) es, ?_⟩)⟩))
          rw [qs]
          exact appE h2 (by have := h2.lst; omega) hb fun H3 h3 F3 => k _ ⟨_, h3⟩ (F2.trans F3)
        · exact low fun z => y (decide_eq_true z.2)
      · exact ⟨_, rfl, iteF (low fun z => y (decide_eq_true z.1))⟩
end
end Pk
namespace Pk
open PySem PySem.Spec PyProof.Rows L2
theorem ite_out {p : Prop} [Decidable p] {A B : Cfg} {n : Nat} (h1 : A.out.length ≤ n) (h2 : B.out.length ≤ n) : (if p then A else B).out.length ≤ n := by
  by_cases h : p
  · rw [if_pos h]; exact h1
  · rw [if_neg h]; exact h2
theorem doOp_out (M : Mac) (op a : Int) (c : Cfg) : (doOp M op a c).out.length ≤ c.out.length + 1 := by
  have hR : (dRet a c).out.length ≤ c.out.length + 1 := by
    unfold dRet
    cases c.bck <;> exact Nat.le_succ _
  have hE : (dEmit a c).out.length ≤ c.out.length + 1 := by
    show (c.out ++ [hd0 c.stk]).length ≤ _
    rw [List.length_append] <;> exact Nat.le_refl _
  have hT : (dTake M a c).out.length ≤ c.out.length + 1 := ite_out (Nat.le_succ _) (Nat.le_succ _)
  have hS : (dTest a c).out.length ≤ c.out.length + 1 := ite_out (Nat.le_succ _) (Nat.le_succ _)
  have hL : (dCallLow M a c).out.length ≤ c.out.length + 1 := ite_out (Nat.le_succ _) (Nat.le_succ _)
  unfold doOp
  repeat' (first | refine ite_out ?_ ?_ | assumption | exact Nat.le_succ _)
theorem runN_out (M : Mac) : ∀ (n : Nat) (c : Cfg), (runN M n c).1.out.length ≤ c.out.length + n
  | 0, c => Nat.le_refl _
  | n + 1, c => by
    show (match stepC M c with | none => (c, 0) | some c' => ((runN M n c').1, (runN M n c').2 + 1)).1.out.length ≤ _
    cases e : stepC M c with
    | none => exact Nat.le_add_right _ _
    | some c' =>
      have h1 := runN_out M n c'
      have h2 : c'.out.length ≤ c.out.length + 1 := by
        unfold stepC at e
        cases q : M.tab c.at_ with
        | none => rw [q] at e; cases e
        | some v =>
          obtain ⟨op, a, s⟩ := v
          rw [q] at e
          rw [← Option.some.inj e]
          exact doOp_out M op a { c with at_ := s }
      show (runN M n c').1.out.length ≤ _
      omega
/-- what a call with keyword-only parameters and no defaults binds -/
theorem kbn {K : PySem.W.Frag} {fd : FuncData} {ps ks : List Str} {n : Nat} (h : ∀ (s : Shared) (us ws : List Value), K.In s.heap → us.length = n → ws.length = ks.length → BindsTo s fd ⟨us, ks.zip ws⟩ (ps.zip (us ++ ws))) : KBn K fd ps n ks (fun us ws => us ++ ws) (fun vs zs => vs ++ zs) :=
  ⟨h, fun r1 r2 => r1.append r2⟩
section
variable {P : Program} {w : World} {K : PySem.W.Frag} {mg : Str → Option Value} {base : Heap}
variable {M : Mac} {l : ML} {c : Cfg} {n : Int} {b i : Nat} {σ : L2.St} {H : Hp} {D : Ends} {Q : VK} {te ta tb : TE} {t1 t2 : TS} {r : R2} {tt : TT}
theorem nxR {f : L2.St → Hp → Prop} {rt : VK} {bk ct : L2.St → Hp → Prop} (h : f σ H) : (Ends.mk f rt bk ct).nx σ H := h
def sp_S_advance (K : PySem.W.Frag) : Sp := mkSp (α := MS × Nat) (fun a => [.ref a.1.l.p, .int a.2]) (fun a H => MAt (cS K) a.1.M a.1.l a.1.c a.1.n a.1.b H ∧ a.1.b + 2 * a.2 ≤ 100000)
  (fun a H v H' => v = .int (runN a.1.M a.2 a.1.c).2 ∧ (∃ n' b', MAt (cS K) a.1.M a.1.l (runN a.1.M a.2 a.1.c).1 n' b' H') ∧ Fr a.1.l.wr H H')
theorem bk_S_advance {f : Addr} {fd : FuncData} (F : FunD K "advance" "State.advance" (defArgs s_S_advance) (defBody s_S_advance) (defScope s_S_advance) [] [] f fd) : KBn K fd ps_S_advance 1 ["fuel"] (fun us ws => us ++ ws) (fun vs zs => vs ++ zs) := by
  obtain ⟨oc, od, dV, kV, doc, pm, an, cdv, ct, osl, rfl, lk, hcd, hD, hK⟩ := F.ex
  rcases hD with ⟨_, rfl⟩ | ⟨e, _⟩
  rotate_left
  · exact absurd rfl e
  exact kbn fun s us ws _ l1 l2 => match us, ws, l1, l2 with
    | [_], [_], _, _ => .of_eq rfl
theorem ok_S_advance (T : Txt w K mg) : KeptK P w K mg base 4 (He.ma K (cS K) "advance") ps_S_advance 1 ["fuel"] (sp_S_advance K) := by
  obtain ⟨fd, F⟩ := fd_S_advance T
  refine ⟨fd, F.ok sc_S_advance (fun vs H Q E ⟨a, e, _⟩ => by rw [e] <;> rfl) (fun cdv A outer s H vs Q E hr h => ?_), F.kp, bk_S_advance F⟩
  obtain ⟨⟨⟨M, l, c, n, b⟩, fuel⟩, rfl, ⟨h, hb⟩, k⟩ := h
  replace h : MAt (cS K) M l c n b H := h
  replace hb : b + 2 * fuel ≤ 100000 := hb
  replace k : ∀ v H', v = .int (runN M fuel c).2 ∧ (∃ n' b', MAt (cS K) M l (runN M fuel c).1 n' b' H') ∧ Fr l.wr H H' → Q v H' := k
  refine ⟨_, PSs.nox (pss_cons (ps_if (pt_cmpR op_lt (pv 1) pe_int (nomark _)) (pss_one ps_never) pss_nil)
    (pss_cons (ps_set (i := 2) sc_S_advance.nd rfl (Or.inl rfl) pe_int)
    (pss_cons (ps_while PassesOwn.never (PW.pt (pw_and (pt_cmpR op_lt (pv 2) (pv 1) (nomark _)) (pw_and1 (pt_val (pe_mt0 (ok_S_step T) (pv 0) (cls_State T) (m_State_step T) (hr.mono (by decide))))))) (pss_one (ps_aug (i := 2) sc_S_advance.nd rfl (Or.inl rfl) pe_int ip_add)))
    (pss_one (ps_ret (pv 2)))))), ?_⟩
  refine seqR (ifR (testR (opR (varR (i := 1) rfl (cR ⟨_, _, rfl, rfl, _, rfl, ?_⟩)))))
  rw [decide_eq_false (show ¬ (fuel : Int) < 0 by omega)]
  refine iteF ?_
  refine nxR (seqR (setR (cR ?_)))
  refine nxR (seqR ?_)
  refine ⟨fun m σ H' => ∃ (i : Nat) (c' : Cfg) (n' : Int) (b' : Nat), σ = [some (.ref l.p), some (.int (fuel : Int)), some (.int (i : Int))] ∧ m = fuel - i ∧ i ≤ fuel ∧ runN M fuel c = ((runN M (fuel - i) c').1, (runN M (fuel - i) c').2 + i) ∧ MAt (cS K) M l c' n' b' H' ∧ b' + 2 * (fuel - i) ≤ 100000 ∧ Fr l.wr H H',
    ⟨fuel, 0, c, n, b, rfl, rfl, Nat.zero_le _, rfl, h, hb, Fr.refl _ _⟩, ?_⟩
  rintro m σ H1 ⟨i, c', n', b', rfl, rfl, hi, er, h1, hb1, F1⟩
  have fin : ∀ H2 : Hp, (runN M (fuel - i) c') = (c', 0) → MAt (cS K) M l c' n' b' H2 → Fr l.wr H1 H2 → Q (.int (i : Int)) H2 := fun H2 e0 h2 F2 => k _ _ ⟨by rw [er, e0]; simp, ⟨n', b', by rw [er, e0]; exact h2⟩, F1.trans F2⟩
  refine andR (testR (opR (varR (i := 2) rfl (varR (i := 1) rfl ⟨_, _, rfl, rfl, _, rfl, ?_⟩))))
  refine ite2 (fun q => ?_) (fun q => ?_)
  · have q1 : i < fuel := by have z := of_decide_eq_true q; omega
    refine tbR ⟨_, rfl, l.p, l.dx, _, rfl, h1.ob, lkS_step _ _ _ _, ⟨M, l, c', n', b'⟩, rfl, ⟨h1, by show b' ≤ 100000; omega⟩, fun v H2 ⟨h2, F2⟩ => ?_⟩
    replace F2 : Fr l.wr H1 H2 := F2
    obtain ⟨j, ej⟩ : ∃ j, fuel - i = j + 1 := ⟨fuel - i - 1, by omega⟩
    cases es : stepC M c' with
    | none =>
      rw [show stepC ({ M := M, l := l, c := c', n := n', b := b' } : MS).M ({ M := M, l := l, c := c', n := n', b := b' } : MS).c = none from es] at h2
      obtain ⟨rfl, h2⟩ := h2
      refine ⟨false, rfl, iteF ?_⟩
      refine ⟨_, rfl, fin H2 ?_ h2 F2⟩
      rw [ej]
      show (match stepC M c' with | none => (c', 0) | some c2 => ((runN M j c2).1, (runN M j c2).2 + 1)) = _
      rw [es]
    | some c2 =>
      rw [show stepC ({ M := M, l := l, c := c', n := n', b := b' } : MS).M ({ M := M, l := l, c := c', n := n', b := b' } : MS).c = some c2 from es] at h2
      obtain ⟨rfl, n2, h2⟩ := h2
      refine ⟨true, rfl, iteT ?_⟩
      refine ⟨fun σ' H' => ∃ m', m' < fuel - i ∧ ∃ (i : Nat) (c' : Cfg) (n' : Int) (b' : Nat), σ' = [some (.ref l.p), some (.int (fuel : Int)), some (.int (i : Int))] ∧ m' = fuel - i ∧ i ≤ fuel ∧ runN M fuel c = ((runN M (fuel - i) c').1, (runN M (fuel - i) c').2 + i) ∧ MAt (cS K) M l c' n' b' H' ∧ b' + 2 * (fuel - i) ≤ 100000 ∧ Fr l.wr H H', fun _ _ z => z, ?_⟩
      refine ⟨_, rfl, _, _, rfl, rfl, fuel - (i + 1), by omega, i + 1, c2, n2, b' + 2, by (show [some (V.ref l.p), some (V.int (fuel : Int)), some (V.int ((i : Int) + 1))] = _); rw [show ((i : Int) + 1) = ((i + 1 : Nat) : Int) by omega], rfl, by omega, ?_, h2, by omega, F1.trans F2⟩
      rw [er, ej, show fuel - (i + 1) = j by omega]
      show ((match stepC M c' with | none => (c', 0) | some c2 => ((runN M j c2).1, (runN M j c2).2 + 1)).1, (match stepC M c' with | none => (c', 0) | some c2 => ((runN M j c2).1, (runN M j c2).2 + 1)).2 + i) = _
      rw [es]
      show ((runN M j c2).1, (runN M j c2).2 + 1 + i) = _
      rw [show (runN M j c2).2 + 1 + i = (runN M j c2).2 + (i + 1) by omega]
  · have q1 : fuel - i = 0 := by
      have z : ¬ ((i : Int) < (fuel : Int)) := fun z => q (decide_eq_true z)
      omega
    refine iteF ?_
    exact ⟨_, rfl, fin H1 (by rw [q1]; rfl) h1 (Fr.refl _ _)⟩
def sp_S_init (K : PySem.W.Frag) : Sp := mkSp (α := (Addr × Addr) × (Addr × List Nd) × (Addr × List Int)) (fun a => [.ref a.1.1, .ref a.2.1.1, .ref a.2.2.1])
  (fun a H => H a.1.1 = some (.ins (cS K) a.1.2 []) ∧ (H a.2.1.1 = some (.lst (ivs (flat a.2.1.2))) ∧ a.2.1.2.length ≤ 2000000) ∧ H a.2.2.1 = some (.lst (ivs a.2.2.2)))
  (fun a H v H' => v = .non ∧ ∃ l : ML, l.p = a.1.1 ∧ MAt (cS K) ⟨flat a.2.1.2, a.2.2.2, tabOf a.2.1.2⟩ l c0 0 0 H' ∧ (∀ x ∈ l.wr, x = a.1.1 ∨ H x = none) ∧ Fr [a.1.1] H H')
theorem pf1 (v : V) : putF "image" v [] = [(("image" : Str), v)] := rfl
theorem pfs (im nu tb at_ st so ba pl ou sp : V) : putF "steps" sp (putF "output" ou (putF "place" pl (putF "back" ba (putF "store" so (putF "stack" st (putF "at" at_ (putF "table" tb (putF "numbers" nu (putF "image" im []))))))))) = ([("image", im), ("numbers", nu), ("table", tb), ("at", at_), ("stack", st), ("store", so), ("back", ba), ("place", pl), ("output", ou), ("steps", sp)] : List (Str × V)) := by kernel_rfl
theorem len_putF {f : Str} {v : V} {fs : List (Str × V)} {n : Nat} (h : fs.length ≤ n) : (putF f v fs).length ≤ n + 1 := Nat.le_trans (length_putF f v fs) (by omega)
theorem ok_S_init (T : Txt w K mg) : Kept P w K mg base 3 (He.ma K (cS K) "__init__") ps_S_init (sp_S_init K) := by
  obtain ⟨fd, F⟩ := fd_S_init T
  refine ⟨fd, F.ok sc_S_init (fun vs H Q E ⟨a, e, _⟩ => by rw [e] <;> rfl) (fun cdv A outer s H vs Q E hr h => ?_), F.kp, bd_S_init F⟩
  obtain ⟨⟨⟨p, dx⟩, ⟨ai, ns⟩, ⟨an, nms⟩⟩, rfl, ⟨hp, ⟨hi, hl⟩, hn⟩, k⟩ := h
  replace hp : H p = some (.ins (cS K) dx []) := hp
  replace hi : H ai = some (.lst (ivs (flat ns))) := hi
  replace hl : ns.length ≤ 2000000 := hl
  replace hn : H an = some (.lst (ivs nms)) := hn
  replace k : ∀ v H', v = .non ∧ (∃ l : ML, l.p = p ∧ MAt (cS K) ⟨flat ns, nms, tabOf ns⟩ l c0 0 0 H' ∧ (∀ x ∈ l.wr, x = p ∨ H x = none) ∧ Fr [p] H H') → Q v H' := k
  refine ⟨_, PSs.nox (pss_cons (ps_fld (pv 0) (pe_callTy call_list_of rfl (f_list T) (by decide +kernel) (pa_cons (pv 1) pa_nil)) rfl)
    (pss_cons (ps_fld (pv 0) (pe_callTy call_list_of rfl (f_list T) (by decide +kernel) (pa_cons (pv 2) pa_nil)) rfl)
    (pss_cons (ps_fld (pv 0) (pe_fn (ok_table_of T) (hr.mono (by decide)) rfl (g_table_of T) (pa_cons (pv 1) pa_nil)) rfl)
    (pss_cons (ps_fld (pv 0) pe_int rfl)
    (pss_cons (ps_fld (pv 0) (pe_lst pa_nil) rfl)
    (pss_cons (ps_fld (pv 0) pe_dnewK rfl)
    (pss_cons (ps_fld (pv 0) (pe_lst pa_nil) rfl)
    (pss_cons (ps_fld (pv 0) pe_int rfl)
    (pss_cons (ps_fld (pv 0) (pe_lst pa_nil) rfl)
    (pss_one (ps_fld (pv 0) pe_int rfl))))))))))), ?_⟩
  have pm : p ∈ [p] := List.mem_singleton.mpr rfl
  have npi : ai ≠ p := ne_of hi hp (by intro z; cases z)
  have npn : an ≠ p := ne_of hn hp (by intro z; cases z)
  have nin : ∀ {x : Addr}, x ≠ p → x ∉ [p] := fun h z => h (List.mem_singleton.mp z)
  -- self.image = list(image)
  refine seqR (sfR (callR (varR (i := 1) rfl ⟨ai, _, rfl, .inl (SqL.of hi), fun im nim => varR (i := 0) rfl ?_⟩)))
  have F1 : Fr [p] H (upd H im (.lst (ivs (flat ns)))) := (Fr.refl _ _).new nim
  have p1 : (upd H im (.lst (ivs (flat ns)))) p = some (.ins (cS K) dx []) := by rw [upd_ne (ne_of_none hp nim)]; exact hp
  have im1 : (upd H im (.lst (ivs (flat ns)))) im = some (.lst (ivs (flat ns))) := upd_same
  generalize upd H im (.lst (ivs (flat ns))) = H1 at F1 p1 im1 ⊢
  have npim : im ≠ p := (ne_of_none hp nim).symm
  refine ⟨p, cS K, dx, _, rfl, p1, cls_State T, na_State_image T, by decide, ?_⟩
  have F2 := F1.wr (o := .ins (cS K) dx (putF "image" (.ref im) [])) pm
  have p2 : (upd H1 p (.ins (cS K) dx (putF "image" (.ref im) []))) p = some (.ins (cS K) dx (putF "image" (.ref im) [])) := upd_same
  have im2 : (upd H1 p (.ins (cS K) dx (putF "image" (.ref im) []))) im = some (.lst (ivs (flat ns))) := by rw [upd_ne npim]; exact im1
  generalize upd H1 p (.ins (cS K) dx (putF "image" (.ref im) [])) = H2 at F2 p2 im2 ⊢
  -- self.numbers = list(numbers)
  have hn2 := F2 _ _ hn (nin npn)
  have hi2 := F2 _ _ hi (nin npi)
  refine nxR (seqR (sfR (callR (varR (i := 2) rfl ⟨an, _, rfl, .inl (SqL.of hn2), fun nu nnu => varR (i := 0) rfl ?_⟩))))
  have G3 : Fr [] H2 (upd H2 nu (.lst (ivs nms))) := (Fr.refl _ _).new nnu
  have nu3 : (upd H2 nu (.lst (ivs nms))) nu = some (.lst (ivs nms)) := upd_same
  have imnu : im ≠ nu := ne_of_none im2 nnu
  have nunone : H nu = none := F2.back nnu (nin (ne_of_none p2 nnu).symm)
  have pnu : nu ≠ p := (ne_of_none p2 nnu).symm
  generalize upd H2 nu (.lst (ivs nms)) = H3 at G3 nu3 ⊢
  refine ⟨p, cS K, dx, _, rfl, G3 _ _ p2 (by simp), cls_State T, na_State_numbers T, Nat.lt_of_le_of_lt (len_putF (n := 0) (Nat.le_refl _)) (by decide), ?_⟩
  have G4 : Fr [p] H2 (upd H3 p (.ins (cS K) dx (putF "numbers" (.ref nu) (putF "image" (.ref im) [])))) := G3.nil.wr pm
  have p4 : (upd H3 p (.ins (cS K) dx (putF "numbers" (.ref nu) (putF "image" (.ref im) [])))) p = some (.ins (cS K) dx (putF "numbers" (.ref nu) (putF "image" (.ref im) []))) := upd_same
  have nu4 : (upd H3 p (.ins (cS K) dx (putF "numbers" (.ref nu) (putF "image" (.ref im) [])))) nu = some (.lst (ivs nms)) := by rw [upd_ne pnu]; exact nu3
  generalize upd H3 p (.ins (cS K) dx (putF "numbers" (.ref nu) (putF "image" (.ref im) []))) = H4 at G4 p4 nu4 ⊢
  have im4 := G4 _ _ im2 (nin npim)
  have hi4 := G4 _ _ hi2 (nin npi)
  have F4 := F2.trans G4
  -- self.table = table_of(image)
  refine nxR (seqR (sfR ?_))
  refine ⟨_, rfl, ⟨ai, ns⟩, rfl, ⟨hi4, by show ns.length ≤ 4000000; omega⟩, ?_⟩
  rintro v H5 ⟨tb, rfl, ntb, tb5, G5⟩
  have tbnone : H tb = none := F4.back ntb (nin (ne_of_none p4 ntb).symm)
  have ptb : tb ≠ p := (ne_of_none p4 ntb).symm
  refine varR (i := 0) rfl ⟨p, cS K, dx, _, rfl, G5 _ _ p4 (by simp), cls_State T, na_State_table T, Nat.lt_of_le_of_lt (len_putF (len_putF (n := 0) (Nat.le_refl _))) (by decide), ?_⟩
  have p5 := G5 _ _ p4 (by simp)
  have G6 : Fr [p] H5 (upd H5 p (.ins (cS K) dx (putF "table" (.ref tb) (putF "numbers" (.ref nu) (putF "image" (.ref im) []))))) := (Fr.refl _ _).wr pm
  have p6 : (upd H5 p (.ins (cS K) dx (putF "table" (.ref tb) (putF "numbers" (.ref nu) (putF "image" (.ref im) []))))) p = some (.ins (cS K) dx (putF "table" (.ref tb) (putF "numbers" (.ref nu) (putF "image" (.ref im) [])))) := upd_same
  have tupp : ∀ {H' : Hp} {q : Addr} {xs : List V} {fs : List (Str × V)}, H' p = some (.ins (cS K) dx fs) → H' q = some (.tup xs) → q ≠ p := fun a b => ne_of b a (by intro z; cases z)
  have tb6 : TabAt (upd H5 p (.ins (cS K) dx (putF "table" (.ref tb) (putF "numbers" (.ref nu) (putF "image" (.ref im) []))))) tb (tabOf ns) := tb5.stay (fun o e => G6 _ _ e (nin ptb)) fun q xs e => G6 _ _ e (nin (tupp p5 e))
  have im6 := G6 _ _ (G5 _ _ im4 (by simp)) (nin npim)
  have nu6 := G6 _ _ (G5 _ _ nu4 (by simp)) (nin pnu)
  have F6 := (F4.trans G5.nil).trans G6
  generalize upd H5 p (.ins (cS K) dx (putF "table" (.ref tb) (putF "numbers" (.ref nu) (putF "image" (.ref im) [])))) = H6 at G6 p6 tb6 im6 nu6 F6 ⊢
  -- self.at = 0
  refine nxR (seqR (sfR (cR (varR (i := 0) rfl ⟨p, cS K, dx, _, rfl, p6, cls_State T, na_State_at T, Nat.lt_of_le_of_lt (len_putF (len_putF (len_putF (n := 0) (Nat.le_refl _)))) (by decide), ?_⟩))))
  have G7 : Fr [p] H6 (upd H6 p (.ins (cS K) dx (putF "at" (.int 0) (putF "table" (.ref tb) (putF "numbers" (.ref nu) (putF "image" (.ref im) [])))))) := (Fr.refl _ _).wr pm
  have p7 : (upd H6 p (.ins (cS K) dx (putF "at" (.int 0) (putF "table" (.ref tb) (putF "numbers" (.ref nu) (putF "image" (.ref im) [])))))) p = some (.ins (cS K) dx (putF "at" (.int 0) (putF "table" (.ref tb) (putF "numbers" (.ref nu) (putF "image" (.ref im) []))))) := upd_same
  generalize upd H6 p (.ins (cS K) dx (putF "at" (.int 0) (putF "table" (.ref tb) (putF "numbers" (.ref nu) (putF "image" (.ref im) []))))) = H7 at G7 p7 ⊢
  -- self.stack = []
  refine nxR (seqR (sfR ⟨by show 0 ≤ sizeLine; decide, fun st nst => varR (i := 0) rfl ?_⟩))
  have G8 : Fr [p] H7 (upd H7 st (.lst [])) := (Fr.refl _ _).new nst
  have pst : st ≠ p := (ne_of_none p7 nst).symm
  have F7 := F6.trans G7
  have stnone : H st = none := F7.back nst (nin pst)
  have st8 : (upd H7 st (.lst [])) st = some (.lst []) := upd_same
  have p8 : (upd H7 st (.lst [])) p = some (.ins (cS K) dx (putF "at" (.int 0) (putF "table" (.ref tb) (putF "numbers" (.ref nu) (putF "image" (.ref im) []))))) := by rw [upd_ne pst.symm]; exact p7
  have im7 := G7 _ _ im6 (nin npim)
  have nu7 := G7 _ _ nu6 (nin pnu)
  have tb7 : TabAt H7 tb (tabOf ns) := tb6.stay (fun o e => G7 _ _ e (nin ptb)) fun q xs e => G7 _ _ e (nin (tupp p6 e))
  have imst := ne_of_none im7 nst
  have nust := ne_of_none nu7 nst
  generalize upd H7 st (.lst []) = H8 at G8 st8 p8 ⊢
  refine ⟨p, cS K, dx, _, rfl, p8, cls_State T, na_State_stack T, Nat.lt_of_le_of_lt (len_putF (len_putF (len_putF (len_putF (n := 0) (Nat.le_refl _))))) (by decide), ?_⟩
  generalize eA : putF "stack" (.ref st) (putF "at" (.int 0) (putF "table" (.ref tb) (putF "numbers" (.ref nu) (putF "image" (.ref im) [])))) = fsA
  have lA : fsA.length ≤ 5 := by rw [← eA]; exact len_putF (len_putF (len_putF (len_putF (len_putF (n := 0) (Nat.le_refl _)))))
  have G9 : Fr [p] H7 (upd H8 p (.ins (cS K) dx fsA)) := G8.wr pm
  have p9 : (upd H8 p (.ins (cS K) dx fsA)) p = some (.ins (cS K) dx fsA) := upd_same
  have st9 : (upd H8 p (.ins (cS K) dx fsA)) st = some (.lst []) := by rw [upd_ne pst]; exact st8
  generalize upd H8 p (.ins (cS K) dx fsA) = H9 at G9 p9 st9 ⊢
  -- self.store = {}
  refine nxR (seqR (sfR fun so nso => varR (i := 0) rfl ?_))
  have F9 := F7.trans G9
  have pso : so ≠ p := (ne_of_none p9 nso).symm
  have sonone : H so = none := F9.back nso (nin pso)
  have im9 := G9 _ _ im7 (nin npim)
  have nu9 := G9 _ _ nu7 (nin pnu)
  have tb9 : TabAt H9 tb (tabOf ns) := tb7.stay (fun o e => G9 _ _ e (nin ptb)) fun q xs e => G9 _ _ e (nin (tupp p7 e))
  have tbso : tb ≠ so := by obtain ⟨kv, ek, _⟩ := tb9; exact ne_of_none ek nso
  have G10 : Fr [p] H9 (upd H9 so (.dK [])) := (Fr.refl _ _).new nso
  have p10 : (upd H9 so (.dK [])) p = some (.ins (cS K) dx fsA) := by rw [upd_ne pso.symm]; exact p9
  have so10 : (upd H9 so (.dK [])) so = some (.dK []) := upd_same
  generalize upd H9 so (.dK []) = H10 at G10 p10 so10 ⊢
  refine ⟨p, cS K, dx, _, rfl, p10, cls_State T, na_State_store T, by omega, ?_⟩
  generalize eB : putF "store" (.ref so) fsA = fsB
  have lB : fsB.length ≤ 6 := by rw [← eB]; exact len_putF lA
  have G11 : Fr [p] H9 (upd H10 p (.ins (cS K) dx fsB)) := G10.wr pm
  have p11 : (upd H10 p (.ins (cS K) dx fsB)) p = some (.ins (cS K) dx fsB) := upd_same
  have so11 : (upd H10 p (.ins (cS K) dx fsB)) so = some (.dK []) := by rw [upd_ne pso]; exact so10
  generalize upd H10 p (.ins (cS K) dx fsB) = H11 at G11 p11 so11 ⊢
  have F11 := F9.trans G11
  have im11 := G11 _ _ im9 (nin npim)
  have nu11 := G11 _ _ nu9 (nin pnu)
  have st11 := G11 _ _ st9 (nin pst)
  have tb11 : TabAt H11 tb (tabOf ns) := tb9.stay (fun o e => G11 _ _ e (nin ptb)) fun q xs e => G11 _ _ e (nin (tupp p9 e))
  -- self.back = []
  refine nxR (seqR (sfR ⟨by show 0 ≤ sizeLine; decide, fun ba nba => varR (i := 0) rfl ?_⟩))
  have pba : ba ≠ p := (ne_of_none p11 nba).symm
  have banone : H ba = none := F11.back nba (nin pba)
  have imba := ne_of_none im11 nba
  have nuba := ne_of_none nu11 nba
  have stba := ne_of_none st11 nba
  have G12 : Fr [p] H11 (upd H11 ba (.lst [])) := (Fr.refl _ _).new nba
  have p12 : (upd H11 ba (.lst [])) p = some (.ins (cS K) dx fsB) := by rw [upd_ne pba.symm]; exact p11
  have ba12 : (upd H11 ba (.lst [])) ba = some (.lst []) := upd_same
  generalize upd H11 ba (.lst []) = H12 at G12 p12 ba12 ⊢
  refine ⟨p, cS K, dx, _, rfl, p12, cls_State T, na_State_back T, by omega, ?_⟩
  generalize eC : putF "back" (.ref ba) fsB = fsC
  have lC : fsC.length ≤ 7 := by rw [← eC]; exact len_putF lB
  have G13 : Fr [p] H11 (upd H12 p (.ins (cS K) dx fsC)) := G12.wr pm
  have p13 : (upd H12 p (.ins (cS K) dx fsC)) p = some (.ins (cS K) dx fsC) := upd_same
  have ba13 : (upd H12 p (.ins (cS K) dx fsC)) ba = some (.lst []) := by rw [upd_ne pba]; exact ba12
  generalize upd H12 p (.ins (cS K) dx fsC) = H13 at G13 p13 ba13 ⊢
  -- self.place = 0
  refine nxR (seqR (sfR (cR (varR (i := 0) rfl ⟨p, cS K, dx, _, rfl, p13, cls_State T, na_State_place T, by omega, ?_⟩))))
  generalize eD : putF "place" (.int 0) fsC = fsD
  have lD : fsD.length ≤ 8 := by rw [← eD]; exact len_putF lC
  have G14 : Fr [p] H13 (upd H13 p (.ins (cS K) dx fsD)) := (Fr.refl _ _).wr pm
  have p14 : (upd H13 p (.ins (cS K) dx fsD)) p = some (.ins (cS K) dx fsD) := upd_same
  generalize upd H13 p (.ins (cS K) dx fsD) = H14 at G14 p14 ⊢
  have ba14 := G14 _ _ ba13 (nin pba)
  have G14' := G13.trans G14
  have F14 := F11.trans G14'
  have im14 := G14' _ _ im11 (nin npim)
  have nu14 := G14' _ _ nu11 (nin pnu)
  have st14 := G14' _ _ st11 (nin pst)
  have so14 := G14' _ _ so11 (nin pso)
  have tb14 : TabAt H14 tb (tabOf ns) := tb11.stay (fun o e => G14' _ _ e (nin ptb)) fun q xs e => G14' _ _ e (nin (tupp p11 e))
  -- self.output = []
  refine nxR (seqR (sfR ⟨by show 0 ≤ sizeLine; decide, fun ou nou => varR (i := 0) rfl ?_⟩))
  have pou : ou ≠ p := (ne_of_none p14 nou).symm
  have ounone : H ou = none := F14.back nou (nin pou)
  have imou := ne_of_none im14 nou
  have nuou := ne_of_none nu14 nou
  have stou := ne_of_none st14 nou
  have baou := ne_of_none ba14 nou
  have G15 : Fr [p] H14 (upd H14 ou (.lst [])) := (Fr.refl _ _).new nou
  have p15 : (upd H14 ou (.lst [])) p = some (.ins (cS K) dx fsD) := by rw [upd_ne pou.symm]; exact p14
  have ou15 : (upd H14 ou (.lst [])) ou = some (.lst []) := upd_same
  generalize upd H14 ou (.lst []) = H15 at G15 p15 ou15 ⊢
  refine ⟨p, cS K, dx, _, rfl, p15, cls_State T, na_State_output T, by omega, ?_⟩
  generalize eE : putF "output" (.ref ou) fsD = fsE
  have lE : fsE.length ≤ 9 := by rw [← eE]; exact len_putF lD
  have G16 : Fr [p] H14 (upd H15 p (.ins (cS K) dx fsE)) := G15.wr pm
  have p16 : (upd H15 p (.ins (cS K) dx fsE)) p = some (.ins (cS K) dx fsE) := upd_same
  have ou16 : (upd H15 p (.ins (cS K) dx fsE)) ou = some (.lst []) := by rw [upd_ne pou]; exact ou15
  generalize upd H15 p (.ins (cS K) dx fsE) = H16 at G16 p16 ou16 ⊢
  -- self.steps = 0
  refine nxR (sfR (cR (varR (i := 0) rfl ⟨p, cS K, dx, _, rfl, p16, cls_State T, na_State_steps T, by omega, ?_⟩)))
  have G17 : Fr [p] H16 (upd H16 p (.ins (cS K) dx (putF "steps" (.int 0) fsE))) := (Fr.refl _ _).wr pm
  have p17 : (upd H16 p (.ins (cS K) dx (putF "steps" (.int 0) fsE))) p = some (.ins (cS K) dx (putF "steps" (.int 0) fsE)) := upd_same
  generalize upd H16 p (.ins (cS K) dx (putF "steps" (.int 0) fsE)) = H17 at G17 p17 ⊢
  rw [← eE, ← eD, ← eC, ← eB, ← eA, pfs] at p17
  have G17' := G16.trans G17
  refine k _ _ ⟨rfl, ⟨p, dx, im, nu, tb, st, so, ba, ou⟩, rfl, ?_, ?_, F14.trans G17'⟩
  · exact { ob := p17, im := G17' _ _ im14 (nin npim), nu := G17' _ _ nu14 (nin pnu), tb := tb14.stay (fun o e => G17' _ _ e (nin ptb)) (fun q xs e => G17' _ _ e (nin (tupp p14 e)))
            st := G17' _ _ st14 (nin pst), so := ⟨[], G17' _ _ so14 (nin pso), Nat.le_refl _, fun n => rfl⟩, ba := G17' _ _ ba14 (nin pba), ou := G17 _ _ ou16 (nin pou)
            nd := by simp only [List.nodup_cons, List.mem_cons, List.not_mem_nil, or_false, not_or, List.nodup_nil, and_true, not_false_eq_true]; exact ⟨⟨stba, stou, imst.symm, nust.symm⟩, ⟨baou, imba.symm, nuba.symm⟩, ⟨imou.symm, nuou.symm⟩, imnu⟩
            ndd := tbso, lst := Nat.le_refl _, lba := Nat.le_refl _, lou := Nat.le_refl _ }
  · intro x hx
    unfold ML.wr at hx
    simp only [List.mem_cons, List.not_mem_nil, or_false] at hx
    rcases hx with rfl | rfl | rfl | rfl | rfl
    · exact .inl rfl
    · exact .inr stnone
    · exact .inr sonone
    · exact .inr banone
    · exact .inr ounone
def sp_run : Sp := mkSp (α := ((Addr × List Nd) × (Addr × List Int)) × Nat) (fun a => [.ref a.1.1.1, .ref a.1.2.1, .int a.2])
  (fun a H => (H a.1.1.1 = some (.lst (ivs (flat a.1.1.2))) ∧ a.1.1.2.length ≤ 2000000) ∧ H a.1.2.1 = some (.lst (ivs a.1.2.2)) ∧ a.2 ≤ 20000)
  (fun a H v H' => ∃ (r o : Addr), v = .ref r ∧ H' r = some (.tup [.bl (decide (tabOf a.1.1.2 (runN ⟨flat a.1.1.2, a.1.2.2, tabOf a.1.1.2⟩ a.2 c0).1.at_ = none)), .ref o, .int (runN ⟨flat a.1.1.2, a.1.2.2, tabOf a.1.1.2⟩ a.2 c0).2]) ∧
    H' o = some (.lst (ivs (runN ⟨flat a.1.1.2, a.1.2.2, tabOf a.1.1.2⟩ a.2 c0).1.out)) ∧ (runN ⟨flat a.1.1.2, a.1.2.2, tabOf a.1.1.2⟩ a.2 c0).1.out.length ≤ 100000 ∧ Fr [] H H')
theorem bk_run {f : Addr} {fd : FuncData} (F : FunD K "run" "run" (defArgs s_run) (defBody s_run) (defScope s_run) [] [] f fd) : KBn K fd ps_run 2 ["fuel"] (fun us ws => us ++ ws) (fun vs zs => vs ++ zs) := by
  obtain ⟨oc, od, dV, kV, doc, pm, an, cdv, ct, osl, rfl, lk, hcd, hD, hK⟩ := F.ex
  rcases hD with ⟨_, rfl⟩ | ⟨e, _⟩
  rotate_left
  · exact absurd rfl e
  exact kbn fun s us ws _ l1 l2 => match us, ws, l1, l2 with
    | [_, _], [_], _, _ => .of_eq rfl
theorem ok_run (T : Txt w K mg) : KeptK P w K mg base 5 (He.ga K "run") ps_run 2 ["fuel"] sp_run := by
  obtain ⟨fd, F⟩ := fd_run T
  refine ⟨fd, F.ok sc_run (fun vs H Q E ⟨a, e, _⟩ => by rw [e] <;> rfl) (fun cdv A outer s H vs Q E hr h => ?_), F.kp, bk_run F⟩
  obtain ⟨⟨⟨⟨ai, ns⟩, ⟨an, nms⟩⟩, fuel⟩, rfl, ⟨⟨hi, hl⟩, hn, hf⟩, k⟩ := h
  replace hi : H ai = some (.lst (ivs (flat ns))) := hi
  replace hl : ns.length ≤ 2000000 := hl
  replace hn : H an = some (.lst (ivs nms)) := hn
  replace hf : fuel ≤ 20000 := hf
  generalize eM : (⟨flat ns, nms, tabOf ns⟩ : Mac) = M
  replace k : ∀ v H', (∃ (r o : Addr), v = .ref r ∧ H' r = some (.tup [.bl (decide (M.tab (runN M fuel c0).1.at_ = none)), .ref o, .int (runN M fuel c0).2]) ∧
    H' o = some (.lst (ivs (runN M fuel c0).1.out)) ∧ (runN M fuel c0).1.out.length ≤ 100000 ∧ Fr [] H H') → Q v H' := by subst eM; exact k
  refine ⟨_, PSs.nox (pss_cons (ps_set (i := 3) sc_run.nd rfl (Or.inl rfl) (pe_mk (ok_S_init T) (mk_State T) (hr.mono (by decide)) rfl (g_State T) (pa_cons (pv 0) (pa_cons (pv 1) pa_nil))))
    (pss_cons (ps_set (i := 4) sc_run.nd rfl (Or.inl rfl) (pe_mtK (ok_S_advance T) (pv 3) (cls_State T) (m_State_advance T) (hr.mono (by decide)) (pk_cons (pv 2) pk_nil)))
    (pss_one (ps_ret (pe_tup (pa_cons (pe_mt0 (ok_S_has_ended T) (pv 3) (cls_State T) (m_State_has_ended T) (hr.mono (by decide))) (pa_cons (pe_fld (pv 3) rfl) (pa_cons (pv 4) pa_nil)))))))), ?_⟩
  refine seqR (setR ⟨_, rfl, _, rfl, fun x dx nx ndx nex => ⟨((x, dx), (ai, ns), (an, nms)), rfl, ⟨?_, ⟨?_, hl⟩, ?_⟩, ?_⟩⟩)
  · show (upd (upd H dx (.own x)) x (.ins (cS K) dx [])) x = _
    exact upd_same
  · show (upd (upd H dx (.own x)) x (.ins (cS K) dx [])) ai = _
    rw [upd_ne (ne_of_none hi nx), upd_ne (ne_of_none hi ndx)]; exact hi
  · show (upd (upd H dx (.own x)) x (.ins (cS K) dx [])) an = _
    rw [upd_ne (ne_of_none hn nx), upd_ne (ne_of_none hn ndx)]; exact hn
  rintro v H1 ⟨rfl, l, lp, h1, lw, F1⟩
  replace h1 : MAt (cS K) M l c0 0 0 H1 := by subst eM; exact h1
  replace lp : l.p = x := lp
  replace F1 : Fr [x] (upd (upd H dx (.own x)) x (.ins (cS K) dx [])) H1 := F1
  have F0 : Fr [] H (upd (upd H dx (.own x)) x (.ins (cS K) dx [])) := fun b o e n => by
    rw [upd_ne (ne_of_none e nx), upd_ne (ne_of_none e ndx)]; exact e
  -- what stood is not the new object's
  have out : ∀ b o, H b = some o → b ∉ l.wr := fun b o e hb => by
    rcases lw b hb with z | z
    · exact ne_of_none e nx z
    · have z2 : (upd (upd H dx (.own x)) x (.ins (cS K) dx [])) b = none := z
      rw [F0 b o e (by simp)] at z2; cases z2
  have FH : Fr [] H H1 := fun b o e n => F1 b o (F0 b o e n) (by
    intro z
    rw [List.mem_singleton] at z
    exact ne_of_none e nx z)
  refine ⟨rfl, ?_⟩
  refine nxR (seqR (setR ⟨_, rfl, x, l.dx, _, rfl, by rw [← lp]; exact h1.ob, lkS_advance _ _ _ _, _, rfl, rfl, (⟨M, l, c0, 0, 0⟩, fuel), by rw [← lp] <;> rfl, ⟨h1, by show 0 + 2 * fuel ≤ 100000; omega⟩, ?_⟩))
  rintro v H2 ⟨rfl, ⟨n', b', h2⟩, F2⟩
  replace h2 : MAt (cS K) M l (runN M fuel c0).1 n' b' H2 := h2
  replace F2 : Fr l.wr H1 H2 := F2
  have FH2 : Fr [] H H2 := fun b o e n => F2 b o (FH b o e n) (out b o e)
  refine nxR (retR ?_)
  subst lp
  refine ⟨_, rfl, l.p, l.dx, _, rfl, h2.ob, lkS_has_ended _ _ _ _, ⟨M, l, (runN M fuel c0).1, n', b'⟩, rfl, h2, ?_⟩
  rintro v H3 ⟨rfl, rfl⟩
  refine fOut T (i := 3) rfl h2 ⟨_, rfl, (by show 3 ≤ sizeLine; decide), fun r nr => ?_⟩
  have ho := h2.ou
  refine k _ _ ⟨r, l.ou, rfl, upd_same, ?_, ?_, FH2.new nr⟩
  · rw [upd_ne (ne_of_none ho nr)]; exact ho
  · have z := runN_out M fuel c0
    have z2 : c0.out.length = 0 := rfl
    omega
end
end Pk
namespace Pk
open PySem PySem.Spec PyProof.Rows L2
abbrev cT (K : PySem.W.Frag) : Addr := He.ga K "Translator"
structure TL where
  p : Addr
  dx : Addr
  im : Addr
  pi : Addr
def TL.wr (l : TL) : List Addr := [l.p, l.im, l.pi]
def oV : Option Int → V
  | none => .non
  | some i => .int i
def flT (l : TL) (m k : Int) (nu wa : Option Int) (ov fi : Bool) : List (Str × V) := [("by", .int 1), ("image", .ref l.im), ("m", .int m), ("k", .int k), ("pile", .ref l.pi), ("numeral", oV nu), ("waiting", oV wa), ("over", .bl ov), ("finished", .bl fi)]
section
variable (l : TL) (m k z : Int) (nu wa : Option Int) (ov fi c : Bool)
theorem lkT_by : (flT l m k nu wa ov fi).lookup ("by" : Str) = some (.int 1) := by kernel_rfl
theorem lkT_image : (flT l m k nu wa ov fi).lookup ("image" : Str) = some (.ref l.im) := by kernel_rfl
theorem lkT_m : (flT l m k nu wa ov fi).lookup ("m" : Str) = some (.int m) := by kernel_rfl
theorem lkT_k : (flT l m k nu wa ov fi).lookup ("k" : Str) = some (.int k) := by kernel_rfl
theorem lkT_pile : (flT l m k nu wa ov fi).lookup ("pile" : Str) = some (.ref l.pi) := by kernel_rfl
theorem lkT_numeral : (flT l m k nu wa ov fi).lookup ("numeral" : Str) = some (oV nu) := by kernel_rfl
theorem lkT_waiting : (flT l m k nu wa ov fi).lookup ("waiting" : Str) = some (oV wa) := by kernel_rfl
theorem lkT_over : (flT l m k nu wa ov fi).lookup ("over" : Str) = some (.bl ov) := by kernel_rfl
theorem lkT_finished : (flT l m k nu wa ov fi).lookup ("finished" : Str) = some (.bl fi) := by kernel_rfl
theorem puT_m : putF "m" (.int z) (flT l m k nu wa ov fi) = flT l z k nu wa ov fi := by kernel_rfl
theorem puT_k : putF "k" (.int z) (flT l m k nu wa ov fi) = flT l m z nu wa ov fi := by kernel_rfl
theorem puT_numN : putF "numeral" .non (flT l m k nu wa ov fi) = flT l m k none wa ov fi := by kernel_rfl
theorem puT_num : putF "numeral" (.int z) (flT l m k nu wa ov fi) = flT l m k (some z) wa ov fi := by kernel_rfl
theorem puT_waiN : putF "waiting" .non (flT l m k nu wa ov fi) = flT l m k nu none ov fi := by kernel_rfl
theorem puT_wai : putF "waiting" (.int z) (flT l m k nu wa ov fi) = flT l m k nu (some z) ov fi := by kernel_rfl
theorem puT_over : putF "over" (.bl c) (flT l m k nu wa ov fi) = flT l m k nu wa c fi := by kernel_rfl
theorem puT_fin : putF "finished" (.bl c) (flT l m k nu wa ov fi) = flT l m k nu wa ov c := by kernel_rfl
theorem lenT : (flT l m k nu wa ov fi).length < 1000 := by show 9 < 1000; decide
/-- no attribute has a method's name -/
theorem lkT_none {f : Str} (h : decide (f ∈ ([("by" : Str), "image", "m", "k", "pile", "numeral", "waiting", "over", "finished"] : List Str)) = false) : (flT l m k nu wa ov fi).lookup f = none := by
  have h := of_decide_eq_false h
  simp only [List.mem_cons, List.not_mem_nil, or_false, not_or] at h
  obtain ⟨h1, h2, h3, h4, h5, h6, h7, h8, h9⟩ := h
  have e : ∀ {x : Str}, ¬ f = x → (f == x) = false := fun h => beq_eq_false_iff_ne.mpr h
  unfold flT
  simp only [List.lookup, e h1, e h2, e h3, e h4, e h5, e h6, e h7, e h8, e h9]
end
structure TAt (C : Addr) (l : TL) (t : Tr) (ov fi : Bool) (b : Nat) (H : Hp) : Prop where
  ob : H l.p = some (.ins C l.dx (flT l t.m t.k t.num t.wait ov fi))
  im : H l.im = some (.lst (ivs (flat t.nodes)))
  pi : H l.pi = some (.lst (ivs t.pile.reverse))
  ne : l.im ≠ l.pi
  lim : t.nodes.length ≤ b
  lpi : t.pile.length ≤ b
section
variable {C : Addr} {l : TL} {t : Tr} {ov fi : Bool} {b : Nat} {H H' : Hp}
theorem TAt.mono (h : TAt C l t ov fi b H) {b' : Nat} (hb : b ≤ b') : TAt C l t ov fi b' H := { h with lim := Nat.le_trans h.lim hb, lpi := Nat.le_trans h.lpi hb }
theorem TAt.setIm (h : TAt C l t ov fi b H) {ns : List Nd} (hs : ns.length ≤ b) : TAt C l { t with nodes := ns } ov fi b (upd H l.im (.lst (ivs (flat ns)))) :=
  { ob := by rw [upd_ne (ne_of h.ob h.im (by intro z; cases z))]; exact h.ob
    im := upd_same
    pi := by rw [upd_ne h.ne.symm]; exact h.pi
    ne := h.ne, lim := hs, lpi := h.lpi }
theorem TAt.setPi (h : TAt C l t ov fi b H) {s : List Int} (hs : s.length ≤ b) : TAt C l { t with pile := s } ov fi b (upd H l.pi (.lst (ivs s.reverse))) :=
  { ob := by rw [upd_ne (ne_of h.ob h.pi (by intro z; cases z))]; exact h.ob
    im := by rw [upd_ne h.ne]; exact h.im
    pi := upd_same
    ne := h.ne, lim := h.lim, lpi := hs }
theorem TAt.setOb (h : TAt C l t ov fi b H) (m k : Int) (nu wa : Option Int) (ov' fi' : Bool) : TAt C l { t with m := m, k := k, num := nu, wait := wa } ov' fi' b (upd H l.p (.ins C l.dx (flT l m k nu wa ov' fi'))) :=
  { ob := upd_same
    im := by rw [upd_ne (ne_of h.im h.ob (by intro z; cases z))]; exact h.im
    pi := by rw [upd_ne (ne_of h.pi h.ob (by intro z; cases z))]; exact h.pi
    ne := h.ne, lim := h.lim, lpi := h.lpi }
theorem TAt.keep (h : TAt C l t ov fi b H) (F : Fr [] H H') : TAt C l t ov fi b H' := { h with ob := F _ _ h.ob (by simp), im := F _ _ h.im (by simp), pi := F _ _ h.pi (by simp) }
theorem wt_p : l.p ∈ l.wr := by unfold TL.wr; simp
theorem wt_im : l.im ∈ l.wr := by unfold TL.wr; simp
theorem wt_pi : l.pi ∈ l.wr := by unfold TL.wr; simp
end
structure TSt where
  l : TL
  t : Tr
  ov : Bool
  fi : Bool
  b : Nat
/-- a method that turns the translator by f -/
def sp_tr (K : PySem.W.Frag) {β : Type} (ex : β → List V) (pre : β → TSt → Prop) (f : β → Tr → Tr) (inc : Nat) : Sp := mkSp (α := TSt × β) (fun a => .ref a.1.l.p :: ex a.2) (fun a H => TAt (cT K) a.1.l a.1.t a.1.ov a.1.fi a.1.b H ∧ a.1.b + inc ≤ 3000000 ∧ pre a.2 a.1)
  (fun a H v H' => TAt (cT K) a.1.l (f a.2 a.1.t) a.1.ov a.1.fi (a.1.b + inc) H' ∧ Fr a.1.l.wr H H')
def sp_T_popped (K : PySem.W.Frag) : Sp := mkSp (α := TSt) (fun a => [.ref a.l.p]) (fun a H => TAt (cT K) a.l a.t a.ov a.fi a.b H) (fun a H v H' => v = .int (hd0 a.t.pile) ∧ TAt (cT K) a.l { a.t with pile := a.t.pile.tail } a.ov a.fi a.b H' ∧ Fr a.l.wr H H')
def sp_T_number (K : PySem.W.Frag) : Sp := mkSp (α := TSt) (fun a => [.ref a.l.p]) (fun a H => TAt (cT K) a.l a.t a.ov a.fi a.b H) (fun a H v H' => v = .int a.t.k ∧ TAt (cT K) a.l { a.t with k := a.t.k + 1 } a.ov a.fi a.b H' ∧ Fr a.l.wr H H')
abbrev sp_T_put_node (K : PySem.W.Frag) : Sp := sp_tr K (β := Int × Int × Int) (fun z => [.int z.1, .int z.2.1, .int z.2.2]) (fun _ _ => True) (fun z t => putT z.1 z.2.1 z.2.2 t) 1
abbrev sp_T_emit (K : PySem.W.Frag) : Sp := sp_tr K (β := Int × Int) (fun z => [.int z.1, .int z.2]) (fun _ _ => True) (fun z t => emitT z.1 z.2 t) 1
abbrev sp_T_end_numeral (K : PySem.W.Frag) : Sp := sp_tr K (β := Unit) (fun _ => []) (fun _ _ => True) (fun _ t => endT t) 1
abbrev sp_T_paired (K : PySem.W.Frag) : Sp := sp_tr K (β := Int) (fun z => [.int z]) (fun _ a => a.t.wait ≠ none) (fun z t => pairT z t) 1
abbrev sp_T_bracket (K : PySem.W.Frag) : Sp := sp_tr K (β := Int) (fun z => [.int z]) (fun z _ => z = 91 ∨ z = 93 ∨ (123 ≤ z ∧ z ≤ 125)) (fun z t => brackT z t) 2
abbrev sp_T_sign (K : PySem.W.Frag) : Sp := sp_tr K (β := Int) (fun z => [.int z]) (fun _ _ => True) (fun z t => signT z t) 2
abbrev sp_T_take (K : PySem.W.Frag) : Sp := sp_tr K (β := Int) (fun z => [.int z]) (fun z a => 0 ≤ z ∧ a.ov = false) (fun z t => takeT z t) 3
section
variable {P : Program} {w : World} {K : PySem.W.Frag} {mg : Str → Option Value} {base : Heap}
variable {l : TL} {t : Tr} {ov fi : Bool} {b i : Nat} {σ : L2.St} {H : Hp} {D : Ends} {Q : VK} {te ta tb : TE} {t1 t2 : TS} {r : R2} {tt : TT}
section
variable (T : Txt w K mg) (hs : σ[i]? = some (some (.ref l.p))) (h : TAt (cT K) l t ov fi b H)
include T hs h
theorem gBy (k : Q (.int 1) H) : tFld K (tVar i) "by" σ H Q := ⟨_, hs, l.p, _, l.dx, _, _, rfl, h.ob, cls_Translator T, na_Translator_by T, lkT_by _ _ _ _ _ _ _, k⟩
theorem gIm (k : Q (.ref l.im) H) : tFld K (tVar i) "image" σ H Q := ⟨_, hs, l.p, _, l.dx, _, _, rfl, h.ob, cls_Translator T, na_Translator_image T, lkT_image _ _ _ _ _ _ _, k⟩
theorem gM (k : Q (.int t.m) H) : tFld K (tVar i) "m" σ H Q := ⟨_, hs, l.p, _, l.dx, _, _, rfl, h.ob, cls_Translator T, na_Translator_m T, lkT_m _ _ _ _ _ _ _, k⟩
theorem gK (k : Q (.int t.k) H) : tFld K (tVar i) "k" σ H Q := ⟨_, hs, l.p, _, l.dx, _, _, rfl, h.ob, cls_Translator T, na_Translator_k T, lkT_k _ _ _ _ _ _ _, k⟩
theorem gPi (k : Q (.ref l.pi) H) : tFld K (tVar i) "pile" σ H Q := ⟨_, hs, l.p, _, l.dx, _, _, rfl, h.ob, cls_Translator T, na_Translator_pile T, lkT_pile _ _ _ _ _ _ _, k⟩
theorem gNu (k : Q (oV t.num) H) : tFld K (tVar i) "numeral" σ H Q := ⟨_, hs, l.p, _, l.dx, _, _, rfl, h.ob, cls_Translator T, na_Translator_numeral T, lkT_numeral _ _ _ _ _ _ _, k⟩
theorem gWa (k : Q (oV t.wait) H) : tFld K (tVar i) "waiting" σ H Q := ⟨_, hs, l.p, _, l.dx, _, _, rfl, h.ob, cls_Translator T, na_Translator_waiting T, lkT_waiting _ _ _ _ _ _ _, k⟩
theorem gOv (k : Q (.bl ov) H) : tFld K (tVar i) "over" σ H Q := ⟨_, hs, l.p, _, l.dx, _, _, rfl, h.ob, cls_Translator T, na_Translator_over T, lkT_over _ _ _ _ _ _ _, k⟩
theorem gFi (k : Q (.bl fi) H) : tFld K (tVar i) "finished" σ H Q := ⟨_, hs, l.p, _, l.dx, _, _, rfl, h.ob, cls_Translator T, na_Translator_finished T, lkT_finished _ _ _ _ _ _ _, k⟩
end
theorem notR {Q : Bool → Hp → Prop} (h : tt σ H fun c H1 => Q (!c) H1) : tNot tt σ H Q := h
theorem truR {Q : Bool → Hp → Prop} (h : ta σ H fun x H' => ∃ k, TruV K x H' k ∧ Q k H') : (fun (σ : L2.St) (H : Hp) (Q : Bool → Hp → Prop) => ta σ H fun x H' => ∃ k, TruV K x H' k ∧ Q k H') σ H Q := h
theorem lstR {tA : TA} (h : tA σ H fun xs H1 => xs.length ≤ sizeLine ∧ ∀ p, H1 p = none → Q (.ref p) (upd H1 p (.lst xs))) : tLst tA σ H Q := h
theorem consR {tr : TA} {Q : List V → Hp → Prop} (h : ta σ H fun x H1 => tr σ H1 fun xs H2 => Q (x :: xs) H2) : tCons ta tr σ H Q := h
/-- self.f = .. where the value is known: the end of the reading -/
theorem putR (T : Txt w K mg) (h : TAt (cT K) l t ov fi b H) {f : Str} {v : V} (na : NoAttr K (cT K) f) (m k : Int) (nu wa : Option Int) (ov' fi' : Bool) (e : putF f v (flT l t.m t.k t.num t.wait ov fi) = flT l m k nu wa ov' fi')
    (kk : ∀ H2, TAt (cT K) l { t with m := m, k := k, num := nu, wait := wa } ov' fi' b H2 → Fr l.wr H H2 → D.nx σ H2) :
    ∃ a C dx fs, (V.ref l.p) = .ref a ∧ H a = some (.ins C dx fs) ∧ Cls K C ∧ NoAttr K C f ∧ fs.length < 1000 ∧ D.nx σ (upd H a (.ins C dx (putF f v fs))) := by
  refine ⟨l.p, cT K, l.dx, _, rfl, h.ob, cls_Translator T, na, lenT _ _ _ _ _ _ _, ?_⟩
  rw [e]
  exact kk _ (h.setOb m k nu wa ov' fi') ((Fr.refl _ _).wr wt_p)
theorem poppedR (hs : σ[i]? = some (some (.ref l.p))) (h : TAt (cT K) l t ov fi b H) (k : ∀ H', TAt (cT K) l { t with pile := t.pile.tail } ov fi b H' → Fr l.wr H H' → Q (.int (hd0 t.pile)) H') : tMeth (cT K) "popped" (sp_T_popped K) [] E0 (tVar i) tNil σ H Q :=
  ⟨_, hs, l.p, l.dx, _, rfl, h.ob, lkT_none _ _ _ _ _ _ _ (by decide +kernel), ⟨l, t, ov, fi, b⟩, rfl, h, fun v H' ⟨e, h1, h2⟩ => by rw [e]; exact k H' h1 h2⟩
theorem numberR (hs : σ[i]? = some (some (.ref l.p))) (h : TAt (cT K) l t ov fi b H) (k : ∀ H', TAt (cT K) l { t with k := t.k + 1 } ov fi b H' → Fr l.wr H H' → Q (.int t.k) H') : tMeth (cT K) "number" (sp_T_number K) [] E0 (tVar i) tNil σ H Q :=
  ⟨_, hs, l.p, l.dx, _, rfl, h.ob, lkT_none _ _ _ _ _ _ _ (by decide +kernel), ⟨l, t, ov, fi, b⟩, rfl, h, fun v H' ⟨e, h1, h2⟩ => by rw [e]; exact k H' h1 h2⟩
theorem ok_T_popped (T : Txt w K mg) : Kept P w K mg base 1 (He.ma K (cT K) "popped") ps_T_popped (sp_T_popped K) := by
  obtain ⟨fd, F⟩ := fd_T_popped T
  refine ⟨fd, F.ok sc_T_popped (fun vs H Q E ⟨a, e, _⟩ => by rw [e] <;> rfl) (fun cdv A outer s H vs Q E hr h => ?_), F.kp, bd_T_popped F⟩
  obtain ⟨⟨l, t, ov, fi, b⟩, rfl, h, k⟩ := h
  replace h : TAt (cT K) l t ov fi b H := h
  replace k : ∀ v H', v = .int (hd0 t.pile) ∧ TAt (cT K) l { t with pile := t.pile.tail } ov fi b H' ∧ Fr l.wr H H' → Q v H' := k
  refine ⟨_, PSs.nox (pss_cons (ps_if (pt_not (pt_truth (pe_fld (pv 0) rfl) (by intro _; rfl))) (pss_one (ps_ret pe_int)) pss_nil)
    (pss_one (ps_ret (pe_bm0 PySem.F.plainAttrs_list PySem.F.slot_list_pop PySem.F.type_list_pop mt_pop (pe_fld (pv 0) rfl))))), ?_⟩
  refine seqR ?_
  cases e : t.pile with
  | nil =>
    refine ifR (notR (truR (gPi T (i := 0) rfl h ⟨false, .inl ⟨_, SqL.of h.pi, by rw [e] <;> rfl⟩, iteT ?_⟩)))
    refine k _ _ ⟨by rw [e] <;> rfl, ?_, Fr.refl _ _⟩
    have e2 : { t with pile := t.pile.tail } = t := by
      obtain ⟨a1, a2, a3, a4, a5, a6⟩ := t
      simp only at e
      rw [e] <;> rfl
    rw [e2]
    exact h
  | cons x s =>
    have ex : ivs t.pile.reverse = ivs s.reverse ++ [V.int x] := by rw [e, ivs_push]
    have hst : H l.pi = some (.lst (ivs s.reverse ++ [V.int x])) := by rw [← ex]; exact h.pi
    refine ifR (notR (truR (gPi T (i := 0) rfl h ⟨true, .inl ⟨_, SqL.of hst, by simp⟩, iteF ?_⟩)))
    refine nxR (retR (bm0R (gPi T (i := 0) rfl h ⟨.inl ⟨rfl, _, SqL.of hst⟩, l.pi, _, .int x, rfl, rfl, hst, by simp, ?_⟩)))
    rw [List.dropLast_concat]
    refine k _ _ ⟨by rw [e] <;> rfl, ?_, (Fr.refl _ _).wr wt_pi⟩
    rw [e]
    exact h.setPi (s := s) (by have := h.lpi; rw [e, List.length_cons] at this; omega)
theorem ok_T_number (T : Txt w K mg) : Kept P w K mg base 1 (He.ma K (cT K) "number") ps_T_number (sp_T_number K) := by
  obtain ⟨fd, F⟩ := fd_T_number T
  refine ⟨fd, F.ok sc_T_number (fun vs H Q E ⟨a, e, _⟩ => by rw [e] <;> rfl) (fun cdv A outer s H vs Q E hr h => ?_), F.kp, bd_T_number F⟩
  obtain ⟨⟨l, t, ov, fi, b⟩, rfl, h, k⟩ := h
  replace h : TAt (cT K) l t ov fi b H := h
  replace k : ∀ v H', v = .int t.k ∧ TAt (cT K) l { t with k := t.k + 1 } ov fi b H' ∧ Fr l.wr H H' → Q v H' := k
  refine ⟨_, PSs.nox (pss_cons (ps_set (i := 1) sc_T_number.nd rfl (Or.inl rfl) (pe_fld (pv 0) rfl))
    (pss_cons (ps_fldaug (pv 0) (pe_fld (pv 0) rfl) in_add)
    (pss_one (ps_ret (pv 1))))), ?_⟩
  refine seqR (setR (gK T (i := 0) rfl h ?_))
  refine nxR (seqR ?_)
  refine ⟨_, rfl, l.p, _, l.dx, _, _, rfl, h.ob, cls_Translator T, na_Translator_k T, lkT_k _ _ _ _ _ _ _, gBy T (i := 0) rfl h ⟨_, _, rfl, rfl, l.dx, _, h.ob, lenT _ _ _ _ _ _ _, ?_⟩⟩
  rw [puT_k]
  exact ⟨_, rfl, k _ _ ⟨rfl, h.setOb t.m (t.k + 1) t.num t.wait ov fi, (Fr.refl _ _).wr wt_p⟩⟩
theorem flat_put (ns : List Nd) (a b c d : Int) : ivs (flat ns) ++ [V.int a, V.int b, V.int c, V.int d] = ivs (flat (ns ++ [(a, b, c, d)])) := by rw [flat_snoc] <;> rfl
theorem ok_T_put_node (T : Txt w K mg) : Kept P w K mg base 1 (He.ma K (cT K) "put_node") ps_T_put_node (sp_T_put_node K) := by
  obtain ⟨fd, F⟩ := fd_T_put_node T
  refine ⟨fd, F.ok sc_T_put_node (fun vs H Q E ⟨a, e, _⟩ => by rw [e] <;> rfl) (fun cdv A outer s H vs Q E hr h => ?_), F.kp, bd_T_put_node F⟩
  obtain ⟨⟨⟨l, t, ov, fi, b⟩, ⟨op, a, su⟩⟩, rfl, ⟨h, hb, _⟩, k⟩ := h
  replace h : TAt (cT K) l t ov fi b H := h
  replace hb : b + 1 ≤ 3000000 := hb
  replace k : ∀ v H', TAt (cT K) l (putT op a su t) ov fi (b + 1) H' ∧ Fr l.wr H H' → Q v H' := k
  refine ⟨_, PSs.nox (pss_one (ps_expr (pe_bm PySem.F.plainAttrs_list PySem.F.slot_list_extend PySem.F.type_list_extend mt_extend (pe_fld (pv 0) rfl) (pa_cons (pe_lst (pa_cons (pe_fld (pv 0) rfl) (pa_cons (pv 1) (pa_cons (pv 2) (pa_cons (pv 3) pa_nil))))) pa_nil)))), ?_⟩
  refine bmR (gIm T (i := 0) rfl h ⟨.inl ⟨rfl, _, SqL.of h.im⟩, lstR (consR (gM T (i := 0) rfl h ⟨_, rfl, _, rfl, _, rfl, (by show 4 ≤ sizeLine; decide), fun p hp => ?_⟩))⟩)
  have F1 : Fr [] H (upd H p (.lst [V.int t.m, V.int op, V.int a, V.int su])) := (Fr.refl _ _).new hp
  have h1 := h.keep F1
  refine ⟨l.im, p, _, _, rfl, rfl, h1.im, upd_same, ?_, ?_⟩
  · rw [ivs_len, flat_len]; have := h.lim; show _ + 4 ≤ _; exact Nat.le_trans (show 4 * t.nodes.length + 4 ≤ 16000000 by omega) (by decide)
  · rw [flat_put]
    exact k _ _ ⟨(h1.mono (by omega)).setIm (by rw [List.length_append, List.length_singleton]; have := h.lim; omega), F1.nil.wr wt_im⟩
theorem mono_nil {σ : L2.St} {H : Hp} (R R' : List V → Hp → Prop) (m : ∀ vs H', R vs H' → R' vs H') (h : tNil σ H R) : tNil σ H R' := m _ _ h
theorem ok_T_emit (T : Txt w K mg) : Kept P w K mg base 2 (He.ma K (cT K) "emit") ps_T_emit (sp_T_emit K) := by
  obtain ⟨fd, F⟩ := fd_T_emit T
  refine ⟨fd, F.ok sc_T_emit (fun vs H Q E ⟨a, e, _⟩ => by rw [e] <;> rfl) (fun cdv A outer s H vs Q E hr h => ?_), F.kp, bd_T_emit F⟩
  obtain ⟨⟨⟨l, t, ov, fi, b⟩, ⟨op, a⟩⟩, rfl, ⟨h, hb, _⟩, k⟩ := h
  replace h : TAt (cT K) l t ov fi b H := h
  replace hb : b + 1 ≤ 3000000 := hb
  replace k : ∀ v H', TAt (cT K) l (emitT op a t) ov fi (b + 1) H' ∧ Fr l.wr H H' → Q v H' := k
  refine ⟨_, PSs.nox (pss_cons (ps_expr (pe_mt (ok_T_put_node T) (pv 0) (cls_Translator T) (m_Translator_put_node T) (hr.mono (by decide)) (pa_cons (pv 1) (pa_cons (pv 2) (pa_cons (pe_fld (pv 0) rfl) pa_nil)))))
    (pss_one (ps_fld (pv 0) (pe_mt0 (ok_T_number T) (pv 0) (cls_Translator T) (m_Translator_number T) (hr.mono (by decide))) rfl))), ?_⟩
  refine seqR (dropR ⟨_, rfl, l.p, l.dx, _, rfl, h.ob, lkT_none _ _ _ _ _ _ _ (by decide +kernel), _, rfl, _, rfl, gK T (i := 0) rfl h ⟨(⟨l, t, ov, fi, b⟩, (op, a, t.k)), rfl, ⟨h, hb, trivial⟩, fun v H1 ⟨h1, F1⟩ => ?_⟩⟩)
  replace h1 : TAt (cT K) l (putT op a t.k t) ov fi (b + 1) H1 := h1
  replace F1 : Fr l.wr H H1 := F1
  refine nxR (sfR (numberR (i := 0) rfl h1 fun H2 h2 F2 => varR (i := 0) rfl (putR T h2 (na_Translator_m T) t.k (t.k + 1) t.num t.wait ov fi (puT_m _ _ _ _ _ _ _ _) fun H3 h3 F3 => k _ _ ⟨h3, (F1.trans F2).trans F3⟩)))
end
end Pk
namespace Pk
open PySem PySem.Spec PyProof.Rows L2
section
variable {P : Program} {w : World} {K : PySem.W.Frag} {mg : Str → Option Value} {base : Heap}
variable {l : TL} {t : Tr} {ov fi : Bool} {b i : Nat} {σ : L2.St} {H : Hp} {D : Ends} {Q : VK} {te ta tb : TE} {t1 t2 : TS} {r : R2} {tt : TT} {x z z' : Int}
theorem if_eq (hs : σ[i]? = some (some (.int x))) (h1 : x = z → t1 D σ H) (h2 : ¬ x = z → t2 D σ H) : tIfS (tTest (tOp rEq (tVar i) (tC (.int z)))) t1 t2 D σ H := by
  refine ifR (testR (opR (varR hs (cR ⟨rfl, _, rfl, ?_⟩))))
  exact ite2 (fun q => h1 (V.int.inj (of_decide_eq_true q))) fun q => h2 fun e => q (decide_eq_true (by rw [e]))
theorem if_le (hs : σ[i]? = some (some (.int x))) (h1 : x ≤ z → t1 D σ H) (h2 : ¬ x ≤ z → t2 D σ H) : tIfS (tTest (tOp (rI0 fun i j => .bl (decide (i ≤ j))) (tVar i) (tC (.int z)))) t1 t2 D σ H := by
  refine ifR (testR (opR (varR hs (cR ⟨_, _, rfl, rfl, _, rfl, ?_⟩))))
  exact ite2 (fun q => h1 (of_decide_eq_true q)) fun q => h2 fun e => q (decide_eq_true e)
theorem if_lt (hs : σ[i]? = some (some (.int x))) (h1 : x < z → t1 D σ H) (h2 : ¬ x < z → t2 D σ H) : tIfS (tTest (tOp (rI0 fun i j => .bl (decide (i < j))) (tVar i) (tC (.int z)))) t1 t2 D σ H := by
  refine ifR (testR (opR (varR hs (cR ⟨_, _, rfl, rfl, _, rfl, ?_⟩))))
  exact ite2 (fun q => h1 (of_decide_eq_true q)) fun q => h2 fun e => q (decide_eq_true e)
theorem if_bt (hs : σ[i]? = some (some (.int x))) (h1 : z ≤ x ∧ x ≤ z' → t1 D σ H) (h2 : ¬ (z ≤ x ∧ x ≤ z') → t2 D σ H) :
    tIfS (tTest (tChain (rI0 fun i j => .bl (decide (i ≤ j))) (rI0 fun i j => .bl (decide (i ≤ j))) (tC (.int z)) (tVar i) (tC (.int z')))) t1 t2 D σ H := by
  refine ifR (testR (chainR (cR (varR hs ⟨_, _, rfl, rfl, _, rfl, ?_⟩))))
  refine ite2 (fun q => ?_) (fun q => ?_)
  · refine cR ⟨_, _, rfl, rfl, _, rfl, ?_⟩
    exact ite2 (fun q' => h1 ⟨of_decide_eq_true q, of_decide_eq_true q'⟩) fun q' => h2 fun e => q' (decide_eq_true e.2)
  · exact ⟨_, rfl, iteF (h2 fun e => q (decide_eq_true e.1))⟩
theorem if_nn {o : Option Int} (g : ∀ Q : VK, Q (oV o) H → te σ H Q) (h1 : ∀ v, o = some v → t1 D σ H) (h2 : o = none → t2 D σ H) : tIfS (tTest (tOp rNotN te (tC .non))) t1 t2 D σ H := by
  refine ifR (testR (opR (g _ (cR (show (V.non = .non ∧ ∃ k, V.bl (!decide (oV o = .non)) = .bl k ∧ if k = true then t1 D σ H else t2 D σ H) from ⟨rfl, _, rfl, ?_⟩)))))
  cases o with
  | none => exact iteF (h2 rfl)
  | some v => exact iteT (h1 v rfl)
theorem orR {u : TT} {Q : Bool → Hp → Prop} (h : tt σ H fun c H1 => if c = true then Q true H1 else u σ H1 Q) : tOr tt u σ H Q := h
/-- pile.append -/
theorem pilR (T : Txt w K mg) (hs : σ[i]? = some (some (.ref l.p))) (h : TAt (cT K) l t ov fi b H) (hb : b ≤ 3000001) (g : ∀ Q : VK, Q (.int x) H → te σ H Q)
    (k : ∀ H3, TAt (cT K) l { t with pile := x :: t.pile } ov fi (b + 1) H3 → Fr l.wr H H3 → D.nx σ H3) : tDrop (tBM K "list" rAppend (tFld K (tVar i) "pile") (tCons te tNil)) D σ H := by
  refine bmR (gPi T hs h ⟨.inl ⟨rfl, _, SqL.of h.pi⟩, g _ ?_⟩)
  refine ⟨l.pi, _, .int x, rfl, rfl, h.pi, by rw [ivs_len, List.length_reverse]; have := h.lpi; exact line_of (by omega), ?_⟩
  rw [ivs_push]
  exact k _ ((h.mono (by omega)).setPi (s := x :: t.pile) (by rw [List.length_cons]; have := h.lpi; omega)) ((Fr.refl _ _).wr wt_pi)
/-- self.m(..) of the common kind, its arguments read -/
theorem trM {m : Str} {β : Type} {ex : β → List V} {pre : β → TSt → Prop} {f : β → Tr → Tr} {inc : Nat} {tA : TA} (y : β) (hs : σ[i]? = some (some (.ref l.p))) (h : TAt (cT K) l t ov fi b H)
    (nm : decide (m ∈ ([("by" : Str), "image", "m", "k", "pile", "numeral", "waiting", "over", "finished"] : List Str)) = false) (g : ∀ R : List V → Hp → Prop, R (ex y) H → tA σ H R) (hb : b + inc ≤ 3000000) (hp : pre y ⟨l, t, ov, fi, b⟩)
    (k : ∀ H', TAt (cT K) l (f y t) ov fi (b + inc) H' → Fr l.wr H H' → D.nx σ H') : tDrop (tMeth (cT K) m (sp_tr K ex pre f inc) [] E0 (tVar i) tA) D σ H := by
  refine dropR ⟨_, hs, l.p, l.dx, _, rfl, h.ob, lkT_none _ _ _ _ _ _ _ nm, g _ ?_⟩
  exact ⟨(⟨l, t, ov, fi, b⟩, y), by rw [List.append_nil], ⟨h, hb, hp⟩, fun v H' ⟨h1, h2⟩ => k H' h1 h2⟩
theorem ok_T_end_numeral (T : Txt w K mg) : Kept P w K mg base 3 (He.ma K (cT K) "end_numeral") ps_T_end_numeral (sp_T_end_numeral K) := by
  obtain ⟨fd, F⟩ := fd_T_end_numeral T
  refine ⟨fd, F.ok sc_T_end_numeral (fun vs H Q E ⟨a, e, _⟩ => by rw [e] <;> rfl) (fun cdv A outer s H vs Q E hr h => ?_), F.kp, bd_T_end_numeral F⟩
  obtain ⟨⟨⟨l, t, ov, fi, b⟩, u⟩, rfl, ⟨h, hb, _⟩, k⟩ := h
  replace h : TAt (cT K) l t ov fi b H := h
  replace hb : b + 1 ≤ 3000000 := hb
  replace k : ∀ v H', TAt (cT K) l (endT t) ov fi (b + 1) H' ∧ Fr l.wr H H' → Q v H' := k
  refine ⟨_, PSs.nox (pss_one (ps_if (pt_cmpR op_notN1 (pe_fld (pv 0) rfl) pe_non (nomark _)) (pss_cons (ps_expr (pe_mt (ok_T_emit T) (pv 0) (cls_Translator T) (m_Translator_emit T) (hr.mono (by decide)) (pa_cons (pe_num rfl (i_PUSH_translate T)) (pa_cons (pe_fld (pv 0) rfl) pa_nil))))
    (pss_one (ps_fld (pv 0) pe_non rfl))) pss_nil)), ?_⟩
  refine if_nn (o := t.num) (fun Q q => gNu T (i := 0) rfl h q) (fun v ev => ?_) (fun ev => ?_)
  · rw [endT_some ev] at k
    refine seqR (trM (35, v) (i := 0) rfl h (by decide +kernel) (fun R q => consR (cR (consR (gNu T (i := 0) rfl h (by rw [ev]; exact q))))) hb trivial fun H1 h1 F1 => ?_)
    refine nxR (sfR (cR (varR (i := 0) rfl (putR T h1 (na_Translator_numeral T) _ _ none _ ov fi (puT_numN _ _ _ _ _ _ _) fun H2 h2 F2 => k _ _ ⟨h2, F1.trans F2⟩))))
  · rw [endT_none ev] at k
    exact k _ _ ⟨h.mono (by omega), Fr.refl _ _⟩
theorem ok_T_paired (T : Txt w K mg) : Kept P w K mg base 3 (He.ma K (cT K) "paired") ps_T_paired (sp_T_paired K) := by
  obtain ⟨fd, F⟩ := fd_T_paired T
  refine ⟨fd, F.ok sc_T_paired (fun vs H Q E ⟨a, e, _⟩ => by rw [e] <;> rfl) (fun cdv A outer s H vs Q E hr h => ?_), F.kp, bd_T_paired F⟩
  obtain ⟨⟨⟨l, t, ov, fi, b⟩, c⟩, rfl, ⟨h, hb, hw⟩, k⟩ := h
  replace h : TAt (cT K) l t ov fi b H := h
  replace hb : b + 1 ≤ 3000000 := hb
  replace hw : t.wait ≠ none := hw
  replace k : ∀ v H', TAt (cT K) l (pairT c t) ov fi (b + 1) H' ∧ Fr l.wr H H' → Q v H' := k
  refine ⟨_, PSs.nox (pss_cons (ps_set (i := 2) sc_T_paired.nd rfl (Or.inl rfl) (pe_fld (pv 0) rfl))
    (pss_cons (ps_fld (pv 0) pe_non rfl)
    (pss_one (ps_if (pt_cmpR op_eq (pv 2) (pe_num rfl (i_QUOTE T)) (nomark _)) (pss_one (ps_expr (pe_mt (ok_T_emit T) (pv 0) (cls_Translator T) (m_Translator_emit T) (hr.mono (by decide)) (pa_cons (pe_num rfl (i_PUSH_translate T)) (pa_cons (pv 1) pa_nil))))) (pss_one (ps_if (pt_cmpR op_eq (pv 2) (pe_num rfl (i_ASSIGN T)) (nomark _)) (pss_one (ps_expr (pe_mt (ok_T_emit T) (pv 0) (cls_Translator T) (m_Translator_emit T) (hr.mono (by decide)) (pa_cons (pe_num rfl (i_ASSIGN T)) (pa_cons (pv 1) pa_nil))))) (pss_cons (ps_expr (pe_bm PySem.F.plainAttrs_list PySem.F.slot_list_append PySem.F.type_list_append mt_append (pe_fld (pv 0) rfl) (pa_cons (pe_fld (pv 0) rfl) pa_nil)))
    (pss_one (ps_fld (pv 0) (pv 1) rfl))))))))), ?_⟩
  obtain ⟨s, es⟩ : ∃ s, t.wait = some s := by
    cases e : t.wait with
    | none => exact absurd e hw
    | some s => exact ⟨s, rfl⟩
  refine seqR (setR (gWa T (i := 0) rfl h ?_))
  rw [es]
  refine nxR (seqR (sfR (cR (varR (i := 0) rfl (putR T h (na_Translator_waiting T) _ _ _ none ov fi (puT_waiN _ _ _ _ _ _ _) fun H1 h1 F1 => ?_)))))
  refine nxR (if_eq (i := 2) (x := s) rfl (fun e => ?_) fun e => ?_)
  · refine trM (35, c) (i := 0) rfl h1 (by decide +kernel) (fun R q => consR (cR (consR (varR (i := 1) rfl q)))) hb trivial fun H2 h2 F2 => k _ _ ⟨?_, F1.trans F2⟩
    unfold pairT
    rw [if_pos (by rw [es, e])]
    exact h2
  · refine if_eq (i := 2) (x := s) rfl (fun e' => ?_) fun e' => ?_
    · refine trM (61, c) (i := 0) rfl h1 (by decide +kernel) (fun R q => consR (cR (consR (varR (i := 1) rfl q)))) hb trivial fun H2 h2 F2 => k _ _ ⟨?_, F1.trans F2⟩
      unfold pairT
      rw [if_neg (by rw [es]; exact fun z => e (Option.some.inj z)), if_pos (by rw [es, e'])]
      exact h2
    · refine seqR (pilR T (i := 0) rfl h1 (by omega) (fun Q q => gM T (i := 0) rfl h1 q) fun H2 h2 F2 => ?_)
      refine nxR (sfR (varR (i := 1) rfl (varR (i := 0) rfl (putR T h2 (na_Translator_m T) c _ _ _ ov fi (puT_m _ _ _ _ _ _ _ _) fun H3 h3 F3 => k _ _ ⟨?_, (F1.trans F2).trans F3⟩))))
      unfold pairT
      rw [if_neg (by rw [es]; exact fun z => e (Option.some.inj z)), if_neg (by rw [es]; exact fun z => e' (Option.some.inj z))]
      exact h3
theorem ok_T_bracket (T : Txt w K mg) : Kept P w K mg base 3 (He.ma K (cT K) "bracket") ps_T_bracket (sp_T_bracket K) := by
  obtain ⟨fd, F⟩ := fd_T_bracket T
  refine ⟨fd, F.ok sc_T_bracket (fun vs H Q E ⟨a, e, _⟩ => by rw [e] <;> rfl) (fun cdv A outer s H vs Q E hr h => ?_), F.kp, bd_T_bracket F⟩
  obtain ⟨⟨⟨l, t, ov, fi, b⟩, c⟩, rfl, ⟨h, hb, hw⟩, k⟩ := h
  replace h : TAt (cT K) l t ov fi b H := h
  replace hb : b + 2 ≤ 3000000 := hb
  replace hw : c = 91 ∨ c = 93 ∨ (123 ≤ c ∧ c ≤ 125) := hw
  replace k : ∀ v H', TAt (cT K) l (brackT c t) ov fi (b + 2) H' ∧ Fr l.wr H H' → Q v H' := k
  refine ⟨_, PSs.nox (pss_one (ps_if (pt_cmpR op_eq (pv 1) pe_int (nomark _)) (pss_cons (ps_set (i := 2) sc_T_bracket.nd rfl (Or.inl rfl) (pe_mt0 (ok_T_number T) (pv 0) (cls_Translator T) (m_Translator_number T) (hr.mono (by decide))))
    (pss_cons (ps_expr (pe_bm PySem.F.plainAttrs_list PySem.F.slot_list_append PySem.F.type_list_append mt_append (pe_fld (pv 0) rfl) (pa_cons (pv 2) pa_nil)))
    (pss_one (ps_expr (pe_mt (ok_T_emit T) (pv 0) (cls_Translator T) (m_Translator_emit T) (hr.mono (by decide)) (pa_cons (pe_num rfl (i_TEST_translate T)) (pa_cons (pv 2) pa_nil))))))) (pss_one (ps_if (pt_cmpR op_eq (pv 1) pe_int (nomark _)) (pss_cons (ps_set (i := 3) sc_T_bracket.nd rfl (Or.inl rfl) (pe_mt0 (ok_T_number T) (pv 0) (cls_Translator T) (m_Translator_number T) (hr.mono (by decide))))
    (pss_cons (ps_expr (pe_mt (ok_T_put_node T) (pv 0) (cls_Translator T) (m_Translator_put_node T) (hr.mono (by decide)) (pa_cons (pe_num rfl (i_BLANK T)) (pa_cons pe_int (pa_cons (pv 3) pa_nil)))))
    (pss_cons (ps_fld (pv 0) (pe_mt0 (ok_T_popped T) (pv 0) (cls_Translator T) (m_Translator_popped T) (hr.mono (by decide))) rfl)
    (pss_one (ps_expr (pe_bm PySem.F.plainAttrs_list PySem.F.slot_list_append PySem.F.type_list_append mt_append (pe_fld (pv 0) rfl) (pa_cons (pv 3) pa_nil))))))) (pss_one (ps_if (pt_cmpR op_eq (pv 1) pe_int (nomark _)) (pss_cons (ps_set (i := 3) sc_T_bracket.nd rfl (Or.inl rfl) (pe_mt0 (ok_T_popped T) (pv 0) (cls_Translator T) (m_Translator_popped T) (hr.mono (by decide))))
    (pss_cons (ps_expr (pe_mt (ok_T_put_node T) (pv 0) (cls_Translator T) (m_Translator_put_node T) (hr.mono (by decide)) (pa_cons (pe_num rfl (i_BLANK T)) (pa_cons pe_int (pa_cons (pv 3) pa_nil)))))
    (pss_one (ps_fld (pv 0) (pv 3) rfl)))) (pss_one (ps_if (pt_cmpR op_eq (pv 1) pe_int (nomark _)) (pss_cons (ps_set (i := 4) sc_T_bracket.nd rfl (Or.inl rfl) (pe_mt0 (ok_T_number T) (pv 0) (cls_Translator T) (m_Translator_number T) (hr.mono (by decide))))
    (pss_cons (ps_expr (pe_mt (ok_T_put_node T) (pv 0) (cls_Translator T) (m_Translator_put_node T) (hr.mono (by decide)) (pa_cons (pe_num rfl (i_BLANK T)) (pa_cons pe_int (pa_cons (pv 4) pa_nil)))))
    (pss_cons (ps_fld (pv 0) (pv 4) rfl)
    (pss_one (ps_expr (pe_bm PySem.F.plainAttrs_list PySem.F.slot_list_append PySem.F.type_list_append mt_append (pe_fld (pv 0) rfl) (pa_cons (pv 4) pa_nil))))))) (pss_cons (ps_set (i := 4) sc_T_bracket.nd rfl (Or.inl rfl) (pe_mt0 (ok_T_popped T) (pv 0) (cls_Translator T) (m_Translator_popped T) (hr.mono (by decide))))
    (pss_cons (ps_set (i := 3) sc_T_bracket.nd rfl (Or.inl rfl) (pe_mt0 (ok_T_number T) (pv 0) (cls_Translator T) (m_Translator_number T) (hr.mono (by decide))))
    (pss_cons (ps_expr (pe_mt (ok_T_put_node T) (pv 0) (cls_Translator T) (m_Translator_put_node T) (hr.mono (by decide)) (pa_cons (pe_num rfl (i_TEST_translate T)) (pa_cons (pv 3) (pa_cons (pv 4) pa_nil)))))
    (pss_one (ps_fld (pv 0) (pv 3) rfl))))))))))))), ?_⟩
  unfold brackT at k
  refine if_eq (i := 1) rfl (fun e => ?_) fun e => ?_
  · rw [if_pos e] at k
    refine seqR (setR (numberR (i := 0) rfl h fun H1 h1 F1 => ?_))
    refine nxR (seqR (pilR T (i := 0) (x := t.k) rfl h1 (by omega) (fun Q q => varR (i := 2) rfl q) fun H2 h2 F2 => ?_))
    exact nxR (trM (63, t.k) (i := 0) rfl h2 (by decide +kernel) (fun R q => consR (cR (consR (varR (i := 2) rfl q)))) (by omega) trivial fun H3 h3 F3 => k _ _ ⟨h3, (F1.trans F2).trans F3⟩)
  rw [if_neg e] at k
  refine if_eq (i := 1) rfl (fun e => ?_) fun e => ?_
  · rw [if_pos e] at k
    refine seqR (setR (numberR (i := 0) rfl h fun H1 h1 F1 => ?_))
    refine nxR (seqR (trM (32, 0, t.k) (i := 0) rfl h1 (by decide +kernel) (fun R q => consR (cR (consR (cR (consR (varR (i := 3) rfl q)))))) (by omega) trivial fun H2 h2 F2 => ?_))
    refine nxR (seqR (sfR (poppedR (i := 0) rfl h2 fun H3 h3 F3 => varR (i := 0) rfl (putR T h3 (na_Translator_m T) (hd0 t.pile) _ _ _ ov fi (puT_m _ _ _ _ _ _ _ _) fun H4 h4 F4 => ?_))))
    exact nxR (pilR T (i := 0) (x := t.k) rfl h4 (by omega) (fun Q q => varR (i := 3) rfl q) fun H5 h5 F5 => k _ _ ⟨h5, (((F1.trans F2).trans F3).trans F4).trans F5⟩)
  rw [if_neg e] at k
  refine if_eq (i := 1) rfl (fun e => ?_) fun e => ?_
  · rw [if_pos e] at k
    refine seqR (setR (poppedR (i := 0) rfl h fun H1 h1 F1 => ?_))
    refine nxR (seqR (trM (32, 0, hd0 t.pile) (i := 0) rfl h1 (by decide +kernel) (fun R q => consR (cR (consR (cR (consR (varR (i := 3) rfl q)))))) (by omega) trivial fun H2 h2 F2 => ?_))
    exact nxR (sfR (varR (i := 3) rfl (varR (i := 0) rfl (putR T h2 (na_Translator_m T) (hd0 t.pile) _ _ _ ov fi (puT_m _ _ _ _ _ _ _ _) fun H4 h4 F4 => k _ _ ⟨h4.mono (by omega), (F1.trans F2).trans F4⟩))))
  rw [if_neg e] at k
  refine if_eq (i := 1) rfl (fun e => ?_) fun e => ?_
  · rw [if_pos e] at k
    refine seqR (setR (numberR (i := 0) rfl h fun H1 h1 F1 => ?_))
    refine nxR (seqR (trM (32, 0, t.k) (i := 0) rfl h1 (by decide +kernel) (fun R q => consR (cR (consR (cR (consR (varR (i := 4) rfl q)))))) (by omega) trivial fun H2 h2 F2 => ?_))
    refine nxR (seqR (sfR (varR (i := 4) rfl (varR (i := 0) rfl (putR T h2 (na_Translator_m T) t.k _ _ _ ov fi (puT_m _ _ _ _ _ _ _ _) fun H4 h4 F4 => ?_)))))
    exact nxR (pilR T (i := 0) (x := t.k) rfl h4 (by omega) (fun Q q => varR (i := 4) rfl q) fun H5 h5 F5 => k _ _ ⟨h5, ((F1.trans F2).trans F4).trans F5⟩)
  rw [if_neg e] at k
  refine seqR (setR (poppedR (i := 0) rfl h fun H1 h1 F1 => ?_))
  refine nxR (seqR (setR (numberR (i := 0) rfl h1 fun H2 h2 F2 => ?_)))
  refine nxR (seqR (trM (63, t.k, hd0 t.pile) (i := 0) rfl h2 (by decide +kernel) (fun R q => consR (cR (consR (varR (i := 3) rfl (consR (varR (i := 4) rfl q)))))) (by omega) trivial fun H3 h3 F3 => ?_))
  exact nxR (sfR (varR (i := 3) rfl (varR (i := 0) rfl (putR T h3 (na_Translator_m T) t.k _ _ _ ov fi (puT_m _ _ _ _ _ _ _ _) fun H4 h4 F4 => k _ _ ⟨h4.mono (by omega), ((F1.trans F2).trans F3).trans F4⟩))))
theorem ok_T_sign (T : Txt w K mg) : Kept P w K mg base 4 (He.ma K (cT K) "sign") ps_T_sign (sp_T_sign K) := by
  obtain ⟨fd, F⟩ := fd_T_sign T
  refine ⟨fd, F.ok sc_T_sign (fun vs H Q E ⟨a, e, _⟩ => by rw [e] <;> rfl) (fun cdv A outer s H vs Q E hr h => ?_), F.kp, bd_T_sign F⟩
  obtain ⟨⟨⟨l, t, ov, fi, b⟩, c⟩, rfl, ⟨h, hb, _⟩, k⟩ := h
  replace h : TAt (cT K) l t ov fi b H := h
  replace hb : b + 2 ≤ 3000000 := hb
  replace k : ∀ v H', TAt (cT K) l (signT c t) ov fi (b + 2) H' ∧ Fr l.wr H H' → Q v H' := k
  refine ⟨_, PSs.nox (pss_cons (ps_if (pt_cmpR op_le (pv 1) (pe_num rfl (i_BLANK T)) (nomark _)) (pss_one ps_retN) pss_nil)
    (pss_one (ps_if (PW.pt (pw_or (pt_cmpR op_eq (pv 1) (pe_num rfl (i_QUOTE T)) (nomark _)) (pw_or (pt_cmpR op_eq (pv 1) (pe_num rfl (i_ASSIGN T)) (nomark _)) (pw_or1 (pt_cmpR op_eq (pv 1) (pe_num rfl (i_COLON T)) (nomark _)))))) (pss_one (ps_fld (pv 0) (pv 1) rfl)) (pss_one (ps_if (PW.pt (pw_or (pt_cmpR op_eq (pv 1) pe_int (nomark _)) (pw_or (pt_cmpR op_eq (pv 1) pe_int (nomark _)) (pw_or1 (pt_chain op_le op_le pe_int (pv 1) pe_int))))) (pss_one (ps_expr (pe_mt (ok_T_bracket T) (pv 0) (cls_Translator T) (m_Translator_bracket T) (hr.mono (by decide)) (pa_cons (pv 1) pa_nil)))) (pss_one (ps_if (pt_cmpR op_eq (pv 1) (pe_num rfl (i_SEMICOLON T)) (nomark _)) (pss_cons (ps_expr (pe_mt (ok_T_put_node T) (pv 0) (cls_Translator T) (m_Translator_put_node T) (hr.mono (by decide)) (pa_cons (pe_num rfl (i_RETURN_translate T)) (pa_cons pe_int (pa_cons pe_int pa_nil)))))
    (pss_one (ps_fld (pv 0) (pe_mt0 (ok_T_popped T) (pv 0) (cls_Translator T) (m_Translator_popped T) (hr.mono (by decide))) rfl))) (pss_one (ps_expr (pe_mt (ok_T_emit T) (pv 0) (cls_Translator T) (m_Translator_emit T) (hr.mono (by decide)) (pa_cons (pv 1) (pa_cons pe_int pa_nil)))))))))))), ?_⟩
  unfold signT at k
  refine seqR (if_le (i := 1) rfl (fun e => ?_) fun e => ?_)
  · rw [if_pos e] at k
    exact k _ _ ⟨h.mono (by omega), Fr.refl _ _⟩
  rw [if_neg e] at k
  refine nxR ?_
  have eqT : ∀ {z : Int} {Q : Bool → Hp → Prop}, (c = z → Q true H) → (¬ c = z → Q false H) → tTest (tOp rEq (tVar 1) (tC (.int z))) (start ns_T_sign [.ref l.p, .int c]) H Q := fun {z Q} a1 a2 => by
    refine testR (opR (varR (i := 1) rfl (cR ⟨rfl, _, rfl, ?_⟩)))
    by_cases e : c = z
    · rw [decide_eq_true (by rw [e])]; exact a1 e
    · rw [decide_eq_false (fun q => e (V.int.inj q))]; exact a2 e
  have wai : (c = 39 ∨ c = 61 ∨ c = 58) → sFld K (tVar 0) (tVar 1) "waiting" { nx := fun _ H' => Q .non H', rt := Q } (start ns_T_sign [.ref l.p, .int c]) H := fun e => by
    rw [if_pos e] at k
    exact sfR (varR (i := 1) rfl (varR (i := 0) rfl (putR T h (na_Translator_waiting T) _ _ _ (some c) ov fi (puT_wai _ _ _ _ _ _ _ _) fun H1 h1 F1 => k _ _ ⟨h1.mono (by omega), F1⟩)))
  refine ifR (orR (eqT (fun e => iteT (iteT (wai (.inl e)))) fun e1 => iteF (orR (eqT (fun e => iteT (iteT (wai (.inr (.inl e))))) fun e2 => iteF (eqT (fun e => iteT (wai (.inr (.inr e)))) fun e3 => iteF ?_)))))
  rw [if_neg (by omega)] at k
  have bra : (c = 91 ∨ c = 93 ∨ (123 ≤ c ∧ c ≤ 125)) → tDrop (tMeth (cT K) "bracket" (sp_T_bracket K) [] E0 (tVar 0) (tCons (tVar 1) tNil)) { nx := fun _ H' => Q .non H', rt := Q } (start ns_T_sign [.ref l.p, .int c]) H := fun e => by
    rw [if_pos e] at k
    exact trM c (i := 0) rfl h (by decide +kernel) (fun R q => consR (varR (i := 1) rfl q)) hb e fun H1 h1 F1 => k _ _ ⟨h1, F1⟩
  have btT : ∀ {z z' : Int} {Q : Bool → Hp → Prop}, (z ≤ c ∧ c ≤ z' → Q true H) → (¬ (z ≤ c ∧ c ≤ z') → Q false H) → tTest (tChain (rI0 fun i j => .bl (decide (i ≤ j))) (rI0 fun i j => .bl (decide (i ≤ j))) (tC (.int z)) (tVar 1) (tC (.int z'))) (start ns_T_sign [.ref l.p, .int c]) H Q := fun {z z' Q} a1 a2 => by
    refine testR (chainR (cR (varR (i := 1) rfl ⟨_, _, rfl, rfl, _, rfl, ?_⟩)))
    refine ite2 (fun q => ?_) (fun q => ?_)
    · refine cR ⟨_, _, rfl, rfl, _, rfl, ?_⟩
      by_cases e : c ≤ z'
      · rw [decide_eq_true e]; exact a1 ⟨of_decide_eq_true q, e⟩
      · rw [decide_eq_false e]; exact a2 fun z => e z.2
    · exact ⟨_, rfl, a2 fun z => q (decide_eq_true z.1)⟩
  refine ifR (orR (eqT (fun e => iteT (iteT (bra (.inl e)))) fun e4 => iteF (orR (eqT (fun e => iteT (iteT (bra (.inr (.inl e))))) fun e5 => iteF (btT (fun e => iteT (bra (.inr (.inr e)))) fun e6 => iteF ?_)))))
  rw [if_neg (by omega)] at k
  refine if_eq (i := 1) rfl (fun e => ?_) fun e => ?_
  · rw [if_pos e] at k
    refine seqR (trM (41, 0, 1) (i := 0) rfl h (by decide +kernel) (fun R q => consR (cR (consR (cR (consR (cR q)))))) (by omega) trivial fun H2 h2 F2 => ?_)
    exact nxR (sfR (poppedR (i := 0) rfl h2 fun H3 h3 F3 => varR (i := 0) rfl (putR T h3 (na_Translator_m T) (hd0 t.pile) _ _ _ ov fi (puT_m _ _ _ _ _ _ _ _) fun H4 h4 F4 => k _ _ ⟨h4.mono (by omega), (F2.trans F3).trans F4⟩)))
  · rw [if_neg e] at k
    exact trM (c, 0) (i := 0) rfl h (by decide +kernel) (fun R q => consR (varR (i := 1) rfl (consR (cR q)))) (by omega) trivial fun H1 h1 F1 => k _ _ ⟨h1.mono (by omega), F1⟩
theorem ok_T_take (T : Txt w K mg) : Kept P w K mg base 5 (He.ma K (cT K) "take") ps_T_take (sp_T_take K) := by
  obtain ⟨fd, F⟩ := fd_T_take T
  refine ⟨fd, F.ok sc_T_take (fun vs H Q E ⟨a, e, _⟩ => by rw [e] <;> rfl) (fun cdv A outer s H vs Q E hr h => ?_), F.kp, bd_T_take F⟩
  obtain ⟨⟨⟨l, t, ov, fi, b⟩, c⟩, rfl, ⟨h, hb, hc, ho⟩, k⟩ := h
  replace ho : ov = false := ho
  subst ho
  replace h : TAt (cT K) l t false fi b H := h
  replace hb : b + 3 ≤ 3000000 := hb
  replace hc : 0 ≤ c := hc
  replace k : ∀ v H', TAt (cT K) l (takeT c t) false fi (b + 3) H' ∧ Fr l.wr H H' → Q v H' := k
  refine ⟨_, PSs.nox (pss_cons (ps_if (pt_val (pe_fld (pv 0) rfl)) (pss_one ps_retN) pss_nil)
    (pss_one (ps_if (pt_cmpR op_lt (pv 1) pe_int (nomark _)) (pss_one (ps_fld (pv 0) pe_bl rfl)) (pss_one (ps_if (pt_cmpR op_notN1 (pe_fld (pv 0) rfl) pe_non (nomark _)) (pss_one (ps_expr (pe_mt (ok_T_paired T) (pv 0) (cls_Translator T) (m_Translator_paired T) (hr.mono (by decide)) (pa_cons (pv 1) pa_nil)))) (pss_one (ps_if (pt_chain op_le op_le pe_int (pv 1) pe_int) (pss_cons (ps_set (i := 2) sc_T_take.nd rfl (Or.inl rfl) pe_int)
    (pss_cons (ps_if (pt_cmpR op_notN1 (pe_fld (pv 0) rfl) pe_non (nomark _)) (pss_one (ps_set (i := 2) sc_T_take.nd rfl (Or.inl rfl) (pe_fld (pv 0) rfl))) pss_nil)
    (pss_one (ps_fld (pv 0) (pe_op op_sub (pe_op op_add (pe_op op_mul pe_int (pv 2)) (pv 1)) pe_int) rfl)))) (pss_cons (ps_expr (pe_mt0 (ok_T_end_numeral T) (pv 0) (cls_Translator T) (m_Translator_end_numeral T) (hr.mono (by decide))))
    (pss_one (ps_expr (pe_mt (ok_T_sign T) (pv 0) (cls_Translator T) (m_Translator_sign T) (hr.mono (by decide)) (pa_cons (pv 1) pa_nil)))))))))))), ?_⟩
  unfold takeT at k
  refine seqR (ifR (tbR (gOv T (i := 0) rfl h ⟨false, rfl, iteF ?_⟩)))
  refine nxR (if_lt (i := 1) rfl (fun e => absurd e (by omega)) fun _ => ?_)
  refine if_nn (o := t.wait) (fun Q q => gWa T (i := 0) rfl h q) (fun v ev => ?_) (fun ev => ?_)
  · rw [if_pos (by rw [ev]; simp)] at k
    exact trM c (i := 0) rfl h (by decide +kernel) (fun R q => consR (varR (i := 1) rfl q)) (by omega) (by show t.wait ≠ none; rw [ev]; simp) fun H1 h1 F1 => k _ _ ⟨h1.mono (by omega), F1⟩
  · rw [if_neg (by rw [ev]; simp)] at k
    refine if_bt (i := 1) rfl (fun e => ?_) fun e => ?_
    · rw [if_pos e] at k
      refine seqR (setR (cR ?_))
      have fin : ∀ y : Int, y = t.num.getD 0 → sFld K (tVar 0) (tOp (rI0 fun i j => .int (i - j)) (tOp (rI0 fun i j => .int (i + j)) (tOp (rI CMul fun i j => .int (i * j)) (tC (.int 10)) (tVar 2)) (tVar 1)) (tC (.int 48))) "numeral" { nx := fun _ H' => Q .non H', rt := Q } [some (.ref l.p), some (.int c), some (.int y)] H := fun y ey => by
        refine sfR (opR (opR (opR (cR (varR (i := 2) rfl ⟨_, _, rfl, rfl, .inl ⟨by decide, by decide⟩, varR (i := 1) rfl ⟨_, _, rfl, rfl, cR ⟨_, _, rfl, rfl, varR (i := 0) rfl ?_⟩⟩⟩)))))
        subst ey
        exact putR T h (na_Translator_numeral T) _ _ (some (10 * t.num.getD 0 + c - 48)) _ false fi (puT_num _ _ _ _ _ _ _ _) fun H1 h1 F1 => k _ _ ⟨h1.mono (by omega), F1⟩
      refine nxR (seqR (if_nn (o := t.num) (fun Q q => gNu T (i := 0) rfl h q) (fun v ev => ?_) (fun ev => ?_)))
      · refine setR (gNu T (i := 0) rfl h ?_)
        rw [ev]
        exact nxR (fin v (by rw [ev] <;> rfl))
      · exact nxR (fin 0 (by rw [ev] <;> rfl))
    · rw [if_neg e] at k
      refine seqR (trM () (i := 0) rfl h (by decide +kernel) (fun R q => q) (by omega) trivial fun H1 h1 F1 => ?_)
      exact nxR (trM c (i := 0) rfl h1 (by decide +kernel) (fun R q => consR (varR (i := 1) rfl q)) (by omega) trivial fun H2 h2 F2 => k _ _ ⟨h2, F1.trans F2⟩)
end
end Pk
namespace Pk
open PySem PySem.Spec PyProof.Rows L2
/-- a class made by keywords alone -/
theorem pe_mkK0 {X : Cx} {k : Nat} {f C : Addr} {ps ks : List Str} {sp : Sp} {x : Str} {p pos : Pos} {kws : List Keyword} {tk : TA} (G : KeptK X.prog X.w X.K X.mg X.base k f ps 1 ks sp) (M : Mk X.K C f) (hr : Room (k + 1) X.A) (hg : Gl X x) (hm : X.mg x = some (.ref C)) (hkw : PK X kws tk)
    (hall : (backToKw pos (keywordEach kws X.env)).all (·.1.isSome) = true := by rfl) (hks : (backToKw pos (keywordEach kws X.env)).filterMap (·.1) = ks := by rfl) (hdb : (x == ("__debug__" : Str)) = false := by decide)
    (hpl : ((backTo pos (starEach [] X.env)).any (·.1) || (backToKw pos (keywordEach kws X.env)).any (·.1.isNone)) = false := by rfl) :
    PE X (.Call (.Name x p) [] kws pos) (tMakeK C 0 ks.length sp (fun vs zs => vs ++ zs) E0 tNil tk) := by
  obtain ⟨fd, F, hk, hb⟩ := G.ex
  exact pe_makeK0 M F hr hg hm hb pass0 hkw hall hks hdb hpl
structure KeptD (P : Program) (w : World) (K : PySem.W.Frag) (mg : Str → Option Value) (base : Heap) (k : Nat) (f : Addr) (ps : List Str) (dvs : List V) (sp : Sp) : Prop where
  ex : ∃ fd ds, FnOk P w K mg base CX0 k f fd ps sp ∧ PySem.W.keepIn K (.ref f) = true ∧ Vals dvs ds ∧ Binds K fd ps ds
theorem pe_fnD {X : Cx} {k : Nat} {f : Addr} {ps : List Str} {dvs : List V} {sp : Sp} {x : Str} {p pos : Pos} {e : Expr} {es : List Expr} {t : TA} (G : KeptD X.prog X.w X.K X.mg X.base k f ps dvs sp) (hr : Room k X.A) (hg : Gl X x) (hm : X.mg x = some (.ref f)) (ha : PA X (e :: es) t) (hdb : (x == ("__debug__" : Str)) = false := by decide)
    (he : starEach (e :: es) X.env = (false, eval e X.env) :: starEach es X.env := by rfl) (hpl : (backTo pos (starEach es X.env)).any (·.1) = false := by rfl) : PE X (.Call (.Name x p) (e :: es) [] pos) (tCall sp dvs E0 t) := by
  obtain ⟨fd, ds, F, hk, hd, hb⟩ := G.ex
  exact pe_call F hr hg hm hk hb hd pass0 ha hdb he hpl
def sp_T_finish (K : PySem.W.Frag) : Sp := mkSp (α := TSt) (fun a => [.ref a.l.p]) (fun a H => TAt (cT K) a.l a.t a.ov false a.b H ∧ a.b + 2 ≤ 3000000) (fun a H v H' => ∃ r, v = .ref r ∧ H r = none ∧ H' r = some (.lst (ivs (flat (finT a.t).nodes))) ∧ Fr a.l.wr H H')
def sp_T_init (K : PySem.W.Frag) : Sp := mkSp (α := Addr × Addr) (fun a => [.ref a.1, .int 200, .int 1]) (fun a H => H a.1 = some (.ins (cT K) a.2 [])) (fun a H v H' => v = .non ∧ ∃ l : TL, l.p = a.1 ∧ TAt (cT K) l tr0 false false 1 H' ∧ (∀ x ∈ l.wr, x = a.1 ∨ H x = none) ∧ Fr [a.1] H H')
def sp_translate : Sp := mkSp (α := Addr × List Nat) (fun a => [.ref a.1, .int 200, .int 1]) (fun a H => H a.1 = some (.lst (a.2.map fun (c : Nat) => V.int (c : Int))) ∧ a.2.length ≤ 900000) (fun a H v H' => ∃ r, v = .ref r ∧ H r = none ∧ H' r = some (.lst (ivs (flat (finT (runT a.2 tr0)).nodes))) ∧ Fr [] H H')
section
variable {P : Program} {w : World} {K : PySem.W.Frag} {mg : Str → Option Value} {base : Heap}
variable {l : TL} {t : Tr} {ov fi : Bool} {b i : Nat} {σ : L2.St} {H : Hp} {D : Ends} {Q : VK}
theorem ok_T_finish (T : Txt w K mg) : Kept P w K mg base 4 (He.ma K (cT K) "finish") ps_T_finish (sp_T_finish K) := by
  obtain ⟨fd, F⟩ := fd_T_finish T
  refine ⟨fd, F.ok sc_T_finish (fun vs H Q E ⟨a, e, _⟩ => by rw [e] <;> rfl) (fun cdv A outer s H vs Q E hr h => ?_), F.kp, bd_T_finish F⟩
  obtain ⟨⟨l, t, ov, fi, b⟩, rfl, ⟨h, hb⟩, k⟩ := h
  replace h : TAt (cT K) l t ov false b H := h
  replace hb : b + 2 ≤ 3000000 := hb
  replace k : ∀ v H', (∃ r, v = .ref r ∧ H r = none ∧ H' r = some (.lst (ivs (flat (finT t).nodes))) ∧ Fr l.wr H H') → Q v H' := k
  refine ⟨_, PSs.nox (pss_cons (ps_fld (pv 0) pe_bl rfl)
    (pss_cons (ps_if (pt_not (pt_val (pe_fld (pv 0) rfl))) (pss_cons (ps_fld (pv 0) pe_bl rfl)
    (pss_cons (ps_fld (pv 0) pe_non rfl)
    (pss_cons (ps_expr (pe_mt0 (ok_T_end_numeral T) (pv 0) (cls_Translator T) (m_Translator_end_numeral T) (hr.mono (by decide))))
    (pss_one (ps_expr (pe_mt (ok_T_emit T) (pv 0) (cls_Translator T) (m_Translator_emit T) (hr.mono (by decide)) (pa_cons (pe_num rfl (i_RETURN_translate T)) (pa_cons pe_int pa_nil)))))))) pss_nil)
    (pss_one (ps_ret (pe_callTy call_list_of rfl (f_list T) (by decide +kernel) (pa_cons (pe_fld (pv 0) rfl) pa_nil)))))), ?_⟩
  refine seqR (sfR (cR (varR (i := 0) rfl (putR T h (na_Translator_over T) _ _ _ _ true false (puT_over _ _ _ _ _ _ _ _) fun H1 h1 F1 => ?_))))
  refine nxR (seqR (ifR (notR (tbR (gFi T (i := 0) rfl h1 ⟨false, rfl, iteT ?_⟩)))))
  refine seqR (sfR (cR (varR (i := 0) rfl (putR T h1 (na_Translator_finished T) _ _ _ _ true true (puT_fin _ _ _ _ _ _ _ _) fun H2 h2 F2 => ?_))))
  refine nxR (seqR (sfR (cR (varR (i := 0) rfl (putR T h2 (na_Translator_waiting T) _ _ _ none true true (puT_waiN _ _ _ _ _ _ _) fun H3 h3 F3 => ?_)))))
  refine nxR (seqR (trM () (i := 0) rfl h3 (by decide +kernel) (fun R q => q) (by omega) trivial fun H4 h4 F4 => ?_))
  refine nxR (trM (41, 0) (i := 0) rfl h4 (by decide +kernel) (fun R q => consR (cR (consR (cR q)))) (by omega) trivial fun H5 h5 F5 => ?_)
  have FF := (((F1.trans F2).trans F3).trans F4).trans F5
  refine nxR (retR (callR (gIm T (i := 0) rfl h5 ⟨l.im, _, rfl, .inl (SqL.of h5.im), fun r nr => k _ _ ⟨r, rfl, ?_, upd_same, FF.new nr⟩⟩)))
  refine FF.back nr ?_
  intro hm
  unfold TL.wr at hm
  simp only [List.mem_cons, List.not_mem_nil, or_false] at hm
  rcases hm with rfl | rfl | rfl
  · rw [h5.ob] at nr; cases nr
  · rw [h5.im] at nr; cases nr
  · rw [h5.pi] at nr; cases nr
theorem pfT (by_ im m k pi nu wa ov fi : V) : putF "finished" fi (putF "over" ov (putF "waiting" wa (putF "numeral" nu (putF "pile" pi (putF "k" k (putF "m" m (putF "image" im (putF "by" by_ [])))))))) = ([("by", by_), ("image", im), ("m", m), ("k", k), ("pile", pi), ("numeral", nu), ("waiting", wa), ("over", ov), ("finished", fi)] : List (Str × V)) := by kernel_rfl
theorem bk_T_init {f : Addr} {fd : FuncData} (F : FunD K "__init__" "Translator.__init__" (defArgs s_T_init) (defBody s_T_init) (defScope s_T_init) [] [("first", .int 200), ("by", .int 1)] f fd) : KBn K fd ps_T_init 1 ["first", "by"] (fun us ws => us ++ ws) (fun vs zs => vs ++ zs) := by
  obtain ⟨oc, od, dV, kV, doc, pm, an, cdv, ct, osl, rfl, lk, hcd, hD, hK⟩ := F.ex
  rcases hD with ⟨_, rfl⟩ | ⟨e, _⟩
  rotate_left
  · exact absurd rfl e
  exact kbn fun s us ws _ l1 l2 => match us, ws, l1, l2 with
    | [_], [_, _], _, _ => .of_eq rfl
/-- one more attribute of the new object -/
theorem newF (T : Txt w K mg) {p dx : Addr} {fs : List (Str × V)} {f : Str} {v : V} (h : H p = some (.ins (cT K) dx fs)) (na : NoAttr K (cT K) f) (hl : fs.length ≤ 100)
    (k : ∀ H2, H2 p = some (.ins (cT K) dx (putF f v fs)) → Fr [p] H H2 → D.nx σ H2) : ∃ a C dx fs, (V.ref p) = .ref a ∧ H a = some (.ins C dx fs) ∧ Cls K C ∧ NoAttr K C f ∧ fs.length < 1000 ∧ D.nx σ (upd H a (.ins C dx (putF f v fs))) :=
  ⟨p, cT K, dx, fs, rfl, h, cls_Translator T, na, by omega, k _ upd_same ((Fr.refl _ _).wr (List.mem_singleton.mpr rfl))⟩
theorem ok_T_init (T : Txt w K mg) : KeptK P w K mg base 1 (He.ma K (cT K) "__init__") ps_T_init 1 ["first", "by"] (sp_T_init K) := by
  obtain ⟨fd, F⟩ := fd_T_init T
  refine ⟨fd, F.ok sc_T_init (fun vs H Q E ⟨a, e, _⟩ => by rw [e] <;> rfl) (fun cdv A outer s H vs Q E hr h => ?_), F.kp, bk_T_init F⟩
  obtain ⟨⟨p, dx⟩, rfl, hp, k⟩ := h
  replace hp : H p = some (.ins (cT K) dx []) := hp
  replace k : ∀ v H', v = .non ∧ (∃ l : TL, l.p = p ∧ TAt (cT K) l tr0 false false 1 H' ∧ (∀ x ∈ l.wr, x = p ∨ H x = none) ∧ Fr [p] H H') → Q v H' := k
  refine ⟨_, PSs.nox (pss_cons (ps_fld (pv 0) (pv 2) rfl)
    (pss_cons (ps_fld (pv 0) (pe_lst (pa_cons pe_int (pa_cons (pe_num rfl (i_BLANK T)) (pa_cons pe_int (pa_cons (pv 1) pa_nil))))) rfl)
    (pss_cons (ps_fld (pv 0) (pv 1) rfl)
    (pss_cons (ps_fld (pv 0) (pe_op op_add (pv 1) (pv 2)) rfl)
    (pss_cons (ps_fld (pv 0) (pe_lst pa_nil) rfl)
    (pss_cons (ps_fld (pv 0) pe_non rfl)
    (pss_cons (ps_fld (pv 0) pe_non rfl)
    (pss_cons (ps_fld (pv 0) pe_bl rfl)
    (pss_one (ps_fld (pv 0) pe_bl rfl)))))))))), ?_⟩
  have nin : ∀ {x : Addr}, x ≠ p → x ∉ [p] := fun h z => h (List.mem_singleton.mp z)
  refine seqR (sfR (varR (i := 2) rfl (varR (i := 0) rfl (newF T hp (na_Translator_by T) (by decide) fun H1 h1 F1 => ?_))))
  have l1 := len_putF (f := "by") (v := .int 1) (n := 0) (fs := []) (Nat.le_refl _)
  refine nxR (seqR (sfR (lstR (consR (cR (consR (cR (consR (cR (consR (varR (i := 1) rfl ?_)))))))))))
  refine ⟨by show 4 ≤ sizeLine; decide, fun im nim => varR (i := 0) rfl ?_⟩
  have pim : im ≠ p := (ne_of_none h1 nim).symm
  have imn : H im = none := F1.back nim (nin pim)
  have G2 : Fr [p] H1 (upd H1 im (.lst [.int 0, .int 32, .int 0, .int 200])) := (Fr.refl _ _).new nim
  have im2 : (upd H1 im (.lst [.int 0, .int 32, .int 0, .int 200])) im = some (.lst [.int 0, .int 32, .int 0, .int 200]) := upd_same
  have p2 : (upd H1 im (.lst [.int 0, .int 32, .int 0, .int 200])) p = some (.ins (cT K) dx (putF "by" (.int 1) [])) := by rw [upd_ne pim.symm]; exact h1
  refine newF T p2 (na_Translator_image T) (by omega) fun H3 h3 F3 => ?_
  have l3 := len_putF (f := "image") (v := .ref im) l1
  have im3 := F3 _ _ im2 (nin pim)
  have FA := (F1.trans G2).trans F3
  refine nxR (seqR (sfR (varR (i := 1) rfl (varR (i := 0) rfl (newF T h3 (na_Translator_m T) (by omega) fun H4 h4 F4 => ?_)))))
  have l4 := len_putF (f := "m") (v := .int 200) l3
  refine nxR (seqR (sfR (opR (varR (i := 1) rfl (varR (i := 2) rfl ⟨_, _, rfl, rfl, varR (i := 0) rfl (newF T h4 (na_Translator_k T) (by omega) fun H5 h5 F5 => ?_)⟩)))))
  have l5 := len_putF (f := "k") (v := .int (200 + 1)) l4
  refine nxR (seqR (sfR (lstR ⟨by show 0 ≤ sizeLine; decide, fun pi npi => varR (i := 0) rfl ?_⟩)))
  have im5 := F5 _ _ (F4 _ _ im3 (nin pim)) (nin pim)
  have FB := (FA.trans F4).trans F5
  have ppi : pi ≠ p := (ne_of_none h5 npi).symm
  have pin : H pi = none := FB.back npi (nin ppi)
  have impi : im ≠ pi := ne_of_none im5 npi
  have G6 : Fr [p] H5 (upd H5 pi (.lst [])) := (Fr.refl _ _).new npi
  have pi6 : (upd H5 pi (.lst [])) pi = some (.lst []) := upd_same
  have p6 : (upd H5 pi (.lst [])) p = some (.ins (cT K) dx (putF "k" (.int (200 + 1)) (putF "m" (.int 200) (putF "image" (.ref im) (putF "by" (.int 1) []))))) := by rw [upd_ne ppi.symm]; exact h5
  refine newF T p6 (na_Translator_pile T) (by omega) fun H7 h7 F7 => ?_
  have l7 := len_putF (f := "pile") (v := .ref pi) l5
  refine nxR (seqR (sfR (cR (varR (i := 0) rfl (newF T h7 (na_Translator_numeral T) (by omega) fun H8 h8 F8 => ?_)))))
  have l8 := len_putF (f := "numeral") (v := .non) l7
  refine nxR (seqR (sfR (cR (varR (i := 0) rfl (newF T h8 (na_Translator_waiting T) (by omega) fun H9 h9 F9 => ?_)))))
  have l9 := len_putF (f := "waiting") (v := .non) l8
  refine nxR (seqR (sfR (cR (varR (i := 0) rfl (newF T h9 (na_Translator_over T) (by omega) fun H10 h10 F10 => ?_)))))
  have l10 := len_putF (f := "over") (v := .bl false) l9
  refine nxR (sfR (cR (varR (i := 0) rfl (newF T h10 (na_Translator_finished T) (by omega) fun H11 h11 F11 => ?_))))
  have FC := (((F7.trans F8).trans F9).trans F10).trans F11
  rw [pfT] at h11
  refine k _ _ ⟨rfl, ⟨p, dx, im, pi⟩, rfl, ?_, ?_, (FB.trans G6).trans FC⟩
  · exact { ob := h11, im := FC _ _ (G6 _ _ im5 (nin pim)) (nin pim), pi := FC _ _ pi6 (nin ppi), ne := impi, lim := Nat.le_refl _, lpi := Nat.zero_le _ }
  · intro x hx
    unfold TL.wr at hx
    simp only [List.mem_cons, List.not_mem_nil, or_false] at hx
    rcases hx with rfl | rfl | rfl
    · exact .inl rfl
    · exact .inr imn
    · exact .inr pin
theorem bd_translate {f : Addr} {fd : FuncData} (F : FunD K "translate" "translate" (defArgs s_translate) (defBody s_translate) (defScope s_translate) [] [("first", .int 200), ("by", .int 1)] f fd) : ∃ ds, Vals [.int 200, .int 1] ds ∧ Binds K fd ps_translate ds :=
  F.binds0 1 (by simp) rfl fun D doc pm an cdv ct us ks l1 l2 => match us, ks, l1, l2 with
    | [_], [_, _], _, _ => ⟨_, _, _, _, _, _, rfl, rfl, _, _, _, _, _, _, rfl, rfl, rfl⟩
theorem runT_take {cs : List Nat} {i : Nat} (h : i < cs.length) : runT (cs.take (i + 1)) tr0 = takeT (cs[i] : Nat) (runT (cs.take i) tr0) := by
  rw [List.take_succ_eq_append_getElem h, runT_app, runT_one]
theorem ok_translate (T : Txt w K mg) : KeptD P w K mg base 6 (He.ga K "translate") ps_translate [.int 200, .int 1] sp_translate := by
  obtain ⟨fd, F⟩ := fd_translate T
  obtain ⟨ds, hv, hbd⟩ := bd_translate F
  refine ⟨fd, ds, F.ok sc_translate (fun vs H Q E ⟨a, e, _⟩ => by rw [e] <;> rfl) (fun cdv A outer s H vs Q E hr h => ?_), F.kp, hv, hbd⟩
  obtain ⟨⟨ca, cs⟩, rfl, ⟨hc, hl⟩, k⟩ := h
  replace hc : H ca = some (.lst (cs.map fun (c : Nat) => V.int (c : Int))) := hc
  replace hl : cs.length ≤ 900000 := hl
  replace k : ∀ v H', (∃ r, v = .ref r ∧ H r = none ∧ H' r = some (.lst (ivs (flat (finT (runT cs tr0)).nodes))) ∧ Fr [] H H') → Q v H' := k
  refine ⟨_, PSs.nox (pss_cons (ps_set (i := 3) sc_translate.nd rfl (Or.inl rfl) (pe_mkK0 (ok_T_init T) (mk_Translator T) (hr.mono (by decide)) rfl (g_Translator T) (pk_cons (pv 1) (pk_cons (pv 2) pk_nil))))
    (pss_cons (ps_for PassesOwn.never rfl (pi_list (pv 0)) (pg_name (i := 4) sc_translate.nd rfl (Or.inl rfl)) (pss_one (ps_expr (pe_mt (ok_T_take T) (pv 3) (cls_Translator T) (m_Translator_take T) (hr.mono (by decide)) (pa_cons (pv 4) pa_nil)))))
    (pss_one (ps_ret (pe_mt0 (ok_T_finish T) (pv 3) (cls_Translator T) (m_Translator_finish T) (hr.mono (by decide))))))), ?_⟩
  refine seqR (setR ⟨_, rfl, _, rfl, rfl, rfl, fun x dx nx ndx nex => ⟨(x, dx), rfl, ?_, ?_⟩⟩)
  · show (upd (upd H dx (.own x)) x (.ins (cT K) dx [])) x = _
    exact upd_same
  rintro v H1 ⟨rfl, l, lp, h1, lw, F1⟩
  replace h1 : TAt (cT K) l tr0 false false 1 H1 := h1
  replace lp : l.p = x := lp
  replace F1 : Fr [x] (upd (upd H dx (.own x)) x (.ins (cT K) dx [])) H1 := F1
  have F0 : Fr [] H (upd (upd H dx (.own x)) x (.ins (cT K) dx [])) := fun b o e n => by
    rw [upd_ne (ne_of_none e nx), upd_ne (ne_of_none e ndx)]; exact e
  have out : ∀ b o, H b = some o → b ∉ l.wr := fun b o e hb => by
    rcases lw b hb with z | z
    · exact ne_of_none e nx z
    · have z2 : (upd (upd H dx (.own x)) x (.ins (cT K) dx [])) b = none := z
      rw [F0 b o e (by simp)] at z2; cases z2
  have FH : Fr [] H H1 := fun b o e n => F1 b o (F0 b o e n) (by
    intro z
    rw [List.mem_singleton] at z
    exact ne_of_none e nx z)
  refine ⟨rfl, ?_⟩
  subst lp
  refine nxR (seqR ?_)
  refine ⟨_, rfl, ca, rfl, ⟨_, SqL.of (FH _ _ hc (by simp))⟩, ?_⟩
  refine for_list (xs := cs.map fun (c : Nat) => V.int (c : Int)) (fun i σ H' => (∃ y, σ = [some (.ref ca), some (.int 200), some (.int 1), some (.ref l.p), y]) ∧ TAt (cT K) l (runT (cs.take i) tr0) false false (1 + 3 * i) H' ∧ Fr [] H H') ⟨⟨_, rfl⟩, h1, FH⟩ ?_ ?_ ?_
  · rintro i σ H2 _ ⟨_, _, F2⟩
    exact SqL.of (F2 _ _ hc (by simp))
  · rintro i y σ H2 hy ⟨⟨z, rfl⟩, h2, F2⟩
    rw [List.getElem?_map] at hy
    obtain ⟨c, ec, rfl⟩ := Option.map_eq_some_iff.mp hy
    obtain ⟨hi, ei⟩ := List.getElem?_eq_some_iff.mp ec
    refine trM (c : Int) (i := 3) rfl h2 (by decide +kernel) (fun R q => consR (varR (i := 4) rfl q)) (by omega) ⟨by show 0 ≤ (c : Int); omega, rfl⟩ fun H3 h3 F3 => ⟨⟨_, rfl⟩, ?_, fun b o e n => F3 _ _ (F2 _ _ e n) (out _ _ e)⟩
    rw [runT_take hi, ei]
    exact h3
  · rintro σ H2 ⟨⟨z, rfl⟩, h2, F2⟩
    rw [List.length_map, List.take_length] at h2
    refine nxR (retR ⟨_, rfl, l.p, l.dx, _, rfl, h2.ob, lkT_none _ _ _ _ _ _ _ (by decide +kernel), ⟨l, _, false, false, _⟩, rfl, ⟨h2, by show 1 + 3 * cs.length + 2 ≤ 3000000; omega⟩, ?_⟩)
    rintro v H3 ⟨r, rfl, nr, hr3, F3⟩
    refine k _ _ ⟨r, rfl, F2.back nr (by simp), hr3, fun b o e n => F3 _ _ (F2 _ _ e n) (out _ _ e)⟩
end
end Pk
namespace Pk
open PySem PySem.Spec PyProof.Rows L2
theorem iteY {c : Bool} {A B : Prop} (hc : c = true) (h : A) : if c = true then A else B := by rw [if_pos hc]; exact h
theorem iteX {c : Bool} {A B : Prop} (hc : c = false) (h : B) : if c = true then A else B := by rw [hc]; exact iteF h
theorem dpAll_ivs {K : PySem.W.Frag} {H : Hp} : ∀ xs : List Int, DpAll K H (ivs xs) (xs.map PyData.int)
  | [] => .nil
  | x :: r => .cons (.int x) (dpAll_ivs r)
theorem dp_ivs {K : PySem.W.Frag} {H : Hp} {a : Addr} {xs : List Int} (h : H a = some (.lst (ivs xs))) : Dp K H (.ref a) (.list (xs.map PyData.int)) := .lst (SqL.of h) (dpAll_ivs xs)
theorem eqvAll_ints : ∀ xs ys : List Int, PyData.eqvAll (xs.map .int) (ys.map .int) = decide (xs = ys)
  | [], [] => rfl
  | [], _ :: _ => by simp [PyData.eqvAll]
  | _ :: _, [] => by simp [PyData.eqvAll]
  | x :: xs, y :: ys => by
    simp only [List.map_cons, PyData.eqvAll, eqvAll_ints xs ys]
    by_cases e : x = y
    · subst e; simp [PyData.eqv]
    · simp [PyData.eqv, e]
theorem eqv_ints (xs ys : List Int) : PyData.eqv (.list (xs.map .int)) (.list (ys.map .int)) = decide (xs = ys) := by rw [PyData.eqv, eqvAll_ints]
theorem canLay_ints : ∀ xs : List Int, PyData.canLayAll0 (xs.map .int) = true
  | [] => rfl
  | x :: r => by simp [PyData.canLayAll0, PyData.canLay0, canLay_ints r]
theorem shaped_ints (xs : List Int) : SeqAt.shaped (.list (xs.map .int)) = true := by
  unfold SeqAt.shaped
  rw [show (PyData.list (xs.map .int)).canLay0 = PyData.canLayAll0 (xs.map .int) by rw [PyData.canLay0], canLay_ints, PyData.depth, PyProof.Rows.depthAll_ints]
  rfl
def LureOk (ls : List Int) : Prop := 1 ≤ ls.length ∧ ls.length ≤ 12 ∧ ∀ c ∈ ls, 0 ≤ c ∧ c ≤ 126
def ExtraOk (xs : List Int) : Prop := xs.length ≤ 12 ∧ xs.length % 4 = 0
def sp_is_trap : Sp := mkSp (α := (Addr × List Int) × (Addr × List Int)) (fun a => [.ref a.1.1, .ref a.2.1]) (fun a H => (H a.1.1 = some (.lst (ivs a.1.2)) ∧ LureOk a.1.2) ∧ H a.2.1 = some (.lst (ivs a.2.2)) ∧ ExtraOk a.2.2) (fun a H v H' => v = .bl true ∧ Fr [] H H')
section
variable {P : Program} {w : World} {K : PySem.W.Frag} {mg : Str → Option Value} {base : Heap}
variable {i : Nat} {σ : L2.St} {H : Hp} {D : Ends} {Q : VK} {te ta tb : TE} {t1 t2 : TS} {r : R2} {tt : TT}
theorem notVR (h : ta σ H fun x H1 => ∃ c, x = .bl c ∧ Q (.bl (!c)) H1) : tNotV ta σ H Q := h
theorem yesR {B : Hp → Prop} (h : te σ H Q) : tYes σ H (fun b H3 => if b = true then te σ H3 Q else B H3) := by
  show (if true = true then te σ H Q else B H)
  rw [if_pos rfl]
  exact h
theorem aVR (h : ta σ H fun x H1 => ∃ c, x = .bl c ∧ if c = true then tb σ H1 Q else Q (.bl false) H1) : tAndV ta tb σ H Q := h
theorem any_falses : ∀ n : Nat, (List.replicate n false).any id = false
  | 0 => rfl
  | n + 1 => by rw [List.replicate_succ, List.any_cons, any_falses n] <;> rfl
theorem ok_is_trap (T : Txt w K mg) : Kept P w K mg base 1 (He.ga K "is_trap") ps_is_trap sp_is_trap := by
  obtain ⟨fd, F⟩ := fd_is_trap T
  refine ⟨fd, F.ok sc_is_trap (fun vs H Q E ⟨a, e, _⟩ => by rw [e] <;> rfl) (fun cdv A outer s H vs Q E hr h => ?_), F.kp, bd_is_trap F⟩
  obtain ⟨⟨⟨la, ls⟩, ⟨xa, xs⟩⟩, rfl, ⟨⟨hl, l1, l2, l3⟩, hx, x1, x2⟩, k⟩ := h
  replace hl : H la = some (.lst (ivs ls)) := hl
  replace hx : H xa = some (.lst (ivs xs)) := hx
  replace l1 : 1 ≤ ls.length := l1
  replace l2 : ls.length ≤ 12 := l2
  replace l3 : ∀ c ∈ ls, 0 ≤ c ∧ c ≤ 126 := l3
  replace x1 : xs.length ≤ 12 := x1
  replace x2 : xs.length % 4 = 0 := x2
  replace k : ∀ v H', v = .bl true ∧ Fr [] H H' → Q v H' := k
  refine ⟨_, PSs.nox (pss_cons (ps_if (pt_not (pt_chain op_le op_le pe_int (pe_callB call_len_seq rfl (f_len T) PySem.boot_len (pa_cons (pv 0) pa_nil)) (pe_num rfl (i_MOST_LURE T)))) (pss_one (ps_ret pe_bl)) pss_nil)
    (pss_cons (ps_if (pt_val (pe_callB (cr_any rfl) rfl (f_any T) (by decide +kernel) (pa_cons (pe_lc (own := [("code", 2)]) (g := gName 2) (tt := tYes) rfl sc_is_trap.nd (pi_list (pv 0)) (blkOk_by (own := [("code", 2)]) (N := ns_is_trap) (sc := defScope s_is_trap) (by decide +kernel)) (fun _ _ _ _ _ => pg_name (i := 2) sc_is_trap.nd rfl (Or.inl rfl)) (fun _ _ _ _ _ => pts_nil) (fun _ _ _ _ _ => (pe_not (pe_chain op_le op_le pe_int (pv 2) pe_int)))) pa_nil))) (pss_one (ps_ret pe_bl)) pss_nil)
    (pss_one (ps_ret (pe_and (pe_cmpR op_le (pe_callB call_len_seq rfl (f_len T) PySem.boot_len (pa_cons (pv 1) pa_nil)) (pe_num rfl (i_MOST_EXTRA T)) (nomark _)) (pe_one (pe_cmpR op_eq (pe_op op_mod (pe_callB call_len_seq rfl (f_len T) PySem.boot_len (pa_cons (pv 1) pa_nil)) pe_int) pe_int (nomark _)))))))), ?_⟩
  refine seqR (ifR (notR (testR (chainR (cR (callR (varR (i := 0) rfl ⟨la, _, rfl, .inl (SqL.of hl), _, _, rfl, rfl, _, rfl, ?_⟩)))))))
  rw [ivs_len]
  refine iteY (decide_eq_true (by omega)) (cR ⟨_, _, rfl, rfl, _, rfl, iteX ?_ ?_⟩)
  · simp; omega
  refine nxR (seqR (ifR (tbR (callR ?_))))
  refine ⟨_, rfl, la, rfl, ⟨_, SqL.of hl⟩, fun D hD => ?_⟩
  have hDl : la ≠ D := ne_of_none hl hD
  refine lc_list (xs := ivs ls) (fun i H' => H' D = some (.lst ((List.replicate i false).map V.bl)) ∧ Fr [] H H') ⟨upd_same, (Fr.refl _ _).new hD⟩ (fun _ _ _ ⟨_, F1⟩ => SqL.of (F1 _ _ hl (by simp))) ?_ ?_
  · rintro i x H1 hx ⟨h1, F1⟩
    rw [List.getElem?_map] at hx
    obtain ⟨c, ec, rfl⟩ := Option.map_eq_some_iff.mp hx
    obtain ⟨hi, ei⟩ := List.getElem?_eq_some_iff.mp ec
    have hc := l3 c (by rw [← ei]; exact List.getElem_mem hi)
    refine ⟨rfl, ?_⟩
    refine yesR ?_
    refine notVR (chainR (cR (varR (i := 2) rfl ⟨_, _, rfl, rfl, _, rfl, iteY (decide_eq_true hc.1) (cR ⟨_, _, rfl, rfl, _, rfl, ?_⟩)⟩)))
    refine ⟨_, h1, by rw [List.length_map, List.length_replicate]; exact line_of (by omega), ?_, ?_⟩
    · rw [upd_same, List.replicate_succ', List.map_append, decide_eq_true hc.2] <;> rfl
    · exact fun b o e n => by
        rw [upd_ne (ne_of_none e hD)]
        exact F1 b o e n
  · rintro H1 ⟨h1, F1⟩
    refine ⟨D, _, rfl, SqL.of h1, _, rfl, iteX (any_falses _) ?_⟩
    refine nxR (retR (aVR (opR (callR (varR (i := 1) rfl ⟨xa, _, rfl, .inl (SqL.of (F1 _ _ hx (by simp))), cR ⟨_, _, rfl, rfl, _, rfl, iteY ?_ ?_⟩⟩)))))
    · rw [ivs_len]; exact decide_eq_true (by omega)
    · refine opR (opR (callR (varR (i := 1) rfl ⟨xa, _, rfl, .inl (SqL.of (F1 _ _ hx (by simp))), cR ⟨_, _, rfl, rfl, (by show (0 : Int) < 4; decide), cR ⟨rfl, ?_⟩⟩⟩)))
      rw [ivs_len]
      refine k _ _ ⟨?_, F1⟩
      show V.bl (decide (V.int ((xs.length : Int) % 4) = V.int 0)) = V.bl true
      rw [show ((xs.length : Int) % 4) = 0 by omega]
      rfl
def PlOk (ns : List Nd) : Prop := ∃ r, ns = (0, 32, 0, 200) :: r ∧ ∀ x ∈ r, x.1 ≠ 0 ∧ x.1 < 1000000 ∧ x.2.1 ≠ 38
def sp_is_plantable : Sp := mkSp (α := Addr × List Nd) (fun a => [.ref a.1]) (fun a H => H a.1 = some (.lst (ivs (flat a.2))) ∧ PlOk a.2 ∧ a.2.length ≤ 4000000) (fun a H v H' => v = .bl true ∧ Fr [] H H')
theorem cut3 (r : List Nd) : cutV (ivs (flat (((0, 32, 0, 200) : Nd) :: r))) none (some 3) = ivs [0, 32, 0] := by
  unfold cutV
  rfl
theorem cut4r (r : List Nd) : cutV (ivs (flat (((0, 32, 0, 200) : Nd) :: r))) (some 4) none = ivs (flat r) := by
  have e : (ivs (flat (((0, 32, 0, 200) : Nd) :: r))).drop 4 = ivs (flat r) := rfl
  have e2 : (ivs (flat (((0, 32, 0, 200) : Nd) :: r))).length = (flat r).length + 4 := by rw [ivs_len]; rfl
  unfold cutV
  rw [e2, show (some (4 : Int)) = some ((4 : Nat) : Int) from rfl, HT.sIx_nat, HT.sIx_none, Nat.min_eq_left (by omega), e]
  exact List.take_of_length_le (by rw [ivs_len]; omega)
theorem ok_is_plantable (T : Txt w K mg) : Kept P w K mg base 2 (He.ga K "is_plantable") ps_is_plantable sp_is_plantable := by
  obtain ⟨fd, F⟩ := fd_is_plantable T
  refine ⟨fd, F.ok sc_is_plantable (fun vs H Q E ⟨a, e, _⟩ => by rw [e] <;> rfl) (fun cdv A outer s H vs Q E hr h => ?_), F.kp, bd_is_plantable F⟩
  obtain ⟨⟨a, ns⟩, rfl, ⟨h, ⟨r, er, hr1⟩, hl⟩, k⟩ := h
  replace h : H a = some (.lst (ivs (flat ns))) := h
  replace er : ns = (0, 32, 0, 200) :: r := er
  replace hl : ns.length ≤ 4000000 := hl
  replace k : ∀ v H', v = .bl true ∧ Fr [] H H' → Q v H' := k
  refine ⟨_, PSs.nox (pss_cons (ps_if (PW.pt (pw_or (pt_cmpR op_lt (pe_callB call_len_seq rfl (f_len T) PySem.boot_len (pa_cons (pv 0) pa_nil)) pe_int (nomark _)) (pw_or (pt_cmpR op_ne (pe_op op_mod (pe_callB call_len_seq rfl (f_len T) PySem.boot_len (pa_cons (pv 0) pa_nil)) pe_int) pe_int (nomark _)) (pw_or1 (pt_cmpR (op_neD hr.units) (pe_slice sl_list (pv 0) po_none (po_some pe_int)) (pe_lst (pa_cons pe_int (pa_cons pe_int (pa_cons pe_int pa_nil)))) (nomark _)))))) (pss_one (ps_ret pe_bl)) pss_nil)
    (pss_cons (ps_for PassesOwn.never rfl (pi_list (pe_fn (ok_nodes_of T) (hr.mono (by decide)) rfl (g_nodes_of T) (pa_cons (pe_slice sl_list (pv 0) (po_some pe_int) po_none) pa_nil))) (pg_tup rfl (pgs_cons (pg_name (i := 1) sc_is_plantable.nd rfl (Or.inl rfl)) (pgs_cons (pg_name (i := 2) sc_is_plantable.nd rfl (Or.inl rfl)) (pgs_cons (pg_name (i := 3) sc_is_plantable.nd rfl (Or.inl rfl)) (pgs_cons (pg_name (i := 3) sc_is_plantable.nd rfl (Or.inl rfl)) pgs_nil))))) (pss_one (ps_if (PW.pt (pw_or (pt_cmpR op_eq (pv 1) pe_int (nomark _)) (pw_or (pt_cmpR op_ge (pv 1) (pe_num rfl (i_BASE T)) (nomark _)) (pw_or1 (pt_cmpR op_eq (pv 2) (pe_num rfl (i_CELL T)) (nomark _)))))) (pss_one (ps_ret pe_bl)) pss_nil)))
    (pss_one (ps_ret pe_bl)))), ?_⟩
  refine seqR (ifR (orR ?_))
  refine testR (opR (callR (varR (i := 0) rfl ⟨a, _, rfl, .inl (SqL.of h), cR ⟨_, _, rfl, rfl, _, rfl, iteX ?_ (orR ?_)⟩⟩)))
  · rw [ivs_len, flat_len, er, List.length_cons]
    exact decide_eq_false (by omega)
  refine testR (opR (opR (callR (varR (i := 0) rfl ⟨a, _, rfl, .inl (SqL.of h), cR ⟨_, _, rfl, rfl, (by show (0 : Int) < 4; decide), cR ⟨rfl, _, rfl, iteX ?_ ?_⟩⟩⟩))))
  · rw [ivs_len, flat_len]
    show (!decide (V.int (((4 * ns.length : Nat) : Int) % 4) = V.int 0)) = false
    rw [show (((4 * ns.length : Nat) : Int) % 4) = 0 by omega]
    rfl
  refine testR (opR ⟨_, rfl, _, rfl, a, _, rfl, SqL.of h, fun p np => ?_⟩)
  have F1 : Fr [] H (upd H p (.lst (cutV (ivs (flat ns)) none (some 3)))) := (Fr.refl _ _).new np
  refine lstR ⟨(by show 3 ≤ sizeLine; decide), fun q nq => ?_⟩
  have e3 : cutV (ivs (flat ns)) none (some 3) = ivs [0, 32, 0] := by rw [er]; exact cut3 r
  rw [e3] at F1 nq ⊢
  have F2 := F1.new (o := .lst [.int 0, .int 32, .int 0]) nq
  have p2 : (upd (upd H p (.lst (ivs [0, 32, 0]))) q (.lst [.int 0, .int 32, .int 0])) p = some (.lst (ivs [0, 32, 0])) := by rw [upd_ne (ne_of_none upd_same nq)]; exact upd_same
  have q2 : (upd (upd H p (.lst (ivs [0, 32, 0]))) q (.lst [.int 0, .int 32, .int 0])) q = some (.lst (ivs [0, 32, 0])) := upd_same
  have h2 := F2 _ _ h (by simp)
  refine ⟨_, _, dp_ivs p2, dp_ivs q2, shaped_ints _, shaped_ints _, _, rfl, iteX ?_ ?_⟩
  · rw [eqv_ints]; rfl
  generalize (upd (upd H p (.lst (ivs [0, 32, 0]))) q (.lst [.int 0, .int 32, .int 0])) = H2 at F2 h2 ⊢
  refine nxR (seqR ?_)
  refine ⟨_, rfl, _, rfl, a, _, rfl, SqL.of h2, fun p3 n3 => ?_⟩
  have e4 : cutV (ivs (flat ns)) (some 4) none = ivs (flat r) := by rw [er]; exact cut4r r
  rw [e4]
  have F3 := F2.new (o := .lst (ivs (flat r))) n3
  refine ⟨(p3, r), rfl, ⟨upd_same, by rw [er, List.length_cons] at hl; show r.length ≤ 4000000; omega⟩, ?_⟩
  rintro v H4 ⟨rr, rfl, nr, ⟨ps, hr4, hp⟩, F4⟩
  have FA := F3.trans F4
  refine ⟨rr, rfl, ⟨_, SqL.of hr4⟩, ?_⟩
  refine for_list (xs := ps.map V.ref) (fun i σ H' => (∃ x1 x2 x3, σ = [some (.ref a), x1, x2, x3]) ∧ H' = H4) ⟨⟨_, _, _, rfl⟩, rfl⟩ ?_ ?_ ?_
  · rintro i σ H1 _ ⟨_, rfl⟩
    exact SqL.of hr4
  · rintro i x σ H1 hx ⟨⟨x1, x2, x3, rfl⟩, rfl⟩
    rw [List.getElem?_map] at hx
    obtain ⟨p, ep, rfl⟩ := Option.map_eq_some_iff.mp hx
    obtain ⟨nd, en, et⟩ := paired_get hp ep
    obtain ⟨hi, ei⟩ := List.getElem?_eq_some_iff.mp en
    obtain ⟨c1, c2, c3⟩ := hr1 nd (by rw [← ei]; exact List.getElem_mem hi)
    refine ⟨p, _, rfl, SqT.of et, rfl, _, _, rfl, _, _, rfl, _, _, rfl, _, _, rfl, rfl, ?_⟩
    refine ifR (orR (testR (opR (varR (i := 1) rfl (cR ⟨rfl, _, rfl, iteX ?_ ?_⟩)))))
    · exact decide_eq_false fun z => c1 (V.int.inj z)
    refine orR (testR (opR (varR (i := 1) rfl (cR ⟨_, _, rfl, rfl, _, rfl, iteX ?_ ?_⟩))))
    · exact decide_eq_false (by omega)
    refine testR (opR (varR (i := 2) rfl (cR ⟨rfl, _, rfl, iteX ?_ ?_⟩)))
    · exact decide_eq_false fun z => c3 (V.int.inj z)
    exact nxR ⟨⟨_, _, _, rfl⟩, rfl⟩
  · rintro σ H1 ⟨⟨x1, x2, x3, rfl⟩, rfl⟩
    exact nxR (retR (k _ _ ⟨rfl, FA⟩))
def IntTE (te : TE) (σ : L2.St) (z : Int) : Prop := ∀ H (Q : VK), Q (.int z) H → te σ H Q
theorem iC {z : Int} : IntTE (tC (.int z)) σ z := fun _ _ q => q
theorem iV {z : Int} (h : σ[i]? = some (some (.int z))) : IntTE (tVar i) σ z := fun _ _ q => varR h q
theorem iAdd {x y : Int} (a : IntTE ta σ x) (b : IntTE tb σ y) : IntTE (tOp (rI0 fun i j => .int (i + j)) ta tb) σ (x + y) := fun H Q q => opR (a _ _ (b _ _ ⟨_, _, rfl, rfl, q⟩))
theorem iSub {x y : Int} (a : IntTE ta σ x) (b : IntTE tb σ y) : IntTE (tOp (rI0 fun i j => .int (i - j)) ta tb) σ (x - y) := fun H Q q => opR (a _ _ (b _ _ ⟨_, _, rfl, rfl, q⟩))
theorem iNeg {x : Int} (a : IntTE ta σ x) : IntTE (tUn (rU fun i => .int (-i)) ta) σ (-x) := fun H Q q => unR (a _ _ ⟨_, rfl, q⟩)
def NB (t : TA) (σ : L2.St) (ns : List Nd) : Prop := ∀ H (Q : List V → Hp → Prop), (∀ ps H1, Paired (fun p x => H1 p = some (.tup (n4 x))) ps ns → Fr [] H H1 → Q (ps.map V.ref) H1) → t σ H Q
theorem nbN : NB tNil σ [] := fun H Q q => q [] H .nil (Fr.refl _ _)
theorem nbC {a b c d : TE} {x y z u : Int} {t : TA} {ns : List Nd} (h1 : IntTE a σ x) (h2 : IntTE b σ y) (h3 : IntTE c σ z) (h4 : IntTE d σ u) (h : NB t σ ns) : NB (tCons (tTup (tCons a (tCons b (tCons c (tCons d tNil))))) t) σ ((x, y, z, u) :: ns) := fun H Q q => by
  refine consR (h1 _ _ (h2 _ _ (h3 _ _ (h4 _ _ ⟨(by show 4 ≤ sizeLine; decide), fun p np => ?_⟩))))
  have F1 : Fr [] H (upd H p (.tup [.int x, .int y, .int z, .int u])) := (Fr.refl _ _).new np
  refine h _ _ fun ps H1 hp F2 => q (p :: ps) H1 (.cons (F2 _ _ upd_same (by simp)) hp) (F1.trans F2)
theorem lstNB {t : TA} {ns : List Nd} (h : NB t σ ns) (hl : ns.length ≤ 1000) (q : ∀ r H', H r = none → NodesAt H' r ns → Fr [] H H' → Q (.ref r) H') : tLst t σ H Q := by
  refine lstR (h _ _ fun ps H1 hp F1 => ⟨by rw [List.length_map, hp.length]; exact line_le (by omega), fun r nr => q r _ (F1.back nr (by simp)) ⟨ps, upd_same, paired_mono hp fun p x e => ?_⟩ (F1.new nr)⟩)
  rw [upd_ne (ne_of_none e nr)]
  exact e
def sp_nodes {β : Type} (ex : β → List V) (f : β → List Nd) : Sp := mkSp (α := β) ex (fun _ _ => True) (fun a H v H' => ∃ r, v = .ref r ∧ H r = none ∧ NodesAt H' r (f a) ∧ Fr [] H H')
abbrev sp_beginning : Sp := sp_nodes (β := Unit) (fun _ => []) (fun _ => begN)
abbrev sp_comparison : Sp := sp_nodes (β := Int × Int × Int) (fun a => [.int a.1, .int a.2.1, .int a.2.2]) (fun a => cmpN a.1 a.2.1 a.2.2)
abbrev sp_writing : Sp := sp_nodes (β := Int × Int) (fun a => [.int a.1, .int a.2]) (fun a => wriN a.1 a.2)
abbrev sp_copying : Sp := sp_nodes (β := Int × Int) (fun a => [.int a.1, .int a.2]) (fun a => copN a.1 a.2)
theorem ok_beginning (T : Txt w K mg) : Kept P w K mg base 1 (He.ga K "beginning") ps_beginning sp_beginning := by
  obtain ⟨fd, F⟩ := fd_beginning T
  refine ⟨fd, F.ok sc_beginning (fun vs H Q E ⟨a, e, _⟩ => by rw [e] <;> rfl) (fun cdv A outer s H vs Q E hr h => ?_), F.kp, bd_beginning F⟩
  obtain ⟨a, rfl, _, k⟩ := h
  refine ⟨_, PSs.nox (pss_one (ps_ret (pe_lst (pa_cons (pe_tup (pa_cons pe_int (pa_cons (pe_num rfl (i_PUSH_traps T)) (pa_cons pe_int (pa_cons (pe_num rfl (i_BASE T)) pa_nil))))) (pa_cons (pe_tup (pa_cons (pe_num rfl (i_BASE T)) (pa_cons (pe_num rfl (i_CELL T)) (pa_cons pe_int (pa_cons (pe_op op_add (pe_num rfl (i_BASE T)) pe_int) pa_nil))))) (pa_cons (pe_tup (pa_cons (pe_op op_add (pe_num rfl (i_BASE T)) pe_int) (pa_cons (pe_num rfl (i_CALL T)) (pa_cons pe_int (pa_cons (pe_op op_add (pe_num rfl (i_BASE T)) pe_int) pa_nil))))) (pa_cons (pe_tup (pa_cons (pe_op op_add (pe_num rfl (i_BASE T)) pe_int) (pa_cons (pe_num rfl (i_REWIND T)) (pa_cons pe_int (pa_cons (pe_op op_add (pe_num rfl (i_BASE T)) pe_int) pa_nil))))) pa_nil))))))), ?_⟩
  exact retR (lstNB (ns := begN) (nbC iC iC iC iC (nbC iC iC iC (iAdd iC iC) (nbC (iAdd iC iC) iC iC (iAdd iC iC) (nbC (iAdd iC iC) iC iC (iAdd iC iC) nbN)))) (by decide) fun r H' n1 n2 n3 => k _ _ ⟨r, rfl, n1, n2, n3⟩)
theorem ok_comparison (T : Txt w K mg) : Kept P w K mg base 1 (He.ga K "comparison") ps_comparison sp_comparison := by
  obtain ⟨fd, F⟩ := fd_comparison T
  refine ⟨fd, F.ok sc_comparison (fun vs H Q E ⟨a, e, _⟩ => by rw [e] <;> rfl) (fun cdv A outer s H vs Q E hr h => ?_), F.kp, bd_comparison F⟩
  obtain ⟨⟨x, y, z⟩, rfl, _, k⟩ := h
  refine ⟨_, PSs.nox (pss_one (ps_ret (pe_lst (pa_cons (pe_tup (pa_cons (pv 0) (pa_cons (pe_num rfl (i_TAKE T)) (pa_cons pe_int (pa_cons (pe_op op_add (pv 0) pe_int) pa_nil))))) (pa_cons (pe_tup (pa_cons (pe_op op_add (pv 0) pe_int) (pa_cons (pe_num rfl (i_PUSH_traps T)) (pa_cons (pv 1) (pa_cons (pe_op op_add (pv 0) pe_int) pa_nil))))) (pa_cons (pe_tup (pa_cons (pe_op op_add (pv 0) pe_int) (pa_cons (pe_num rfl (i_SAME T)) (pa_cons pe_int (pa_cons (pe_op op_add (pv 0) pe_int) pa_nil))))) (pa_cons (pe_tup (pa_cons (pe_op op_add (pv 0) pe_int) (pa_cons (pe_num rfl (i_TEST_traps T)) (pa_cons (pv 2) (pa_cons (pe_op op_add (pv 0) pe_int) pa_nil))))) pa_nil))))))), ?_⟩
  refine retR (lstNB (ns := cmpN x y z) (nbC (iV (i := 0) rfl) iC iC (iAdd (iV (i := 0) rfl) iC) (nbC (iAdd (iV (i := 0) rfl) iC) iC (iV (i := 1) rfl) (iAdd (iV (i := 0) rfl) iC) (nbC (iAdd (iV (i := 0) rfl) iC) iC iC (iAdd (iV (i := 0) rfl) iC) (nbC (iAdd (iV (i := 0) rfl) iC) iC (iV (i := 2) rfl) (iAdd (iV (i := 0) rfl) iC) nbN)))) ?_ fun r H' n1 n2 n3 => k _ _ ⟨r, rfl, n1, n2, n3⟩)
  show 4 ≤ 1000
  decide
theorem ok_writing (T : Txt w K mg) : Kept P w K mg base 1 (He.ga K "writing") ps_writing sp_writing := by
  obtain ⟨fd, F⟩ := fd_writing T
  refine ⟨fd, F.ok sc_writing (fun vs H Q E ⟨a, e, _⟩ => by rw [e] <;> rfl) (fun cdv A outer s H vs Q E hr h => ?_), F.kp, bd_writing F⟩
  obtain ⟨⟨x, y⟩, rfl, _, k⟩ := h
  refine ⟨_, PSs.nox (pss_one (ps_ret (pe_lst (pa_cons (pe_tup (pa_cons (pv 0) (pa_cons (pe_num rfl (i_PUSH_traps T)) (pa_cons (pv 1) (pa_cons (pe_op op_add (pv 0) pe_int) pa_nil))))) (pa_cons (pe_tup (pa_cons (pe_op op_add (pv 0) pe_int) (pa_cons (pe_num rfl (i_GIVE T)) (pa_cons pe_int (pa_cons (pe_op op_add (pv 0) pe_int) pa_nil))))) pa_nil))))), ?_⟩
  refine retR (lstNB (ns := wriN x y) (nbC (iV (i := 0) rfl) iC (iV (i := 1) rfl) (iAdd (iV (i := 0) rfl) iC) (nbC (iAdd (iV (i := 0) rfl) iC) iC iC (iAdd (iV (i := 0) rfl) iC) nbN)) ?_ fun r H' n1 n2 n3 => k _ _ ⟨r, rfl, n1, n2, n3⟩)
  show 2 ≤ 1000
  decide
theorem ok_copying (T : Txt w K mg) : Kept P w K mg base 1 (He.ga K "copying") ps_copying sp_copying := by
  obtain ⟨fd, F⟩ := fd_copying T
  refine ⟨fd, F.ok sc_copying (fun vs H Q E ⟨a, e, _⟩ => by rw [e] <;> rfl) (fun cdv A outer s H vs Q E hr h => ?_), F.kp, bd_copying F⟩
  obtain ⟨⟨x, y⟩, rfl, _, k⟩ := h
  refine ⟨_, PSs.nox (pss_cons (ps_set (i := 2) sc_copying.nd rfl (Or.inl rfl) (pe_op op_add (pv 0) pe_int))
    (pss_one (ps_ret (pe_lst (pa_cons (pe_tup (pa_cons (pv 0) (pa_cons (pe_num rfl (i_PUSH_traps T)) (pa_cons (pe_un un_neg (pv 1)) (pa_cons (pe_op op_add (pv 0) pe_int) pa_nil))))) (pa_cons (pe_tup (pa_cons (pe_op op_add (pv 0) pe_int) (pa_cons (pe_num rfl (i_DOUBLE T)) (pa_cons pe_int (pa_cons (pe_op op_add (pv 0) pe_int) pa_nil))))) (pa_cons (pe_tup (pa_cons (pe_op op_add (pv 0) pe_int) (pa_cons (pe_num rfl (i_CELL T)) (pa_cons pe_int (pa_cons (pe_op op_add (pv 0) pe_int) pa_nil))))) (pa_cons (pe_tup (pa_cons (pe_op op_add (pv 0) pe_int) (pa_cons (pe_num rfl (i_GIVE T)) (pa_cons pe_int (pa_cons (pe_op op_add (pv 0) pe_int) pa_nil))))) (pa_cons (pe_tup (pa_cons (pe_op op_add (pv 0) pe_int) (pa_cons (pe_num rfl (i_PUSH_traps T)) (pa_cons pe_int (pa_cons (pe_op op_add (pv 0) pe_int) pa_nil))))) (pa_cons (pe_tup (pa_cons (pe_op op_add (pv 0) pe_int) (pa_cons (pe_num rfl (i_PLUS T)) (pa_cons pe_int (pa_cons (pe_op op_add (pv 0) pe_int) pa_nil))))) (pa_cons (pe_tup (pa_cons (pe_op op_add (pv 0) pe_int) (pa_cons (pe_num rfl (i_DOUBLE T)) (pa_cons pe_int (pa_cons (pe_op op_add (pv 0) pe_int) pa_nil))))) (pa_cons (pe_tup (pa_cons (pe_op op_add (pv 0) pe_int) (pa_cons (pe_num rfl (i_TEST_traps T)) (pa_cons (pe_op op_add (pv 0) pe_int) (pa_cons (pe_op op_add (pv 0) pe_int) pa_nil))))) (pa_cons (pe_tup (pa_cons (pe_op op_add (pv 0) pe_int) (pa_cons (pe_num rfl (i_DROP T)) (pa_cons pe_int (pa_cons (pv 2) pa_nil))))) (pa_cons (pe_tup (pa_cons (pv 2) (pa_cons (pe_num rfl (i_RETURN_traps T)) (pa_cons pe_int (pa_cons (pe_op op_add (pv 2) pe_int) pa_nil))))) pa_nil)))))))))))))), ?_⟩
  refine seqR (setR (opR (varR (i := 0) rfl (cR ⟨_, _, rfl, rfl, ?_⟩))))
  have v0 : ((L2.start ns_copying [V.int x, V.int y]).set 2 (some (V.int (x + 9))))[0]? = some (some (.int x)) := rfl
  have a0 : ∀ z : Int, IntTE (tOp (rI0 fun i j => .int (i + j)) (tVar 0) (tC (.int z))) ((L2.start ns_copying [V.int x, V.int y]).set 2 (some (V.int (x + 9)))) (x + z) := fun z => iAdd (iV v0) iC
  have e0 : IntTE (tVar 2) ((L2.start ns_copying [V.int x, V.int y]).set 2 (some (V.int (x + 9)))) (x + 9) := iV rfl
  refine nxR (retR (lstNB (ns := copN x y) (nbC (iV v0) iC (iNeg (iV (i := 1) rfl)) (a0 _) (nbC (a0 _) iC iC (a0 _) (nbC (a0 _) iC iC (a0 _) (nbC (a0 _) iC iC (a0 _) (nbC (a0 _) iC iC (a0 _) (nbC (a0 _) iC iC (a0 _) (nbC (a0 _) iC iC (a0 _) (nbC (a0 _) iC (a0 _) (a0 _) (nbC (a0 _) iC iC e0 (nbC e0 iC iC (iAdd e0 iC) nbN)))))))))) ?_ fun r H' n1 n2 n3 => k _ _ ⟨r, rfl, n1, n2, n3⟩))
  show 10 ≤ 1000
  decide
theorem cmps_snoc : ∀ (l : List Int) (p c e : Int), cmpsN p (l ++ [c]) e = cmpsN p l e ++ cmpN (p + 4 * l.length) c e
  | [], p, c, e => by simp [cmpsN]
  | x :: l, p, c, e => by
    rw [List.cons_append, cmpsN, cmps_snoc l, cmpsN, List.append_assoc, List.length_cons, show p + 4 + 4 * (l.length : Int) = p + 4 * ((l.length + 1 : Nat) : Int) by omega]
theorem wris_snoc : ∀ (l : List Int) (p c : Int), wrisN p (l ++ [c]) = wrisN p l ++ wriN (p + 2 * l.length) c
  | [], p, c => by simp [wrisN]
  | x :: l, p, c => by
    rw [List.cons_append, wrisN, wris_snoc l, wrisN, List.append_assoc, List.length_cons, show p + 2 + 2 * (l.length : Int) = p + 2 * ((l.length + 1 : Nat) : Int) by omega]
theorem NodesAt.ext {H : Hp} {D r : Addr} {ns ms : List Nd} (h : NodesAt H D ns) (h' : NodesAt H r ms) : ∃ xs ys, H D = some (.lst xs) ∧ H r = some (.lst ys) ∧ xs.length = ns.length ∧ ys.length = ms.length ∧ NodesAt (upd H D (.lst (xs ++ ys))) D (ns ++ ms) := by
  obtain ⟨ps, h1, h2⟩ := h
  obtain ⟨qs, h3, h4⟩ := h'
  have kp : ∀ (p : Addr) (x : Nd), H p = some (.tup (n4 x)) → ∀ o, upd H D (.lst o) p = some (.tup (n4 x)) := fun p x e o => by
    rw [upd_ne (ne_of e h1 (by intro z; cases z))]; exact e
  exact ⟨_, _, h1, h3, by rw [List.length_map, h2.length], by rw [List.length_map, h4.length], ps ++ qs, by rw [upd_same, List.map_append], paired_app (paired_mono h2 fun p x e => kp p x e _) (paired_mono h4 fun p x e => kp p x e _)⟩
theorem NodesAt.keep {H H' : Hp} {D : Addr} {ns : List Nd} (h : NodesAt H D ns) (F : Fr [] H H') : NodesAt H' D ns := by
  obtain ⟨ps, h1, h2⟩ := h
  exact ⟨ps, F _ _ h1 (by simp), paired_mono h2 fun p x e => F _ _ e (by simp)⟩
/-- nodes.extend(f(..)) -/
theorem extNB {β : Type} {ex : β → List V} {f : β → List Nd} {b : β} {targs : TA} {D0 : Ends} {da : Addr} {ns : List Nd} (hs : σ[i]? = some (some (.ref da))) (h : NodesAt H da ns) (hl : ns.length + (f b).length ≤ 10000)
    (ha : ∀ Q' : List V → Hp → Prop, Q' (ex b) H → targs σ H Q') (k : ∀ H', NodesAt H' da (ns ++ f b) → Fr [da] H H' → D0.nx σ H') : tDrop (tBM K "list" rExtend (tVar i) (tCons (tCall (sp_nodes ex f) [] E0 targs) tNil)) D0 σ H := by
  obtain ⟨ps, h1, h2⟩ := id h
  refine bmR (varR hs ⟨.inl ⟨rfl, _, SqL.of h1⟩, ha _ ⟨b, List.append_nil _, trivial, ?_⟩⟩)
  rintro v H1 ⟨r, rfl, n1, n2, F1⟩
  obtain ⟨xs, ys, e1, e2, e3, e4, e5⟩ := (h.keep F1).ext n2
  exact ⟨da, r, xs, ys, rfl, rfl, e1, e2, by rw [e3, e4]; exact line_le (by omega), k _ e5 ((F1.nil (S := [da])).wr (List.mem_singleton.mpr rfl))⟩
def sp_trap_nodes : Sp := mkSp (α := (Addr × List Int) × (Addr × List Int)) (fun a => [.ref a.1.1, .ref a.2.1]) (fun a H => (H a.1.1 = some (.lst (ivs a.1.2)) ∧ a.1.2.length ≤ 12) ∧ H a.2.1 = some (.lst (ivs a.2.2)) ∧ a.2.2.length ≤ 12) (fun a H v H' => ∃ r, v = .ref r ∧ H r = none ∧ NodesAt H' r (trapN a.1.2 a.2.2) ∧ Fr [] H H')
theorem ok_trap_nodes (T : Txt w K mg) : Kept P w K mg base 2 (He.ga K "trap_nodes") ps_trap_nodes sp_trap_nodes := by
  obtain ⟨fd, F⟩ := fd_trap_nodes T
  refine ⟨fd, F.ok sc_trap_nodes (fun vs H Q E ⟨a, e, _⟩ => by rw [e] <;> rfl) (fun cdv A outer s H vs Q E hr h => ?_), F.kp, bd_trap_nodes F⟩
  obtain ⟨⟨⟨la, ls⟩, ⟨xa, xs⟩⟩, rfl, ⟨⟨hl, l1⟩, hx, x1⟩, k⟩ := h
  replace hl : H la = some (.lst (ivs ls)) := hl
  replace hx : H xa = some (.lst (ivs xs)) := hx
  replace l1 : ls.length ≤ 12 := l1
  replace x1 : xs.length ≤ 12 := x1
  replace k : ∀ v H', (∃ r, v = .ref r ∧ H r = none ∧ NodesAt H' r (trapN ls xs) ∧ Fr [] H H') → Q v H' := k
  refine ⟨_, PSs.nox (pss_cons (ps_set (i := 2) sc_trap_nodes.nd rfl (Or.inl rfl) (pe_op op_add (pe_num rfl (i_BASE T)) pe_int))
    (pss_cons (ps_set (i := 3) sc_trap_nodes.nd rfl (Or.inl rfl) (pe_op op_add (pe_op op_add (pv 2) (pe_op op_mul pe_int (pe_callB call_len_seq rfl (f_len T) PySem.boot_len (pa_cons (pv 0) pa_nil)))) (pe_op op_mul pe_int (pe_callB call_len_seq rfl (f_len T) PySem.boot_len (pa_cons (pv 1) pa_nil)))))
    (pss_cons (ps_set (i := 4) sc_trap_nodes.nd rfl (Or.inl rfl) (pe_fn0 (ok_beginning T) (hr.mono (by decide)) rfl (g_beginning T)))
    (pss_cons (ps_set (i := 5) sc_trap_nodes.nd rfl (Or.inl rfl) (pv 2))
    (pss_cons (ps_for PassesOwn.never rfl (pi_list (pv 0)) (pg_name (i := 6) sc_trap_nodes.nd rfl (Or.inl rfl)) (pss_cons (ps_expr (pe_bm PySem.F.plainAttrs_list PySem.F.slot_list_extend PySem.F.type_list_extend mt_extend (pv 4) (pa_cons (pe_fn (ok_comparison T) (hr.mono (by decide)) rfl (g_comparison T) (pa_cons (pv 5) (pa_cons (pv 6) (pa_cons (pe_op op_add (pv 3) pe_int) pa_nil)))) pa_nil)))
    (pss_one (ps_aug (i := 5) sc_trap_nodes.nd rfl (Or.inl rfl) pe_int ip_add))))
    (pss_cons (ps_for PassesOwn.never rfl (pi_list (pv 1)) (pg_name (i := 7) sc_trap_nodes.nd rfl (Or.inl rfl)) (pss_cons (ps_expr (pe_bm PySem.F.plainAttrs_list PySem.F.slot_list_extend PySem.F.type_list_extend mt_extend (pv 4) (pa_cons (pe_fn (ok_writing T) (hr.mono (by decide)) rfl (g_writing T) (pa_cons (pv 5) (pa_cons (pv 7) pa_nil))) pa_nil)))
    (pss_one (ps_aug (i := 5) sc_trap_nodes.nd rfl (Or.inl rfl) pe_int ip_add))))
    (pss_cons (ps_set (i := 8) sc_trap_nodes.nd rfl (Or.inl rfl) (pe_op op_mul pe_int (pe_op op_add (pe_op op_add (pe_num rfl (i_FIXED T)) (pe_op op_mul pe_int (pe_callB call_len_seq rfl (f_len T) PySem.boot_len (pa_cons (pv 0) pa_nil)))) (pe_op op_mul pe_int (pe_callB call_len_seq rfl (f_len T) PySem.boot_len (pa_cons (pv 1) pa_nil))))))
    (pss_cons (ps_expr (pe_bm PySem.F.plainAttrs_list PySem.F.slot_list_extend PySem.F.type_list_extend mt_extend (pv 4) (pa_cons (pe_fn (ok_copying T) (hr.mono (by decide)) rfl (g_copying T) (pa_cons (pv 3) (pa_cons (pv 8) pa_nil))) pa_nil)))
    (pss_one (ps_ret (pv 4))))))))))), ?_⟩
  refine seqR (setR (opR (cR (cR ⟨_, _, rfl, rfl, ?_⟩))))
  refine nxR (seqR (setR (opR (opR (varR (i := 2) rfl (opR (cR (callR (varR (i := 0) rfl ⟨la, _, rfl, .inl (SqL.of hl), _, _, rfl, rfl, .inl ⟨by decide, by decide⟩, _, _, rfl, rfl, ?_⟩)))))))))
  refine opR (cR (callR (varR (i := 1) rfl ⟨xa, _, rfl, .inl (SqL.of hx), _, _, rfl, rfl, .inl ⟨by decide, by decide⟩, _, _, rfl, rfl, ?_⟩)))
  rw [ivs_len, ivs_len]
  refine nxR (seqR (setR ⟨(), rfl, trivial, ?_⟩))
  rintro v H1 ⟨da, rfl, nda, hd1, F1⟩
  have hda : la ≠ da := ne_of_none hl nda
  have hdx : xa ≠ da := ne_of_none hx nda
  refine nxR (seqR (setR (varR (i := 2) rfl ?_)))
  have FD : ∀ {H' H'' : Hp}, Fr [] H H' → Fr [da] H' H'' → Fr [] H H'' := fun a b x o e n => b x o (a x o e n) (by
    intro z
    rw [List.mem_singleton] at z
    exact ne_of_none e nda z)
  have er : bB + 3 + 4 * (ls.length : Int) + 2 * (xs.length : Int) = rAt ls xs := rfl
  refine nxR (seqR ⟨_, rfl, la, rfl, ⟨_, SqL.of (F1 _ _ hl (by simp))⟩, ?_⟩)
  refine for_list (xs := ivs ls) (fun i σ H' => (∃ z x6 x7 x8, z = bB + 3 + 4 * (i : Int) ∧ σ = [some (.ref la), some (.ref xa), some (.int (bB + 3)), some (.int (rAt ls xs)), some (.ref da), some (.int z), x6, x7, x8]) ∧ NodesAt H' da (begN ++ cmpsN (bB + 3) (ls.take i) (rAt ls xs + 9)) ∧ Fr [] H H') ⟨⟨_, _, _, _, (by show bB + 3 = _; omega), rfl⟩, by rw [List.take_zero]; exact hd1, F1⟩ ?_ ?_ ?_
  · rintro i σ H2 _ ⟨_, _, F2⟩
    exact SqL.of (F2 _ _ hl (by simp))
  · rintro i x σ H2 hxi ⟨⟨z, x6, x7, x8, ez, rfl⟩, h2, F2⟩
    rw [List.getElem?_map] at hxi
    obtain ⟨c, ec, rfl⟩ := Option.map_eq_some_iff.mp hxi
    obtain ⟨hi, ei⟩ := List.getElem?_eq_some_iff.mp ec
    have ln : (begN ++ cmpsN (bB + 3) (ls.take i) (rAt ls xs + 9)).length + 4 ≤ 10000 := by
      rw [List.length_append, cmps_len, List.length_take]; show 4 + _ + 4 ≤ _; omega
    refine seqR (extNB (i := 4) (b := (z, c, rAt ls xs + 9)) rfl h2 ln (fun Q' q => consR (varR (i := 5) rfl (consR (varR (i := 6) rfl (consR (opR (varR (i := 3) rfl (cR ⟨_, _, rfl, rfl, q⟩)))))))) fun H3 h3 F3 => ?_)
    refine nxR ⟨_, rfl, _, _, rfl, rfl, ⟨_, _, _, _, ?_, rfl⟩, ?_, FD F2 F3⟩
    · show z + 4 = _
      omega
    · rw [List.take_succ_eq_append_getElem hi, ei, cmps_snoc, ← List.append_assoc, List.length_take, Nat.min_eq_left (by omega), ← ez]
      exact h3
  rintro σ H2 ⟨⟨z, x6, x7, x8, ez, rfl⟩, h2, F2⟩
  rw [ivs_len, List.take_length] at h2
  rw [ivs_len] at ez
  refine nxR (seqR ⟨_, rfl, xa, rfl, ⟨_, SqL.of (F2 _ _ hx (by simp))⟩, ?_⟩)
  refine for_list (xs := ivs xs) (fun i σ H' => (∃ z x6 x7 x8, z = bB + 3 + 4 * (ls.length : Int) + 2 * (i : Int) ∧ σ = [some (.ref la), some (.ref xa), some (.int (bB + 3)), some (.int (rAt ls xs)), some (.ref da), some (.int z), x6, x7, x8]) ∧ NodesAt H' da (begN ++ cmpsN (bB + 3) ls (rAt ls xs + 9) ++ wrisN (bB + 3 + 4 * ls.length) (xs.take i)) ∧ Fr [] H H') ⟨⟨_, _, _, _, (by omega), rfl⟩, by rw [List.take_zero]; show NodesAt H2 da (_ ++ []); rw [List.append_nil]; exact h2, F2⟩ ?_ ?_ ?_
  · rintro i σ H2 _ ⟨_, _, F2⟩
    exact SqL.of (F2 _ _ hx (by simp))
  · rintro i x σ H2 hxi ⟨⟨z, x6, x7, x8, ez, rfl⟩, h2, F2⟩
    rw [List.getElem?_map] at hxi
    obtain ⟨c, ec, rfl⟩ := Option.map_eq_some_iff.mp hxi
    obtain ⟨hi, ei⟩ := List.getElem?_eq_some_iff.mp ec
    have ln : (begN ++ cmpsN (bB + 3) ls (rAt ls xs + 9) ++ wrisN (bB + 3 + 4 * ls.length) (xs.take i)).length + 2 ≤ 10000 := by
      rw [List.length_append, List.length_append, cmps_len, wris_len, List.length_take]; show 4 + _ + _ + 2 ≤ _; omega
    refine seqR (extNB (i := 4) (b := (z, c)) rfl h2 ln (fun Q' q => consR (varR (i := 5) rfl (consR (varR (i := 7) rfl q)))) fun H3 h3 F3 => ?_)
    refine nxR ⟨_, rfl, _, _, rfl, rfl, ⟨_, _, _, _, ?_, rfl⟩, ?_, FD F2 F3⟩
    · show z + 2 = _
      omega
    · rw [List.take_succ_eq_append_getElem hi, ei, wris_snoc, ← List.append_assoc, List.length_take, Nat.min_eq_left (by omega), ← ez]
      exact h3
  rintro σ H3 ⟨⟨z, y6, y7, y8, ez, rfl⟩, h3, F3⟩
  rw [ivs_len, List.take_length] at h3
  refine nxR (seqR (setR (opR (cR (opR (opR (cR (opR (cR (callR (varR (i := 0) rfl ⟨la, _, rfl, .inl (SqL.of (F3 _ _ hl (by simp))), _, _, rfl, rfl, .inl ⟨by decide, by decide⟩, _, _, rfl, rfl, ?_⟩)))))))))))
  refine opR (cR (callR (varR (i := 1) rfl ⟨xa, _, rfl, .inl (SqL.of (F3 _ _ hx (by simp))), _, _, rfl, rfl, .inl ⟨by decide, by decide⟩, _, _, rfl, rfl, _, _, rfl, rfl, .inl ⟨by decide, by decide⟩, ?_⟩)))
  rw [ivs_len, ivs_len]
  have ln : (begN ++ cmpsN (bB + 3) ls (rAt ls xs + 9) ++ wrisN (bB + 3 + 4 * ls.length) xs).length + 10 ≤ 10000 := by
    rw [List.length_append, List.length_append, cmps_len, wris_len]; show 4 + _ + _ + 10 ≤ _; omega
  refine nxR (seqR (extNB (i := 4) (b := (rAt ls xs, cellsN ls xs)) rfl h3 ln (fun Q' q => consR (varR (i := 3) rfl (consR (varR (i := 8) rfl q)))) fun H4 h4 F4 => ?_))
  exact nxR (retR (varR (i := 4) rfl (k _ _ ⟨da, rfl, nda, h4, FD F3 F4⟩)))
def sp_plant : Sp := mkSp (α := (Addr × List Nd) × (Addr × List Int) × (Addr × List Int)) (fun a => [.ref a.1.1, .ref a.2.1.1, .ref a.2.2.1])
  (fun a H => (H a.1.1 = some (.lst (ivs (flat a.1.2))) ∧ PlOk a.1.2 ∧ a.1.2.length ≤ 1900000) ∧ (H a.2.1.1 = some (.lst (ivs a.2.1.2)) ∧ LureOk a.2.1.2) ∧ H a.2.2.1 = some (.lst (ivs a.2.2.2)) ∧ ExtraOk a.2.2.2)
  (fun a H v H' => ∃ r, v = .ref r ∧ H r = none ∧ H' r = some (.lst (ivs (flat (a.1.2 ++ trapN a.2.1.2 a.2.2.2)))) ∧ Fr [] H H')
theorem ok_plant (T : Txt w K mg) : Kept P w K mg base 3 (He.ga K "plant") ps_plant sp_plant := by
  obtain ⟨fd, F⟩ := fd_plant T
  refine ⟨fd, F.ok sc_plant (fun vs H Q E ⟨a, e, _⟩ => by rw [e] <;> rfl) (fun cdv A outer s H vs Q E hr h => ?_), F.kp, bd_plant F⟩
  obtain ⟨⟨⟨ia, ns⟩, ⟨la, ls⟩, ⟨xa, xs⟩⟩, rfl, ⟨⟨hi, pl, hn⟩, ⟨hl, lo⟩, hx, xo⟩, k⟩ := h
  replace hi : H ia = some (.lst (ivs (flat ns))) := hi
  replace pl : PlOk ns := pl
  replace hn : ns.length ≤ 1900000 := hn
  replace hl : H la = some (.lst (ivs ls)) := hl
  replace hx : H xa = some (.lst (ivs xs)) := hx
  replace lo : LureOk ls := lo
  replace xo : ExtraOk xs := xo
  replace k : ∀ v H', (∃ r, v = .ref r ∧ H r = none ∧ H' r = some (.lst (ivs (flat (ns ++ trapN ls xs)))) ∧ Fr [] H H') → Q v H' := k
  refine ⟨_, PSs.nox (pss_cons (ps_if (pt_not (pt_val (pe_fn (ok_is_trap T) (hr.mono (by decide)) rfl (g_is_trap T) (pa_cons (pv 1) (pa_cons (pv 2) pa_nil))))) (pss_one ps_never) pss_nil)
    (pss_cons (ps_if (pt_not (pt_val (pe_fn (ok_is_plantable T) (hr.mono (by decide)) rfl (g_is_plantable T) (pa_cons (pv 0) pa_nil)))) (pss_one ps_never) pss_nil)
    (pss_one (ps_ret (pe_op op_cat (pv 0) (pe_fn (ok_image_of T) (hr.mono (by decide)) rfl (g_image_of T) (pa_cons (pe_fn (ok_trap_nodes T) (hr.mono (by decide)) rfl (g_trap_nodes T) (pa_cons (pv 1) (pa_cons (pv 2) pa_nil))) pa_nil))))))), ?_⟩
  refine seqR (ifR (notR (tbR (consR (varR (i := 1) rfl (consR (varR (i := 2) rfl ⟨((la, ls), (xa, xs)), rfl, ⟨⟨hl, lo⟩, hx, xo⟩, ?_⟩)))))))
  rintro v H1 ⟨rfl, F1⟩
  refine ⟨_, rfl, iteX rfl ?_⟩
  refine nxR (seqR (ifR (notR (tbR (consR (varR (i := 0) rfl ⟨(ia, ns), rfl, ⟨F1 _ _ hi (by simp), pl, by show ns.length ≤ 4000000; omega⟩, ?_⟩))))))
  rintro v H2 ⟨rfl, F2⟩
  have FA := F1.trans F2
  refine ⟨_, rfl, iteX rfl ?_⟩
  refine nxR (retR (opR (varR (i := 0) rfl (consR (consR (varR (i := 1) rfl (consR (varR (i := 2) rfl ⟨((la, ls), (xa, xs)), rfl, ⟨⟨FA _ _ hl (by simp), lo.2.1⟩, FA _ _ hx (by simp), xo.1⟩, ?_⟩))))))))
  rintro v H3 ⟨r, rfl, nr, h3, F3⟩
  have lt := trap_len ls xs
  have l2 := lo.2.1
  have x2 := xo.1
  refine ⟨(r, trapN ls xs), rfl, ⟨h3, by show (trapN ls xs).length ≤ 2000000; omega⟩, ?_⟩
  rintro v H4 ⟨r4, rfl, nr4, h4, F4⟩
  have FB := (FA.trans F3).trans F4
  refine ⟨ia, r4, _, _, rfl, rfl, FB _ _ hi (by simp), h4, ?_, fun p np => ?_⟩
  · rw [ivs_len, ivs_len, flat_len, flat_len]
    show 4 * ns.length + 4 * (trapN ls xs).length ≤ sizeLine
    exact line_le (by omega)
  · refine k _ _ ⟨p, rfl, FB.back np (by simp), ?_, FB.new np⟩
    rw [upd_same, flat_app, ivs_app]
end
end Pk
namespace Pk
open PySem PySem.Spec PyProof.Rows L2
theorem sqL_fr {K : PySem.W.Frag} {H H' : Hp} {a : Addr} {xs : List V} (h : SqL K H a xs) (F : Fr [] H H') : SqL K H' a xs :=
  h.elim (fun h => .inl (h.elim (fun h => .inl (F _ _ h (by simp))) fun ⟨o, h⟩ => .inr ⟨o, F _ _ h (by simp)⟩)) fun h => .inr h
def DrN (H : Hp) (a : Addr) (n : Nat) : Prop := ∃ ds : List Int, H a = some (.lst (ivs ds)) ∧ ds.length ≤ n ∧ ∀ d ∈ ds, 0 ≤ d ∧ d ≤ 999
theorem DrN.push {H : Hp} {a : Addr} {n : Nat} (h : DrN H a n) {x : Int} (hx : 0 ≤ x ∧ x ≤ 999) (hn : n ≤ 100000) : ∃ xs, H a = some (.lst xs) ∧ xs.length < sizeLine ∧ DrN (upd H a (.lst (xs ++ [.int x]))) a (n + 1) := by
  obtain ⟨ds, h1, h2, h3⟩ := h
  refine ⟨_, h1, by rw [ivs_len]; exact line_of (by omega), ds ++ [x], by rw [upd_same, ivs_app] <;> rfl, by rw [List.length_append]; show _ + 1 ≤ _; omega, fun d hd => ?_⟩
  rcases List.mem_append.mp hd with hd | hd
  · exact h3 d hd
  · rw [List.mem_singleton] at hd; rw [hd]; exact hx
def sp_number : Sp := mkSp (α := Int) (fun a => [.int a]) (fun _ _ => True) (fun a H v H' => H' = H ∧ ∃ x : Int, v = .int x ∧ 0 ≤ x)
def sp_draws (K : PySem.W.Frag) : Sp := mkSp (α := Addr × List Int) (fun a => [.ref a.1]) (fun a H => SqL K H a.1 (ivs a.2) ∧ a.2.length ≤ 63) (fun a H v H' => ∃ r, v = .ref r ∧ H r = none ∧ DrN H' r 4000 ∧ Fr [] H H')
section
variable {P : Program} {w : World} {K : PySem.W.Frag} {mg : Str → Option Value} {base : Heap}
variable {i : Nat} {σ : L2.St} {H : Hp} {D : Ends} {Q : VK} {te ta tb : TE} {t1 t2 : TS} {r : R2} {tt : TT}
theorem brR (h : D.bk σ H) : tBreak D σ H := h
theorem ok_law_number (T : Txt w K mg) : Kept P w K mg base 1 (He.ga K "_law_number") ps_law_number sp_number := by
  obtain ⟨fd, F⟩ := fd_law_number T
  refine ⟨fd, F.ok sc_law_number (fun vs H Q E ⟨a, e, _⟩ => by rw [e] <;> rfl) (fun cdv A outer s H vs Q E hr h => ?_), F.kp, bd_law_number F⟩
  obtain ⟨c, rfl, _, k⟩ := h
  replace k : ∀ v H', H' = H ∧ (∃ x : Int, v = .int x ∧ 0 ≤ x) → Q v H' := k
  refine ⟨_, PSs.nox (pss_cons (ps_if (pt_cmpR op_lt (pv 0) pe_int (nomark _)) (pss_one (ps_ret (pe_op op_sub pe_int (pv 0)))) pss_nil)
    (pss_one (ps_ret (pv 0)))), ?_⟩
  refine seqR (if_lt (i := 0) rfl (fun q => ?_) (fun q => ?_))
  · exact retR (opR (cR (varR (i := 0) rfl ⟨_, _, rfl, rfl, k _ _ ⟨rfl, _, rfl, by omega⟩⟩)))
  · exact nxR (retR (varR (i := 0) rfl (k _ _ ⟨rfl, c, rfl, by omega⟩)))
/-- int(x) % m -/
theorem imodR {x m : Int} (hm : 0 < m) (g : ∀ Q : VK, Q (.int x) H → te σ H Q) (h : Q (.int (x % m)) H) : tOp (rI (fun _ j => 0 < j) fun i j => .int (i % j)) (tCB (fun xs H Q => (∃ i, xs = [.int i] ∧ Q (.int i) H) ∨ ∃ k, xs = [.bl k] ∧ Q (.int (if k then 1 else 0)) H) (tCons te tNil)) (tC (.int m)) σ H Q :=
  opR (callR (g _ (.inl ⟨_, rfl, cR ⟨_, _, rfl, rfl, hm, h⟩⟩)))
/-- here.append(x) -/
theorem apdR {da : Addr} {n : Nat} {x : Int} (hs : σ[i]? = some (some (.ref da))) (h : DrN H da n) (hn : n ≤ 100000) (hx : 0 ≤ x ∧ x ≤ 999) (g : ∀ Q : VK, Q (.int x) H → te σ H Q) (k : ∀ H', DrN H' da (n + 1) → Fr [da] H H' → D.nx σ H') : tDrop (tBM K "list" rAppend (tVar i) (tCons te tNil)) D σ H := by
  obtain ⟨ds, h1, _⟩ := id h
  obtain ⟨xs, e1, e2, e3⟩ := h.push hx hn
  exact bmR (varR hs ⟨.inl ⟨rfl, _, SqL.of h1⟩, g _ ⟨da, xs, .int x, rfl, rfl, e1, e2, k _ e3 ((Fr.refl _ _).wr (List.mem_singleton.mpr rfl))⟩⟩)
theorem ok_law_draws (T : Txt w K mg) : Kept P w K mg base 2 (He.ga K "_law_draws") ps_law_draws (sp_draws K) := by
  obtain ⟨fd, F⟩ := fd_law_draws T
  refine ⟨fd, F.ok sc_law_draws (fun vs H Q E ⟨a, e, _⟩ => by rw [e] <;> rfl) (fun cdv A outer s H vs Q E hr h => ?_), F.kp, bd_law_draws F⟩
  obtain ⟨⟨a, cs⟩, rfl, ⟨h, hl⟩, k⟩ := h
  replace h : SqL K H a (ivs cs) := h
  replace hl : cs.length ≤ 63 := hl
  replace k : ∀ v H', (∃ r, v = .ref r ∧ H r = none ∧ DrN H' r 4000 ∧ Fr [] H H') → Q v H' := k
  refine ⟨_, PSs.nox (pss_cons (ps_set (i := 1) sc_law_draws.nd rfl (Or.inl rfl) (pe_lst pa_nil))
    (pss_cons (ps_for PassesOwn.never rfl (pi_list (pv 0)) (pg_name (i := 2) sc_law_draws.nd rfl (Or.inl rfl)) (pss_cons (ps_set (i := 3) sc_law_draws.nd rfl (Or.inl rfl) (pe_fn (ok_law_number T) (hr.mono (by decide)) rfl (g_law_number T) (pa_cons (pv 2) pa_nil)))
    (pss_one (ps_if (pt_cmpR op_ge (pv 3) pe_int (nomark _)) (pss_one (ps_for PassesOwn.never rfl (pi_range1 rfl (f_range T) (pa_cons pe_int pa_nil)) (pg_name (i := 4) sc_law_draws.nd rfl (Or.inl rfl)) (pss_cons (ps_if (pt_cmpR op_eq (pv 3) pe_int (nomark _)) (pss_one ps_break) pss_nil)
    (pss_cons (ps_expr (pe_bm PySem.F.plainAttrs_list PySem.F.slot_list_append PySem.F.type_list_append mt_append (pv 1) (pa_cons (pe_op op_mod (pe_callTy call_int1 rfl (f_int T) (by decide +kernel) (pa_cons (pv 3) pa_nil)) pe_int) pa_nil)))
    (pss_one (ps_set (i := 3) sc_law_draws.nd rfl (Or.inl rfl) (pe_op op_fdiv (pv 3) pe_int))))))) (pss_cons (ps_set (i := 5) sc_law_draws.nd rfl (Or.inl rfl) (pe_op op_mod (pe_callTy call_int1 rfl (f_int T) (by decide +kernel) (pa_cons (pe_op op_add (pe_op op_mul (pv 3) pe_int) pe_int) pa_nil)) pe_int))
    (pss_cons (ps_set (i := 6) sc_law_draws.nd rfl (Or.inl rfl) (pe_op op_mod (pe_callTy call_int1 rfl (f_int T) (by decide +kernel) (pa_cons (pe_op op_add (pe_op op_mul (pv 5) pe_int) (pv 3)) pa_nil)) pe_int))
    (pss_one (ps_expr (pe_bm PySem.F.plainAttrs_list PySem.F.slot_list_extend PySem.F.type_list_extend mt_extend (pv 1) (pa_cons (pe_lst (pa_cons (pe_op op_mod (pe_callTy call_int1 rfl (f_int T) (by decide +kernel) (pa_cons (pv 3) pa_nil)) pe_int) (pa_cons (pe_op op_mod (pe_callTy call_int1 rfl (f_int T) (by decide +kernel) (pa_cons (pv 5) pa_nil)) pe_int) (pa_cons (pe_op op_mod (pe_callTy call_int1 rfl (f_int T) (by decide +kernel) (pa_cons (pv 6) pa_nil)) pe_int) pa_nil)))) pa_nil))))))))))
    (pss_one (ps_ret (pv 1))))), ?_⟩
  refine seqR (setR (lstR ⟨by show 0 ≤ sizeLine; decide, fun da nda => ?_⟩))
  have F0 : Fr [] H (upd H da (.lst [])) := (Fr.refl _ _).new nda
  have FD : ∀ {H' H'' : Hp}, Fr [] H H' → Fr [da] H' H'' → Fr [] H H'' := fun a b x o e n => b x o (a x o e n) (by
    intro z
    rw [List.mem_singleton] at z
    exact ne_of_none e nda z)
  refine nxR (seqR ⟨_, rfl, a, rfl, ⟨_, sqL_fr h F0⟩, ?_⟩)
  refine for_list (xs := ivs cs) (fun i σ H' => (∃ x2 x3 x4 x5 x6, σ = [some (.ref a), some (.ref da), x2, x3, x4, x5, x6]) ∧ DrN H' da (60 * i) ∧ Fr [] H H') ⟨⟨_, _, _, _, _, rfl⟩, ⟨[], upd_same, Nat.le_refl _, fun d hd => by cases hd⟩, F0⟩ ?_ ?_ ?_
  · rintro i σ H1 _ ⟨_, _, F1⟩
    exact sqL_fr h F1
  · rintro i x σ H1 hx ⟨⟨x2, x3, x4, x5, x6, rfl⟩, h1, F1⟩
    have hi : i < cs.length := by
      have z := (List.getElem?_eq_some_iff.mp hx).1
      rwa [ivs_len] at z
    rw [List.getElem?_map] at hx
    obtain ⟨c, ec, rfl⟩ := Option.map_eq_some_iff.mp hx
    refine seqR (setR (consR (varR (i := 2) rfl ⟨c, rfl, trivial, ?_⟩)))
    rintro v H2 ⟨rfl, n, rfl, hn⟩
    refine nxR (ifR (testR (opR (varR (i := 3) rfl (cR ⟨_, _, rfl, rfl, _, rfl, ?_⟩)))))
    refine ite2 (fun q => ?_) (fun q => ?_)
    · refine ⟨60, rfl, by decide, by decide, ?_⟩
      refine for_range (n := 60) (fun j σ H' => (∃ n x4 x5 x6, 0 ≤ n ∧ σ = [some (.ref a), some (.ref da), some (.int c), some (.int n), x4, x5, x6]) ∧ DrN H' da (60 * i + j) ∧ Fr [] H H') ⟨⟨n, _, _, _, hn, rfl⟩, h1, F1⟩ ?_ ?_
      · rintro j σ H3 hj ⟨⟨m, y4, y5, y6, hm, rfl⟩, h3, F3⟩
        refine seqR (if_eq (i := 3) rfl (fun e => ?_) (fun e => ?_))
        · refine brR ⟨⟨_, _, _, _, _, rfl⟩, ?_, F3⟩
          obtain ⟨ds, d1, d2, d3⟩ := h3
          exact ⟨ds, d1, by omega, d3⟩
        · refine nxR (seqR (apdR (i := 1) rfl h3 (by omega) (x := m % 1000) (by omega) (fun Q q => imodR (by decide) (fun Q q => varR (i := 3) rfl q) q) fun H4 h4 F4 => ?_))
          refine nxR (setR (opR (varR (i := 3) rfl (cR ⟨_, _, rfl, rfl, ⟨by decide, by decide⟩, ?_⟩))))
          refine ⟨⟨_, _, _, _, ?_, rfl⟩, h4, FD F3 F4⟩
          show 0 ≤ m / 1000
          omega
      · rintro σ H3 ⟨⟨m, y4, y5, y6, hm, rfl⟩, h3, F3⟩
        exact ⟨⟨_, _, _, _, _, rfl⟩, h3, F3⟩
    · have q' : ¬ 1000000000000000000 ≤ n := fun z => q (decide_eq_true z)
      refine seqR (setR (imodR (by decide) (x := n * 48271 + 11) (fun Q q => opR (opR (varR (i := 3) rfl (cR ⟨_, _, rfl, rfl, .inr ⟨by decide, by decide⟩, cR ⟨_, _, rfl, rfl, q⟩⟩)))) ?_))
      refine nxR (seqR (setR (imodR (by decide) (x := (n * 48271 + 11) % 2147483647 * 69621 + n) (fun Q q => opR (opR (varR (i := 5) rfl (cR ⟨_, _, rfl, rfl, .inr ⟨by decide, by decide⟩, varR (i := 3) rfl ⟨_, _, rfl, rfl, q⟩⟩)))) ?_)))
      generalize (n * 48271 + 11) % 2147483647 = o1
      generalize (o1 * 69621 + n) % 2147483629 = o2
      refine nxR (bmR (varR (i := 1) rfl ⟨.inl ⟨rfl, _, SqL.of (h1.choose_spec.1)⟩, ?_⟩))
      refine lstR (consR (imodR (by decide) (x := n) (fun Q q => varR (i := 3) rfl q) (consR (imodR (by decide) (x := o1) (fun Q q => varR (i := 5) rfl q) (consR (imodR (by decide) (x := o2) (fun Q q => varR (i := 6) rfl q) ⟨(by show 3 ≤ sizeLine; decide), fun p np => ?_⟩))))))
      obtain ⟨ds, d1, d2, d3⟩ := h1
      have ndp : da ≠ p := ne_of_none d1 np
      refine ⟨da, p, _, _, rfl, rfl, by rw [upd_ne ndp]; exact d1, upd_same, by rw [ivs_len]; show _ + 3 ≤ _; exact line_le (by omega), ?_⟩
      refine ⟨⟨_, _, _, _, _, rfl⟩, ⟨ds ++ [n % 1000, o1 % 1000, o2 % 1000], by rw [upd_same, ivs_app] <;> rfl, by rw [List.length_append]; show _ + 3 ≤ _; omega, fun d hd => ?_⟩, FD F1 (((Fr.refl _ _).new np).wr (List.mem_singleton.mpr rfl))⟩
      rcases List.mem_append.mp hd with hd | hd
      · exact d3 d hd
      · simp only [List.mem_cons, List.not_mem_nil, or_false] at hd
        omega
  · rintro σ H1 ⟨⟨x2, x3, x4, x5, x6, rfl⟩, ⟨ds, d1, d2, d3⟩, F1⟩
    rw [ivs_len] at d2
    exact nxR (retR (varR (i := 1) rfl (k _ _ ⟨da, rfl, nda, ⟨ds, d1, by omega, d3⟩, F1⟩)))
def DrAt (H : Hp) (a : Addr) : Prop := ∃ ds : List Int, H a = some (.lst (ivs ds)) ∧ ∀ d ∈ ds, 0 ≤ d ∧ d ≤ 999
def sp_next : Sp := mkSp (α := Addr) (fun a => [.ref a]) (fun a H => DrAt H a) (fun a H v H' => ∃ x : Nat, v = .int x ∧ x ≤ 999 ∧ DrAt H' a ∧ Fr [a] H H')
theorem snoc_of {α : Type} (l : List α) (h : l ≠ []) : ∃ r x, l = r ++ [x] := ⟨l.dropLast, l.getLast h, (List.dropLast_concat_getLast h).symm⟩
theorem ok_law_next (T : Txt w K mg) : Kept P w K mg base 1 (He.ga K "_law_next") ps_law_next sp_next := by
  obtain ⟨fd, F⟩ := fd_law_next T
  refine ⟨fd, F.ok sc_law_next (fun vs H Q E ⟨a, e, _⟩ => by rw [e] <;> rfl) (fun cdv A outer s H vs Q E hr h => ?_), F.kp, bd_law_next F⟩
  obtain ⟨a, rfl, ⟨ds, h, hd⟩, k⟩ := h
  replace h : H a = some (.lst (ivs ds)) := h
  replace k : ∀ v H', (∃ x : Nat, v = .int x ∧ x ≤ 999 ∧ DrAt H' a ∧ Fr [a] H H') → Q v H' := k
  refine ⟨_, PSs.nox (pss_cons (ps_if (pt_truth (pv 0) (by intro _; rfl)) (pss_one (ps_ret (pe_bm0 PySem.F.plainAttrs_list PySem.F.slot_list_pop PySem.F.type_list_pop mt_pop (pv 0)))) pss_nil)
    (pss_one (ps_ret pe_int))), ?_⟩
  by_cases e : ds = []
  · subst e
    refine seqR (ifR (truR (varR (i := 0) rfl ⟨false, .inl ⟨_, SqL.of h, rfl⟩, iteF ?_⟩)))
    exact nxR (retR (cR (k _ _ ⟨0, rfl, by omega, ⟨[], h, fun d hd => by cases hd⟩, Fr.refl _ _⟩)))
  · obtain ⟨rs, x, rfl⟩ := snoc_of ds e
    have hst : H a = some (.lst (ivs rs ++ [V.int x])) := by rw [h, ivs_app] <;> rfl
    refine seqR (ifR (truR (varR (i := 0) rfl ⟨true, .inl ⟨_, SqL.of hst, by simp⟩, iteT ?_⟩)))
    refine retR (bm0R (varR (i := 0) rfl ⟨.inl ⟨rfl, _, SqL.of hst⟩, a, _, .int x, rfl, rfl, hst, by simp, ?_⟩))
    rw [List.dropLast_concat]
    exact k _ _ ⟨x.toNat, (by have := hd x (by simp); rw [Int.toNat_of_nonneg this.1]), (by have := hd x (by simp); omega), ⟨rs, upd_same, fun d hq => hd d (by simp [hq])⟩, (Fr.refl _ _).wr (List.mem_singleton.mpr rfl)⟩
def signsN : List Nat := [33, 34, 36, 42, 43, 44, 45, 46, 60, 64, 92, 94, 95, 126]
instance (c : Nat) : Decidable (OkC c) := by unfold OkC; infer_instance
theorem signs_ok : ∀ d, d < 14 → OkC (signsN.getD d 0) := by decide
theorem letter_ok {c : Nat} (h1 : 97 ≤ c) (h2 : c ≤ 122) : OkC c := by unfold OkC; omega
theorem call_ok {c : Nat} (h1 : 65 ≤ c) (h2 : c ≤ 67) : OkC c := by unfold OkC; omega
def sp_op : Sp := mkSp (α := Nat) (fun a => [.int a]) (fun a _ => a < 46) (fun a H v H' => ∃ c : Nat, v = .int c ∧ OkC c ∧ Fr [] H H')
theorem ok_law_op (T : Txt w K mg) : Kept P w K mg base 1 (He.ga K "_law_op") ps_law_op sp_op := by
  obtain ⟨fd, F⟩ := fd_law_op T
  refine ⟨fd, F.ok sc_law_op (fun vs H Q E ⟨a, e, _⟩ => by rw [e] <;> rfl) (fun cdv A outer s H vs Q E hr h => ?_), F.kp, bd_law_op F⟩
  obtain ⟨d, rfl, hd, k⟩ := h
  replace hd : d < 46 := hd
  replace k : ∀ v H', (∃ c : Nat, v = .int c ∧ OkC c ∧ Fr [] H H') → Q v H' := k
  refine ⟨_, PSs.nox (pss_cons (ps_set (i := 1) sc_law_op.nd rfl (Or.inl rfl) (pe_lst (pa_cons pe_int (pa_cons pe_int (pa_cons pe_int (pa_cons pe_int (pa_cons pe_int (pa_cons pe_int (pa_cons pe_int (pa_cons pe_int (pa_cons pe_int (pa_cons pe_int (pa_cons pe_int (pa_cons pe_int (pa_cons pe_int (pa_cons pe_int pa_nil))))))))))))))))
    (pss_cons (ps_if (pt_cmpR op_lt (pv 0) pe_int (nomark _)) (pss_one (ps_ret (pe_ix ix_list (pv 1) (pv 0) (fun _ _ => rfl)))) pss_nil)
    (pss_cons (ps_if (pt_cmpR op_lt (pv 0) pe_int (nomark _)) (pss_one (ps_ret (pe_op op_sub (pe_op op_add pe_int (pv 0)) pe_int))) pss_nil)
    (pss_one (ps_ret (pe_op op_add pe_int (pe_op op_mod (pe_callTy call_int1 rfl (f_int T) (by decide +kernel) (pa_cons (pv 0) pa_nil)) pe_int))))))), ?_⟩
  refine seqR (setR (lstR ⟨by show 14 ≤ sizeLine; decide, fun p np => ?_⟩))
  have F1 : Fr [] H (upd H p (.lst (signsN.map fun (c : Nat) => V.int (c : Int)))) := (Fr.refl _ _).new np
  refine nxR (seqR (if_lt (i := 0) rfl (fun q => ?_) (fun q => ?_)))
  · have hd2 : d < signsN.length := by show d < 14; omega
    refine retR ⟨_, rfl, _, rfl, p, _, _, V.int ((signsN.getD d 0 : Nat) : Int), rfl, rfl, SqL.of (xs := signsN.map fun (c : Nat) => V.int (c : Int)) upd_same, ?_, ?_⟩
    · refine atI_nat ?_
      rw [List.getElem?_map, List.getD_eq_getElem?_getD, List.getElem?_eq_getElem hd2] <;> rfl
    · exact k _ _ ⟨_, rfl, signs_ok d (by omega), F1⟩
  · refine nxR (seqR (if_lt (i := 0) rfl (fun q2 => ?_) (fun q2 => ?_)))
    · refine retR (opR (opR (cR (varR (i := 0) rfl ⟨_, _, rfl, rfl, cR ⟨_, _, rfl, rfl, k _ _ ⟨97 + d - 14, ?_, ?_, F1⟩⟩⟩))))
      · show V.int (97 + (d : Int) - 14) = _
        congr 1
        omega
      · exact letter_ok (by omega) (by omega)
    · refine nxR (retR (opR (cR (imodR (by decide) (x := (d : Int)) (fun Q q => varR (i := 0) rfl q) ⟨_, _, rfl, rfl, k _ _ ⟨97 + d % 26, ?_, ?_, F1⟩⟩))))
      · show V.int (97 + (d : Int) % 26) = _
        congr 1
      · exact letter_ok (by omega) (by omega)
end
end Pk
namespace Pk
open PySem PySem.Spec PyProof.Rows L2
/-- what is written by the law's own hand: the items' tuples, their lists in S -/
inductive RepL (S : Addr → Prop) (H : Hp) : List V → Its → Prop
  | nil : RepL S H [] .nil
  | num {p : Addr} {n : Nat} {vs : List V} {r : Its} : H p = some (.tup [.str ("num" : Str), .int n]) → RepL S H vs r → RepL S H (.ref p :: vs) (.num n r)
  | op {p : Addr} {c : Nat} {vs : List V} {r : Its} : H p = some (.tup [.str ("op" : Str), .int c]) → RepL S H vs r → RepL S H (.ref p :: vs) (.op c r)
  | put {p : Addr} {c : Nat} {vs : List V} {r : Its} : H p = some (.tup [.str ("put" : Str), .int c]) → RepL S H vs r → RepL S H (.ref p :: vs) (.put c r)
  | wen {p l : Addr} {xs vs : List V} {a r : Its} : H p = some (.tup [.str ("when" : Str), .ref l]) → S l → H l = some (.lst xs) → RepL S H xs a → RepL S H vs r → RepL S H (.ref p :: vs) (.wen a r)
  | cho {p l m : Addr} {xs ys vs : List V} {a b r : Its} : H p = some (.tup [.str ("choose" : Str), .ref l, .ref m]) → S l → H l = some (.lst xs) → RepL S H xs a → S m → H m = some (.lst ys) → RepL S H ys b → RepL S H vs r → RepL S H (.ref p :: vs) (.cho a b r)
  | loo {p l : Addr} {xs vs : List V} {a r : Its} : H p = some (.tup [.str ("loop" : Str), .ref l]) → S l → H l = some (.lst xs) → RepL S H xs a → RepL S H vs r → RepL S H (.ref p :: vs) (.loo a r)
  | dfn {p l : Addr} {f : Nat} {xs vs : List V} {a r : Its} : H p = some (.tup [.str ("def" : Str), .int f, .ref l]) → S l → H l = some (.lst xs) → RepL S H xs a → RepL S H vs r → RepL S H (.ref p :: vs) (.dfn f a r)
theorem RepL.keep {S : Addr → Prop} {H H' : Hp} {vs : List V} {t : Its} (h : RepL S H vs t) (ht : ∀ p xs, H p = some (.tup xs) → H' p = some (.tup xs)) (hl : ∀ l xs, S l → H l = some (.lst xs) → H' l = some (.lst xs)) : RepL S H' vs t := by
  induction h with
  | nil => exact .nil
  | num e _ ih => exact .num (ht _ _ e) ih
  | op e _ ih => exact .op (ht _ _ e) ih
  | put e _ ih => exact .put (ht _ _ e) ih
  | wen e s e1 _ _ i1 ih => exact .wen (ht _ _ e) s (hl _ _ s e1) i1 ih
  | cho e s e1 _ s' e2 _ _ i1 i2 ih => exact .cho (ht _ _ e) s (hl _ _ s e1) i1 s' (hl _ _ s' e2) i2 ih
  | loo e s e1 _ _ i1 ih => exact .loo (ht _ _ e) s (hl _ _ s e1) i1 ih
  | dfn e s e1 _ _ i1 ih => exact .dfn (ht _ _ e) s (hl _ _ s e1) i1 ih
theorem RepL.mono {S S' : Addr → Prop} {H : Hp} {vs : List V} {t : Its} (h : RepL S H vs t) (hs : ∀ l xs, S l → H l = some (.lst xs) → S' l) : RepL S' H vs t := by
  induction h with
  | nil => exact .nil
  | num e _ ih => exact .num e ih
  | op e _ ih => exact .op e ih
  | put e _ ih => exact .put e ih
  | wen e s e1 _ _ i1 ih => exact .wen e (hs _ _ s e1) e1 i1 ih
  | cho e s e1 _ s' e2 _ _ i1 i2 ih => exact .cho e (hs _ _ s e1) e1 i1 (hs _ _ s' e2) e2 i2 ih
  | loo e s e1 _ _ i1 ih => exact .loo e (hs _ _ s e1) e1 i1 ih
  | dfn e s e1 _ _ i1 ih => exact .dfn e (hs _ _ s e1) e1 i1 ih
def Its.app : Its → Its → Its
  | .nil, u => u
  | .num n r, u => .num n (r.app u)
  | .op c r, u => .op c (r.app u)
  | .put c r, u => .put c (r.app u)
  | .wen a r, u => .wen a (r.app u)
  | .cho a b r, u => .cho a b (r.app u)
  | .loo a r, u => .loo a (r.app u)
  | .dfn f a r, u => .dfn f a (r.app u)
theorem RepL.app {S : Addr → Prop} {H : Hp} {vs ws : List V} {t u : Its} (h : RepL S H vs t) (h' : RepL S H ws u) : RepL S H (vs ++ ws) (t.app u) := by
  induction h with
  | nil => exact h'
  | num e _ ih => exact .num e ih
  | op e _ ih => exact .op e ih
  | put e _ ih => exact .put e ih
  | wen e s e1 x1 _ _ ih => exact .wen e s e1 x1 ih
  | cho e s e1 x1 s' e2 x2 _ _ _ ih => exact .cho e s e1 x1 s' e2 x2 ih
  | loo e s e1 x1 _ _ ih => exact .loo e s e1 x1 ih
  | dfn e s e1 x1 _ _ ih => exact .dfn e s e1 x1 ih
/-- how deep the lists lie -/
def Its.dep : Its → Nat
  | .nil => 0
  | .num _ r => r.dep
  | .op _ r => r.dep
  | .put _ r => r.dep
  | .wen a r => max (a.dep + 1) r.dep
  | .cho a b r => max (max a.dep b.dep + 1) r.dep
  | .loo a r => max (a.dep + 1) r.dep
  | .dfn _ a r => max (a.dep + 1) r.dep
theorem app_sz (u : Its) : ∀ t : Its, (t.app u).sz = t.sz + u.sz := by
  intro t
  induction t with
  | nil => simp [Its.app, Its.sz]
  | num n r ih => simp only [Its.app, Its.sz, ih]; omega
  | op n r ih => simp only [Its.app, Its.sz, ih]; omega
  | put n r ih => simp only [Its.app, Its.sz, ih]; omega
  | wen a r _ ih => simp only [Its.app, Its.sz, ih]; omega
  | cho a b r _ _ ih => simp only [Its.app, Its.sz, ih]; omega
  | loo a r _ ih => simp only [Its.app, Its.sz, ih]; omega
  | dfn f a r _ ih => simp only [Its.app, Its.sz, ih]; omega
theorem app_dep (u : Its) : ∀ t : Its, (t.app u).dep = max t.dep u.dep := by
  intro t
  induction t with
  | nil => simp [Its.app, Its.dep]
  | num n r ih => simp only [Its.app, Its.dep, ih]
  | op n r ih => simp only [Its.app, Its.dep, ih]
  | put n r ih => simp only [Its.app, Its.dep, ih]
  | wen a r _ ih => simp only [Its.app, Its.dep, ih]; omega
  | cho a b r _ _ ih => simp only [Its.app, Its.dep, ih]; omega
  | loo a r _ ih => simp only [Its.app, Its.dep, ih]; omega
  | dfn f a r _ ih => simp only [Its.app, Its.dep, ih]; omega
theorem app_ok {u : Its} (hu : u.Ok) : ∀ t : Its, t.Ok → (t.app u).Ok := by
  intro t
  induction t with
  | nil => exact fun _ => hu
  | num n r ih => exact fun h => ⟨h.1, ih h.2⟩
  | op n r ih => exact fun h => ⟨h.1, ih h.2⟩
  | put n r ih => exact fun h => ⟨h.1, ih h.2⟩
  | wen a r _ ih => exact fun h => ⟨h.1, ih h.2⟩
  | cho a b r _ _ ih => exact fun h => ⟨h.1, h.2.1, ih h.2.2⟩
  | loo a r _ ih => exact fun h => ⟨h.1, ih h.2⟩
  | dfn f a r _ ih => exact fun h => h.elim
theorem app_top {u : Its} (hu : u.TopOk) : ∀ t : Its, t.TopOk → (t.app u).TopOk := by
  intro t
  induction t with
  | nil => exact fun _ => hu
  | num n r ih => exact fun h => ⟨h.1, ih h.2⟩
  | op n r ih => exact fun h => ⟨h.1, ih h.2⟩
  | put n r ih => exact fun h => ⟨h.1, ih h.2⟩
  | wen a r _ ih => exact fun h => ⟨h.1, ih h.2⟩
  | cho a b r _ _ ih => exact fun h => ⟨h.1, h.2.1, ih h.2.2⟩
  | loo a r _ ih => exact fun h => ⟨h.1, ih h.2⟩
  | dfn f a r _ ih => exact fun h => ⟨h.1, h.2.1, ih h.2.2⟩
theorem ok_top : ∀ t : Its, t.Ok → t.TopOk := by
  intro t
  induction t with
  | nil => exact fun _ => trivial
  | num n r ih => exact fun h => ⟨h.1, ih h.2⟩
  | op n r ih => exact fun h => ⟨h.1, ih h.2⟩
  | put n r ih => exact fun h => ⟨h.1, ih h.2⟩
  | wen a r _ ih => exact fun h => ⟨h.1, ih h.2⟩
  | cho a b r _ _ ih => exact fun h => ⟨h.1, h.2.1, ih h.2.2⟩
  | loo a r _ ih => exact fun h => ⟨h.1, ih h.2⟩
  | dfn f a r _ ih => exact fun h => h.elim
/-- how big an item is that may nest k lists -/
def Wk : Nat → Nat
  | 0 => 1
  | k + 1 => 1 + 6 * Wk k
structure ItOk (k n : Nat) (t : Its) : Prop where
  ok : t.Ok
  sz : t.sz ≤ n * Wk k
  dep : t.dep ≤ k
theorem ItOk.mono {k n n' : Nat} {t : Its} (h : ItOk k n t) (hn : n ≤ n') : ItOk k n' t := ⟨h.ok, Nat.le_trans h.sz (Nat.mul_le_mul_right _ hn), h.dep⟩
theorem ItOk.nil (k : Nat) : ItOk k 0 .nil := ⟨trivial, Nat.zero_le _, Nat.zero_le _⟩
theorem ItOk.app {k n n' : Nat} {t u : Its} (h : ItOk k n t) (h' : ItOk k n' u) : ItOk k (n + n') (t.app u) :=
  ⟨app_ok h'.ok _ h.ok, by rw [app_sz, Nat.add_mul]; have := h.sz; have := h'.sz; omega, by rw [app_dep]; have := h.dep; have := h'.dep; omega⟩
theorem wk_pos : ∀ k, 1 ≤ Wk k
  | 0 => Nat.le_refl _
  | k + 1 => by show 1 ≤ 1 + 6 * Wk k; omega
theorem it_num {k n : Nat} (h : n ≤ 999999) : ItOk k 1 (.num n .nil) := ⟨⟨h, trivial⟩, by have := wk_pos k; simp only [Its.sz]; omega, Nat.zero_le _⟩
theorem it_op {k c : Nat} (h : OkC c) : ItOk k 1 (.op c .nil) := ⟨⟨h, trivial⟩, by have := wk_pos k; simp only [Its.sz]; omega, Nat.zero_le _⟩
theorem it_put {k c : Nat} (h : 97 ≤ c ∧ c ≤ 122) : ItOk k 1 (.put c .nil) := ⟨⟨h, trivial⟩, by have := wk_pos k; simp only [Its.sz]; omega, Nat.zero_le _⟩
theorem it_wen {k n : Nat} {a : Its} (h : ItOk k n a) (hn : n ≤ 5) : ItOk (k + 1) 1 (.wen a .nil) :=
  ⟨⟨h.ok, trivial⟩, by have := h.sz; have := Nat.mul_le_mul_right (Wk k) hn; simp only [Its.sz, Wk]; omega, by have := h.dep; simp only [Its.dep]; omega⟩
theorem it_loo {k n : Nat} {a : Its} (h : ItOk k n a) (hn : n ≤ 5) : ItOk (k + 1) 1 (.loo a .nil) :=
  ⟨⟨h.ok, trivial⟩, by have := h.sz; have := Nat.mul_le_mul_right (Wk k) hn; simp only [Its.sz, Wk]; omega, by have := h.dep; simp only [Its.dep]; omega⟩
theorem it_cho {k n n' : Nat} {a b : Its} (h : ItOk k n a) (h' : ItOk k n' b) (hn : n ≤ 3) (hn' : n' ≤ 3) : ItOk (k + 1) 1 (.cho a b .nil) :=
  ⟨⟨h.ok, h'.ok, trivial⟩, by have := h.sz; have := Nat.mul_le_mul_right (Wk k) hn; have := h'.sz; have := Nat.mul_le_mul_right (Wk k) hn'; simp only [Its.sz, Wk]; omega, by have := h.dep; have := h'.dep; simp only [Its.dep]; omega⟩
def sp_item (k : Nat) : Sp := mkSp (α := Addr × Int) (fun a => [.ref a.1, .int a.2]) (fun a H => DrAt H a.1 ∧ a.2 + k = 4)
  (fun a H v H' => ∃ (p : Addr) (t : Its), v = .ref p ∧ RepL (fun l => H l = none) H' [.ref p] t ∧ ItOk k 1 t ∧ DrAt H' a.1 ∧ Fr [a.1] H H')
def sp_items (k : Nat) : Sp := mkSp (α := (Addr × Int) × Nat) (fun a => [.ref a.1.1, .int a.1.2, .int a.2]) (fun a H => DrAt H a.1.1 ∧ a.1.2 + k = 4 ∧ a.2 ≤ 5)
  (fun a H v H' => ∃ (r : Addr) (xs : List V) (t : Its), v = .ref r ∧ H r = none ∧ H' r = some (.lst xs) ∧ RepL (fun l => H l = none) H' xs t ∧ ItOk k a.2 t ∧ DrAt H' a.1.1 ∧ Fr [a.1.1] H H')
theorem DrAt.keep {H H' : Hp} {a : Addr} (h : DrAt H a) (F : Fr [] H H') : DrAt H' a := by
  obtain ⟨ds, e, q⟩ := h
  exact ⟨ds, F _ _ e (by simp), q⟩
section
variable {P : Program} {w : World} {K : PySem.W.Frag} {mg : Str → Option Value} {base : Heap}
variable {i : Nat} {σ : L2.St} {H : Hp} {D : Ends} {Q : VK} {te ta tb : TE} {t1 t2 : TS} {r : R2} {tt : TT}
theorem nextR {da : Addr} (hs : σ[i]? = some (some (.ref da))) (h : DrAt H da) (k : ∀ (x : Nat) H', x ≤ 999 → DrAt H' da → Fr [da] H H' → Q (.int x) H') : tCall sp_next [] E0 (tCons (tVar i) tNil) σ H Q :=
  consR (varR hs ⟨da, rfl, h, fun v H' ⟨x, e, hx, h1, F1⟩ => by rw [e]; exact k x H' hx h1 F1⟩)
theorem tupR {tA : TA} (h : tA σ H fun xs H1 => xs.length ≤ sizeLine ∧ ∀ p, H1 p = none → Q (.ref p) (upd H1 p (.tup xs))) : tTup tA σ H Q := h
/-- the call int(next) % m -/
theorem nmodR {da : Addr} {m : Int} (hm : 0 < m) (hs : σ[i]? = some (some (.ref da))) (h : DrAt H da) (k : ∀ (x : Nat) H', x ≤ 999 → DrAt H' da → Fr [da] H H' → Q (.int ((x : Int) % m)) H') :
    tOp (rI (fun _ j => 0 < j) fun i j => .int (i % j)) (tCB (fun xs H Q => (∃ i, xs = [.int i] ∧ Q (.int i) H) ∨ ∃ k, xs = [.bl k] ∧ Q (.int (if k then 1 else 0)) H) (tCons (tCall sp_next [] E0 (tCons (tVar i) tNil)) tNil)) (tC (.int m)) σ H Q :=
  opR (callR (nextR hs h fun x H' hx h1 F1 => .inl ⟨_, rfl, cR ⟨_, _, rfl, rfl, hm, k x H' hx h1 F1⟩⟩))
theorem item_step (T : Txt w K mg) {k n : Nat} {sp' : Sp} (GR : Kept P w K mg base n (He.ga K "_law_items") ps_law_items sp') (hn : 1 ≤ n) (hsp : ∀ k', k = k' + 1 → sp' = sp_items k') : Kept P w K mg base (n + 1) (He.ga K "_law_item") ps_law_item (sp_item k) := by
  obtain ⟨fd, F⟩ := fd_law_item T
  refine ⟨fd, F.ok sc_law_item (fun vs H Q E ⟨a, e, _⟩ => by rw [e] <;> rfl) (fun cdv A outer s H vs Q E hr h => ?_), F.kp, bd_law_item F⟩
  obtain ⟨⟨da, d⟩, rfl, ⟨h, hd⟩, kk⟩ := h
  replace h : DrAt H da := h
  replace hd : d + k = 4 := hd
  replace kk : ∀ v H', (∃ (p : Addr) (t : Its), v = .ref p ∧ RepL (fun l => H l = none) H' [.ref p] t ∧ ItOk k 1 t ∧ DrAt H' da ∧ Fr [da] H H') → Q v H' := kk
  refine ⟨_, PSs.nox (pss_cons (ps_set (i := 2) sc_law_item.nd rfl (Or.inl rfl) (pe_fn (ok_law_next T) (hr.mono (by omega)) rfl (g_law_next T) (pa_cons (pv 0) pa_nil)))
    (pss_cons (ps_set (i := 3) sc_law_item.nd rfl (Or.inl rfl) (pe_op op_mod (pe_callTy call_int1 rfl (f_int T) (by decide +kernel) (pa_cons (pv 2) pa_nil)) pe_int))
    (pss_cons (ps_set (i := 4) sc_law_item.nd rfl (Or.inl rfl) (pe_op op_fdiv (pv 2) pe_int))
    (pss_cons (ps_if (pt_cmpR op_lt (pv 3) pe_int (nomark _)) (pss_one (ps_ret (pe_tup (pa_cons pe_str (pa_cons (pe_op op_mod (pe_callTy call_int1 rfl (f_int T) (by decide +kernel) (pa_cons (pv 4) pa_nil)) pe_int) pa_nil))))) pss_nil)
    (pss_cons (ps_if (pt_cmpR op_eq (pv 3) pe_int (nomark _)) (pss_one (ps_ret (pe_tup (pa_cons pe_str (pa_cons (pe_op op_add (pe_op op_mul pe_int (pe_fn (ok_law_next T) (hr.mono (by omega)) rfl (g_law_next T) (pa_cons (pv 0) pa_nil))) (pe_fn (ok_law_next T) (hr.mono (by omega)) rfl (g_law_next T) (pa_cons (pv 0) pa_nil))) pa_nil))))) pss_nil)
    (pss_cons (ps_if (pt_cmpR op_lt (pv 3) pe_int (nomark _)) (pss_one (ps_ret (pe_tup (pa_cons pe_str (pa_cons (pe_fn (ok_law_op T) (hr.mono (by omega)) rfl (g_law_op T) (pa_cons (pe_op op_mod (pe_callTy call_int1 rfl (f_int T) (by decide +kernel) (pa_cons (pe_fn (ok_law_next T) (hr.mono (by omega)) rfl (g_law_next T) (pa_cons (pv 0) pa_nil)) pa_nil)) pe_int) pa_nil)) pa_nil))))) pss_nil)
    (pss_cons (ps_if (pt_cmpR op_eq (pv 3) pe_int (nomark _)) (pss_one (ps_ret (pe_tup (pa_cons pe_str (pa_cons (pe_op op_add pe_int (pe_op op_mod (pe_callTy call_int1 rfl (f_int T) (by decide +kernel) (pa_cons (pv 4) pa_nil)) pe_int)) pa_nil))))) pss_nil)
    (pss_cons (ps_if (PW.pt (pw_or (pt_cmpR op_eq (pv 3) pe_int (nomark _)) (pw_or1 (pt_cmpR op_gt (pv 1) pe_int (nomark _))))) (pss_one (ps_ret (pe_tup (pa_cons pe_str (pa_cons (pe_op op_add pe_int (pe_op op_mod (pe_callTy call_int1 rfl (f_int T) (by decide +kernel) (pa_cons (pv 4) pa_nil)) pe_int)) pa_nil))))) pss_nil)
    (pss_cons (ps_if (pt_cmpR op_eq (pv 3) pe_int (nomark _)) (pss_one (ps_ret (pe_tup (pa_cons pe_str (pa_cons (pe_fn GR (hr.mono (by omega)) rfl (g_law_items T) (pa_cons (pv 0) (pa_cons (pe_op op_add (pv 1) pe_int) (pa_cons (pe_op op_mod (pe_callTy call_int1 rfl (f_int T) (by decide +kernel) (pa_cons (pv 4) pa_nil)) pe_int) pa_nil)))) pa_nil))))) pss_nil)
    (pss_cons (ps_if (pt_cmpR op_eq (pv 3) pe_int (nomark _)) (pss_cons (ps_set (i := 5) sc_law_item.nd rfl (Or.inl rfl) (pe_fn GR (hr.mono (by omega)) rfl (g_law_items T) (pa_cons (pv 0) (pa_cons (pe_op op_add (pv 1) pe_int) (pa_cons (pe_op op_mod (pe_callTy call_int1 rfl (f_int T) (by decide +kernel) (pa_cons (pv 4) pa_nil)) pe_int) pa_nil)))))
    (pss_one (ps_ret (pe_tup (pa_cons pe_str (pa_cons (pv 5) (pa_cons (pe_fn GR (hr.mono (by omega)) rfl (g_law_items T) (pa_cons (pv 0) (pa_cons (pe_op op_add (pv 1) pe_int) (pa_cons (pe_op op_mod (pe_op op_fdiv (pv 4) pe_int) pe_int) pa_nil)))) pa_nil))))))) pss_nil)
    (pss_cons (ps_if (pt_cmpR op_eq (pv 3) pe_int (nomark _)) (pss_one (ps_ret (pe_tup (pa_cons pe_str (pa_cons (pe_fn GR (hr.mono (by omega)) rfl (g_law_items T) (pa_cons (pv 0) (pa_cons (pe_op op_add (pv 1) pe_int) (pa_cons (pe_op op_mod (pe_callTy call_int1 rfl (f_int T) (by decide +kernel) (pa_cons (pv 4) pa_nil)) pe_int) pa_nil)))) pa_nil))))) pss_nil)
    (pss_one (ps_ret (pe_tup (pa_cons pe_str (pa_cons pe_int pa_nil)))))))))))))))), ?_⟩
  have leaf : ∀ (H1 : Hp) (t : Its) (xs : List V), xs.length ≤ 3 → DrAt H1 da → Fr [da] H H1 → (∀ p, H1 p = none → RepL (fun l => H l = none) (upd H1 p (.tup xs)) [.ref p] t) → ItOk k 1 t → xs.length ≤ sizeLine ∧ ∀ p, H1 p = none → Q (.ref p) (upd H1 p (.tup xs)) :=
    fun H1 t xs hx h1 F1 hr hi => ⟨line_le (by omega), fun p np => kk _ _ ⟨p, t, rfl, hr p np, hi, h1.keep ((Fr.refl _ _).new np), F1.new np⟩⟩
  refine seqR (setR (nextR (i := 0) rfl h fun x H1 hx h1 F1 => ?_))
  refine nxR (seqR (setR (imodR (by decide) (x := (x : Int)) (fun Q q => varR (i := 2) rfl q) ?_)))
  refine nxR (seqR (setR (opR (varR (i := 2) rfl (cR ⟨_, _, rfl, rfl, ⟨by decide, by decide⟩, ?_⟩)))))
  refine nxR (seqR (if_lt (i := 3) rfl (fun q => ?_) (fun q => ?_)))
  · refine retR (tupR (consR (cR (consR (imodR (by decide) (x := (x : Int) / 17) (fun Q q => varR (i := 4) rfl q) ?_)))))
    exact leaf H1 (.num (x / 17 % 7) .nil) _ (by show 2 ≤ 3; omega) h1 F1 (fun p np => .num upd_same .nil) (it_num (by omega))
  refine nxR (seqR (if_eq (i := 3) rfl (fun q => ?_) (fun q => ?_)))
  · refine retR (tupR (consR (cR (consR (opR (opR (cR (nextR (i := 0) rfl h1 fun y H2 hy h2 F2 => ⟨_, _, rfl, rfl, .inl ⟨by decide, by decide⟩, nextR (i := 0) rfl h2 fun z H3 hz h3 F3 => ⟨_, _, rfl, rfl, ?_⟩⟩))))))))
    exact leaf H3 (.num (1000 * y + z) .nil) _ (by show 2 ≤ 3; omega) h3 ((F1.trans F2).trans F3) (fun p np => .num upd_same .nil) (it_num (by omega))
  refine nxR (seqR (if_lt (i := 3) rfl (fun q => ?_) (fun q => ?_)))
  · refine retR (tupR (consR (cR (consR (consR (nmodR (by decide) (i := 0) rfl h1 fun y H2 hy h2 F2 => ⟨y % 46, rfl, (by show y % 46 < 46; omega), ?_⟩))))))
    rintro v H3 ⟨c, rfl, hc, F3⟩
    exact leaf H3 (.op c .nil) _ (by show 2 ≤ 3; omega) (h2.keep F3) ((F1.trans F2).trans F3.nil) (fun p np => .op upd_same .nil) (it_op hc)
  refine nxR (seqR (if_eq (i := 3) rfl (fun q => ?_) (fun q => ?_)))
  · refine retR (tupR (consR (cR (consR (opR (cR (imodR (by decide) (x := (x : Int) / 17) (fun Q q => varR (i := 4) rfl q) ⟨_, _, rfl, rfl, ?_⟩)))))))
    exact leaf H1 (.put (97 + x / 17 % 6) .nil) _ (by show 2 ≤ 3; omega) h1 F1 (fun p np => .put upd_same .nil) (it_put (by omega))
  have nd : ∀ {l : Addr}, H l = none → l ≠ da := fun e z => by
    obtain ⟨ds, e1, _⟩ := h
    rw [z, e1] at e; cases e
  have up : ∀ {H1 : Hp} {l : Addr}, DrAt H1 da → Fr [da] H H1 → H1 l = none → H l = none := fun d1 F e => F.back e (by
    intro z
    rw [List.mem_singleton] at z
    obtain ⟨ds, e1, _⟩ := d1
    rw [z, e1] at e; cases e)
  have kd : ∀ {H1 H2 : Hp} {xs : List V} {t : Its}, DrAt H1 da → Fr [da] H1 H2 → RepL (fun l => H l = none) H1 xs t → RepL (fun l => H l = none) H2 xs t := fun d1 F R => R.keep (fun p xs e => F _ _ e (by
      intro z
      rw [List.mem_singleton] at z
      obtain ⟨ds, e1, _⟩ := d1
      rw [z, e1] at e; cases e)) (fun l xs s e => F _ _ e (by
      intro z
      rw [List.mem_singleton] at z
      exact nd s z))
  have kp : ∀ {H1 : Hp} {p : Addr} {o : HO} {xs : List V} {t : Its}, H1 p = none → RepL (fun l => H l = none) H1 xs t → RepL (fun l => H l = none) (upd H1 p o) xs t := fun np R => R.keep (fun q xs e => by rw [upd_ne (ne_of_none e np)]; exact e) (fun l xs s e => by rw [upd_ne (ne_of_none e np)]; exact e)
  have op3 : ({ nx := fun _ H' => Q .non H', rt := Q } : Ends).rt = Q := rfl
  have retop : ∀ σ : L2.St, σ[4]? = some (some (.int ((x : Int) / 17))) → tRet (tTup (tCons (tC (.str ("op" : Str))) (tCons (tOp (rI0 fun i j => .int (i + j)) (tC (.int 65)) (tOp (rI (fun _ j => 0 < j) fun i j => .int (i % j)) (tCB (fun xs H Q => (∃ i, xs = [.int i] ∧ Q (.int i) H) ∨ ∃ k, xs = [.bl k] ∧ Q (.int (if k then 1 else 0)) H) (tCons (tVar 4) tNil)) (tC (.int 3)))) tNil))) { nx := fun _ H' => Q .non H', rt := Q } σ H1 := fun σ hs => by
    refine retR (tupR (consR (cR (consR (opR (cR (imodR (by decide) (x := (x : Int) / 17) (fun Q q => varR (i := 4) hs q) ⟨_, _, rfl, rfl, ?_⟩)))))))
    exact leaf H1 (.op (65 + x / 17 % 3) .nil) _ (by show 2 ≤ 3; omega) h1 F1 (fun p np => .op upd_same .nil) (it_op (call_ok (by omega) (by omega)))
  refine nxR (seqR (ifR (orR (testR (opR (varR (i := 3) rfl (cR ⟨rfl, _, rfl, ite2 (fun q => iteT ?_) (fun q => ?_)⟩)))))))
  · exact retop _ rfl
  refine testR (opR (varR (i := 1) rfl (cR ⟨_, _, rfl, rfl, _, rfl, ite2 (fun q => ?_) (fun q => ?_)⟩)))
  · exact retop _ rfl
  have d3 : ¬ 3 < d := fun z => q (decide_eq_true z)
  obtain ⟨k', ek⟩ : ∃ k', k = k' + 1 := ⟨k - 1, by omega⟩
  subst ek
  have esp := hsp k' rfl
  subst esp
  refine nxR (seqR (if_eq (i := 3) rfl (fun q => ?_) (fun q => ?_)))
  · refine retR (tupR (consR (cR (consR (consR (varR (i := 0) rfl (consR (opR (varR (i := 1) rfl (cR ⟨_, _, rfl, rfl, consR (imodR (by decide) (x := (x : Int) / 17) (fun Q q => varR (i := 4) rfl q) ⟨((da, d + 1), x / 17 % 5), rfl, ⟨h1, by show d + 1 + (k' : Int) = 4; omega, by show x / 17 % 5 ≤ 5; omega⟩, ?_⟩)⟩))))))))))
    rintro v H2 ⟨rr, xs, t, rfl, nr, hr2, R2, I2, h2, F2⟩
    exact leaf H2 (.wen t .nil) _ (by show 2 ≤ 3; omega) h2 (F1.trans F2) (fun p np => .wen upd_same (up h1 F1 nr) (by rw [upd_ne (ne_of_none hr2 np)]; exact hr2) (kp np (R2.mono fun l _ s _ => up h1 F1 s)) .nil) (it_wen I2 (by show x / 17 % 5 ≤ 5; omega))
  refine nxR (seqR (if_eq (i := 3) rfl (fun q => ?_) (fun q => ?_)))
  · refine seqR (setR (consR (varR (i := 0) rfl (consR (opR (varR (i := 1) rfl (cR ⟨_, _, rfl, rfl, consR (imodR (by decide) (x := (x : Int) / 17) (fun Q q => varR (i := 4) rfl q) ⟨((da, d + 1), x / 17 % 4), rfl, ⟨h1, by show d + 1 + (k' : Int) = 4; omega, by show x / 17 % 4 ≤ 5; omega⟩, ?_⟩)⟩)))))))
    rintro v H2 ⟨r1, xs, t, rfl, nr, hr2, R2, I2, h2, F2⟩
    have R2' := R2.mono (S' := fun l => H l = none) fun l _ s _ => up h1 F1 s
    have s1 := up h1 F1 nr
    have F12 := F1.trans F2
    refine nxR (retR (tupR (consR (cR (consR (varR (i := 5) rfl (consR (consR (varR (i := 0) rfl (consR (opR (varR (i := 1) rfl (cR ⟨_, _, rfl, rfl, consR (opR (opR (varR (i := 4) rfl (cR ⟨_, _, rfl, rfl, ⟨by decide, by decide⟩, cR ⟨_, _, rfl, rfl, (by show (0 : Int) < 4; decide), ?_⟩⟩))))⟩)))))))))))))
    refine ⟨((da, d + 1), x / 17 / 4 % 4), rfl, ⟨h2, by show d + 1 + (k' : Int) = 4; omega, by show x / 17 / 4 % 4 ≤ 5; omega⟩, ?_⟩
    rintro v H3 ⟨r3, ys, u, rfl, nr3, hr3, R3, I3, h3, F3⟩
    have hr23 : H3 r1 = some (.lst xs) := F3 _ _ hr2 (by
      intro z
      rw [List.mem_singleton] at z
      exact nd s1 z)
    exact leaf H3 (.cho t u .nil) _ (by show 3 ≤ 3; omega) h3 (F12.trans F3) (fun p np => .cho upd_same s1 (by rw [upd_ne (ne_of_none hr23 np)]; exact hr23) (kp np (kd h2 F3 R2')) (up h2 F12 nr3) (by rw [upd_ne (ne_of_none hr3 np)]; exact hr3) (kp np (R3.mono fun l _ s _ => up h2 F12 s)) .nil) (it_cho I2 I3 (by show x / 17 % 4 ≤ 3; omega) (by show x / 17 / 4 % 4 ≤ 3; omega))
  refine nxR (seqR (if_eq (i := 3) rfl (fun q => ?_) (fun q => ?_)))
  · refine retR (tupR (consR (cR (consR (consR (varR (i := 0) rfl (consR (opR (varR (i := 1) rfl (cR ⟨_, _, rfl, rfl, consR (imodR (by decide) (x := (x : Int) / 17) (fun Q q => varR (i := 4) rfl q) ⟨((da, d + 1), x / 17 % 6), rfl, ⟨h1, by show d + 1 + (k' : Int) = 4; omega, by show x / 17 % 6 ≤ 5; omega⟩, ?_⟩)⟩))))))))))
    rintro v H2 ⟨rr, xs, t, rfl, nr, hr2, R2, I2, h2, F2⟩
    exact leaf H2 (.loo t .nil) _ (by show 2 ≤ 3; omega) h2 (F1.trans F2) (fun p np => .loo upd_same (up h1 F1 nr) (by rw [upd_ne (ne_of_none hr2 np)]; exact hr2) (kp np (R2.mono fun l _ s _ => up h1 F1 s)) .nil) (it_loo I2 (by show x / 17 % 6 ≤ 5; omega))
  refine nxR (retR (tupR (consR (cR (consR (cR ?_))))))
  exact leaf H1 (.op 46 .nil) _ (by show 2 ≤ 3; omega) h1 F1 (fun p np => .op upd_same .nil) (it_op (by decide))
end
end Pk
namespace Pk
open PySem PySem.Spec PyProof.Rows L2
section
variable {P : Program} {w : World} {K : PySem.W.Frag} {mg : Str → Option Value} {base : Heap}
variable {i : Nat} {σ : L2.St} {H : Hp} {D : Ends} {Q : VK} {te ta tb : TE} {t1 t2 : TS} {r : R2} {tt : TT}
theorem truD {da : Addr} {Q : Bool → Hp → Prop} (hs : σ[i]? = some (some (.ref da))) (h : DrAt H da) (k : ∀ b, Q b H) : (fun (σ : L2.St) (H : Hp) (Q : Bool → Hp → Prop) => tVar i σ H fun x H' => ∃ k, TruV K x H' k ∧ Q k H') σ H Q := by
  obtain ⟨ds, e, _⟩ := h
  cases ds with
  | nil => exact varR hs ⟨false, .inl ⟨_, SqL.of e, rfl⟩, k _⟩
  | cons x r => exact varR hs ⟨true, .inl ⟨_, SqL.of e, rfl⟩, k _⟩
/-- the list under way: a list of items at D, apart from what the items hold -/
structure RAt (H0 H : Hp) (da D : Addr) (n : Nat) (q : Its → Prop) : Prop where
  ex : ∃ xs t, H D = some (.lst xs) ∧ xs.length ≤ n ∧ RepL (fun l => H0 l = none ∧ l ≠ D) H xs t ∧ q t
  dr : DrAt H da
  fr : Fr [da] H0 H
theorem RAt.new {H0 : Hp} {da D : Addr} {q : Its → Prop} (h : DrAt H0 da) (hD : H0 D = none) (hq : q .nil) : RAt H0 (upd H0 D (.lst [])) da D 0 q :=
  ⟨⟨[], .nil, upd_same, Nat.le_refl _, .nil, hq⟩, h.keep ((Fr.refl _ _).new hD), (Fr.refl _ _).new hD⟩
theorem drNe {H0 H : Hp} {da l : Addr} (h : DrAt H da) (e : H l = none) : l ≠ da := fun z => by
  obtain ⟨ds, e1, _⟩ := h
  rw [z, e1] at e; cases e
theorem drTup {H : Hp} {da p : Addr} {xs : List V} (h : DrAt H da) (e : H p = some (.tup xs)) : p ≠ da := fun z => by
  obtain ⟨ds, e1, _⟩ := h
  rw [z, e1] at e; cases e
/-- draws are taken: the list under way stands -/
theorem RAt.draw {H0 H H' : Hp} {da D : Addr} {n : Nat} {q : Its → Prop} (h : RAt H0 H da D n q) (h0 : DrAt H0 da) (hD : H0 D = none) (d : DrAt H' da) (F : Fr [da] H H') : RAt H0 H' da D n q := by
  obtain ⟨xs, t, e, hn, R, hq⟩ := h.ex
  have nD : D ≠ da := drNe (H0 := H0) h0 hD
  have nin : ∀ {x : Addr}, x ≠ da → x ∉ [da] := fun z y => z (List.mem_singleton.mp y)
  exact ⟨⟨xs, t, F _ _ e (nin nD), hn, R.keep (fun p xs e => F _ _ e (nin (drTup h.dr e))) (fun l xs s e => F _ _ e (nin (drNe (H0 := H0) h0 s.1))), hq⟩, d, h.fr.trans F⟩
/-- an item made at H is put behind -/
theorem RAt.push {H0 H H' : Hp} {da D p : Addr} {n : Nat} {q q' : Its → Prop} {u : Its} (h : RAt H0 H da D n q) (h0 : DrAt H0 da) (hD : H0 D = none) (d : DrAt H' da) (F : Fr [da] H H') (R : RepL (fun l => H l = none) H' [.ref p] u) (hn : n ≤ 1000) (hq : ∀ t, q t → q' (t.app u)) :
    ∃ xs, H' D = some (.lst xs) ∧ xs.length < sizeLine ∧ RAt H0 (upd H' D (.lst (xs ++ [.ref p]))) da D (n + 1) q' := by
  obtain ⟨ds, dd, _⟩ := id h.dr
  have fr := h.fr
  obtain ⟨ys, ty, ey, ly, Ry, qy⟩ := h.ex
  have h1 := h.draw h0 hD d F
  obtain ⟨xs, t, e, ln, R1, hq1⟩ := h1.ex
  have nD : D ≠ da := drNe (H0 := H0) h0 hD
  have keepU : ∀ {S : Addr → Prop} {xs : List V} {t : Its} {o : List V}, (∀ l, S l → l ≠ D) → RepL S H' xs t → RepL S (upd H' D (.lst o)) xs t := fun hs R => R.keep (fun p xs e' => by rw [upd_ne (ne_of e' e (by intro z; cases z))]; exact e') (fun l xs s e' => by rw [upd_ne (hs l s)]; exact e')
  refine ⟨xs, e, line_of (by omega), ⟨⟨_, _, upd_same, by rw [List.length_append]; show _ + 1 ≤ _; omega, (keepU (fun l s => s.2) R1).app (keepU (fun l s => s.2) (R.mono fun l zs s _ => ?_)), hq _ hq1⟩, ?_, fun b o e' nb => ?_⟩⟩
  · refine ⟨fr.back s ?_, ne_of_none ey s |>.symm⟩
    intro z
    rw [List.mem_singleton] at z
    rw [z, dd] at s; cases s
  · obtain ⟨d1, d2, d3⟩ := d
    exact ⟨d1, by rw [upd_ne nD.symm]; exact d2, d3⟩
  · rw [upd_ne (ne_of_none e' hD)]
    exact h1.fr _ _ e' nb
/-- here.append(..) of an item's ref -/
theorem apnR {da D0 p : Addr} {n : Nat} {q q' : Its → Prop} {u : Its} {H0 H1 H2 : Hp} {Q' : VK} (h : RAt H0 H1 da D0 n q) (h0 : DrAt H0 da) (hD : H0 D0 = none) (d : DrAt H2 da) (F : Fr [da] H1 H2) (R : RepL (fun l => H1 l = none) H2 [.ref p] u) (hn : n ≤ 1000) (hq : ∀ t, q t → q' (t.app u))
    (k : ∀ H3, RAt H0 H3 da D0 (n + 1) q' → Q' .non H3) : rAppend (.ref D0) [.ref p] H2 Q' := by
  obtain ⟨xs, e1, e2, e3⟩ := h.push h0 hD d F R hn hq
  exact ⟨D0, xs, .ref p, rfl, rfl, e1, e2, k _ e3⟩
theorem RAt.fin {H0 H : Hp} {da D : Addr} {n : Nat} {q : Its → Prop} (h : RAt H0 H da D n q) : ∃ xs t, H D = some (.lst xs) ∧ RepL (fun l => H0 l = none) H xs t ∧ q t := by
  obtain ⟨xs, t, e, _, R, hq⟩ := h.ex
  exact ⟨xs, t, e, R.mono fun l _ s _ => s.1, hq⟩
theorem RAt.sq {H0 H : Hp} {da D : Addr} {n : Nat} {q : Its → Prop} (h : RAt H0 H da D n q) : ∃ xs, SqL K H D xs := by
  obtain ⟨xs, t, e, _⟩ := h.ex
  exact ⟨xs, SqL.of e⟩
theorem RAt.imp {H0 H : Hp} {da D : Addr} {n n' : Nat} {q q' : Its → Prop} (h : RAt H0 H da D n q) (hn : n ≤ n') (hq : ∀ t, q t → q' t) : RAt H0 H da D n' q' := by
  obtain ⟨xs, t, e, l, R, q1⟩ := h.ex
  exact ⟨⟨xs, t, e, Nat.le_trans l hn, R, hq _ q1⟩, h.dr, h.fr⟩
theorem items_step (T : Txt w K mg) {k n : Nat} (GR : Kept P w K mg base n (He.ga K "_law_item") ps_law_item (sp_item k)) : Kept P w K mg base (n + 1) (He.ga K "_law_items") ps_law_items (sp_items k) := by
  obtain ⟨fd, F⟩ := fd_law_items T
  refine ⟨fd, F.ok sc_law_items (fun vs H Q E ⟨a, e, _⟩ => by rw [e] <;> rfl) (fun cdv A outer s H vs Q E hr h => ?_), F.kp, bd_law_items F⟩
  obtain ⟨⟨⟨da, d⟩, m⟩, rfl, ⟨h, hd, hm⟩, kk⟩ := h
  replace h : DrAt H da := h
  replace hd : d + k = 4 := hd
  replace hm : m ≤ 5 := hm
  replace kk : ∀ v H', (∃ (r : Addr) (xs : List V) (t : Its), v = .ref r ∧ H r = none ∧ H' r = some (.lst xs) ∧ RepL (fun l => H l = none) H' xs t ∧ ItOk k m t ∧ DrAt H' da ∧ Fr [da] H H') → Q v H' := kk
  refine ⟨_, PSs.nox (pss_cons (ps_set (i := 3) sc_law_items.nd rfl (Or.inl rfl) (pe_lst pa_nil))
    (pss_cons (ps_for PassesOwn.never rfl (pi_range1 rfl (f_range T) (pa_cons (pv 2) pa_nil)) (pg_name (i := 4) sc_law_items.nd rfl (Or.inl rfl)) (pss_cons (ps_if (pt_not (pt_truth (pv 0) (by intro _; rfl))) (pss_one ps_break) pss_nil)
    (pss_one (ps_expr (pe_bm PySem.F.plainAttrs_list PySem.F.slot_list_append PySem.F.type_list_append mt_append (pv 3) (pa_cons (pe_fn GR (hr.mono (by omega)) rfl (g_law_item T) (pa_cons (pv 0) (pa_cons (pv 1) pa_nil))) pa_nil))))))
    (pss_one (ps_ret (pv 3))))), ?_⟩
  refine seqR (setR (lstR ⟨by show 0 ≤ sizeLine; decide, fun D0 hD => ?_⟩))
  have fin : ∀ σ H', σ[3]? = some (some (.ref D0)) → RAt H H' da D0 m (ItOk k m) → tRet (tVar 3) { nx := fun _ H' => Q .non H', rt := Q } σ H' := fun σ H' hs hR => by
    obtain ⟨xs, t, e, R, I⟩ := hR.fin
    exact retR (varR hs (kk _ _ ⟨D0, xs, t, rfl, hD, e, R, I, hR.dr, hR.fr⟩))
  refine nxR (seqR ⟨_, rfl, _, rfl, by show -(2 ^ 62) ≤ (m : Int); omega, by show (m : Int) < 2 ^ 62; omega, ?_⟩)
  rw [Int.toNat_natCast]
  refine for_range (n := m) (fun j σ H' => (∃ x4, σ = [some (.ref da), some (.int d), some (.int m), some (.ref D0), x4]) ∧ j ≤ m ∧ RAt H H' da D0 j (ItOk k j)) ⟨⟨_, rfl⟩, Nat.zero_le _, RAt.new h hD (ItOk.nil k)⟩ ?_ ?_
  · rintro j σ H1 hj ⟨⟨x4, rfl⟩, _, h1⟩
    refine seqR (ifR (notR (truR (truD (i := 0) rfl h1.dr fun b => ?_))))
    cases b with
    | false => exact iteT (brR (fin _ _ rfl (h1.imp (by omega) fun t q => q.mono (by omega))))
    | true =>
      refine iteF (nxR ?_)
      obtain ⟨xs, sq⟩ := h1.sq (K := K)
      refine bmR (varR (i := 3) rfl ⟨.inl ⟨rfl, _, sq⟩, consR (varR (i := 0) rfl (consR (varR (i := 1) rfl ⟨(da, d), rfl, ⟨h1.dr, hd⟩, ?_⟩)))⟩)
      rintro v H2 ⟨p, u, rfl, R2, I2, d2, F2⟩
      exact apnR h1 h hD d2 F2 R2 (by omega) (fun t q => q.app I2) fun H3 h3 => ⟨⟨_, rfl⟩, by omega, h3⟩
  · rintro σ H1 ⟨⟨x4, rfl⟩, _, h1⟩
    exact nxR (fin _ _ rfl h1)
theorem items_none (T : Txt w K mg) : Kept P w K mg base 1 (He.ga K "_law_items") ps_law_items (fun _ _ _ _ => False) := by
  obtain ⟨fd, F⟩ := fd_law_items T
  exact ⟨fd, F.ok sc_law_items (fun vs H Q E h => h.elim) (fun cdv A outer s H vs Q E hr h => h.elim), F.kp, bd_law_items F⟩
theorem it_0 (T : Txt w K mg) : Kept P w K mg base 2 (He.ga K "_law_item") ps_law_item (sp_item 0) := item_step T (items_none T) (by decide) fun k' e => by cases e
theorem its_0 (T : Txt w K mg) : Kept P w K mg base 3 (He.ga K "_law_items") ps_law_items (sp_items 0) := items_step T (it_0 T)
theorem it_1 (T : Txt w K mg) : Kept P w K mg base 4 (He.ga K "_law_item") ps_law_item (sp_item 1) := item_step T (its_0 T) (by decide) fun k' e => by cases e; rfl
theorem its_1 (T : Txt w K mg) : Kept P w K mg base 5 (He.ga K "_law_items") ps_law_items (sp_items 1) := items_step T (it_1 T)
theorem it_2 (T : Txt w K mg) : Kept P w K mg base 6 (He.ga K "_law_item") ps_law_item (sp_item 2) := item_step T (its_1 T) (by decide) fun k' e => by cases e; rfl
theorem its_2 (T : Txt w K mg) : Kept P w K mg base 7 (He.ga K "_law_items") ps_law_items (sp_items 2) := items_step T (it_2 T)
theorem it_3 (T : Txt w K mg) : Kept P w K mg base 8 (He.ga K "_law_item") ps_law_item (sp_item 3) := item_step T (its_2 T) (by decide) fun k' e => by cases e; rfl
theorem ok_law_items (T : Txt w K mg) : Kept P w K mg base 9 (He.ga K "_law_items") ps_law_items (sp_items 3) := items_step T (it_3 T)
theorem ok_law_item (T : Txt w K mg) : Kept P w K mg base 10 (He.ga K "_law_item") ps_law_item (sp_item 4) := item_step T (ok_law_items T) (by decide) fun k' e => by cases e; rfl
structure TrOk (n : Nat) (t : Its) : Prop where
  ok : t.TopOk
  sz : t.sz ≤ n * 1555
  dep : t.dep ≤ 4
theorem TrOk.mono {n n' : Nat} {t : Its} (h : TrOk n t) (hn : n ≤ n') : TrOk n' t := ⟨h.ok, Nat.le_trans h.sz (Nat.mul_le_mul_right _ hn), h.dep⟩
theorem TrOk.app {n n' : Nat} {t u : Its} (h : TrOk n t) (h' : TrOk n' u) : TrOk (n + n') (t.app u) :=
  ⟨app_top h'.ok _ h.ok, by rw [app_sz, Nat.add_mul]; have := h.sz; have := h'.sz; omega, by rw [app_dep]; have := h.dep; have := h'.dep; omega⟩
theorem tr_item {t : Its} (h : ItOk 4 1 t) : TrOk 1 t := ⟨ok_top _ h.ok, h.sz, h.dep⟩
theorem tr_def {f n : Nat} {t : Its} (hf : 65 ≤ f ∧ f ≤ 67) (h : ItOk 3 n t) (hn : n ≤ 5) : TrOk 1 (.dfn f t .nil) :=
  ⟨⟨hf, h.ok, trivial⟩, by have := h.sz; have := Nat.mul_le_mul_right (Wk 3) hn; have : Wk 3 = 259 := rfl; simp only [Its.sz]; omega, by have := h.dep; simp only [Its.dep]; omega⟩
def sp_tree : Sp := mkSp (α := Addr) (fun a => [.ref a]) (fun a H => DrAt H a)
  (fun a H v H' => ∃ (r : Addr) (xs : List V) (t : Its), v = .ref r ∧ H r = none ∧ H' r = some (.lst xs) ∧ xs.length ≤ 40 ∧ RepL (fun l => H l = none) H' xs t ∧ TrOk 40 t ∧ DrAt H' a ∧ Fr [a] H H')
theorem ok_law_tree (T : Txt w K mg) : Kept P w K mg base 11 (He.ga K "_law_tree") ps_law_tree sp_tree := by
  obtain ⟨fd, F⟩ := fd_law_tree T
  refine ⟨fd, F.ok sc_law_tree (fun vs H Q E ⟨a, e, _⟩ => by rw [e] <;> rfl) (fun cdv A outer s H vs Q E hr h => ?_), F.kp, bd_law_tree F⟩
  obtain ⟨da, rfl, h, kk⟩ := h
  replace h : DrAt H da := h
  replace kk : ∀ v H', (∃ (r : Addr) (xs : List V) (t : Its), v = .ref r ∧ H r = none ∧ H' r = some (.lst xs) ∧ xs.length ≤ 40 ∧ RepL (fun l => H l = none) H' xs t ∧ TrOk 40 t ∧ DrAt H' da ∧ Fr [da] H H') → Q v H' := kk
  refine ⟨_, PSs.nox (pss_cons (ps_set (i := 1) sc_law_tree.nd rfl (Or.inl rfl) (pe_lst pa_nil))
    (pss_cons (ps_for PassesOwn.never rfl (pi_range1 rfl (f_range T) (pa_cons pe_int pa_nil)) (pg_name (i := 2) sc_law_tree.nd rfl (Or.inl rfl)) (pss_cons (ps_if (pt_not (pt_truth (pv 0) (by intro _; rfl))) (pss_one ps_break) pss_nil)
    (pss_one (ps_if (pt_cmpR op_eq (pe_op op_mod (pe_callTy call_int1 rfl (f_int T) (by decide +kernel) (pa_cons (pe_fn (ok_law_next T) (hr.mono (by decide)) rfl (g_law_next T) (pa_cons (pv 0) pa_nil)) pa_nil)) pe_int) pe_int (nomark _)) (pss_cons (ps_set (i := 3) sc_law_tree.nd rfl (Or.inl rfl) (pe_op op_add pe_int (pe_op op_mod (pe_callTy call_int1 rfl (f_int T) (by decide +kernel) (pa_cons (pe_fn (ok_law_next T) (hr.mono (by decide)) rfl (g_law_next T) (pa_cons (pv 0) pa_nil)) pa_nil)) pe_int)))
    (pss_one (ps_expr (pe_bm PySem.F.plainAttrs_list PySem.F.slot_list_append PySem.F.type_list_append mt_append (pv 1) (pa_cons (pe_tup (pa_cons pe_str (pa_cons (pv 3) (pa_cons (pe_fn (ok_law_items T) (hr.mono (by decide)) rfl (g_law_items T) (pa_cons (pv 0) (pa_cons pe_int (pa_cons (pe_op op_mod (pe_callTy call_int1 rfl (f_int T) (by decide +kernel) (pa_cons (pe_fn (ok_law_next T) (hr.mono (by decide)) rfl (g_law_next T) (pa_cons (pv 0) pa_nil)) pa_nil)) pe_int) pa_nil)))) pa_nil)))) pa_nil))))) (pss_one (ps_expr (pe_bm PySem.F.plainAttrs_list PySem.F.slot_list_append PySem.F.type_list_append mt_append (pv 1) (pa_cons (pe_fn (ok_law_item T) (hr.mono (by decide)) rfl (g_law_item T) (pa_cons (pv 0) (pa_cons pe_int pa_nil))) pa_nil))))))))
    (pss_one (ps_ret (pv 1))))), ?_⟩
  refine seqR (setR (lstR ⟨by show 0 ≤ sizeLine; decide, fun D0 hD => ?_⟩))
  have fin : ∀ σ H', σ[1]? = some (some (.ref D0)) → RAt H H' da D0 40 (TrOk 40) → tRet (tVar 1) { nx := fun _ H' => Q .non H', rt := Q } σ H' := fun σ H' hs hR => by
    obtain ⟨xs, t, e, hl, R, I⟩ := hR.ex
    exact retR (varR hs (kk _ _ ⟨D0, xs, t, rfl, hD, e, hl, R.mono (fun l _ s _ => s.1), I, hR.dr, hR.fr⟩))
  refine nxR (seqR ⟨40, rfl, by decide, by decide, ?_⟩)
  refine for_range (n := 40) (fun j σ H' => (∃ x2 x3, σ = [some (.ref da), some (.ref D0), x2, x3]) ∧ j ≤ 40 ∧ RAt H H' da D0 j (TrOk j)) ⟨⟨_, _, rfl⟩, Nat.zero_le _, RAt.new h hD ⟨trivial, Nat.zero_le _, Nat.zero_le _⟩⟩ ?_ ?_
  · rintro j σ H1 hj ⟨⟨x2, x3, rfl⟩, _, h1⟩
    refine seqR (ifR (notR (truR (truD (i := 0) rfl h1.dr fun b => ?_))))
    cases b with
    | false => exact iteT (brR (fin _ _ rfl (h1.imp (by omega) fun t q => q.mono (by omega))))
    | true =>
      refine iteF (nxR ?_)
      refine ifR (testR (opR (nmodR (by decide) (i := 0) rfl h1.dr fun x H2 hx d2 F2 => cR ⟨rfl, _, rfl, ?_⟩)))
      have h2 := h1.draw h hD d2 F2
      refine ite2 (fun _ => ?_) (fun _ => ?_)
      · refine seqR (setR (opR (cR (nmodR (by decide) (i := 0) rfl d2 fun y H3 hy d3 F3 => ⟨_, _, rfl, rfl, ?_⟩))))
        have h3 := h2.draw h hD d3 F3
        refine nxR ?_
        obtain ⟨xs, sq⟩ := h3.sq (K := K)
        refine bmR (varR (i := 1) rfl ⟨.inl ⟨rfl, _, sq⟩, tupR (consR (cR (consR (varR (i := 3) rfl (consR (consR (varR (i := 0) rfl (consR (cR (consR (nmodR (by decide) (i := 0) rfl d3 fun z H4 hz d4 F4 => ⟨((da, 1), z % 6), rfl, ⟨d4, rfl, by show z % 6 ≤ 5; omega⟩, ?_⟩)))))))))))⟩)
        have h4 := h3.draw h hD d4 F4
        rintro v H5 ⟨rr, ys, t, rfl, nr, hr5, R5, I5, d5, F5⟩
        refine ⟨by show 3 ≤ sizeLine; decide, fun p np => ?_⟩
        refine apnR h4 h hD (u := .dfn (65 + y % 3) t .nil) (d5.keep ((Fr.refl _ _).new np)) (F5.new np) (.dfn upd_same nr (by rw [upd_ne (ne_of_none hr5 np)]; exact hr5) (R5.keep (fun q xs e => by rw [upd_ne (ne_of_none e np)]; exact e) (fun l xs s e => by rw [upd_ne (ne_of_none e np)]; exact e)) .nil) (by omega) (fun u q => q.app (tr_def (by omega) I5 (by show z % 6 ≤ 5; omega))) fun H6 h6 => ⟨⟨_, _, rfl⟩, by omega, h6⟩
      · obtain ⟨xs, sq⟩ := h2.sq (K := K)
        refine bmR (varR (i := 1) rfl ⟨.inl ⟨rfl, _, sq⟩, consR (varR (i := 0) rfl (consR (cR ⟨(da, 0), rfl, ⟨d2, rfl⟩, ?_⟩)))⟩)
        rintro v H3 ⟨p, u, rfl, R3, I3, d3, F3⟩
        exact apnR h2 h hD d3 F3 R3 (by omega) (fun t q => q.app (tr_item I3)) fun H4 h4 => ⟨⟨_, _, rfl⟩, by omega, h4⟩
  · rintro σ H1 ⟨⟨x2, x3, rfl⟩, _, h1⟩
    exact nxR (fin _ _ rfl h1)
end
end Pk
namespace Pk
open PySem PySem.Spec PyProof.Rows L2
abbrev sl (z : Str) : List Nat := z.cps.toList
theorem sl_app (a b : Str) : sl (a ++ b) = sl a ++ sl b := by
  show (a.cps ++ b.cps).toList = _
  rw [Array.toList_append]
theorem sl_len (z : Str) : z.length = (sl z).length := (Array.length_toList).symm
def charsS : Str := (" !\"#$&'()*+,-./0123456789:;<=>?@ABCDEFGHIJKLMNOPQRSTUVWXYZ[\\]^_`" : Str) ++ ("abcdefghijklmnopqrstuvwxyz{|}~" : Str)
theorem chars_at : ∀ c : Nat, c < 127 → 33 ≤ c → c ≠ 37 → atI (sl charsS) (if (c : Int) < 37 then (c : Int) - 32 else (c : Int) - 33) = some c := by decide +kernel
theorem chars_len : charsS.length ≤ sizeLine := by decide +kernel
def sp_char : Sp := mkSp (α := Nat) (fun a => [.int a]) (fun a _ => 33 ≤ a ∧ a < 127 ∧ a ≠ 37) (fun a H v H' => H' = H ∧ v = .str ⟨#[a]⟩)
section
variable {P : Program} {w : World} {K : PySem.W.Frag} {mg : Str → Option Value} {base : Heap}
variable {i : Nat} {σ : L2.St} {H : Hp} {D : Ends} {Q : VK} {te ta tb : TE} {t1 t2 : TS} {r : R2} {tt : TT}
theorem ok_law_char (T : Txt w K mg) : Kept P w K mg base 1 (He.ga K "_law_char") ps_law_char sp_char := by
  obtain ⟨fd, F⟩ := fd_law_char T
  refine ⟨fd, F.ok sc_law_char (fun vs H Q E ⟨a, e, _⟩ => by rw [e] <;> rfl) (fun cdv A outer s H vs Q E hr h => ?_), F.kp, bd_law_char F⟩
  obtain ⟨c, rfl, ⟨c1, c2, c3⟩, k⟩ := h
  replace c1 : 33 ≤ c := c1
  replace c2 : c < 127 := c2
  replace c3 : c ≠ 37 := c3
  replace k : ∀ v H', H' = H ∧ v = .str ⟨#[c]⟩ → Q v H' := k
  refine ⟨_, PSs.nox (pss_cons (ps_set (i := 1) sc_law_char.nd rfl (Or.inl rfl) pe_str)
    (pss_cons (ps_set (i := 1) sc_law_char.nd rfl (Or.inl rfl) (pe_op op_add_str (pv 1) pe_str))
    (pss_cons (ps_if (pt_cmpR op_lt (pv 0) pe_int (nomark _)) (pss_one (ps_ret (pe_ix ix_str (pv 1) (pe_op op_sub (pv 0) pe_int) (fun _ _ => rfl)))) pss_nil)
    (pss_one (ps_ret (pe_ix ix_str (pv 1) (pe_op op_sub (pv 0) pe_int) (fun _ _ => rfl))))))), ?_⟩
  refine seqR (setR (cR ?_))
  refine nxR (seqR (setR (opR (varR (i := 1) rfl (cR ⟨_, _, rfl, rfl, (by decide +kernel), ?_⟩)))))
  have e := chars_at c c2 c1 c3
  refine nxR (seqR (if_lt (i := 0) rfl (fun q => ?_) (fun q => ?_)))
  · rw [if_pos q] at e
    exact retR ⟨_, rfl, opR (varR (i := 0) rfl (cR ⟨_, _, rfl, rfl, charsS, _, _, rfl, rfl, chars_len, e, k _ _ ⟨rfl, rfl⟩⟩))⟩
  · rw [if_neg q] at e
    exact nxR (retR ⟨_, rfl, opR (varR (i := 0) rfl (cR ⟨_, _, rfl, rfl, charsS, _, _, rfl, rfl, chars_len, e, k _ _ ⟨rfl, rfl⟩⟩))⟩)
theorem rif_strY {x z : Str} (hs : σ[i]? = some (some (.str x))) (e : x = z) (h : t1 D σ H) : tIfS (tTest (tOp rEq (tVar i) (tC (.str z)))) t1 t2 D σ H := by
  refine ifR (testR (opR (varR hs (cR ⟨rfl, _, rfl, ?_⟩))))
  rw [e]
  exact iteY (decide_eq_true rfl) h
theorem rif_strN {x z : Str} (hs : σ[i]? = some (some (.str x))) (e : x ≠ z) (h : t2 D σ H) : tIfS (tTest (tOp rEq (tVar i) (tC (.str z)))) t1 t2 D σ H := by
  refine ifR (testR (opR (varR hs (cR ⟨rfl, _, rfl, ?_⟩))))
  exact iteX (decide_eq_false fun q => e (V.str.inj q)) h
def sp_write (k : Nat) : Sp := mkSp (α := Addr × List V × Its) (fun a => [.ref a.1]) (fun a H => H a.1 = some (.lst a.2.1) ∧ RepL (fun _ => True) H a.2.1 a.2.2 ∧ a.2.2.TopOk ∧ a.2.2.dep ≤ k ∧ (wr false a.2.2).length ≤ 900000)
  (fun a H v H' => H' = H ∧ ∃ z : Str, v = .str z ∧ sl z = wr false a.2.2)
/-- text + s -/
theorem catR {x y : Str} (g1 : ∀ Q : VK, Q (.str x) H → ta σ H Q) (g2 : ∀ Q : VK, Q (.str y) H → tb σ H Q) (hl : x.length + y.length ≤ sizeLine) (h : Q (.str (x ++ y)) H) : tOp (fun x y H Q => ∃ i j, x = .str i ∧ y = .str j ∧ i.length + j.length ≤ sizeLine ∧ Q (.str (i ++ j)) H) ta tb σ H Q :=
  opR (g1 _ (g2 _ ⟨x, y, rfl, rfl, hl, h⟩))
/-- char(item[j]) -/
theorem charR {p : Addr} {xs : List V} {j : Nat} {c : Nat} (hs : σ[i]? = some (some (.ref p))) (hp : H p = some (.tup xs)) (hx : xs[j]? = some (.int c)) (hc : 33 ≤ c ∧ c < 127 ∧ c ≠ 37) (h : Q (.str ⟨#[c]⟩) H) {z : Int} (ez : z = (j : Int) := by rfl) : tCall sp_char [] E0 (tCons (tOp (rIxT K) (tVar i) (tC (.int z))) tNil) σ H Q := by
  subst ez
  exact consR (opR (varR hs (cR ⟨p, xs, j, _, rfl, rfl, SqT.of hp, atI_nat hx, c, rfl, hc, fun v H' ⟨e1, e2⟩ => by rw [e1, e2]; exact h⟩)))
/-- write(item[j]) -/
theorem wriR {k : Nat} {p l : Addr} {xs ys : List V} {j : Nat} {a : Its} (hs : σ[i]? = some (some (.ref p))) (hp : H p = some (.tup xs)) (hx : xs[j]? = some (.ref l)) (hl : H l = some (.lst ys)) (R : RepL (fun _ => True) H ys a) (ok : a.TopOk) (dp : a.dep ≤ k) (ln : (wr false a).length ≤ 900000)
    (h : ∀ z : Str, sl z = wr false a → Q (.str z) H) {z : Int} (ez : z = (j : Int) := by rfl) : tCall (sp_write k) [] E0 (tCons (tOp (rIxT K) (tVar i) (tC (.int z))) tNil) σ H Q := by
  subst ez
  exact consR (opR (varR hs (cR ⟨p, xs, j, _, rfl, rfl, SqT.of hp, atI_nat hx, (l, ys, a), rfl, ⟨hl, R, ok, dp, ln⟩, fun v H' ⟨e1, z, e2, e3⟩ => by rw [e1, e2]; exact h z e3⟩)))
theorem okc_char {c : Nat} (h : OkC c) : 33 ≤ c ∧ c < 127 ∧ c ≠ 37 := by unfold OkC at h; omega
/-- where the text stands -/
structure WAt (H : Hp) (xs : List V) (t : Its) (k i : Nat) (tx la : Str) : Prop where
  ex : ∃ (b : Bool) (r : Its), RepL (fun _ => True) H (xs.drop i) r ∧ r.TopOk ∧ r.dep ≤ k ∧ sl tx ++ wr b r = wr false t ∧ (b = true ↔ la = ("num" : Str))
theorem lnR {x y : Str} (h : (sl x).length + (sl y).length ≤ 2000000) : x.length + y.length ≤ sizeLine := by
  rw [sl_len, sl_len]
  exact line_le (by omega)
theorem sl_em : sl ("" : Str) = [] := by decide +kernel
theorem sl_sp : sl (" " : Str) = [32] := by decide +kernel
theorem sl_eq : sl ("=" : Str) = [61] := by decide +kernel
theorem sl_ob : sl ("[" : Str) = [91] := by decide +kernel
theorem sl_cb : sl ("]" : Str) = [93] := by decide +kernel
theorem sl_br : sl ("|" : Str) = [124] := by decide +kernel
theorem sl_oc : sl ("{" : Str) = [123] := by decide +kernel
theorem sl_cc : sl ("}" : Str) = [125] := by decide +kernel
theorem sl_co : sl (":" : Str) = [58] := by decide +kernel
theorem sl_se : sl (";" : Str) = [59] := by decide +kernel
theorem sl_on (c : Nat) : sl (⟨#[c]⟩ : Str) = [c] := rfl
theorem log_ok {n : Nat} (h : n ≤ 999999) : ((n : Int).natAbs).log2 < 1920 := by
  rw [Int.natAbs_natCast]
  by_cases e : n = 0
  · rw [e]; decide
  · have z : n.log2 < 20 := (Nat.log2_lt e).mpr (by omega)
    omega
theorem write_step (T : Txt w K mg) {k n : Nat} {sp' : Sp} (GR : Kept P w K mg base n (He.ga K "_law_write") ps_law_write sp') (hn : 1 ≤ n) (hsp : ∀ k', k = k' + 1 → sp' = sp_write k') : Kept P w K mg base (n + 1) (He.ga K "_law_write") ps_law_write (sp_write k) := by
  obtain ⟨fd, F⟩ := fd_law_write T
  refine ⟨fd, F.ok sc_law_write (fun vs H Q E ⟨a, e, _⟩ => by rw [e] <;> rfl) (fun cdv A outer s H vs Q E hr h => ?_), F.kp, bd_law_write F⟩
  obtain ⟨⟨a, xs, t⟩, rfl, ⟨h, R0, ok0, dp0, ln0⟩, kk⟩ := h
  replace h : H a = some (.lst xs) := h
  replace R0 : RepL (fun _ => True) H xs t := R0
  replace ok0 : t.TopOk := ok0
  replace dp0 : t.dep ≤ k := dp0
  replace ln0 : (wr false t).length ≤ 900000 := ln0
  replace kk : ∀ v H', (H' = H ∧ ∃ z : Str, v = .str z ∧ sl z = wr false t) → Q v H' := kk
  refine ⟨_, PSs.nox (pss_cons (ps_set (i := 1) sc_law_write.nd rfl (Or.inl rfl) pe_str)
    (pss_cons (ps_set (i := 2) sc_law_write.nd rfl (Or.inl rfl) pe_str)
    (pss_cons (ps_for PassesOwn.never rfl (pi_list (pv 0)) (pg_name (i := 3) sc_law_write.nd rfl (Or.inl rfl)) (pss_cons (ps_set (i := 4) sc_law_write.nd rfl (Or.inl rfl) (pe_ix ix_tup (pv 3) pe_int (fun _ _ => rfl)))
    (pss_cons (ps_if (pt_cmpR op_eq (pv 4) pe_str (nomark _)) (pss_cons (ps_if (pt_cmpR op_eq (pv 2) pe_str (nomark _)) (pss_one (ps_set (i := 1) sc_law_write.nd rfl (Or.inl rfl) (pe_op op_add_str (pv 1) pe_str))) pss_nil)
    (pss_one (ps_set (i := 1) sc_law_write.nd rfl (Or.inl rfl) (pe_op op_add_str (pv 1) (pe_callTy call_str_int rfl (f_str T) (by decide +kernel) (pa_cons (pe_ix ix_tup (pv 3) pe_int (fun _ _ => rfl)) pa_nil)))))) (pss_one (ps_if (pt_cmpR op_eq (pv 4) pe_str (nomark _)) (pss_one (ps_set (i := 1) sc_law_write.nd rfl (Or.inl rfl) (pe_op op_add_str (pv 1) (pe_fn (ok_law_char T) (hr.mono (by omega)) rfl (g_law_char T) (pa_cons (pe_ix ix_tup (pv 3) pe_int (fun _ _ => rfl)) pa_nil))))) (pss_one (ps_if (pt_cmpR op_eq (pv 4) pe_str (nomark _)) (pss_one (ps_set (i := 1) sc_law_write.nd rfl (Or.inl rfl) (pe_op op_add_str (pe_op op_add_str (pv 1) pe_str) (pe_fn (ok_law_char T) (hr.mono (by omega)) rfl (g_law_char T) (pa_cons (pe_ix ix_tup (pv 3) pe_int (fun _ _ => rfl)) pa_nil))))) (pss_one (ps_if (pt_cmpR op_eq (pv 4) pe_str (nomark _)) (pss_one (ps_set (i := 1) sc_law_write.nd rfl (Or.inl rfl) (pe_op op_add_str (pe_op op_add_str (pe_op op_add_str (pv 1) pe_str) (pe_fn GR (hr.mono (by omega)) rfl (g_law_write T) (pa_cons (pe_ix ix_tup (pv 3) pe_int (fun _ _ => rfl)) pa_nil))) pe_str))) (pss_one (ps_if (pt_cmpR op_eq (pv 4) pe_str (nomark _)) (pss_one (ps_set (i := 1) sc_law_write.nd rfl (Or.inl rfl) (pe_op op_add_str (pe_op op_add_str (pe_op op_add_str (pe_op op_add_str (pe_op op_add_str (pv 1) pe_str) (pe_fn GR (hr.mono (by omega)) rfl (g_law_write T) (pa_cons (pe_ix ix_tup (pv 3) pe_int (fun _ _ => rfl)) pa_nil))) pe_str) (pe_fn GR (hr.mono (by omega)) rfl (g_law_write T) (pa_cons (pe_ix ix_tup (pv 3) pe_int (fun _ _ => rfl)) pa_nil))) pe_str))) (pss_one (ps_if (pt_cmpR op_eq (pv 4) pe_str (nomark _)) (pss_one (ps_set (i := 1) sc_law_write.nd rfl (Or.inl rfl) (pe_op op_add_str (pe_op op_add_str (pe_op op_add_str (pv 1) pe_str) (pe_fn GR (hr.mono (by omega)) rfl (g_law_write T) (pa_cons (pe_ix ix_tup (pv 3) pe_int (fun _ _ => rfl)) pa_nil))) pe_str))) (pss_one (ps_set (i := 1) sc_law_write.nd rfl (Or.inl rfl) (pe_op op_add_str (pe_op op_add_str (pe_op op_add_str (pe_op op_add_str (pv 1) pe_str) (pe_fn (ok_law_char T) (hr.mono (by omega)) rfl (g_law_char T) (pa_cons (pe_ix ix_tup (pv 3) pe_int (fun _ _ => rfl)) pa_nil))) (pe_fn GR (hr.mono (by omega)) rfl (g_law_write T) (pa_cons (pe_ix ix_tup (pv 3) pe_int (fun _ _ => rfl)) pa_nil))) pe_str))))))))))))))
    (pss_one (ps_set (i := 2) sc_law_write.nd rfl (Or.inl rfl) (pv 4))))))
    (pss_one (ps_ret (pv 1)))))), ?_⟩
  refine seqR (setR (cR ?_))
  refine nxR (seqR (setR (cR ?_)))
  refine nxR (seqR ⟨_, rfl, a, rfl, ⟨_, SqL.of h⟩, ?_⟩)
  refine for_list (xs := xs) (fun i σ H' => (∃ tx la x3 x4, σ = [some (.ref a), some (.str tx), some (.str la), x3, x4] ∧ WAt H xs t k i tx la) ∧ H' = H) ⟨⟨_, _, _, _, rfl, ⟨false, t, by rw [List.drop_zero]; exact R0, ok0, dp0, by rw [sl_em]; rfl, by decide +kernel⟩⟩, rfl⟩ ?_ ?_ ?_
  · rintro i σ H1 _ ⟨_, rfl⟩
    exact SqL.of h
  · rintro i x σ H1 hx ⟨⟨tx, la, x3, x4, rfl, ⟨b, r0, R, ok, dp, e, hb⟩⟩, rfl⟩
    obtain ⟨hi, ei⟩ := List.getElem?_eq_some_iff.mp hx
    rw [List.drop_eq_getElem_cons hi, ei] at R
    have le := congrArg List.length e
    rw [List.length_append] at le
    cases R with
    | @num p n vs r ep Rr =>
      simp only [wr, List.length_append, List.length_cons, List.length_nil] at le
      simp only [wr] at e
      have ds : sl (Str.ofString (toString ((n : Nat) : Int))) = digs n := PySem.W.KIN.signs_num n
      have dl : (digs n).length ≤ 6 := digs_len 5 n (by have := ok.1; omega)
      refine seqR (setR (opR (varR (i := 3) rfl (cR ⟨p, _, 0, _, rfl, rfl, SqT.of ep, atI_nat (j := 0) rfl, ?_⟩))))
      refine nxR (seqR (rif_strY (i := 4) rfl rfl ?_))
      have fin : ∀ (tx' : Str), sl tx' ++ (digs n ++ wr true r) = wr false t → (sl tx').length ≤ 900001 → ∀ (D0 : Ends), (∀ tx'' : Str, sl tx'' ++ wr true r = wr false t → D0.nx [some (.ref a), some (.str tx''), some (.str la), some (.ref p), some (.str ("num" : Str))] H1) →
          tAsg (tOp (fun x y H Q => ∃ i j, x = .str i ∧ y = .str j ∧ i.length + j.length ≤ sizeLine ∧ Q (.str (i ++ j)) H) (tVar 1) (tCB (fun xs H Q => ∃ i : Int, xs = [.int i] ∧ i.natAbs.log2 < 1920 ∧ Q (.str (Str.ofString (toString i))) H) (tCons (tOp (rIxT K) (tVar 3) (tC (.int 1))) tNil))) (gName 1) D0 [some (.ref a), some (.str tx'), some (.str la), some (.ref p), some (.str ("num" : Str))] H1 := fun tx' e' l' D0 q => by
        refine setR (catR (x := tx') (y := Str.ofString (toString ((n : Nat) : Int))) (fun Q q => varR (i := 1) rfl q) (fun Q q => callR (opR (varR (i := 3) rfl (cR ⟨p, _, 1, _, rfl, rfl, SqT.of ep, atI_nat (j := 1) rfl, _, rfl, log_ok ok.1, q⟩)))) (lnR (by rw [ds]; omega)) (q _ ?_))
        rw [sl_app, ds, List.append_assoc]
        exact e'
      have last : ∀ tx'' : Str, sl tx'' ++ wr true r = wr false t → WAt H1 xs t k (i + 1) tx'' ("num" : Str) := fun tx'' e'' => ⟨true, r, Rr, ok.2, dp, e'', by simp⟩
      cases b with
      | true =>
        refine seqR (rif_strY (i := 2) rfl (hb.mp rfl) (setR (catR (x := tx) (fun Q q => varR (i := 1) rfl q) (fun Q q => cR q) (lnR (by rw [sl_sp]; simp only [List.length_cons, List.length_nil]; omega)) ?_)))
        refine nxR (fin _ ?_ ?_ _ fun tx'' e'' => nxR (setR (varR (i := 4) rfl ⟨⟨tx'', _, _, _, rfl, last tx'' e''⟩, rfl⟩)))
        · rw [sl_app, sl_sp, ← e]; simp
        · rw [sl_app, sl_sp, List.length_append]; simp only [List.length_cons, List.length_nil]; omega
      | false =>
        refine seqR (rif_strN (i := 2) rfl (fun z => by have := hb.mpr z; cases this) (nxR ?_))
        refine fin _ ?_ ?_ _ fun tx'' e'' => nxR (setR (varR (i := 4) rfl ⟨⟨tx'', _, _, _, rfl, last tx'' e''⟩, rfl⟩))
        · rw [← e]; simp
        · omega
    | @op p c vs r ep Rr =>
      simp only [wr, List.length_append, List.length_cons, List.length_nil] at le
      simp only [wr] at e
      refine seqR (setR (opR (varR (i := 3) rfl (cR ⟨p, _, 0, _, rfl, rfl, SqT.of ep, atI_nat (j := 0) rfl, ?_⟩))))
      refine nxR (seqR (rif_strN (i := 4) rfl (by decide +kernel) (rif_strY (i := 4) rfl rfl ?_)))
      refine setR (catR (x := tx) (y := ⟨#[c]⟩) (fun Q q => varR (i := 1) rfl q) (fun Q q => charR (i := 3) (j := 1) rfl ep rfl (okc_char ok.1) q) (lnR (by simp only [sl_app, sl_eq, sl_ob, sl_cb, sl_br, sl_oc, sl_cc, sl_co, sl_se, sl_on, List.length_append, List.length_cons, List.length_nil]; omega)) ?_)
      refine nxR (setR (varR (i := 4) rfl ⟨⟨_, _, _, _, rfl, ⟨false, r, Rr, ok.2, dp, ?_, by decide +kernel⟩⟩, rfl⟩))
      rw [← e]
      simp only [sl_app, sl_eq, sl_ob, sl_cb, sl_br, sl_oc, sl_cc, sl_co, sl_se, sl_on]
      simp
    | @put p c vs r ep Rr =>
      simp only [wr, List.length_append, List.length_cons, List.length_nil] at le
      simp only [wr] at e
      refine seqR (setR (opR (varR (i := 3) rfl (cR ⟨p, _, 0, _, rfl, rfl, SqT.of ep, atI_nat (j := 0) rfl, ?_⟩))))
      refine nxR (seqR (rif_strN (i := 4) rfl (by decide +kernel) (rif_strN (i := 4) rfl (by decide +kernel) (rif_strY (i := 4) rfl rfl ?_))))
      refine setR (catR (x := tx ++ "=") (y := ⟨#[c]⟩) (fun Q q => catR (fun Q q => varR (i := 1) rfl q) (fun Q q => cR q) (lnR (by simp only [sl_app, sl_eq, sl_ob, sl_cb, sl_br, sl_oc, sl_cc, sl_co, sl_se, sl_on, List.length_append, List.length_cons, List.length_nil]; omega)) q) (fun Q q => charR (i := 3) (j := 1) rfl ep rfl (by have := ok.1; omega) q) (lnR (by simp only [sl_app, sl_eq, sl_ob, sl_cb, sl_br, sl_oc, sl_cc, sl_co, sl_se, sl_on, List.length_append, List.length_cons, List.length_nil]; omega)) ?_)
      refine nxR (setR (varR (i := 4) rfl ⟨⟨_, _, _, _, rfl, ⟨false, r, Rr, ok.2, dp, ?_, by decide +kernel⟩⟩, rfl⟩))
      rw [← e]
      simp only [sl_app, sl_eq, sl_ob, sl_cb, sl_br, sl_oc, sl_cc, sl_co, sl_se, sl_on]
      simp
    | @wen p l ys vs aa r ep _ el Ra Rr =>
      simp only [wr, List.length_append, List.length_cons, List.length_nil] at le
      simp only [wr] at e
      simp only [Its.dep] at dp
      obtain ⟨k', ek⟩ : ∃ k', k = k' + 1 := ⟨k - 1, by omega⟩
      subst ek
      have esp := hsp k' rfl
      subst esp
      refine seqR (setR (opR (varR (i := 3) rfl (cR ⟨p, _, 0, _, rfl, rfl, SqT.of ep, atI_nat (j := 0) rfl, ?_⟩))))
      refine nxR (seqR (rif_strN (i := 4) rfl (by decide +kernel) (rif_strN (i := 4) rfl (by decide +kernel) (rif_strN (i := 4) rfl (by decide +kernel) (rif_strY (i := 4) rfl rfl ?_)))))
      refine setR (opR (opR (opR (varR (i := 1) rfl (cR ⟨tx, _, rfl, rfl, (lnR (by simp only [sl_app, sl_eq, sl_ob, sl_cb, sl_br, sl_oc, sl_cc, sl_co, sl_se, sl_on, List.length_append, List.length_cons, List.length_nil]; omega)), wriR (i := 3) (j := 1) rfl ep rfl el Ra (ok_top _ ok.1) (by omega) (by omega) fun z ez => ⟨_, z, rfl, rfl, (lnR (by simp only [sl_app, sl_eq, sl_ob, sl_cb, sl_br, sl_oc, sl_cc, sl_co, sl_se, sl_on, ez, List.length_append, List.length_cons, List.length_nil]; omega)), cR ⟨_, _, rfl, rfl, (lnR (by simp only [sl_app, sl_eq, sl_ob, sl_cb, sl_br, sl_oc, sl_cc, sl_co, sl_se, sl_on, ez, List.length_append, List.length_cons, List.length_nil]; omega)), ?_⟩⟩⟩)))))
      refine nxR (setR (varR (i := 4) rfl ⟨⟨_, _, _, _, rfl, ⟨false, r, Rr, ok.2, (by omega), ?_, by decide +kernel⟩⟩, rfl⟩))
      rw [← e]
      simp only [sl_app, sl_eq, sl_ob, sl_cb, sl_br, sl_oc, sl_cc, sl_co, sl_se, sl_on, ez]
      simp
    | @cho p l m ys zs vs aa bb r ep _ el Ra _ em Rb Rr =>
      simp only [wr, List.length_append, List.length_cons, List.length_nil] at le
      simp only [wr] at e
      simp only [Its.dep] at dp
      obtain ⟨k', ek⟩ : ∃ k', k = k' + 1 := ⟨k - 1, by omega⟩
      subst ek
      have esp := hsp k' rfl
      subst esp
      refine seqR (setR (opR (varR (i := 3) rfl (cR ⟨p, _, 0, _, rfl, rfl, SqT.of ep, atI_nat (j := 0) rfl, ?_⟩))))
      refine nxR (seqR (rif_strN (i := 4) rfl (by decide +kernel) (rif_strN (i := 4) rfl (by decide +kernel) (rif_strN (i := 4) rfl (by decide +kernel) (rif_strN (i := 4) rfl (by decide +kernel) (rif_strY (i := 4) rfl rfl ?_))))))
      refine setR (opR (opR (opR (opR (opR (varR (i := 1) rfl (cR ⟨tx, _, rfl, rfl, (lnR (by simp only [sl_app, sl_eq, sl_ob, sl_cb, sl_br, sl_oc, sl_cc, sl_co, sl_se, sl_on, List.length_append, List.length_cons, List.length_nil]; omega)), wriR (i := 3) (j := 1) rfl ep rfl el Ra (ok_top _ ok.1) (by omega) (by omega) fun z ez => ⟨_, z, rfl, rfl, (lnR (by simp only [sl_app, sl_eq, sl_ob, sl_cb, sl_br, sl_oc, sl_cc, sl_co, sl_se, sl_on, ez, List.length_append, List.length_cons, List.length_nil]; omega)), cR ⟨_, _, rfl, rfl, (lnR (by simp only [sl_app, sl_eq, sl_ob, sl_cb, sl_br, sl_oc, sl_cc, sl_co, sl_se, sl_on, ez, List.length_append, List.length_cons, List.length_nil]; omega)), wriR (i := 3) (j := 2) rfl ep rfl em Rb (ok_top _ ok.2.1) (by omega) (by omega) fun y ey => ⟨_, y, rfl, rfl, (lnR (by simp only [sl_app, sl_eq, sl_ob, sl_cb, sl_br, sl_oc, sl_cc, sl_co, sl_se, sl_on, ez, ey, List.length_append, List.length_cons, List.length_nil]; omega)), cR ⟨_, _, rfl, rfl, (lnR (by simp only [sl_app, sl_eq, sl_ob, sl_cb, sl_br, sl_oc, sl_cc, sl_co, sl_se, sl_on, ez, ey, List.length_append, List.length_cons, List.length_nil]; omega)), ?_⟩⟩⟩⟩⟩)))))))
      refine nxR (setR (varR (i := 4) rfl ⟨⟨_, _, _, _, rfl, ⟨false, r, Rr, ok.2.2, (by omega), ?_, by decide +kernel⟩⟩, rfl⟩))
      rw [← e]
      simp only [sl_app, sl_eq, sl_ob, sl_cb, sl_br, sl_oc, sl_cc, sl_co, sl_se, sl_on, ez, ey]
      simp
    | @loo p l ys vs aa r ep _ el Ra Rr =>
      simp only [wr, List.length_append, List.length_cons, List.length_nil] at le
      simp only [wr] at e
      simp only [Its.dep] at dp
      obtain ⟨k', ek⟩ : ∃ k', k = k' + 1 := ⟨k - 1, by omega⟩
      subst ek
      have esp := hsp k' rfl
      subst esp
      refine seqR (setR (opR (varR (i := 3) rfl (cR ⟨p, _, 0, _, rfl, rfl, SqT.of ep, atI_nat (j := 0) rfl, ?_⟩))))
      refine nxR (seqR (rif_strN (i := 4) rfl (by decide +kernel) (rif_strN (i := 4) rfl (by decide +kernel) (rif_strN (i := 4) rfl (by decide +kernel) (rif_strN (i := 4) rfl (by decide +kernel) (rif_strN (i := 4) rfl (by decide +kernel) (rif_strY (i := 4) rfl rfl ?_)))))))
      refine setR (opR (opR (opR (varR (i := 1) rfl (cR ⟨tx, _, rfl, rfl, (lnR (by simp only [sl_app, sl_eq, sl_ob, sl_cb, sl_br, sl_oc, sl_cc, sl_co, sl_se, sl_on, List.length_append, List.length_cons, List.length_nil]; omega)), wriR (i := 3) (j := 1) rfl ep rfl el Ra (ok_top _ ok.1) (by omega) (by omega) fun z ez => ⟨_, z, rfl, rfl, (lnR (by simp only [sl_app, sl_eq, sl_ob, sl_cb, sl_br, sl_oc, sl_cc, sl_co, sl_se, sl_on, ez, List.length_append, List.length_cons, List.length_nil]; omega)), cR ⟨_, _, rfl, rfl, (lnR (by simp only [sl_app, sl_eq, sl_ob, sl_cb, sl_br, sl_oc, sl_cc, sl_co, sl_se, sl_on, ez, List.length_append, List.length_cons, List.length_nil]; omega)), ?_⟩⟩⟩)))))
      refine nxR (setR (varR (i := 4) rfl ⟨⟨_, _, _, _, rfl, ⟨false, r, Rr, ok.2, (by omega), ?_, by decide +kernel⟩⟩, rfl⟩))
      rw [← e]
      simp only [sl_app, sl_eq, sl_ob, sl_cb, sl_br, sl_oc, sl_cc, sl_co, sl_se, sl_on, ez]
      simp
    | @dfn p l f ys vs aa r ep _ el Ra Rr =>
      simp only [wr, List.length_append, List.length_cons, List.length_nil] at le
      simp only [wr] at e
      simp only [Its.dep] at dp
      obtain ⟨k', ek⟩ : ∃ k', k = k' + 1 := ⟨k - 1, by omega⟩
      subst ek
      have esp := hsp k' rfl
      subst esp
      refine seqR (setR (opR (varR (i := 3) rfl (cR ⟨p, _, 0, _, rfl, rfl, SqT.of ep, atI_nat (j := 0) rfl, ?_⟩))))
      refine nxR (seqR (rif_strN (i := 4) rfl (by decide +kernel) (rif_strN (i := 4) rfl (by decide +kernel) (rif_strN (i := 4) rfl (by decide +kernel) (rif_strN (i := 4) rfl (by decide +kernel) (rif_strN (i := 4) rfl (by decide +kernel) (rif_strN (i := 4) rfl (by decide +kernel) ?_)))))))
      refine setR (opR (opR (opR (opR (varR (i := 1) rfl (cR ⟨tx, _, rfl, rfl, (lnR (by simp only [sl_app, sl_eq, sl_ob, sl_cb, sl_br, sl_oc, sl_cc, sl_co, sl_se, sl_on, List.length_append, List.length_cons, List.length_nil]; omega)), charR (i := 3) (j := 1) rfl ep rfl (by have := ok.1; omega) ⟨_, _, rfl, rfl, (lnR (by simp only [sl_app, sl_eq, sl_ob, sl_cb, sl_br, sl_oc, sl_cc, sl_co, sl_se, sl_on, List.length_append, List.length_cons, List.length_nil]; omega)), wriR (i := 3) (j := 2) rfl ep rfl el Ra (ok_top _ ok.2.1) (by omega) (by omega) fun z ez => ⟨_, z, rfl, rfl, (lnR (by simp only [sl_app, sl_eq, sl_ob, sl_cb, sl_br, sl_oc, sl_cc, sl_co, sl_se, sl_on, ez, List.length_append, List.length_cons, List.length_nil]; omega)), cR ⟨_, _, rfl, rfl, (lnR (by simp only [sl_app, sl_eq, sl_ob, sl_cb, sl_br, sl_oc, sl_cc, sl_co, sl_se, sl_on, ez, List.length_append, List.length_cons, List.length_nil]; omega)), ?_⟩⟩⟩⟩))))))
      refine nxR (setR (varR (i := 4) rfl ⟨⟨_, _, _, _, rfl, ⟨false, r, Rr, ok.2.2, (by omega), ?_, by decide +kernel⟩⟩, rfl⟩))
      rw [← e]
      simp only [sl_app, sl_eq, sl_ob, sl_cb, sl_br, sl_oc, sl_cc, sl_co, sl_se, sl_on, ez]
      simp
  · rintro σ H1 ⟨⟨tx, la, x3, x4, rfl, ⟨b, r0, R, ok, dp, e, hb⟩⟩, rfl⟩
    rw [List.drop_length] at R
    cases R
    simp only [wr, List.append_nil] at e
    exact nxR (retR (varR (i := 1) rfl (kk _ _ ⟨rfl, tx, rfl, e⟩)))
theorem write_none (T : Txt w K mg) : Kept P w K mg base 1 (He.ga K "_law_write") ps_law_write (fun _ _ _ _ => False) := by
  obtain ⟨fd, F⟩ := fd_law_write T
  exact ⟨fd, F.ok sc_law_write (fun vs H Q E h => h.elim) (fun cdv A outer s H vs Q E hr h => h.elim), F.kp, bd_law_write F⟩
theorem wr_0 (T : Txt w K mg) : Kept P w K mg base 2 (He.ga K "_law_write") ps_law_write (sp_write 0) := write_step T (write_none T) (by decide) fun k' e => by cases e
theorem wr_1 (T : Txt w K mg) : Kept P w K mg base 3 (He.ga K "_law_write") ps_law_write (sp_write 1) := write_step T (wr_0 T) (by decide) fun k' e => by cases e; rfl
theorem wr_2 (T : Txt w K mg) : Kept P w K mg base 4 (He.ga K "_law_write") ps_law_write (sp_write 2) := write_step T (wr_1 T) (by decide) fun k' e => by cases e; rfl
theorem wr_3 (T : Txt w K mg) : Kept P w K mg base 5 (He.ga K "_law_write") ps_law_write (sp_write 3) := write_step T (wr_2 T) (by decide) fun k' e => by cases e; rfl
theorem ok_law_write (T : Txt w K mg) : Kept P w K mg base 6 (He.ga K "_law_write") ps_law_write (sp_write 4) := write_step T (wr_3 T) (by decide) fun k' e => by cases e; rfl
end
end Pk
namespace Pk
open PySem PySem.Spec PyProof.Rows L2
def sp_law_trap : Sp := mkSp (α := (Addr × List Int) × (Addr × List Int)) (fun a => [.ref a.1.1, .ref a.2.1]) (fun a H => (H a.1.1 = some (.lst (ivs a.1.2)) ∧ a.1.2.length ≤ 12) ∧ H a.2.1 = some (.lst (ivs a.2.2)) ∧ a.2.2.length ≤ 12) (fun a H v H' => ∃ r, v = .ref r ∧ H r = none ∧ H' r = some (.lst (ivs (flat (trapN a.1.2 a.2.2)))) ∧ Fr [] H H')
section
variable {P : Program} {w : World} {K : PySem.W.Frag} {mg : Str → Option Value} {base : Heap}
variable {i : Nat} {σ : L2.St} {H : Hp} {D : Ends} {Q : VK} {te ta tb : TE} {t1 t2 : TS} {r : R2} {tt : TT}
theorem iSub0 {x : Int} (b : IntTE tb σ x) : IntTE (tOp (rI0 fun i j => .int (i - j)) (tC (.int 0)) tb) σ (-x) := fun H Q q => opR (cR (b _ _ ⟨_, _, rfl, rfl, by show Q (.int (0 - x)) H; rw [show (0 : Int) - x = -x by omega]; exact q⟩))
/-- nodes.extend([..]) -/
theorem extLB {t : TA} {D0 : Ends} {da : Addr} {ns ms : List Nd} (hs : σ[i]? = some (some (.ref da))) (h : NodesAt H da ns) (hb : NB t σ ms) (hm : ms.length ≤ 1000) (hl : ns.length + ms.length ≤ 10000) (k : ∀ H', NodesAt H' da (ns ++ ms) → Fr [da] H H' → D0.nx σ H') : tDrop (tBM K "list" rExtend (tVar i) (tCons (tLst t) tNil)) D0 σ H := by
  obtain ⟨ps, h1, h2⟩ := id h
  refine bmR (varR hs ⟨.inl ⟨rfl, _, SqL.of h1⟩, lstNB hb hm fun r H1 n1 n2 F1 => ?_⟩)
  obtain ⟨xs, ys, e1, e2, e3, e4, e5⟩ := (h.keep F1).ext n2
  exact ⟨da, r, xs, ys, rfl, rfl, e1, e2, by rw [e3, e4]; exact line_le (by omega), k _ e5 ((F1.nil (S := [da])).wr (List.mem_singleton.mpr rfl))⟩
theorem ok_law_trap (T : Txt w K mg) : Kept P w K mg base 1 (He.ga K "_law_trap") ps_law_trap sp_law_trap := by
  obtain ⟨fd, F⟩ := fd_law_trap T
  refine ⟨fd, F.ok sc_law_trap (fun vs H Q E ⟨a, e, _⟩ => by rw [e] <;> rfl) (fun cdv A outer s H vs Q E hr h => ?_), F.kp, bd_law_trap F⟩
  obtain ⟨⟨⟨la, ls⟩, ⟨xa, xs⟩⟩, rfl, ⟨⟨hl, l1⟩, hx, x1⟩, k⟩ := h
  replace hl : H la = some (.lst (ivs ls)) := hl
  replace hx : H xa = some (.lst (ivs xs)) := hx
  replace l1 : ls.length ≤ 12 := l1
  replace x1 : xs.length ≤ 12 := x1
  replace k : ∀ v H', (∃ r, v = .ref r ∧ H r = none ∧ H' r = some (.lst (ivs (flat (trapN ls xs)))) ∧ Fr [] H H') → Q v H' := k
  refine ⟨_, PSs.nox (pss_cons (ps_set (i := 2) sc_law_trap.nd rfl (Or.inl rfl) pe_int)
    (pss_cons (ps_set (i := 3) sc_law_trap.nd rfl (Or.inl rfl) (pe_lst (pa_cons (pe_tup (pa_cons pe_int (pa_cons pe_int (pa_cons pe_int (pa_cons (pv 2) pa_nil))))) (pa_cons (pe_tup (pa_cons (pv 2) (pa_cons pe_int (pa_cons pe_int (pa_cons (pe_op op_add (pv 2) pe_int) pa_nil))))) (pa_cons (pe_tup (pa_cons (pe_op op_add (pv 2) pe_int) (pa_cons pe_int (pa_cons pe_int (pa_cons (pe_op op_add (pv 2) pe_int) pa_nil))))) (pa_cons (pe_tup (pa_cons (pe_op op_add (pv 2) pe_int) (pa_cons pe_int (pa_cons pe_int (pa_cons (pe_op op_add (pv 2) pe_int) pa_nil))))) pa_nil))))))
    (pss_cons (ps_set (i := 4) sc_law_trap.nd rfl (Or.inl rfl) (pe_op op_add (pv 2) pe_int))
    (pss_cons (ps_set (i := 5) sc_law_trap.nd rfl (Or.inl rfl) (pe_op op_add (pe_op op_add (pv 4) (pe_op op_mul pe_int (pe_callB call_len_seq rfl (f_len T) PySem.boot_len (pa_cons (pv 0) pa_nil)))) (pe_op op_mul pe_int (pe_callB call_len_seq rfl (f_len T) PySem.boot_len (pa_cons (pv 1) pa_nil)))))
    (pss_cons (ps_set (i := 6) sc_law_trap.nd rfl (Or.inl rfl) (pe_op op_add (pv 5) pe_int))
    (pss_cons (ps_for PassesOwn.never rfl (pi_list (pv 0)) (pg_name (i := 7) sc_law_trap.nd rfl (Or.inl rfl)) (pss_cons (ps_expr (pe_bm PySem.F.plainAttrs_list PySem.F.slot_list_extend PySem.F.type_list_extend mt_extend (pv 3) (pa_cons (pe_lst (pa_cons (pe_tup (pa_cons (pv 4) (pa_cons pe_int (pa_cons pe_int (pa_cons (pe_op op_add (pv 4) pe_int) pa_nil))))) (pa_cons (pe_tup (pa_cons (pe_op op_add (pv 4) pe_int) (pa_cons pe_int (pa_cons (pv 7) (pa_cons (pe_op op_add (pv 4) pe_int) pa_nil))))) (pa_cons (pe_tup (pa_cons (pe_op op_add (pv 4) pe_int) (pa_cons pe_int (pa_cons pe_int (pa_cons (pe_op op_add (pv 4) pe_int) pa_nil))))) (pa_cons (pe_tup (pa_cons (pe_op op_add (pv 4) pe_int) (pa_cons pe_int (pa_cons (pv 6) (pa_cons (pe_op op_add (pv 4) pe_int) pa_nil))))) pa_nil))))) pa_nil)))
    (pss_one (ps_set (i := 4) sc_law_trap.nd rfl (Or.inl rfl) (pe_op op_add (pv 4) pe_int)))))
    (pss_cons (ps_for PassesOwn.never rfl (pi_list (pv 1)) (pg_name (i := 8) sc_law_trap.nd rfl (Or.inl rfl)) (pss_cons (ps_expr (pe_bm PySem.F.plainAttrs_list PySem.F.slot_list_extend PySem.F.type_list_extend mt_extend (pv 3) (pa_cons (pe_lst (pa_cons (pe_tup (pa_cons (pv 4) (pa_cons pe_int (pa_cons (pv 8) (pa_cons (pe_op op_add (pv 4) pe_int) pa_nil))))) (pa_cons (pe_tup (pa_cons (pe_op op_add (pv 4) pe_int) (pa_cons pe_int (pa_cons pe_int (pa_cons (pe_op op_add (pv 4) pe_int) pa_nil))))) pa_nil))) pa_nil)))
    (pss_one (ps_set (i := 4) sc_law_trap.nd rfl (Or.inl rfl) (pe_op op_add (pv 4) pe_int)))))
    (pss_cons (ps_set (i := 9) sc_law_trap.nd rfl (Or.inl rfl) (pe_op op_mul pe_int (pe_op op_add (pe_callB call_len_seq rfl (f_len T) PySem.boot_len (pa_cons (pv 3) pa_nil)) pe_int)))
    (pss_cons (ps_expr (pe_bm PySem.F.plainAttrs_list PySem.F.slot_list_extend PySem.F.type_list_extend mt_extend (pv 3) (pa_cons (pe_lst (pa_cons (pe_tup (pa_cons (pv 5) (pa_cons pe_int (pa_cons (pe_op op_sub pe_int (pv 9)) (pa_cons (pe_op op_add (pv 5) pe_int) pa_nil))))) (pa_cons (pe_tup (pa_cons (pe_op op_add (pv 5) pe_int) (pa_cons pe_int (pa_cons pe_int (pa_cons (pe_op op_add (pv 5) pe_int) pa_nil))))) (pa_cons (pe_tup (pa_cons (pe_op op_add (pv 5) pe_int) (pa_cons pe_int (pa_cons pe_int (pa_cons (pe_op op_add (pv 5) pe_int) pa_nil))))) (pa_cons (pe_tup (pa_cons (pe_op op_add (pv 5) pe_int) (pa_cons pe_int (pa_cons pe_int (pa_cons (pe_op op_add (pv 5) pe_int) pa_nil))))) pa_nil))))) pa_nil)))
    (pss_cons (ps_expr (pe_bm PySem.F.plainAttrs_list PySem.F.slot_list_extend PySem.F.type_list_extend mt_extend (pv 3) (pa_cons (pe_lst (pa_cons (pe_tup (pa_cons (pe_op op_add (pv 5) pe_int) (pa_cons pe_int (pa_cons pe_int (pa_cons (pe_op op_add (pv 5) pe_int) pa_nil))))) (pa_cons (pe_tup (pa_cons (pe_op op_add (pv 5) pe_int) (pa_cons pe_int (pa_cons pe_int (pa_cons (pe_op op_add (pv 5) pe_int) pa_nil))))) (pa_cons (pe_tup (pa_cons (pe_op op_add (pv 5) pe_int) (pa_cons pe_int (pa_cons pe_int (pa_cons (pe_op op_add (pv 5) pe_int) pa_nil))))) (pa_cons (pe_tup (pa_cons (pe_op op_add (pv 5) pe_int) (pa_cons pe_int (pa_cons (pe_op op_add (pv 5) pe_int) (pa_cons (pe_op op_add (pv 5) pe_int) pa_nil))))) pa_nil))))) pa_nil)))
    (pss_cons (ps_expr (pe_bm PySem.F.plainAttrs_list PySem.F.slot_list_extend PySem.F.type_list_extend mt_extend (pv 3) (pa_cons (pe_lst (pa_cons (pe_tup (pa_cons (pe_op op_add (pv 5) pe_int) (pa_cons pe_int (pa_cons pe_int (pa_cons (pv 6) pa_nil))))) (pa_cons (pe_tup (pa_cons (pv 6) (pa_cons pe_int (pa_cons pe_int (pa_cons (pe_op op_add (pv 6) pe_int) pa_nil))))) pa_nil))) pa_nil)))
    (pss_cons (ps_set (i := 10) sc_law_trap.nd rfl (Or.inl rfl) (pe_lst pa_nil))
    (pss_cons (ps_for PassesOwn.never rfl (pi_list (pv 3)) (pg_name (i := 11) sc_law_trap.nd rfl (Or.inl rfl)) (pss_one (ps_expr (pe_bm PySem.F.plainAttrs_list PySem.F.slot_list_extend PySem.F.type_list_extend mt_extend (pv 10) (pa_cons (pe_lst (pa_cons (pe_ix ix_tup (pv 11) pe_int (fun _ _ => rfl)) (pa_cons (pe_ix ix_tup (pv 11) pe_int (fun _ _ => rfl)) (pa_cons (pe_ix ix_tup (pv 11) pe_int (fun _ _ => rfl)) (pa_cons (pe_ix ix_tup (pv 11) pe_int (fun _ _ => rfl)) pa_nil))))) pa_nil)))))
    (pss_one (ps_ret (pv 10)))))))))))))))), ?_⟩
  refine seqR (setR (cR ?_))
  refine nxR (seqR (setR (lstNB (ns := begN) (nbC iC iC iC (iV (i := 2) rfl) (nbC (iV (i := 2) rfl) iC iC (iAdd (iV (i := 2) rfl) iC) (nbC (iAdd (iV (i := 2) rfl) iC) iC iC (iAdd (iV (i := 2) rfl) iC) (nbC (iAdd (iV (i := 2) rfl) iC) iC iC (iAdd (iV (i := 2) rfl) iC) nbN)))) (by decide) fun da H1 nda hd1 F1 => ?_)))
  refine nxR (seqR (setR (opR (varR (i := 2) rfl (cR ⟨_, _, rfl, rfl, ?_⟩)))))
  refine nxR (seqR (setR (opR (opR (varR (i := 4) rfl (opR (cR (callR (varR (i := 0) rfl ⟨la, _, rfl, .inl (SqL.of (F1 _ _ hl (by simp))), _, _, rfl, rfl, .inl ⟨by decide, by decide⟩, _, _, rfl, rfl, ?_⟩)))))))))
  refine opR (cR (callR (varR (i := 1) rfl ⟨xa, _, rfl, .inl (SqL.of (F1 _ _ hx (by simp))), _, _, rfl, rfl, .inl ⟨by decide, by decide⟩, _, _, rfl, rfl, ?_⟩)))
  rw [ivs_len, ivs_len]
  refine nxR (seqR (setR (opR (varR (i := 5) rfl (cR ⟨_, _, rfl, rfl, ?_⟩)))))
  have FD : ∀ {H' H'' : Hp}, Fr [] H H' → Fr [da] H' H'' → Fr [] H H'' := fun a b x o e n => b x o (a x o e n) (by
    intro z
    rw [List.mem_singleton] at z
    exact ne_of_none e nda z)
  refine nxR (seqR ⟨_, rfl, la, rfl, ⟨_, SqL.of (F1 _ _ hl (by simp))⟩, ?_⟩)
  refine for_list (xs := ivs ls) (fun i σ H' => (∃ z x7 x8 x9 x10 x11, z = bB + 3 + 4 * (i : Int) ∧ σ = [some (.ref la), some (.ref xa), some (.int bB), some (.ref da), some (.int z), some (.int (rAt ls xs)), some (.int (rAt ls xs + 9)), x7, x8, x9, x10, x11]) ∧ NodesAt H' da (begN ++ cmpsN (bB + 3) (ls.take i) (rAt ls xs + 9)) ∧ Fr [] H H') ⟨⟨_, _, _, _, _, _, (by show bB + 3 = _; omega), rfl⟩, by rw [List.take_zero]; exact hd1, F1⟩ ?_ ?_ ?_
  · rintro i σ H2 _ ⟨_, _, F2⟩
    exact SqL.of (F2 _ _ hl (by simp))
  · rintro i x σ H2 hxi ⟨⟨z, x7, x8, x9, x10, x11, ez, rfl⟩, h2, F2⟩
    rw [List.getElem?_map] at hxi
    obtain ⟨c, ec, rfl⟩ := Option.map_eq_some_iff.mp hxi
    obtain ⟨hi, ei⟩ := List.getElem?_eq_some_iff.mp ec
    have ln : (begN ++ cmpsN (bB + 3) (ls.take i) (rAt ls xs + 9)).length + 4 ≤ 10000 := by
      rw [List.length_append, cmps_len, List.length_take]; show 4 + _ + 4 ≤ _; omega
    refine seqR (extLB (i := 3) (ms := cmpN z c (rAt ls xs + 9)) rfl h2 (nbC (iV (i := 4) rfl) iC iC (iAdd (iV (i := 4) rfl) iC) (nbC (iAdd (iV (i := 4) rfl) iC) iC (iV (i := 7) rfl) (iAdd (iV (i := 4) rfl) iC) (nbC (iAdd (iV (i := 4) rfl) iC) iC iC (iAdd (iV (i := 4) rfl) iC) (nbC (iAdd (iV (i := 4) rfl) iC) iC (iV (i := 6) rfl) (iAdd (iV (i := 4) rfl) iC) nbN)))) (by show 4 ≤ 1000; decide) ln fun H3 h3 F3 => ?_)
    refine nxR (setR (opR (varR (i := 4) rfl (cR ⟨_, _, rfl, rfl, ⟨_, _, _, _, _, _, ?_, rfl⟩, ?_, FD F2 F3⟩))))
    · show z + 4 = _
      omega
    · rw [List.take_succ_eq_append_getElem hi, ei, cmps_snoc, ← List.append_assoc, List.length_take, Nat.min_eq_left (by omega), ← ez]
      exact h3
  rintro σ H2 ⟨⟨z, x7, x8, x9, x10, x11, ez, rfl⟩, h2, F2⟩
  rw [ivs_len, List.take_length] at h2
  rw [ivs_len] at ez
  refine nxR (seqR ⟨_, rfl, xa, rfl, ⟨_, SqL.of (F2 _ _ hx (by simp))⟩, ?_⟩)
  refine for_list (xs := ivs xs) (fun i σ H' => (∃ z x7 x8 x9 x10 x11, z = bB + 3 + 4 * (ls.length : Int) + 2 * (i : Int) ∧ σ = [some (.ref la), some (.ref xa), some (.int bB), some (.ref da), some (.int z), some (.int (rAt ls xs)), some (.int (rAt ls xs + 9)), x7, x8, x9, x10, x11]) ∧ NodesAt H' da (begN ++ cmpsN (bB + 3) ls (rAt ls xs + 9) ++ wrisN (bB + 3 + 4 * ls.length) (xs.take i)) ∧ Fr [] H H') ⟨⟨_, _, _, _, _, _, (by omega), rfl⟩, by rw [List.take_zero]; show NodesAt H2 da (_ ++ []); rw [List.append_nil]; exact h2, F2⟩ ?_ ?_ ?_
  · rintro i σ H2 _ ⟨_, _, F2⟩
    exact SqL.of (F2 _ _ hx (by simp))
  · rintro i x σ H2 hxi ⟨⟨z, x7, x8, x9, x10, x11, ez, rfl⟩, h2, F2⟩
    rw [List.getElem?_map] at hxi
    obtain ⟨c, ec, rfl⟩ := Option.map_eq_some_iff.mp hxi
    obtain ⟨hi, ei⟩ := List.getElem?_eq_some_iff.mp ec
    have ln : (begN ++ cmpsN (bB + 3) ls (rAt ls xs + 9) ++ wrisN (bB + 3 + 4 * ls.length) (xs.take i)).length + 2 ≤ 10000 := by
      rw [List.length_append, List.length_append, cmps_len, wris_len, List.length_take]; show 4 + _ + _ + 2 ≤ _; omega
    refine seqR (extLB (i := 3) (ms := wriN z c) rfl h2 (nbC (iV (i := 4) rfl) iC (iV (i := 8) rfl) (iAdd (iV (i := 4) rfl) iC) (nbC (iAdd (iV (i := 4) rfl) iC) iC iC (iAdd (iV (i := 4) rfl) iC) nbN)) (by show 2 ≤ 1000; decide) ln fun H3 h3 F3 => ?_)
    refine nxR (setR (opR (varR (i := 4) rfl (cR ⟨_, _, rfl, rfl, ⟨_, _, _, _, _, _, ?_, rfl⟩, ?_, FD F2 F3⟩))))
    · show z + 2 = _
      omega
    · rw [List.take_succ_eq_append_getElem hi, ei, wris_snoc, ← List.append_assoc, List.length_take, Nat.min_eq_left (by omega), ← ez]
      exact h3
  rintro σ H3 ⟨⟨z, y7, y8, y9, y10, y11, ez, rfl⟩, h3, F3⟩
  rw [ivs_len, List.take_length] at h3
  have ln : (begN ++ cmpsN (bB + 3) ls (rAt ls xs + 9) ++ wrisN (bB + 3 + 4 * ls.length) xs).length = 4 + 4 * ls.length + 2 * xs.length := by
    rw [List.length_append, List.length_append, cmps_len, wris_len]; rfl
  obtain ⟨ps, hp1, hp2⟩ := id h3
  refine nxR (seqR (setR (opR (cR (opR (callR (varR (i := 3) rfl ⟨da, _, rfl, .inl (SqL.of hp1), cR ⟨_, _, rfl, rfl, _, _, rfl, rfl, .inl ⟨by decide, by decide⟩, ?_⟩⟩)))))))
  have ec : (4 : Int) * (((ps.map V.ref).length : Nat) + 10) = cellsN ls xs := by
    rw [List.length_map, hp2.length, ln]
    unfold cellsN
    omega
  dsimp only
  rw [ec]
  generalize eA : begN ++ cmpsN (bB + 3) ls (rAt ls xs + 9) ++ wrisN (bB + 3 + 4 * ls.length) xs = A0 at h3 ln
  generalize er : rAt ls xs = rr
  generalize en : cellsN ls xs = cc
  have tr : trapN ls xs = A0 ++ copN rr cc := by unfold trapN; rw [eA, er, en]
  refine seqR (extLB (i := 3) (ms := [(rr, 35, -cc, rr + 1), (rr + 1, 34, 0, rr + 2), (rr + 2, 38, 0, rr + 3), (rr + 3, 46, 0, rr + 4)]) rfl h3 (nbC (iV (i := 5) rfl) iC (iSub0 (iV (i := 9) rfl)) (iAdd (iV (i := 5) rfl) iC) (nbC (iAdd (iV (i := 5) rfl) iC) iC iC (iAdd (iV (i := 5) rfl) iC) (nbC (iAdd (iV (i := 5) rfl) iC) iC iC (iAdd (iV (i := 5) rfl) iC) (nbC (iAdd (iV (i := 5) rfl) iC) iC iC (iAdd (iV (i := 5) rfl) iC) nbN)))) (by show 4 ≤ 1000; decide) (by show _ + 4 ≤ _; omega) fun H4 h4 F4 => ?_)
  refine nxR (seqR (extLB (i := 3) (ms := [(rr + 4, 35, 1, rr + 5), (rr + 5, 43, 0, rr + 6), (rr + 6, 34, 0, rr + 7), (rr + 7, 63, rr + 8, rr + 1)]) rfl h4 (nbC (iAdd (iV (i := 5) rfl) iC) iC iC (iAdd (iV (i := 5) rfl) iC) (nbC (iAdd (iV (i := 5) rfl) iC) iC iC (iAdd (iV (i := 5) rfl) iC) (nbC (iAdd (iV (i := 5) rfl) iC) iC iC (iAdd (iV (i := 5) rfl) iC) (nbC (iAdd (iV (i := 5) rfl) iC) iC (iAdd (iV (i := 5) rfl) iC) (iAdd (iV (i := 5) rfl) iC) nbN)))) (by show 4 ≤ 1000; decide) (by rw [List.length_append]; show _ + 4 + 4 ≤ _; omega) fun H5 h5 F5 => ?_))
  refine nxR (seqR (extLB (i := 3) (ms := [(rr + 8, 95, 0, rr + 9), (rr + 9, 41, 0, rr + 9 + 1)]) rfl h5 (nbC (iAdd (iV (i := 5) rfl) iC) iC iC (iV (i := 6) rfl) (nbC (iV (i := 6) rfl) iC iC (iAdd (iV (i := 6) rfl) iC) nbN)) (by show 2 ≤ 1000; decide) (by rw [List.length_append, List.length_append]; show _ + 4 + 4 + 2 ≤ _; omega) fun H6 h6 F6 => ?_))
  have e6 : A0 ++ [(rr, 35, -cc, rr + 1), (rr + 1, 34, 0, rr + 2), (rr + 2, 38, 0, rr + 3), (rr + 3, 46, 0, rr + 4)] ++ [(rr + 4, 35, 1, rr + 5), (rr + 5, 43, 0, rr + 6), (rr + 6, 34, 0, rr + 7), (rr + 7, 63, rr + 8, rr + 1)] ++ [(rr + 8, 95, 0, rr + 9), (rr + 9, 41, 0, rr + 9 + 1)] = trapN ls xs := by
    rw [tr, List.append_assoc, List.append_assoc]; rfl
  rw [e6] at h6
  have FF := FD (FD (FD F3 F4) F5) F6
  refine nxR (seqR (setR (lstR ⟨by show 0 ≤ sizeLine; decide, fun D0 hD => ?_⟩)))
  have F7 := FF.new (o := .lst []) hD
  have nD : H D0 = none := FF.back hD (by simp)
  have h7 := h6.keep ((Fr.refl [] H6).new (o := .lst []) hD)
  have lt := trap_len ls xs
  obtain ⟨qs, hq1, hq2⟩ := h7
  refine nxR (seqR ⟨_, rfl, da, rfl, ⟨_, SqL.of hq1⟩, ?_⟩)
  refine for_list (xs := qs.map V.ref) (fun i σ H' => (∃ x4 x7 x8 x11, σ = [some (.ref la), some (.ref xa), some (.int bB), some (.ref da), x4, some (.int rr), some (.int (rr + 9)), x7, x8, some (.int cc), some (.ref D0), x11]) ∧ H' D0 = some (.lst (ivs (flat ((trapN ls xs).take i)))) ∧ Fr [] H H' ∧ H' da = some (.lst (qs.map V.ref)) ∧ Paired (fun p x => H' p = some (.tup (n4 x))) qs (trapN ls xs)) ⟨⟨_, _, _, _, rfl⟩, upd_same, F7, hq1, hq2⟩ ?_ ?_ ?_
  · rintro i σ H1 _ ⟨_, _, _, q, _⟩
    exact SqL.of q
  · rintro i x σ H8 hxi ⟨⟨x4, x7, x8, x11, rfl⟩, h8, F8, g1, g2⟩
    rw [List.getElem?_map] at hxi
    obtain ⟨p, ep, rfl⟩ := Option.map_eq_some_iff.mp hxi
    obtain ⟨nd, en, et1⟩ := paired_get g2 ep
    obtain ⟨hi, ei⟩ := List.getElem?_eq_some_iff.mp en
    have ixR : ∀ (j : Nat) (z : Int) (v : V) (Q' : VK), z = (j : Int) → (n4 nd)[j]? = some v → Q' v H8 → tOp (rIxT K) (tVar 11) (tC (.int z)) [some (.ref la), some (.ref xa), some (.int bB), some (.ref da), x4, some (.int rr), some (.int (rr + 9)), x7, x8, some (.int cc), some (.ref D0), some (.ref p)] H8 Q' := fun j z v Q' ez ev q => by
      subst ez
      exact opR (varR (i := 11) rfl (cR ⟨p, _, _, v, rfl, rfl, SqT.of et1, atI_nat ev, q⟩))
    refine bmR (varR (i := 10) rfl ⟨.inl ⟨rfl, _, SqL.of h8⟩, lstR (consR (ixR 0 _ _ _ rfl rfl (consR (ixR 1 _ _ _ rfl rfl (consR (ixR 2 _ _ _ rfl rfl (consR (ixR 3 _ _ _ rfl rfl ⟨(by show 4 ≤ sizeLine; decide), fun q nq => ?_⟩))))))))⟩)
    have F9 : Fr [] H8 (upd H8 q (.lst (n4 nd))) := (Fr.refl _ _).new nq
    have kt : ∀ {b : Addr} {ys : List V} {o : List V}, H8 b = some (.tup ys) → (upd (upd H8 q (.lst (n4 nd))) D0 (.lst o)) b = some (.tup ys) := fun e => by
      rw [upd_ne (ne_of e h8 (by intro z; cases z))]
      exact F9 _ _ e (by simp)
    have nda : da ≠ D0 := ne_of_none h6.choose_spec.1 hD
    refine ⟨D0, q, _, _, rfl, rfl, F9 _ _ h8 (by simp), upd_same, ?_, ?_⟩
    · rw [ivs_len, flat_len, List.length_take]; show _ + 4 ≤ _; exact line_le (by omega)
    · refine ⟨⟨_, _, _, _, rfl⟩, ?_, ?_, ?_, paired_mono g2 fun _ _ e => kt e⟩
      · rw [upd_same, List.take_succ_eq_append_getElem hi, ei, flat_snoc] <;> rfl
      · exact fun b o e n => by
          rw [upd_ne (ne_of_none e nD)]
          exact F9 _ _ (F8 b o e n) n
      · rw [upd_ne nda]
        exact F9 _ _ g1 (by simp)
  · rintro σ H8 ⟨⟨x4, x7, x8, x11, rfl⟩, h8, F8, g1, g2⟩
    rw [List.length_map, hq2.length, List.take_length] at h8
    exact nxR (retR (varR (i := 10) rfl (k _ _ ⟨D0, rfl, nD, h8, F8⟩)))
end
end Pk
namespace Pk
open PySem PySem.Spec PyProof.Rows L2
def sp_extra : Sp := mkSp (α := Addr) (fun a => [.ref a]) (fun a H => DrAt H a) (fun a H v H' => ∃ (r : Addr) (xs : List Int), v = .ref r ∧ H r = none ∧ H' r = some (.lst (ivs xs)) ∧ ExtraOk xs ∧ DrAt H' a ∧ Fr [a] H H')
def sp_isint : Sp := mkSp (α := Int) (fun a => [.int a]) (fun _ _ => True) (fun a H v H' => H' = H ∧ v = .bl true)
def sp_isints : Sp := mkSp (α := Addr × List Int) (fun a => [.ref a.1]) (fun a H => H a.1 = some (.lst (ivs a.2))) (fun a H v H' => H' = H ∧ v = .bl true)
def sp_result : Sp := mkSp (α := (Addr × Addr) × Bool × List Int × Int) (fun a => [.ref a.1.1]) (fun a H => H a.1.1 = some (.tup [.bl a.2.1, .ref a.1.2, .int a.2.2.2]) ∧ H a.1.2 = some (.lst (ivs a.2.2.1))) (fun a H v H' => H' = H ∧ v = .bl true)
section
variable {P : Program} {w : World} {K : PySem.W.Frag} {mg : Str → Option Value} {base : Heap}
variable {i : Nat} {σ : L2.St} {H : Hp} {D : Ends} {Q : VK} {te ta tb : TE} {t1 t2 : TS} {r : R2} {tt : TT} {g : TG}
theorem forRngR {tA : TA} (h : tA σ H fun vs H1 => ∃ j : Int, vs = [.int j] ∧ -(2 ^ 62) ≤ j ∧ j < 2 ^ 62 ∧ tFor (fun σ H R => R (Itr 0 j.toNat) H) g t1 D σ H1) : tFor (iRng1 tA) g t1 D σ H := h
theorem ok_law_extra (T : Txt w K mg) : Kept P w K mg base 2 (He.ga K "_law_extra") ps_law_extra sp_extra := by
  obtain ⟨fd, F⟩ := fd_law_extra T
  refine ⟨fd, F.ok sc_law_extra (fun vs H Q E ⟨a, e, _⟩ => by rw [e] <;> rfl) (fun cdv A outer s H vs Q E hr h => ?_), F.kp, bd_law_extra F⟩
  obtain ⟨da, rfl, h, kk⟩ := h
  replace h : DrAt H da := h
  replace kk : ∀ v H', (∃ (r : Addr) (xs : List Int), v = .ref r ∧ H r = none ∧ H' r = some (.lst (ivs xs)) ∧ ExtraOk xs ∧ DrAt H' da ∧ Fr [da] H H') → Q v H' := kk
  refine ⟨_, PSs.nox (pss_cons (ps_set (i := 1) sc_law_extra.nd rfl (Or.inl rfl) (pe_lst pa_nil))
    (pss_cons (ps_for PassesOwn.never rfl (pi_range1 rfl (f_range T) (pa_cons (pe_op op_mod (pe_callTy call_int1 rfl (f_int T) (by decide +kernel) (pa_cons (pe_fn (ok_law_next T) (hr.mono (by decide)) rfl (g_law_next T) (pa_cons (pv 0) pa_nil)) pa_nil)) pe_int) pa_nil)) (pg_name (i := 2) sc_law_extra.nd rfl (Or.inl rfl)) (pss_cons (ps_set (i := 3) sc_law_extra.nd rfl (Or.inl rfl) (pe_op op_add pe_int (pe_callTy call_int1 rfl (f_int T) (by decide +kernel) (pa_cons (pe_fn (ok_law_next T) (hr.mono (by decide)) rfl (g_law_next T) (pa_cons (pv 0) pa_nil)) pa_nil))))
    (pss_cons (ps_set (i := 4) sc_law_extra.nd rfl (Or.inl rfl) (pe_ix ix_list (pe_lst (pa_cons pe_int (pa_cons pe_int (pa_cons pe_int (pa_cons pe_int (pa_cons pe_int pa_nil)))))) (pe_op op_mod (pe_callTy call_int1 rfl (f_int T) (by decide +kernel) (pa_cons (pe_fn (ok_law_next T) (hr.mono (by decide)) rfl (g_law_next T) (pa_cons (pv 0) pa_nil)) pa_nil)) pe_int) (fun _ _ => rfl)))
    (pss_one (ps_expr (pe_bm PySem.F.plainAttrs_list PySem.F.slot_list_extend PySem.F.type_list_extend mt_extend (pv 1) (pa_cons (pe_lst (pa_cons (pv 3) (pa_cons (pv 4) (pa_cons (pe_op op_sub (pe_op op_mod (pe_callTy call_int1 rfl (f_int T) (by decide +kernel) (pa_cons (pe_fn (ok_law_next T) (hr.mono (by decide)) rfl (g_law_next T) (pa_cons (pv 0) pa_nil)) pa_nil)) pe_int) pe_int) (pa_cons (pe_op op_add (pv 3) pe_int) pa_nil))))) pa_nil)))))))
    (pss_one (ps_ret (pv 1))))), ?_⟩
  refine seqR (setR (lstR ⟨by show 0 ≤ sizeLine; decide, fun D0 hD => ?_⟩))
  have F0 : Fr [da] H (upd H D0 (.lst [])) := (Fr.refl _ _).new hD
  have nD : D0 ≠ da := drNe (H0 := H) h hD
  have nin : D0 ∉ [da] := fun z => nD (List.mem_singleton.mp z)
  refine nxR (seqR (forRngR (consR (nmodR (by decide) (i := 0) rfl (h.keep ((Fr.refl [] _).new hD)) fun x H1 hx d1 F1 => ⟨_, rfl, by omega, by omega, ?_⟩))))
  rw [show ((x : Int) % 4).toNat = x % 4 by omega]
  refine for_range (n := x % 4) (fun j σ H' => (∃ x2 x3 x4, σ = [some (.ref da), some (.ref D0), x2, x3, x4]) ∧ j ≤ 3 ∧ (∃ xs, H' D0 = some (.lst (ivs xs)) ∧ xs.length = 4 * j) ∧ DrAt H' da ∧ Fr [da] H H') ⟨⟨_, _, _, rfl⟩, by omega, ⟨[], F1 _ _ upd_same nin, rfl⟩, d1, F0.trans F1⟩ ?_ ?_
  · rintro j σ H2 hj ⟨⟨x2, x3, x4, rfl⟩, hj3, ⟨xs, h2, hl⟩, d2, F2⟩
    refine seqR (setR (opR (cR (callR (nextR (i := 0) rfl d2 fun y H3 hy d3 F3 => .inl ⟨_, rfl, _, _, rfl, rfl, ?_⟩)))))
    have h3 := F3 _ _ h2 nin
    refine nxR (seqR (setR (opR (lstR (consR (cR (consR (cR (consR (cR (consR (cR (consR (cR ⟨by show 5 ≤ sizeLine; decide, fun p np => ?_⟩)))))))))))))) 
    have d4 := d3.keep ((Fr.refl [] H3).new (o := .lst [.int 35, .int 43, .int 46, .int 32, .int 97]) np)
    have h4 : (upd H3 p (.lst [.int 35, .int 43, .int 46, .int 32, .int 97])) D0 = some (.lst (ivs xs)) := by rw [upd_ne (ne_of_none h3 np)]; exact h3
    have F4 : Fr [da] H3 (upd H3 p (.lst [.int 35, .int 43, .int 46, .int 32, .int 97])) := (Fr.refl _ _).new np
    have p4 : (upd H3 p (.lst [.int 35, .int 43, .int 46, .int 32, .int 97])) p = some (.lst (ivs [35, 43, 46, 32, 97])) := upd_same
    have pda : p ∉ [da] := fun z => drNe (H0 := H3) d3 np (List.mem_singleton.mp z)
    generalize (upd H3 p (.lst [.int 35, .int 43, .int 46, .int 32, .int 97])) = H4 at d4 h4 F4 p4 ⊢
    refine nmodR (by decide) (i := 0) rfl d4 fun z H5 hz d5 F5 => ?_
    have hz5 : z % 5 < ([35, 43, 46, 32, 97] : List Int).length := by show z % 5 < 5; omega
    refine ⟨p, _, ((z % 5 : Nat) : Int), .int (([35, 43, 46, 32, 97] : List Int)[z % 5]'hz5), rfl, rfl, SqL.of (F5 _ _ p4 pda), atI_nat (by rw [List.getElem?_map, List.getElem?_eq_getElem hz5] <;> rfl), ?_⟩
    generalize ([35, 43, 46, 32, 97] : List Int)[z % 5]'hz5 = op
    have h5 := F5 _ _ h4 nin
    refine nxR (bmR (varR (i := 1) rfl ⟨.inl ⟨rfl, _, SqL.of h5⟩, lstR (consR (varR (i := 3) rfl (consR (varR (i := 4) rfl (consR (opR (nmodR (by decide) (i := 0) rfl d5 fun u H6 hu d6 F6 => cR ⟨_, _, rfl, rfl, consR (opR (varR (i := 3) rfl (cR ⟨_, _, rfl, rfl, by show 4 ≤ sizeLine; decide, fun q nq => ?_⟩)))⟩)))))))⟩))
    have h6 := F6 _ _ h5 nin
    have F7 : Fr [da] H6 (upd H6 q (.lst [.int (300 + (y : Int)), .int op, .int ((u : Int) % 90 - 9), .int (300 + (y : Int) + 1)])) := (Fr.refl _ _).new nq
    have ndq : D0 ≠ q := ne_of_none h6 nq
    refine ⟨D0, q, _, _, rfl, rfl, by rw [upd_ne ndq]; exact h6, upd_same, by rw [ivs_len]; show _ + 4 ≤ _; exact line_le (by omega), ?_⟩
    refine ⟨⟨_, _, _, rfl⟩, by omega, ⟨xs ++ [300 + (y : Int), op, (u : Int) % 90 - 9, 300 + (y : Int) + 1], by rw [upd_same, ivs_app] <;> rfl, by rw [List.length_append, hl]; rfl⟩, ?_, ?_⟩
    · obtain ⟨ds, e1, e2⟩ := d6.keep ((Fr.refl [] H6).new (o := .lst [.int (300 + (y : Int)), .int op, .int ((u : Int) % 90 - 9), .int (300 + (y : Int) + 1)]) nq)
      exact ⟨ds, by rw [upd_ne nD.symm]; exact e1, e2⟩
    · have FA := ((((F2.trans F3).trans F4).trans F5).trans F6).trans F7
      exact fun b o e n => by
        rw [upd_ne (ne_of_none e hD)]
        exact FA b o e n
  · rintro σ H2 ⟨⟨x2, x3, x4, rfl⟩, hj3, ⟨xs, h2, hl⟩, d2, F2⟩
    exact nxR (retR (varR (i := 1) rfl (kk _ _ ⟨D0, xs, rfl, hD, h2, ⟨by omega, by omega⟩, d2, F2⟩)))
/-- isinstance(x, a built-in) -/
theorem isiR {x : V} {n : String} {a : String} {b : Bool} (g : ∀ Q : VK, Q x H → te σ H Q) (ty : TyX K H x (.type a)) (kb : kitB a n = some b) (h : Q (.bl b) H) : tCB (rIsi K) (tCons te (tCons (tC (.ty n)) tNil)) σ H Q :=
  consR (g _ (consR (cR ⟨x, .ty n, .type a, .type n, b, rfl, .ty n, ty, kit_ty kb, h⟩)))
theorem ok_law_is_integer (T : Txt w K mg) : Kept P w K mg base 1 (He.ga K "_law_is_integer") ps_law_is_integer sp_isint := by
  obtain ⟨fd, F⟩ := fd_law_is_integer T
  refine ⟨fd, F.ok sc_law_is_integer (fun vs H Q E ⟨a, e, _⟩ => by rw [e] <;> rfl) (fun cdv A outer s H vs Q E hr h => ?_), F.kp, bd_law_is_integer F⟩
  obtain ⟨a, rfl, _, k⟩ := h
  refine ⟨_, PSs.nox (pss_one (ps_ret (pe_and (pe_callB call_isi rfl (f_isinstance T) (by decide +kernel) (pa_cons (pv 0) (pa_cons (pe_bltn (v := .ty "int") rfl (f_int T) (by decide +kernel) rfl) pa_nil))) (pe_one (pe_not (pe_callB call_isi rfl (f_isinstance T) (by decide +kernel) (pa_cons (pv 0) (pa_cons (pe_bltn (v := .ty "bool") rfl (f_bool T) (by decide +kernel) rfl) pa_nil)))))))), ?_⟩
  refine retR (aVR (isiR (a := "int") (b := true) (fun Q q => varR (i := 0) rfl q) (.base (.int a)) (by decide +kernel) ⟨_, rfl, iteT ?_⟩))
  exact notVR (isiR (a := "int") (b := false) (fun Q q => varR (i := 0) rfl q) (.base (.int a)) (by decide +kernel) ⟨_, rfl, k _ _ ⟨rfl, rfl⟩⟩)
theorem ok_law_is_integers (T : Txt w K mg) : Kept P w K mg base 2 (He.ga K "_law_is_integers") ps_law_is_integers sp_isints := by
  obtain ⟨fd, F⟩ := fd_law_is_integers T
  refine ⟨fd, F.ok sc_law_is_integers (fun vs H Q E ⟨a, e, _⟩ => by rw [e] <;> rfl) (fun cdv A outer s H vs Q E hr h => ?_), F.kp, bd_law_is_integers F⟩
  obtain ⟨⟨a, xs⟩, rfl, h, k⟩ := h
  replace h : H a = some (.lst (ivs xs)) := h
  refine ⟨_, PSs.nox (pss_cons (ps_if (pt_not (pt_val (pe_callB call_isi rfl (f_isinstance T) (by decide +kernel) (pa_cons (pv 0) (pa_cons (pe_bltn (v := .ty "list") rfl (f_list T) (by decide +kernel) rfl) pa_nil))))) (pss_one (ps_ret pe_bl)) pss_nil)
    (pss_cons (ps_for PassesOwn.never rfl (pi_list (pv 0)) (pg_name (i := 1) sc_law_is_integers.nd rfl (Or.inl rfl)) (pss_one (ps_if (pt_not (pt_val (pe_fn (ok_law_is_integer T) (hr.mono (by decide)) rfl (g_law_is_integer T) (pa_cons (pv 1) pa_nil)))) (pss_one (ps_ret pe_bl)) pss_nil)))
    (pss_one (ps_ret pe_bl)))), ?_⟩
  refine seqR (ifR (notR (tbR (isiR (a := "list") (b := true) (fun Q q => varR (i := 0) rfl q) (.base (.lst h)) (by decide +kernel) ⟨_, rfl, iteX rfl ?_⟩))))
  refine nxR (seqR ⟨_, rfl, a, rfl, ⟨_, SqL.of h⟩, ?_⟩)
  refine for_list (xs := ivs xs) (fun i σ H' => (∃ x1, σ = [some (.ref a), x1]) ∧ H' = H) ⟨⟨_, rfl⟩, rfl⟩ ?_ ?_ ?_
  · rintro i σ H1 _ ⟨_, rfl⟩
    exact SqL.of h
  · rintro i x σ H1 hx ⟨⟨x1, rfl⟩, rfl⟩
    rw [List.getElem?_map] at hx
    obtain ⟨c, ec, rfl⟩ := Option.map_eq_some_iff.mp hx
    refine ifR (notR (tbR (consR (varR (i := 1) rfl ⟨c, rfl, trivial, ?_⟩))))
    rintro v H2 ⟨rfl, rfl⟩
    exact ⟨_, rfl, iteX rfl (nxR ⟨⟨_, rfl⟩, rfl⟩)⟩
  · rintro σ H1 ⟨⟨x1, rfl⟩, rfl⟩
    exact nxR (retR (k _ _ ⟨rfl, rfl⟩))
theorem ok_law_result (T : Txt w K mg) : Kept P w K mg base 3 (He.ga K "_law_result") ps_law_result sp_result := by
  obtain ⟨fd, F⟩ := fd_law_result T
  refine ⟨fd, F.ok sc_law_result (fun vs H Q E ⟨a, e, _⟩ => by rw [e] <;> rfl) (fun cdv A outer s H vs Q E hr h => ?_), F.kp, bd_law_result F⟩
  obtain ⟨⟨⟨a, o⟩, b, out, n⟩, rfl, ⟨h, ho⟩, k⟩ := h
  replace h : H a = some (.tup [.bl b, .ref o, .int n]) := h
  replace ho : H o = some (.lst (ivs out)) := ho
  refine ⟨_, PSs.nox (pss_cons (ps_if (PW.pt (pw_or (pt_not (pt_val (pe_callB call_isi rfl (f_isinstance T) (by decide +kernel) (pa_cons (pv 0) (pa_cons (pe_bltn (v := .ty "tuple") rfl (f_tuple T) (by decide +kernel) rfl) pa_nil))))) (pw_or (pt_cmpR op_ne (pe_callB call_len_seq rfl (f_len T) PySem.boot_len (pa_cons (pv 0) pa_nil)) pe_int (nomark _)) (pw_or1 (pt_not (pt_val (pe_callB call_isi rfl (f_isinstance T) (by decide +kernel) (pa_cons (pe_ix ix_tup (pv 0) pe_int (fun _ _ => rfl)) (pa_cons (pe_bltn (v := .ty "bool") rfl (f_bool T) (by decide +kernel) rfl) pa_nil))))))))) (pss_one (ps_ret pe_bl)) pss_nil)
    (pss_one (ps_ret (pe_and (pe_fn (ok_law_is_integers T) (hr.mono (by decide)) rfl (g_law_is_integers T) (pa_cons (pe_ix ix_tup (pv 0) pe_int (fun _ _ => rfl)) pa_nil)) (pe_one (pe_fn (ok_law_is_integer T) (hr.mono (by decide)) rfl (g_law_is_integer T) (pa_cons (pe_ix ix_tup (pv 0) pe_int (fun _ _ => rfl)) pa_nil))))))), ?_⟩
  refine seqR (ifR (orR (notR (tbR (isiR (a := "tuple") (b := true) (fun Q q => varR (i := 0) rfl q) (.base (.tup h)) (by decide +kernel) ⟨_, rfl, iteX rfl ?_⟩)))))
  refine orR (testR (opR (callR (varR (i := 0) rfl ⟨a, _, rfl, .inr (SqT.of h), cR ⟨rfl, _, rfl, iteX (by rfl) ?_⟩⟩))))
  have ix : ∀ (σ : L2.St) (j : Nat) (z : Int) (v : V) (Q' : VK), σ[0]? = some (some (.ref a)) → z = (j : Int) → ([V.bl b, .ref o, .int n] : List V)[j]? = some v → Q' v H → tOp (rIxT K) (tVar 0) (tC (.int z)) σ H Q' := fun σ j z v Q' hs ez ev q => by
    subst ez
    exact opR (varR (i := 0) hs (cR ⟨a, _, _, v, rfl, rfl, SqT.of h, atI_nat ev, q⟩))
  refine notR (tbR (isiR (a := "bool") (b := true) (fun Q q => ix _ 0 _ _ Q rfl rfl rfl q) (.base (.bl b)) (by decide +kernel) ⟨_, rfl, iteX rfl ?_⟩))
  refine nxR (retR (aVR (consR (ix _ 1 _ _ _ rfl rfl rfl ⟨(o, out), rfl, ho, ?_⟩))))
  rintro v H1 ⟨rfl, rfl⟩
  refine ⟨_, rfl, iteT (consR (ix _ 2 _ _ _ rfl rfl rfl ⟨n, rfl, trivial, ?_⟩))⟩
  rintro v H2 ⟨rfl, rfl⟩
  exact k _ _ ⟨rfl, rfl⟩
end
end Pk
namespace Pk
open PySem PySem.Spec PyProof.Rows L2
def sp_law (K : PySem.W.Frag) : Sp := mkSp (α := Addr × List Int) (fun a => [.ref a.1]) (fun a H => SqL K H a.1 (ivs a.2) ∧ a.2.length ≤ 63) (fun a H v H' => v = .bl true)
section
variable {P : Program} {w : World} {K : PySem.W.Frag} {mg : Str → Option Value} {base : Heap}
variable {i : Nat} {σ : L2.St} {H : Hp} {D : Ends} {Q : VK} {te ta tb : TE} {t1 t2 : TS} {r : R2} {tt : TT} {g : TG}
theorem seqJ (I : L2.St → Hp → Prop) (h2 : ∀ σ' H', I σ' H' → t2 D σ' H') (h1 : (∀ σ' H', I σ' H' → t2 D σ' H') → t1 { D with nx := t2 D } σ H) : tSeq t1 t2 D σ H := h1 h2
theorem lcRngR {tA : TA} {vs : List Nat} (h : tA σ H fun us H1 => ∃ j : Int, us = [.int j] ∧ -(2 ^ 62) ≤ j ∧ j < 2 ^ 62 ∧ tLc (fun σ H R => R (Itr 0 j.toNat) H) g tt te vs σ H1 Q) : tLc (iRng1 tA) g tt te vs σ H Q := h
/-- [.. for _ in range(n)], each from the draws -/
theorem lcDraw {da : Addr} {n j : Nat} {vs : List Nat} {p : Int → Prop} (hn : n ≤ 1000) (h : DrAt H da) (hw : ∀ x, wipe ((wipe σ vs).set j (some x)) vs = wipe σ vs)
    (he : ∀ (x : V) H1 (Q' : VK), DrAt H1 da → (∀ (y : Int) H2, p y → DrAt H2 da → Fr [da] H1 H2 → Q' (.int y) H2) → te ((wipe σ vs).set j (some x)) H1 Q')
    (k : ∀ D0 xs H', H D0 = none → H' D0 = some (.lst (ivs xs)) → xs.length = n → (∀ y ∈ xs, p y) → DrAt H' da → Fr [da] H H' → Q (.ref D0) H') : tLc (fun σ H R => R (Itr 0 n) H) (gName j) tYes te vs σ H Q := by
  intro D0 hD
  have nD : D0 ≠ da := drNe (H0 := H) h hD
  have nin : D0 ∉ [da] := fun z => nD (List.mem_singleton.mp z)
  refine lc_it walk_range (fun i H' => (∃ xs, H' D0 = some (.lst (ivs xs)) ∧ xs.length = i ∧ ∀ y ∈ xs, p y) ∧ DrAt H' da ∧ Fr [da] H H') ⟨⟨[], upd_same, rfl, fun y hy => by cases hy⟩, h.keep ((Fr.refl _ _).new hD), (Fr.refl _ _).new hD⟩ (fun _ _ _ _ => trivial) ?_ ?_
  · rintro i x H1 H2 hi ⟨⟨xs, h1, hl, hp⟩, d1, F1⟩ ⟨rfl, rfl⟩
    refine ⟨hw _, ?_⟩
    refine yesR (he _ _ _ d1 fun y H3 py d3 F3 => ?_)
    refine ⟨_, F3 _ _ h1 nin, by rw [ivs_len]; exact line_of (by omega), ⟨xs ++ [y], by rw [upd_same, ivs_app] <;> rfl, by rw [List.length_append, hl]; rfl, fun z hz => ?_⟩, ?_, fun b o e nb => ?_⟩
    · rcases List.mem_append.mp hz with hz | hz
      · exact hp z hz
      · rw [List.mem_singleton] at hz; rw [hz]; exact py
    · obtain ⟨ds, e1, e2⟩ := d3
      exact ⟨ds, by rw [upd_ne nD.symm]; exact e1, e2⟩
    · rw [upd_ne (ne_of_none e hD)]
      exact F3 _ _ (F1 _ _ e nb) nb
  · rintro H1 ⟨⟨xs, h1, hl, hp⟩, d1, F1⟩
    exact k D0 xs H1 hD h1 hl hp d1 F1
theorem slR {f : V → Option Int → Option Int → Hp → VK → Prop} {tl th : TO} (h : te σ H fun x H1 => tl σ H1 fun l H2 => th σ H2 fun u H3 => f x l u H3 Q) : tSl f te tl th σ H Q := h
theorem partR {Q : Option Int → Hp → Prop} (h : te σ H fun x H1 => ∃ i, x = .int i ∧ Q (some i) H1) : tPart te σ H Q := h
theorem noPartR {Q : Option Int → Hp → Prop} (h : Q none H) : tNoPart σ H Q := h
theorem forLstR {K : PySem.W.Frag} (h : te σ H fun x H1 => ∃ a, x = .ref a ∧ (∃ xs, SqL K H1 a xs) ∧ tFor (fun σ H R => R (Itl K a) H) g t1 D σ H1) : tFor (iList K te) g t1 D σ H := h
theorem lcStrR {vs : List Nat} (h : ta σ H fun v H1 => ∃ z, v = .str z ∧ tLc (fun σ H R => R (L2.Its z) H) g tt te vs σ H1 Q) : tLc (iStr ta) g tt te vs σ H Q := h
theorem nilR {Q : List V → Hp → Prop} (h : Q [] H) : tNil σ H Q := h
theorem callNR {n m : Nat} {sp : Sp} {gV : List V → List V → List V} {E : XK} {tA tK : TA} (h : tA σ H fun vs H1 => tK σ H1 fun zs H2 => vs.length = n ∧ zs.length = m ∧ sp (gV vs zs) H2 Q E) : L2.tCallN n m sp gV E tA tK σ H Q := h
theorem ixTR {K : PySem.W.Frag} {p : Addr} {xs : List V} {v : V} {z : Int} (j : Nat) (hs : σ[i]? = some (some (.ref p))) (hp : H p = some (.tup xs)) (ez : z = (j : Int)) (ev : xs[j]? = some v) (q : Q v H) : tOp (rIxT K) (tVar i) (tC (.int z)) σ H Q := by
  subst ez
  exact opR (varR hs (cR ⟨p, _, _, v, rfl, rfl, SqT.of hp, atI_nat ev, q⟩))
/-- the three defs ahead -/
def dfs : Nat → Its → Its
  | 0, t => t
  | j + 1, t => .dfn (67 - j) (.num (67 - j) (.op 46 .nil)) (dfs j t)
theorem dfs_sz (t : Its) : (dfs 3 t).sz = t.sz + 9 := by simp only [dfs, Its.sz]; omega
theorem dfs_dep (t : Its) : (dfs 3 t).dep = max 1 t.dep := by simp only [dfs, Its.dep]; omega
theorem dfs_ok {t : Its} (h : t.TopOk) : (dfs 3 t).TopOk := by
  exact ⟨by decide, ⟨by decide, ⟨by decide, trivial⟩⟩, by decide, ⟨by decide, ⟨by decide, trivial⟩⟩, by decide, ⟨by decide, ⟨by decide, trivial⟩⟩, h⟩
theorem dfs_defs (t : Its) (f : Int) (h1 : 65 ≤ f) (h2 : f ≤ 67) : f ∈ (dfs 3 t).defs := by
  show f ∈ ((65 : Nat) : Int) :: ((66 : Nat) : Int) :: ((67 : Nat) : Int) :: t.defs
  simp only [List.mem_cons]
  omega
theorem cut_take (xs : List Int) (m : Nat) : cutV (ivs xs) none (some (m : Int)) = ivs (xs.take m) := by
  unfold cutV
  rw [HT.sIx_nat, HT.sIx_none, List.drop_zero, Nat.sub_zero, ivs_len]
  show ((xs.map V.int).take (min m xs.length)) = (xs.take m).map V.int
  rw [List.map_take, ← List.length_map (f := V.int) (as := xs), ← List.take_take, List.take_length]
theorem ok_law (T : Txt w K mg) {fd : FuncData} (F : FunD K "law" "law" (defArgs s_law) (defBody s_law) (defScope s_law) [] [] (He.ga K "law") fd) : FnOk P w K mg base CX0 12 (He.ga K "law") fd ps_law (sp_law K) := by
  refine F.ok sc_law (fun vs H Q E ⟨a, e, _⟩ => by rw [e] <;> rfl) (fun cdv A outer s H vs Q E hr h => ?_)
  obtain ⟨⟨a, cs⟩, rfl, ⟨h, hl⟩, k⟩ := h
  replace h : SqL K H a (ivs cs) := h
  replace hl : cs.length ≤ 63 := hl
  replace k : ∀ v H', v = .bl true → Q v H' := k
  refine ⟨_, PSs.nox (pss_cons (ps_set (i := 1) sc_law.nd rfl (Or.inr rfl) (pe_fn (ok_law_draws T) (hr.mono (by decide)) rfl (g_law_draws T) (pa_cons (pv 0) pa_nil)))
    (pss_cons (ps_expr (pe_bm0 PySem.F.plainAttrs_list PySem.F.slot_list_reverse PySem.F.type_list_reverse mt_reverse (pv 1)))
    (pss_cons (ps_set (i := 2) sc_law.nd rfl (Or.inl rfl) (pe_fn (ok_law_next T) (hr.mono (by decide)) rfl (g_law_next T) (pa_cons (pv 1) pa_nil)))
    (pss_cons (ps_set (i := 3) sc_law.nd rfl (Or.inl rfl) (pe_op op_mod (pe_callTy call_int1 rfl (f_int T) (by decide +kernel) (pa_cons (pe_fn (ok_law_next T) (hr.mono (by decide)) rfl (g_law_next T) (pa_cons (pv 1) pa_nil)) pa_nil)) pe_int))
    (pss_cons (ps_setLc (i := 4) (own := [("_law_k", 15)]) (g := gName 15) (tt := tYes) rfl sc_law.nd rfl rfl (sw_true rfl rfl rfl (by decide +kernel)) (pi_range1 rfl (f_range T) (pa_cons (pe_op op_mod (pe_callTy call_int1 rfl (f_int T) (by decide +kernel) (pa_cons (pe_fn (ok_law_next T) (hr.mono (by decide)) rfl (g_law_next T) (pa_cons (pv 1) pa_nil)) pa_nil)) pe_int) pa_nil)) (blkOk_by (own := [("_law_k", 15)]) (N := ns_law) (sc := defScope s_law) (by decide +kernel)) (fun _ _ _ _ _ => pg_name (i := 15) sc_law.nd rfl (Or.inl rfl)) (fun _ _ _ _ _ => pts_nil) (fun _ _ _ _ _ => (pe_op op_sub (pe_op op_mod (pe_callTy call_int1 rfl (f_int T) (by decide +kernel) (pa_cons (pe_fn (ok_law_next T) (hr.mono (by decide)) rfl (g_law_next T) (pa_cons (pv 1) pa_nil)) pa_nil)) pe_int) pe_int)))
    (pss_cons (ps_setLc (i := 5) (own := [("_law_k", 15)]) (g := gName 15) (tt := tYes) rfl sc_law.nd rfl rfl (sw_true rfl rfl rfl (by decide +kernel)) (pi_range1 rfl (f_range T) (pa_cons (pe_op op_add pe_int (pe_op op_mod (pe_callTy call_int1 rfl (f_int T) (by decide +kernel) (pa_cons (pe_fn (ok_law_next T) (hr.mono (by decide)) rfl (g_law_next T) (pa_cons (pv 1) pa_nil)) pa_nil)) pe_int)) pa_nil)) (blkOk_by (own := [("_law_k", 15)]) (N := ns_law) (sc := defScope s_law) (by decide +kernel)) (fun _ _ _ _ _ => pg_name (i := 15) sc_law.nd rfl (Or.inl rfl)) (fun _ _ _ _ _ => pts_nil) (fun _ _ _ _ _ => (pe_op op_mod (pe_callTy call_int1 rfl (f_int T) (by decide +kernel) (pa_cons (pe_fn (ok_law_next T) (hr.mono (by decide)) rfl (g_law_next T) (pa_cons (pv 1) pa_nil)) pa_nil)) pe_int)))
    (pss_cons (ps_setLc (i := 6) (own := [("_law_code", 16)]) (g := gName 16) rfl sc_law.nd rfl rfl (sw_true rfl rfl rfl (by decide +kernel)) (pi_list (pe_slice sl_list (pv 4) po_none (po_some (pe_op op_add pe_int (pe_op op_mod (pe_op op_fdiv (pv 2) pe_int) pe_int))))) (blkOk_by (own := [("_law_code", 16)]) (N := ns_law) (sc := defScope s_law) (by decide +kernel)) (fun _ _ _ _ _ => pg_name (i := 16) sc_law.nd rfl (Or.inl rfl)) (fun _ _ _ _ _ => (pts_one (pt_chain op_le op_le pe_int (pv 16) pe_int))) (fun _ _ _ _ _ => (pv 16)))
    (pss_cons (ps_if (PW.pt (pw_and (pt_cmpR op_eq (pe_op op_mod (pe_callTy call_int1 rfl (f_int T) (by decide +kernel) (pa_cons (pv 2) pa_nil)) pe_int) pe_int (nomark _)) (pw_and1 (pt_truth (pv 6) (by intro _; rfl))))) (pss_one (ps_set (i := 5) sc_law.nd rfl (Or.inl rfl) (pv 6))) pss_nil)
    (pss_cons (ps_if (pt_cmpR op_eq (pe_op op_mod (pe_op op_fdiv (pv 2) pe_int) pe_int) pe_int (nomark _)) (pss_one (ps_set (i := 4) sc_law.nd rfl (Or.inl rfl) (pe_op op_cat (pv 5) (pv 4)))) pss_nil)
    (pss_cons (ps_set (i := 7) sc_law.nd rfl (Or.inl rfl) (pe_fn (ok_law_extra T) (hr.mono (by decide)) rfl (g_law_extra T) (pa_cons (pv 1) pa_nil)))
    (pss_cons (ps_set (i := 8) sc_law.nd rfl (Or.inl rfl) (pe_fn (ok_law_tree T) (hr.mono (by decide)) rfl (g_law_tree T) (pa_cons (pv 1) pa_nil)))
    (pss_cons (ps_for PassesOwn.never rfl (pi_list (pe_lst (pa_cons pe_int (pa_cons pe_int (pa_cons pe_int pa_nil))))) (pg_name (i := 9) sc_law.nd rfl (Or.inl rfl)) (pss_one (ps_set (i := 8) sc_law.nd rfl (Or.inl rfl) (pe_op op_cat (pe_lst (pa_cons (pe_tup (pa_cons pe_str (pa_cons (pv 9) (pa_cons (pe_lst (pa_cons (pe_tup (pa_cons pe_str (pa_cons (pv 9) pa_nil))) (pa_cons (pe_tup (pa_cons pe_str (pa_cons pe_int pa_nil))) pa_nil))) pa_nil)))) pa_nil)) (pv 8)))))
    (pss_cons (ps_set (i := 10) sc_law.nd rfl (Or.inl rfl) (pe_fnD (ok_translate T) (hr.mono (by decide)) rfl (g_translate T) (pa_cons (pe_lc (own := [("_law_char_here", 17)]) (g := gName 17) (tt := tYes) rfl sc_law.nd (pi_str (pe_fn (ok_law_write T) (hr.mono (by decide)) rfl (g_law_write T) (pa_cons (pv 8) pa_nil))) (blkOk_by (own := [("_law_char_here", 17)]) (N := ns_law) (sc := defScope s_law) (by decide +kernel)) (fun _ _ _ _ _ => pg_name (i := 17) sc_law.nd rfl (Or.inl rfl)) (fun _ _ _ _ _ => pts_nil) (fun _ _ _ _ _ => (pe_callB call_ord rfl (f_ord T) (by decide +kernel) (pa_cons (pv 17) pa_nil)))) pa_nil)))
    (pss_cons (ps_set (i := 11) sc_law.nd rfl (Or.inl rfl) (pe_fn (ok_plant T) (hr.mono (by decide)) rfl (g_plant T) (pa_cons (pe_callTy call_list_of rfl (f_list T) (by decide +kernel) (pa_cons (pv 10) pa_nil)) (pa_cons (pv 5) (pa_cons (pv 7) pa_nil)))))
    (pss_cons (ps_if (pt_cmpR (op_neD hr.units) (pv 11) (pe_op op_cat (pv 10) (pe_fn (ok_law_trap T) (hr.mono (by decide)) rfl (g_law_trap T) (pa_cons (pv 5) (pa_cons (pv 7) pa_nil)))) (nomark _)) (pss_one (ps_ret pe_bl)) pss_nil)
    (pss_cons (ps_set (i := 12) sc_law.nd rfl (Or.inl rfl) (pe_fnK (ok_run T) (hr.mono (by decide)) rfl (g_run T) (pa_cons (pv 10) (pa_cons (pe_callTy call_list_of rfl (f_list T) (by decide +kernel) (pa_cons (pv 4) pa_nil)) pa_nil)) (pk_cons (pv 3) pk_nil)))
    (pss_cons (ps_if (pt_not (pt_val (pe_fn (ok_law_result T) (hr.mono (by decide)) rfl (g_law_result T) (pa_cons (pv 12) pa_nil)))) (pss_one (ps_ret pe_bl)) pss_nil)
    (pss_cons (ps_if (pt_not (pt_val (pe_ix ix_tup (pv 12) pe_int (fun _ _ => rfl)))) (pss_cons (ps_set (i := 14) sc_law.nd rfl (Or.inl rfl) (pe_fnK (ok_run T) (hr.mono (by decide)) rfl (g_run T) (pa_cons (pv 11) (pa_cons (pe_callTy call_list_of rfl (f_list T) (by decide +kernel) (pa_cons (pv 4) pa_nil)) pa_nil)) (pk_cons (pe_op op_add (pv 3) pe_int) pk_nil)))
    (pss_one (ps_ret (pe_and (pe_fn (ok_law_result T) (hr.mono (by decide)) rfl (g_law_result T) (pa_cons (pv 14) pa_nil)) (pe_and (pe_not (pe_ix ix_tup (pv 14) pe_int (fun _ _ => rfl))) (pe_and (pe_cmpR (op_eqD hr.units) (pe_ix ix_tup (pv 14) pe_int (fun _ _ => rfl)) (pe_ix ix_tup (pv 12) pe_int (fun _ _ => rfl)) (nomark _)) (pe_one (pe_cmpR op_eq (pe_ix ix_tup (pv 14) pe_int (fun _ _ => rfl)) (pe_op op_add (pv 3) pe_int) (nomark _))))))))) pss_nil)
    (pss_cons (ps_set (i := 13) sc_law.nd rfl (Or.inl rfl) (pe_callTy call_list_of rfl (f_list T) (by decide +kernel) (pa_cons (pe_ix ix_tup (pv 12) pe_int (fun _ _ => rfl)) pa_nil)))
    (pss_cons (ps_if (pt_cmpR (op_eqD hr.units) (pe_slice sl_list (pv 4) po_none (po_some (pe_callB call_len_seq rfl (f_len T) PySem.boot_len (pa_cons (pv 5) pa_nil)))) (pv 5) (nomark _)) (pss_one (ps_set (i := 13) sc_law.nd rfl (Or.inl rfl) (pe_op op_cat (pe_op op_cat (pv 13) (pv 7)) (pe_fn (ok_law_trap T) (hr.mono (by decide)) rfl (g_law_trap T) (pa_cons (pv 5) (pa_cons (pv 7) pa_nil)))))) pss_nil)
    (pss_cons (ps_set (i := 14) sc_law.nd rfl (Or.inl rfl) (pe_fnK (ok_run T) (hr.mono (by decide)) rfl (g_run T) (pa_cons (pv 11) (pa_cons (pe_callTy call_list_of rfl (f_list T) (by decide +kernel) (pa_cons (pv 4) pa_nil)) pa_nil)) (pk_cons (pe_op op_add (pe_ix ix_tup (pv 12) pe_int (fun _ _ => rfl)) pe_int) pk_nil)))
    (pss_one (ps_ret (pe_and (pe_fn (ok_law_result T) (hr.mono (by decide)) rfl (g_law_result T) (pa_cons (pv 14) pa_nil)) (pe_and (pe_ix ix_tup (pv 14) pe_int (fun _ _ => rfl)) (pe_one (pe_cmpR (op_eqD hr.units) (pe_ix ix_tup (pv 14) pe_int (fun _ _ => rfl)) (pv 13) (nomark _)))))))))))))))))))))))))))), ?_⟩
  refine seqR (setR (consR (varR (i := 0) rfl ⟨(a, cs), rfl, ⟨h, hl⟩, ?_⟩)))
  rintro v H1 ⟨da, rfl, nda, ⟨ds, hd1, _, hd2⟩, F1⟩
  refine nxR (seqR (dropR (bm0R (varR (i := 1) rfl ⟨.inl ⟨rfl, _, SqL.of hd1⟩, da, _, rfl, rfl, hd1, ?_⟩))))
  have d2 : DrAt (upd H1 da (.lst (ivs ds).reverse)) da := ⟨ds.reverse, by rw [upd_same, ← List.map_reverse], fun d hd => hd2 d (List.mem_reverse.mp hd)⟩
  generalize upd H1 da (.lst (ivs ds).reverse) = H2 at d2 ⊢
  refine nxR (seqR (setR (nextR (i := 1) rfl d2 fun cc H3 hc d3 F3 => ?_)))
  refine nxR (seqR (setR (nmodR (by decide) (i := 1) rfl d3 fun y H4 hy d4 F4 => ?_)))
  obtain ⟨fu, efu, hfu⟩ : ∃ fu : Nat, (y : Int) % 201 = fu ∧ fu ≤ 200 := ⟨y % 201, by omega, by omega⟩
  rw [efu]
  clear efu hy F3 F4 d3 d2 hd2 hd1 F1 nda h hl H2 H3
  -- the numbers
  refine nxR (seqR (setR (lcRngR (consR (nmodR (by decide) (i := 1) rfl d4 fun n H5 hn d5 F5 => ⟨_, rfl, by omega, by omega, ?_⟩)))))
  rw [show ((n : Int) % 17).toNat = n % 17 by omega]
  refine lcDraw (p := fun _ => True) (by omega) d5 (fun x => rfl) (fun x H1 Q' d q => opR (nmodR (by decide) (i := 1) rfl d fun z H2 hz d2 F2 => cR ⟨_, _, rfl, rfl, q _ _ trivial d2 F2⟩)) fun na nms H6 nna hna lna _ d6 F6 => ?_
  have e6 : H6 na = some (.lst (ivs nms)) := hna
  have nad : na ≠ da := drNe (H0 := H5) d5 nna
  have nin : ∀ {x : Addr}, x ≠ da → x ∉ [da] := fun h z => h (List.mem_singleton.mp z)
  -- the lure
  refine nxR (seqR (setR (lcRngR (consR (opR (cR (nmodR (by decide) (i := 1) rfl d6 fun m H7 hm d7 F7 => ⟨_, _, rfl, rfl, _, rfl, (by show -(2 ^ 62) ≤ (1 : Int) + (m : Int) % 12; omega), (by show (1 : Int) + (m : Int) % 12 < 2 ^ 62; omega), ?_⟩)))))))
  have em : ((1 : Int) + (m : Int) % 12).toNat = 1 + m % 12 := by omega
  dsimp only
  rw [em]
  refine lcDraw (p := fun y => 0 ≤ y ∧ y ≤ 126) (by omega) d7 (fun x => rfl) (fun x H1 Q' d q => nmodR (by decide) (i := 1) rfl d fun z H2 hz d2 F2 => q _ _ (by omega) d2 F2) fun la ls H8 nla hla lla pla d8 F8 => ?_
  have e7 := F7 _ _ e6 (nin nad)
  have e8 : H8 na = some (.lst (ivs nms)) := F8 _ _ e7 (nin nad)
  have lad : la ≠ da := drNe (H0 := H7) d7 nla
  have lo : LureOk ls := ⟨by omega, by omega, pla⟩
  have ln : nms.length ≤ 40 := by omega
  clear F6 F7 F8 e7 e6 hna nna nla lla lna pla em d7 d6 d5 d4 hm hn
  -- what is wanted
  refine seqR (setR ?_)
  refine ⟨_, rfl, ?_⟩
  refine noPartR (partR (opR (cR (opR (opR (varR (i := 2) rfl (cR ⟨_, _, rfl, rfl, ⟨by decide, by decide⟩, cR ⟨_, _, rfl, rfl, (by show (0 : Int) < 12; decide), _, _, rfl, rfl, ?_⟩⟩)))))))
  refine ⟨((1 + cc / 2 % 12 : Nat) : Int), (show V.int (1 + (cc : Int) / 2 % 12) = V.int ((1 + cc / 2 % 12 : Nat) : Int) from congrArg V.int (by omega)), ?_⟩
  refine ⟨na, _, rfl, SqL.of e8, fun p np => ?_⟩
  rw [cut_take]
  refine ⟨p, rfl, ⟨_, SqL.of upd_same⟩, fun D0 hD => ?_⟩
  have F9 : Fr [] H8 (upd H8 p (.lst (ivs (nms.take (1 + cc / 2 % 12))))) := (Fr.refl _ _).new np
  have lt : (nms.take (1 + cc / 2 % 12)).length ≤ 12 := by rw [List.length_take]; omega
  have p9 : (upd H8 p (.lst (ivs (nms.take (1 + cc / 2 % 12))))) p = some (.lst (ivs (nms.take (1 + cc / 2 % 12)))) := upd_same
  generalize (upd H8 p (.lst (ivs (nms.take (1 + cc / 2 % 12))))) = H9 at hD F9 p9 ⊢
  have nD : H8 D0 = none := F9.back hD (by simp)
  generalize nms.take (1 + cc / 2 % 12) = tk at p9 lt ⊢
  refine lc_list (xs := ivs tk) (fun i H' => (∃ xs, H' D0 = some (.lst (ivs xs)) ∧ xs.length ≤ i ∧ ∀ y ∈ xs, 0 ≤ y ∧ y ≤ 126) ∧ H' p = some (.lst (ivs tk)) ∧ Fr [] H8 H') ⟨⟨[], upd_same, Nat.le_refl _, fun y hy => by cases hy⟩, by rw [upd_ne (ne_of_none p9 hD)]; exact p9, F9.new hD⟩ (fun _ _ _ ⟨_, e, _⟩ => SqL.of e) ?_ ?_
  · rintro i x H1 hx ⟨⟨xs, h1, hl, hp⟩, g1, F1⟩
    have hi : i < tk.length := by
      have z := (List.getElem?_eq_some_iff.mp hx).1
      rwa [ivs_len] at z
    rw [List.getElem?_map] at hx
    obtain ⟨c, ec, rfl⟩ := Option.map_eq_some_iff.mp hx
    have skip : (∃ xs, H1 D0 = some (.lst (ivs xs)) ∧ xs.length ≤ i + 1 ∧ ∀ y ∈ xs, 0 ≤ y ∧ y ≤ 126) ∧ H1 p = some (.lst (ivs tk)) ∧ Fr [] H8 H1 := ⟨⟨xs, h1, by omega, hp⟩, g1, F1⟩
    refine ⟨rfl, ?_⟩
    refine testR (chainR (cR (varR (i := 16) rfl ⟨_, _, rfl, rfl, _, rfl, ?_⟩)))
    refine ite2 (fun q => ?_) (fun q => ⟨_, rfl, iteF skip⟩)
    have q1 : 0 ≤ c := of_decide_eq_true q
    refine cR ⟨_, _, rfl, rfl, _, rfl, ?_⟩
    refine ite2 (fun q => ?_) (fun q => skip)
    have q2 : c ≤ 126 := of_decide_eq_true q
    refine varR (i := 16) rfl ⟨_, h1, by rw [ivs_len]; exact line_of (by omega), ⟨xs ++ [c], by rw [upd_same, ivs_app] <;> rfl, by rw [List.length_append]; show _ + 1 ≤ _; omega, fun z hz => ?_⟩, ?_, fun b o e nb => ?_⟩
    · rcases List.mem_append.mp hz with hz | hz
      · exact hp z hz
      · rw [List.mem_singleton] at hz; rw [hz]; exact ⟨q1, q2⟩
    · rw [upd_ne (ne_of_none p9 hD)]; exact g1
    · rw [upd_ne (ne_of_none e nD)]
      exact F1 _ _ e nb
  rintro H10 ⟨⟨ws, hw, wl, wp⟩, hpk, F10⟩
  rw [ivs_len] at wl
  have d10 := d8.keep F10
  have na10 := F10 _ _ e8 (by simp)
  have la10 := F10 _ _ hla (by simp)
  have wad : D0 ≠ da := drNe (H0 := H8) d8 nD
  clear F10 F9 p9 np hD nD e8 hla d8 H8 H9
  -- the lure at last
  refine nxR (seqJ (fun σ' H' => ∃ (la : Addr) (ls : List Int) (x6 x7 x8 x9 x10 x11 x12 x13 x14 x15 x16 x17 : Option V), σ' = [some (.ref a), some (.ref da), some (.int cc), some (.int fu), some (.ref na), some (.ref la), x6, x7, x8, x9, x10, x11, x12, x13, x14, x15, x16, x17] ∧ H' la = some (.lst (ivs ls)) ∧ la ≠ da ∧ LureOk ls ∧ H' na = some (.lst (ivs nms)) ∧ DrAt H' da) ?_ ?_)
  rotate_left
  · intro J
    refine ifR (andR (testR (opR (imodR (by decide) (x := (cc : Int)) (fun Q q => varR (i := 2) rfl q) (cR ⟨rfl, _, rfl, ?_⟩)))))
    refine ite2 (fun _ => ?_) (fun _ => iteF (J _ H10 ⟨la, ls, _, _, _, _, _, _, _, _, _, _, _, _, rfl, la10, lad, lo, na10, d10⟩))
    by_cases e : ws = []
    · subst e
      refine truR (varR (i := 6) rfl ⟨false, .inl ⟨_, SqL.of hw, rfl⟩, iteF (J _ H10 ⟨la, ls, _, _, _, _, _, _, _, _, _, _, _, _, rfl, la10, lad, lo, na10, d10⟩)⟩)
    · refine truR (varR (i := 6) rfl ⟨true, .inl ⟨_, SqL.of hw, ?_⟩, iteT ?_⟩)
      · cases ws with
        | nil => exact absurd rfl e
        | cons _ _ => rfl
      · refine setR (varR (i := 6) rfl (J _ H10 ⟨D0, ws, _, _, _, _, _, _, _, _, _, _, _, _, rfl, hw, wad, ⟨?_, by omega, wp⟩, na10, d10⟩))
        cases ws with
        | nil => exact absurd rfl e
        | cons _ _ => rw [List.length_cons]; omega
  clear hpk hw wp wl wad la10 na10 lad lo d10 H10 D0
  rintro σ H1 ⟨la, ls, x6, x7, x8, x9, x10, x11, x12, x13, x14, x15, x16, x17, rfl, hla, lad, lo, hna, d1⟩
  -- the numbers at last
  refine seqJ (fun σ' H' => ∃ (na : Addr) (nms : List Int) (x6 x7 x8 x9 x10 x11 x12 x13 x14 x15 x16 x17 : Option V), σ' = [some (.ref a), some (.ref da), some (.int cc), some (.int fu), some (.ref na), some (.ref la), x6, x7, x8, x9, x10, x11, x12, x13, x14, x15, x16, x17] ∧ H' la = some (.lst (ivs ls)) ∧ H' na = some (.lst (ivs nms)) ∧ na ≠ da ∧ DrAt H' da) ?_ ?_
  rotate_left
  · intro J
    refine ifR (testR (opR (opR (opR (varR (i := 2) rfl (cR ⟨_, _, rfl, rfl, ⟨by decide, by decide⟩, cR ⟨_, _, rfl, rfl, (by show (0 : Int) < 5; decide), cR ⟨rfl, _, rfl, ?_⟩⟩⟩))))))
    refine ite2 (fun _ => ?_) (fun _ => J _ H1 ⟨na, nms, _, _, _, _, _, _, _, _, _, _, _, _, rfl, hla, hna, nad, d1⟩)
    refine setR (opR (varR (i := 5) rfl (varR (i := 4) rfl ⟨la, na, _, _, rfl, rfl, hla, hna, ?_, fun p np => ?_⟩)))
    · rw [ivs_len, ivs_len]; have := lo.2.1; exact line_le (by omega)
    · have F2 := (Fr.refl [] H1).new (o := .lst (ivs ls ++ ivs nms)) np
      exact J _ _ ⟨p, ls ++ nms, _, _, _, _, _, _, _, _, _, _, _, _, rfl, F2 _ _ hla (by simp), by rw [upd_same, ivs_app], drNe (H0 := H1) d1 np, d1.keep F2⟩
  clear hna nad hla d1 H1 ln
  rintro σ H1 ⟨na, nms, x6, x7, x8, x9, x10, x11, x12, x13, x14, x15, x16, x17, rfl, hla, hna, nad, d1⟩
  have nin : ∀ {x : Addr}, x ≠ da → x ∉ [da] := fun h z => h (List.mem_singleton.mp z)
  refine seqR (setR (consR (varR (i := 1) rfl ⟨da, rfl, d1, ?_⟩)))
  rintro v H2 ⟨xa, xs, rfl, nxa, hxa, xo, d2, F2⟩
  have la2 := F2 _ _ hla (nin lad)
  have na2 := F2 _ _ hna (nin nad)
  have xad : xa ≠ da := drNe (H0 := H1) d1 nxa
  refine nxR (seqR (setR (consR (varR (i := 1) rfl ⟨da, rfl, d2, ?_⟩))))
  rintro v H3 ⟨ta, vs, t, rfl, nta, hta, vl, R, tok, d3, F3⟩
  have la3 := F3 _ _ la2 (nin lad)
  have na3 := F3 _ _ na2 (nin nad)
  have xa3 := F3 _ _ hxa (nin xad)
  have R3 := R.mono (S' := fun _ => True) fun _ _ _ _ => trivial
  clear R d1 d2 d3 F2 F3 hla hna la2 na2 nta nxa xad nad lad hxa
  refine nxR (seqR (forLstR (lstR (consR (cR (consR (cR (consR (cR ⟨by show 3 ≤ sizeLine; decide, fun p np => ⟨p, rfl, ⟨_, SqL.of upd_same⟩, ?_⟩⟩)))))))))
  have F4 : Fr [] H3 (upd H3 p (.lst [.int 67, .int 66, .int 65])) := (Fr.refl _ _).new np
  have p4 : (upd H3 p (.lst [.int 67, .int 66, .int 65])) p = some (.lst [.int 67, .int 66, .int 65]) := upd_same
  refine for_list (xs := [V.int 67, V.int 66, V.int 65]) (fun j σ H' => ∃ (tj : Addr) (vj : List V) (x9 x10 x11 x12 x13 x14 x15 x16 x17 : Option V), σ = [some (.ref a), some (.ref da), some (.int cc), some (.int fu), some (.ref na), some (.ref la), x6, some (.ref xa), some (.ref tj), x9, x10, x11, x12, x13, x14, x15, x16, x17] ∧ H' tj = some (.lst vj) ∧ vj.length ≤ 40 + j ∧ RepL (fun _ => True) H' vj (dfs j t) ∧ H' p = some (.lst [.int 67, .int 66, .int 65]) ∧ Fr [] H3 H')
    ⟨ta, vs, _, _, _, _, _, _, _, _, _, rfl, F4 _ _ hta (by simp), by omega, R3.keep (fun q ys e => F4 _ _ e (by simp)) (fun l ys _ e => F4 _ _ e (by simp)), p4, F4⟩ (fun _ _ _ _ ⟨_, _, _, _, _, _, _, _, _, _, _, _, _, _, _, e, _⟩ => SqL.of e) ?_ ?_
  · rintro j x σ H5 hx ⟨tj, vj, y9, y10, y11, y12, y13, y14, y15, y16, y17, rfl, htj, lj, Rj, p5, F5⟩
    obtain ⟨f, rfl, ef⟩ : ∃ f : Nat, x = .int f ∧ f = 67 - j := by
      rcases j with _ | _ | _ | j
      · exact ⟨67, by cases hx; rfl, rfl⟩
      · exact ⟨66, by cases hx; rfl, rfl⟩
      · exact ⟨65, by cases hx; rfl, rfl⟩
      · cases hx
    refine setR (opR (lstR (consR (tupR (consR (cR (consR (varR (i := 9) rfl (consR (lstR (consR (tupR (consR (cR (consR (varR (i := 9) rfl ⟨by show 2 ≤ sizeLine; decide, fun p1 n1 => ?_⟩))))))))))))))))
    refine consR (tupR (consR (cR (consR (cR ⟨by show 2 ≤ sizeLine; decide, fun p2 n2 => ⟨by show 2 ≤ sizeLine; decide, fun l1 n3 => ⟨by show 3 ≤ sizeLine; decide, fun p3 n4 => ⟨by show 1 ≤ sizeLine; decide, fun l2 n5 => ?_⟩⟩⟩⟩)))))
    have G1 : Fr [] H5 (upd H5 p1 (.tup [.str ("num" : Str), .int f])) := (Fr.refl _ _).new n1
    have q1 : (upd H5 p1 (.tup [.str ("num" : Str), .int f])) p1 = some (.tup [.str ("num" : Str), .int f]) := upd_same
    generalize (upd H5 p1 (.tup [.str ("num" : Str), .int f])) = Ha at G1 q1 n2 n3 n4 n5 ⊢
    have G2 : Fr [] Ha (upd Ha p2 (.tup [.str ("op" : Str), .int 46])) := (Fr.refl _ _).new n2
    have q2 : (upd Ha p2 (.tup [.str ("op" : Str), .int 46])) p2 = some (.tup [.str ("op" : Str), .int ((46 : Nat) : Int)]) := upd_same
    generalize (upd Ha p2 (.tup [.str ("op" : Str), .int 46])) = Hb at G2 q2 n3 n4 n5 ⊢
    have G3 : Fr [] Hb (upd Hb l1 (.lst [.ref p1, .ref p2])) := (Fr.refl _ _).new n3
    have q3 : (upd Hb l1 (.lst [.ref p1, .ref p2])) l1 = some (.lst [.ref p1, .ref p2]) := upd_same
    generalize (upd Hb l1 (.lst [.ref p1, .ref p2])) = Hc at G3 q3 n4 n5 ⊢
    have G4 : Fr [] Hc (upd Hc p3 (.tup [.str ("def" : Str), .int f, .ref l1])) := (Fr.refl _ _).new n4
    have q4 : (upd Hc p3 (.tup [.str ("def" : Str), .int f, .ref l1])) p3 = some (.tup [.str ("def" : Str), .int f, .ref l1]) := upd_same
    generalize (upd Hc p3 (.tup [.str ("def" : Str), .int f, .ref l1])) = Hd at G4 q4 n5 ⊢
    have G5 : Fr [] Hd (upd Hd l2 (.lst [.ref p3])) := (Fr.refl _ _).new n5
    have q5 : (upd Hd l2 (.lst [.ref p3])) l2 = some (.lst [.ref p3]) := upd_same
    generalize (upd Hd l2 (.lst [.ref p3])) = He' at G5 q5 ⊢
    have GA := (((G1.trans G2).trans G3).trans G4).trans G5
    have s : ∀ {x : Addr}, x ∉ ([] : List Addr) := fun z => by cases z
    refine varR (i := 8) rfl ⟨l2, tj, _, _, rfl, rfl, q5, GA _ _ htj s, ?_, fun rr nr => ?_⟩
    · show 1 + vj.length ≤ sizeLine
      have : j < 3 := (List.getElem?_eq_some_iff.mp hx).1
      exact line_le (by omega)
    have G6 : Fr [] He' (upd He' rr (.lst ([.ref p3] ++ vj))) := (Fr.refl _ _).new nr
    have GB := GA.trans G6
    refine ⟨rr, _, _, _, _, _, _, _, _, _, _, rfl, upd_same, by rw [List.length_append]; show 1 + vj.length ≤ _; omega, ?_, GB _ _ p5 s, F5.trans GB⟩
    have e2 : (67 - j) = f := ef.symm
    show RepL (fun _ => True) _ (.ref p3 :: vj) (.dfn (67 - j) (.num (67 - j) (.op 46 .nil)) (dfs j t))
    rw [e2]
    exact .dfn (G6 _ _ (G5 _ _ q4 s) s) trivial (G6 _ _ (G5 _ _ (G4 _ _ q3 s) s) s) (.num (G6 _ _ (G5 _ _ (G4 _ _ (G3 _ _ (G2 _ _ q1 s) s) s) s) s) (.op (G6 _ _ (G5 _ _ (G4 _ _ (G3 _ _ q2 s) s) s) s) .nil)) (Rj.keep (fun q ys e => GB _ _ e s) (fun l ys _ e => GB _ _ e s))
  rintro σ H5 ⟨tj, vj, x9, x10, x11, x12, x13, x14, x15, x16, x17, rfl, htj, lj, Rj, p5, F5⟩
  replace Rj : RepL (fun _ => True) H5 vj (dfs 3 t) := Rj
  have la5 := F5 _ _ la3 (by simp)
  have na5 := F5 _ _ na3 (by simp)
  have xa5 := F5 _ _ xa3 (by simp)
  have tsz := tok.sz
  have tdp := tok.dep
  have sz3 := dfs_sz t
  have ok3 := dfs_ok tok.ok
  have dp3 := dfs_dep t
  have ln3 := wr_len (dfs 3 t) (.inr ok3) false
  have img := trans_ok ok3 (dfs_defs t)
  generalize dfs 3 t = t3 at Rj sz3 ok3 dp3 ln3 img
  clear F5 p5 lj F4 p4 np R3 hta vl la3 na3 xa3
  refine nxR (seqR (setR (consR (lcStrR (consR (varR (i := 8) rfl ⟨(tj, vj, t3), rfl, ⟨htj, Rj, ok3, by show t3.dep ≤ 4; omega, by show (wr false t3).length ≤ 900000; omega⟩, ?_⟩))))))
  rintro v H6 ⟨rfl, z, rfl, ez⟩
  replace ez : sl z = wr false t3 := ez
  refine ⟨z, rfl, ?_⟩
  intro D0 hD
  have zs : z.cps.size = (wr false t3).length := by rw [← ez]; exact (Array.length_toList).symm
  refine lc_it walk_str (fun i H' => H' D0 = some (.lst (((wr false t3).take i).map fun (c : Nat) => V.int (c : Int))) ∧ Fr [] H6 H') ⟨upd_same, (Fr.refl _ _).new hD⟩ (fun _ _ _ _ => trivial) ?_ ?_
  · rintro i x H7 H8 hi ⟨h7, F7⟩ ⟨rfl, c, ec, rfl⟩
    rw [zs] at hi
    have ec2 : (wr false t3)[i]? = some c := by rw [← ez, Array.getElem?_toList]; exact ec
    obtain ⟨_, ei⟩ := List.getElem?_eq_some_iff.mp ec2
    refine ⟨rfl, ?_⟩
    refine yesR (callR (varR (i := 17) rfl ⟨⟨#[c]⟩, rfl, rfl, _, h7, ?_, ?_, fun b o e nb => ?_⟩))
    · rw [List.length_map, List.length_take]; exact line_of (by omega)
    · rw [upd_same, List.take_succ_eq_append_getElem hi, ei, List.map_append] <;> rfl
    · rw [upd_ne (ne_of_none e hD)]
      exact F7 _ _ e nb
  rintro H7 ⟨h7, F7⟩
  rw [zs, List.take_length] at h7
  refine ⟨(D0, wr false t3), rfl, ⟨h7, by show (wr false t3).length ≤ 900000; omega⟩, ?_⟩
  rintro v H8 ⟨im, rfl, nim, him, F8⟩
  replace him : H8 im = some (.lst (ivs (flat (transN t3)))) := him
  have FA := F7.trans F8
  have la8 := FA _ _ la5 (by simp)
  have na8 := FA _ _ na5 (by simp)
  have xa8 := FA _ _ xa5 (by simp)
  have hn : t3.sz ≤ 62300 := by omega
  generalize transN t3 = ns at him img
  generalize t3.sz = n at img hn
  clear FA F7 F8 la5 na5 xa5 h7 zs hD ez htj Rj ok3 ln3 sz3 dp3 tsz tdp tok nim
  have nl : ∀ {x : Addr}, x ∉ ([] : List Addr) := fun z => by cases z
  obtain ⟨r0, er, hr0⟩ := id img.hd
  have nsl := img.len
  have plo : PlOk ns := ⟨r0, er, fun x hx => ⟨(hr0 x hx).1, by have := (hr0 x hx).2.1; omega, (hr0 x hx).2.2⟩⟩
  have trl := trap_len ls xs
  have l12 := lo.2.1
  have e12 := xo.1
  have lpos : ∀ c ∈ ls, 0 ≤ c := fun c h => (lo.2.2 c h).1
  obtain ⟨lawA, lawB⟩ := law_plain (nms := nms) img (by omega) lpos l12 e12 fu
  -- planted
  refine nxR (seqR (setR (consR (callR (varR (i := 10) rfl ⟨im, _, rfl, .inl (SqL.of him), fun p np => consR (varR (i := 5) rfl (consR (varR (i := 7) rfl ⟨((p, ns), (la, ls), (xa, xs)), rfl, ⟨⟨upd_same, plo, by show ns.length ≤ 1900000; omega⟩, ⟨by show (upd H8 p _) la = _; rw [upd_ne (ne_of_none la8 np)]; exact la8, lo⟩, by show (upd H8 p _) xa = _; rw [upd_ne (ne_of_none xa8 np)]; exact xa8, xo⟩, ?_⟩)))⟩)))))
  rintro v H9 ⟨ch, rfl, nch, hch, F9⟩
  have F9' := (((Fr.refl [] H8).new np).trans F9)
  have im9 := F9' _ _ him nl
  have la9 := F9' _ _ la8 nl
  have na9 := F9' _ _ na8 nl
  have xa9 := F9' _ _ xa8 nl
  clear F9' F9 nch np him la8 na8 xa8
  refine nxR (seqR (ifR (testR (opR (varR (i := 11) rfl (opR (varR (i := 10) rfl (consR (varR (i := 5) rfl (consR (varR (i := 7) rfl ⟨((la, ls), (xa, xs)), rfl, ⟨⟨la9, l12⟩, xa9, e12⟩, ?_⟩)))))))))))
  rintro v H10 ⟨tr, rfl, ntr, htr, F10⟩
  refine ⟨im, tr, _, _, rfl, rfl, F10 _ _ im9 nl, htr, ?_, fun p2 np2 => ?_⟩
  · rw [ivs_len, ivs_len, flat_len, flat_len]
    show 4 * ns.length + 4 * (trapN ls xs).length ≤ sizeLine
    exact line_le (by omega)
  have G10 : Fr [] H9 (upd H10 p2 (.lst (ivs (flat ns) ++ ivs (flat (trapN ls xs))))) := F10.new np2
  have p10 : (upd H10 p2 (.lst (ivs (flat ns) ++ ivs (flat (trapN ls xs))))) p2 = some (.lst (ivs (flat (ns ++ trapN ls xs)))) := by rw [upd_same, flat_app, ivs_app]
  have hch' : H9 ch = some (.lst (ivs (flat (ns ++ trapN ls xs)))) := hch
  refine ⟨_, _, dp_ivs (G10 _ _ hch' nl), dp_ivs p10, shaped_ints _, shaped_ints _, _, rfl, iteX ?_ ?_⟩
  · rw [eqv_ints, decide_eq_true rfl]; rfl
  have im11 := G10 _ _ im9 nl
  have ch11 := G10 _ _ hch' nl
  have la11 := G10 _ _ la9 nl
  have na11 := G10 _ _ na9 nl
  have xa11 := G10 _ _ xa9 nl
  generalize (upd H10 p2 (.lst (ivs (flat ns) ++ ivs (flat (trapN ls xs))))) = H11 at im11 ch11 la11 na11 xa11 ⊢
  clear G10 p10 np2 F10 htr ntr im9 la9 na9 xa9 hch hch'
  -- the first run
  refine nxR (seqR (setR (callNR (consR (varR (i := 10) rfl (consR (callR (varR (i := 4) rfl ⟨na, _, rfl, .inl (SqL.of na11), fun p np => nilR (consR (varR (i := 3) rfl ⟨rfl, rfl, (((im, ns), (p, nms)), fu), rfl, ⟨⟨by show (upd H11 p _) im = _; rw [upd_ne (ne_of_none im11 np)]; exact im11, by show ns.length ≤ 2000000; omega⟩, upd_same, by show fu ≤ 20000; omega⟩, ?_⟩))⟩))))))))
  rintro v H12 ⟨r1, o1, rfl, hr1, ho1, lo1, F12⟩
  have F12' := (((Fr.refl [] H11).new np).trans F12)
  have ch12 := F12' _ _ ch11 nl
  have la12 := F12' _ _ la11 nl
  have na12 := F12' _ _ na11 nl
  have xa12 := F12' _ _ xa11 nl
  clear F12' F12 np im11 ch11 la11 na11 xa11
  replace hr1 : H12 r1 = some (.tup [.bl (decide (tabOf ns (runN ⟨flat ns, nms, tabOf ns⟩ fu c0).1.at_ = none)), .ref o1, .int (runN ⟨flat ns, nms, tabOf ns⟩ fu c0).2]) := hr1
  replace ho1 : H12 o1 = some (.lst (ivs (runN ⟨flat ns, nms, tabOf ns⟩ fu c0).1.out)) := ho1
  replace lo1 : (runN ⟨flat ns, nms, tabOf ns⟩ fu c0).1.out.length ≤ 100000 := lo1
  have rle := runN_le ⟨flat ns, nms, tabOf ns⟩ fu c0
  generalize runN ⟨flat ns, nms, tabOf ns⟩ fu c0 = R1 at hr1 ho1 lo1 lawA lawB rle
  refine nxR (seqR (ifR (notR (tbR (consR (varR (i := 12) rfl ⟨((r1, o1), _, _, _), rfl, ⟨hr1, ho1⟩, ?_⟩))))))
  rintro v H13 ⟨rfl, rfl⟩
  refine ⟨_, rfl, iteX rfl ?_⟩
  refine nxR (seqR (ifR (notR (tbR (ixTR (i := 12) 0 rfl hr1 rfl rfl ⟨_, rfl, ?_⟩)))))
  by_cases e : tabOf ns R1.1.at_ = none
  · refine iteX (by rw [decide_eq_true e]; rfl) ?_
    obtain ⟨B1, B2⟩ := lawB e
    refine nxR (seqR (setR (callR (ixTR (i := 12) 1 rfl hr1 rfl rfl ⟨o1, _, rfl, .inl (SqL.of ho1), fun du nu => ?_⟩))))
    have F14 : Fr [] H13 (upd H13 du (.lst (ivs R1.1.out))) := (Fr.refl _ _).new nu
    have du14 : (upd H13 du (.lst (ivs R1.1.out))) du = some (.lst (ivs R1.1.out)) := upd_same
    have ch14 := F14 _ _ ch12 nl
    have na14 := F14 _ _ na12 nl
    have la14 := F14 _ _ la12 nl
    have xa14 := F14 _ _ xa12 nl
    have r14 := F14 _ _ hr1 nl
    generalize (upd H13 du (.lst (ivs R1.1.out))) = H14 at du14 ch14 na14 la14 xa14 r14 ⊢
    refine nxR (seqJ (fun σ' H' => ∃ (du : Addr) (x0 x1 x2 x3 x5 x6 x7 x8 x9 x10 x14 x15 x16 x17 : Option V), σ' = [x0, x1, x2, x3, some (.ref na), x5, x6, x7, x8, x9, x10, some (.ref ch), some (.ref r1), some (.ref du), x14, x15, x16, x17] ∧ H' du = some (.lst (ivs (R1.1.out ++ (if nms.take ls.length = ls then xs ++ flat (trapN ls xs) else [])))) ∧ H' ch = some (.lst (ivs (flat (ns ++ trapN ls xs)))) ∧ H' na = some (.lst (ivs nms)) ∧ H' r1 = some (.tup [.bl (decide (tabOf ns R1.1.at_ = none)), .ref o1, .int R1.2])) ?_ ?_)
    rotate_left
    · intro J
      refine ifR (testR (opR (slR (varR (i := 4) rfl (noPartR (partR (callR (varR (i := 5) rfl ⟨la, _, rfl, .inl (SqL.of la14), _, rfl, na, _, rfl, SqL.of na14, fun p np => ?_⟩))))))))
      rw [ivs_len, cut_take]
      have F15 : Fr [] H14 (upd H14 p (.lst (ivs (nms.take ls.length)))) := (Fr.refl _ _).new np
      have p15 : (upd H14 p (.lst (ivs (nms.take ls.length)))) p = some (.lst (ivs (nms.take ls.length))) := upd_same
      have du15 := F15 _ _ du14 nl
      have ch15 := F15 _ _ ch14 nl
      have na15 := F15 _ _ na14 nl
      have la15 := F15 _ _ la14 nl
      have xa15 := F15 _ _ xa14 nl
      have r15 := F15 _ _ r14 nl
      generalize (upd H14 p (.lst (ivs (nms.take ls.length)))) = H15 at p15 du15 ch15 na15 la15 xa15 r15 ⊢
      refine varR (i := 5) rfl ⟨_, _, dp_ivs p15, dp_ivs la15, shaped_ints _, shaped_ints _, _, rfl, ?_⟩
      rw [eqv_ints]
      refine ite2 (fun q => ?_) (fun q => ?_)
      · have q1 : nms.take ls.length = ls := of_decide_eq_true q
        refine setR (opR (opR (varR (i := 13) rfl (varR (i := 7) rfl ⟨du, xa, _, _, rfl, rfl, du15, xa15, by rw [ivs_len, ivs_len]; exact line_le (by omega), fun p2 np2 => ?_⟩))))
        have F16 : Fr [] H15 (upd H15 p2 (.lst (ivs R1.1.out ++ ivs xs))) := (Fr.refl _ _).new np2
        have p16 : (upd H15 p2 (.lst (ivs R1.1.out ++ ivs xs))) p2 = some (.lst (ivs R1.1.out ++ ivs xs)) := upd_same
        generalize (upd H15 p2 (.lst (ivs R1.1.out ++ ivs xs))) = H16 at F16 p16 ⊢
        refine consR (varR (i := 5) rfl (consR (varR (i := 7) rfl ⟨((la, ls), (xa, xs)), rfl, ⟨⟨F16 _ _ la15 nl, l12⟩, F16 _ _ xa15 nl, e12⟩, ?_⟩)))
        rintro v H17 ⟨tr, rfl, ntr, htr, F17⟩
        refine ⟨p2, tr, _, _, rfl, rfl, F17 _ _ p16 nl, htr, ?_, fun p3 np3 => ?_⟩
        · rw [List.length_append, ivs_len, ivs_len, ivs_len, flat_len]
          show R1.1.out.length + xs.length + 4 * (trapN ls xs).length ≤ sizeLine
          exact line_le (by omega)
        have F18 := (F16.trans F17).new (o := .lst (ivs R1.1.out ++ ivs xs ++ ivs (flat (trapN ls xs)))) np3
        refine J _ _ ⟨p3, _, _, _, _, _, _, _, _, _, _, _, _, _, _, rfl, ?_, F18 _ _ ch15 nl, F18 _ _ na15 nl, F18 _ _ r15 nl⟩
        rw [upd_same, if_pos q1, ivs_app, ivs_app, List.append_assoc]
      · have q1 : ¬ nms.take ls.length = ls := fun z => q (decide_eq_true z)
        refine nxR (J _ _ ⟨du, _, _, _, _, _, _, _, _, _, _, _, _, _, _, rfl, ?_, ch15, na15, r15⟩)
        rw [if_neg q1, List.append_nil]
        exact du15
    clear r14 xa14 la14 na14 ch14 du14 F14 nu
    rintro σ H15 ⟨du, x0, x1, x2, x3, x5, x6, x7, x8, x9, x10, x14, x15, x16, x17, rfl, hdu, hch, hna, hr⟩
    refine seqR (setR (callNR (consR (varR (i := 11) rfl (consR (callR (varR (i := 4) rfl ⟨na, _, rfl, .inl (SqL.of hna), fun p np => nilR (consR (opR (ixTR (i := 12) 2 rfl (by rw [upd_ne (ne_of_none hr np)]; exact hr) rfl rfl (cR ⟨_, _, rfl, rfl, rfl, rfl, (((ch, ns ++ trapN ls xs), (p, nms)), R1.2 + 6000), rfl, ⟨⟨by show (upd H15 p _) ch = _; rw [upd_ne (ne_of_none hch np)]; exact hch, by show (ns ++ trapN ls xs).length ≤ 2000000; rw [List.length_append]; omega⟩, upd_same, by show R1.2 + 6000 ≤ 20000; omega⟩, ?_⟩))))⟩)))))))
    rintro v H16 ⟨r2, o2, rfl, hr2, ho2, lo2, F16⟩
    have F16' := (((Fr.refl [] H15).new np).trans F16)
    have du16 := F16' _ _ hdu nl
    replace hr2 : H16 r2 = some (.tup [.bl (decide (tabOf (ns ++ trapN ls xs) (runN ⟨flat (ns ++ trapN ls xs), nms, tabOf (ns ++ trapN ls xs)⟩ (R1.2 + 6000) c0).1.at_ = none)), .ref o2, .int (runN ⟨flat (ns ++ trapN ls xs), nms, tabOf (ns ++ trapN ls xs)⟩ (R1.2 + 6000) c0).2]) := hr2
    replace ho2 : H16 o2 = some (.lst (ivs (runN ⟨flat (ns ++ trapN ls xs), nms, tabOf (ns ++ trapN ls xs)⟩ (R1.2 + 6000) c0).1.out)) := ho2
    generalize runN ⟨flat (ns ++ trapN ls xs), nms, tabOf (ns ++ trapN ls xs)⟩ (R1.2 + 6000) c0 = R2 at hr2 ho2 B1 B2
    refine nxR (retR (aVR (consR (varR (i := 14) rfl ⟨((r2, o2), _, _, _), rfl, ⟨hr2, ho2⟩, ?_⟩))))
    rintro v H17 ⟨rfl, rfl⟩
    refine ⟨_, rfl, iteT (aVR (ixTR (i := 14) 0 rfl hr2 rfl rfl ⟨_, rfl, iteY (decide_eq_true B1) ?_⟩))⟩
    refine opR (ixTR (i := 14) 1 rfl hr2 rfl rfl (varR (i := 13) rfl ⟨_, _, dp_ivs ho2, dp_ivs du16, shaped_ints _, shaped_ints _, k _ _ ?_⟩))
    rw [eqv_ints, B2]
    exact congrArg V.bl (decide_eq_true rfl)
  · refine iteY (by rw [decide_eq_false e]; rfl) ?_
    obtain ⟨A1, A2, A3⟩ := lawA e
    refine seqR (setR (callNR (consR (varR (i := 11) rfl (consR (callR (varR (i := 4) rfl ⟨na, _, rfl, .inl (SqL.of na12), fun p np => nilR (consR (opR (varR (i := 3) rfl (cR ⟨_, _, rfl, rfl, rfl, rfl, (((ch, ns ++ trapN ls xs), (p, nms)), fu + 2), rfl, ⟨⟨by show (upd H13 p _) ch = _; rw [upd_ne (ne_of_none ch12 np)]; exact ch12, by show (ns ++ trapN ls xs).length ≤ 2000000; rw [List.length_append]; omega⟩, upd_same, by show fu + 2 ≤ 20000; omega⟩, ?_⟩))))⟩)))))))
    rintro v H14 ⟨r2, o2, rfl, hr2, ho2, lo2, F14⟩
    have F14' := (((Fr.refl [] H13).new np).trans F14)
    have r14 := F14' _ _ hr1 nl
    have o14 := F14' _ _ ho1 nl
    replace hr2 : H14 r2 = some (.tup [.bl (decide (tabOf (ns ++ trapN ls xs) (runN ⟨flat (ns ++ trapN ls xs), nms, tabOf (ns ++ trapN ls xs)⟩ (fu + 2) c0).1.at_ = none)), .ref o2, .int (runN ⟨flat (ns ++ trapN ls xs), nms, tabOf (ns ++ trapN ls xs)⟩ (fu + 2) c0).2]) := hr2
    replace ho2 : H14 o2 = some (.lst (ivs (runN ⟨flat (ns ++ trapN ls xs), nms, tabOf (ns ++ trapN ls xs)⟩ (fu + 2) c0).1.out)) := ho2
    generalize runN ⟨flat (ns ++ trapN ls xs), nms, tabOf (ns ++ trapN ls xs)⟩ (fu + 2) c0 = R2 at hr2 ho2 A1 A2 A3
    refine nxR (retR (aVR (consR (varR (i := 14) rfl ⟨((r2, o2), _, _, _), rfl, ⟨hr2, ho2⟩, ?_⟩))))
    rintro v H15 ⟨rfl, rfl⟩
    refine ⟨_, rfl, iteT (aVR (notVR (ixTR (i := 14) 0 rfl hr2 rfl rfl ⟨_, rfl, _, rfl, iteY (by rw [decide_eq_false A3]; rfl) ?_⟩)))⟩
    refine aVR (opR (ixTR (i := 14) 1 rfl hr2 rfl rfl (ixTR (i := 12) 1 rfl r14 rfl rfl ⟨_, _, dp_ivs ho2, dp_ivs o14, shaped_ints _, shaped_ints _, _, rfl, iteY (by rw [eqv_ints, A1]; exact decide_eq_true rfl) ?_⟩)))
    refine opR (ixTR (i := 14) 2 rfl hr2 rfl rfl (opR (varR (i := 3) rfl (cR ⟨_, _, rfl, rfl, rfl, k _ _ ?_⟩))))
    rw [A2]
    exact congrArg V.bl (decide_eq_true rfl)
end
end Pk
open PySem PySem.W PySem.Calls PyProof.Rows
theorem PySem.Challenge.cw_plinth_k62_whole_planted_images_run_alik_holds : PySem.Challenge.rw_plinth_k62_whole_planted_images_run_alik.Holds := by
  w_on; o_law
  refine HandSHeadRun.head_any (r := OpenLaw.row PySem.Challenge.rw_plinth_k62_whole_planted_images_run_alik) (q := view (OpenLaw.row PySem.Challenge.rw_plinth_k62_whole_planted_images_run_alik).prog [Pk.lawAt]) (H := Pk.hk) (ob := Pk.ob) (M := 6000) (loose := Pk.namesL)
    (d := HandSHeadRun.topDef (OpenLaw.row PySem.Challenge.rw_plinth_k62_whole_planted_images_run_alik).prog Pk.lawAt) (kwd := []) Pk.ob_eq
    (by kernel_rfl) (fun s => by kernel_rfl) Pk.head_run (by kernel_rfl) (by kernel_rfl) (by kernel_rfl) (by rfl) (by first | assumption | decide +kernel) (by decide +kernel) ⟨rfl, rfl, rfl, rfl, rfl, by decide +kernel⟩ ?hw ?hc
  case hw => w_witness2
  case hc =>
    refine L2.walk_ofE (l := PySem.Challenge.rw_plinth_k62_whole_planted_images_run_alik) (n := 63) (k := 12) (x := "_law_script") (CX := L2.CX0) rfl (by decide) (by kernel_rfl) ⟨rfl, by decide, by decide⟩ ?F (fun _ _ _ _ z => z)
    intro w mg fa h Y G hmg0
    obtain ⟨K, KX, c⟩ := Y
    have T : Pk.Txt w K mg := ⟨c.t.d, ⟨h, KX, G⟩, c.more⟩
    have hmg : mg ("law" : PySem.Str) = some (.ref fa) := by
      have e : (HandSHeadRun.topDef (OpenLaw.row PySem.Challenge.rw_plinth_k62_whole_planted_images_run_alik).prog Pk.lawAt).name = ("law" : PySem.Str) := by kernel_rfl
      rw [← e]
      exact hmg0
    have e := hmg.symm.trans (Pk.g_law T)
    cases e
    obtain ⟨fd, F⟩ := Pk.fd_law T
    have b := L2.FunD.bindsA (ps := ["_law_script"]) F fun _ _ _ _ _ _ us hl => match us, hl with | [_], _ => rfl
    refine ⟨K, fd, Pk.sp_law K, KX, fun s u => b s [u] rfl, fun H a ns hl _ hS => ⟨(a, ns), rfl, ⟨hS, hl⟩, fun v H' e => e⟩, fun base _ _ => Pk.ok_law T F⟩
