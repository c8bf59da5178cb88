import PyProof.Rows.All
import Wide.All
import OpenK.AllK
import Wide.FinOn
import HandS.ForMost
import HandS.Star
import HandS.ClsMeth
import HandS.Property
import HandS.OwnEq
import HandS.IsInst
import HandS.HeadHook1
import HandS.HeadHook2
import HandS.HeadHook3
import HandS.HeadNt
import PySem.Challenge.RW_loginstacks_k65_whole_edits_and_back
import HandS.Head0
import HandS.Head1
import HandS.Head2
import KE.KStateDown
import KE.KWithOwn
import HandS.Strs
import HandS.SetFor
import HandS.SetTxt0
import HandS.TupLen
import KE.KDictList
import KE.KDictMeth
import KE.GoesEnum
import KE.GoesZip
import KE.GoesMore
import HandS.Walk
import HandS.Conv
import HandS.Words
import HandS.WordsList
import HandS.Text
import HandS.TupAny
import HandS.More
import HandS.Replace
import HandS.FStr
import HandS.Deep
import HandS.RaiseMore
import HandS.NoneIn
import HandS.HeadEnd
set_option Elab.async false
set_option linter.all false
set_option maxRecDepth 100000
set_option maxHeartbeats 4000000
/-! the text by places; what of the written part the walks lean on -/
namespace Ls
open PySem PySem.Spec PyProof.Rows L2
def top (i : Nat) : Stmt := PySem.Challenge.pw_loginstacks_k65_whole_edits_and_back.main.body.getD i (.Pass ⟨0, 0, 0, 0⟩)

abbrev s_is_number : Stmt := top 33
abbrev s_is_word : Stmt := top 34
abbrev s_is_action : Stmt := top 35
abbrev s_table_of : Stmt := top 36
abbrev s_steps_of : Stmt := top 44
abbrev s_firsts_of : Stmt := top 45
abbrev s_marked : Stmt := top 52
abbrev s_all_answers : Stmt := top 55
abbrev s_outcomes : Stmt := top 56
abbrev s_both_outcomes : Stmt := top 59
abbrev s_first_difference : Stmt := top 60
abbrev s_alike : Stmt := top 61
abbrev s_is_operation : Stmt := top 69
abbrev s_with_control : Stmt := top 70
abbrev s_copied : Stmt := top 72
abbrev s_checksum : Stmt := top 82
abbrev s_action_item : Stmt := top 83
abbrev s_rule_items : Stmt := top 84
abbrev s_stack_items : Stmt := top 85
abbrev s_encode_stack : Stmt := top 86
abbrev s_made_stack_codec : Stmt := top 88
abbrev s_decode_stack : Stmt := top 90
abbrev s_control_word : Stmt := top 95
abbrev s_stack_rows : Stmt := top 96
abbrev s_format_stack : Stmt := top 97
abbrev s_read_action : Stmt := top 98
abbrev s_read_control : Stmt := top 99
abbrev s_read_rule : Stmt := top 101
abbrev s_read_parts : Stmt := top 102
abbrev s_made_stack_notation : Stmt := top 103
abbrev s_parse_stack : Stmt := top 105
abbrev s_law_taken : Stmt := top 107
abbrev s_law_control : Stmt := top 108
abbrev s_law_stack : Stmt := top 109
abbrev s_law_names : Stmt := top 110
abbrev s_law_edits : Stmt := top 111
abbrev s_law : Stmt := top 112
abbrev cRule (K : PySem.W.Frag) : Addr := He.ga K "Rule"
abbrev s_Rule_init : Stmt := inClass (top 37) 0
abbrev a_Rule_init (K : PySem.W.Frag) : Addr := He.ma K (cRule K) "__init__"
abbrev s_Rule_eq : Stmt := inClass (top 37) 4
abbrev a_Rule_eq (K : PySem.W.Frag) : Addr := He.ma K (cRule K) "__eq__"
abbrev s_Rule_action_for : Stmt := inClass (top 37) 5
abbrev a_Rule_action_for (K : PySem.W.Frag) : Addr := He.ma K (cRule K) "action_for"
abbrev s_Rule_module : Stmt := inClass (top 37) 1
abbrev a_Rule_module (K : PySem.W.Frag) : Addr := He5.wf K (cRule K) "property" "module"
abbrev s_Rule_control : Stmt := inClass (top 37) 2
abbrev a_Rule_control (K : PySem.W.Frag) : Addr := He5.wf K (cRule K) "property" "control"
abbrev s_Rule_kind : Stmt := inClass (top 37) 3
abbrev a_Rule_kind (K : PySem.W.Frag) : Addr := He5.wf K (cRule K) "property" "kind"
abbrev cStack (K : PySem.W.Frag) : Addr := He.ga K "Stack"
abbrev s_Stack_init : Stmt := inClass (top 43) 0
abbrev a_Stack_init (K : PySem.W.Frag) : Addr := He.ma K (cStack K) "__init__"
abbrev s_Stack_len : Stmt := inClass (top 43) 4
abbrev a_Stack_len (K : PySem.W.Frag) : Addr := He.ma K (cStack K) "__len__"
abbrev s_Stack_getitem : Stmt := inClass (top 43) 5
abbrev a_Stack_getitem (K : PySem.W.Frag) : Addr := He.ma K (cStack K) "__getitem__"
abbrev s_Stack_add : Stmt := inClass (top 43) 7
abbrev a_Stack_add (K : PySem.W.Frag) : Addr := He.ma K (cStack K) "__add__"
abbrev s_Stack_eq : Stmt := inClass (top 43) 8
abbrev a_Stack_eq (K : PySem.W.Frag) : Addr := He.ma K (cStack K) "__eq__"
abbrev s_Stack_spliced : Stmt := inClass (top 43) 10
abbrev a_Stack_spliced (K : PySem.W.Frag) : Addr := He.ma K (cStack K) "spliced"
abbrev s_Stack_entries : Stmt := inClass (top 43) 1
abbrev a_Stack_entries (K : PySem.W.Frag) : Addr := He5.wf K (cStack K) "property" "entries"
abbrev s_Stack_rules : Stmt := inClass (top 43) 2
abbrev a_Stack_rules (K : PySem.W.Frag) : Addr := He5.wf K (cStack K) "property" "rules"
abbrev s_Stack_modules : Stmt := inClass (top 43) 3
abbrev a_Stack_modules (K : PySem.W.Frag) : Addr := He5.wf K (cStack K) "property" "modules"
abbrev cRun (K : PySem.W.Frag) : Addr := He.ga K "Run"
abbrev s_Run_init : Stmt := inClass (top 51) 0
abbrev a_Run_init (K : PySem.W.Frag) : Addr := He.ma K (cRun K) "__init__"
abbrev s_Run_ended : Stmt := inClass (top 51) 1
abbrev a_Run_ended (K : PySem.W.Frag) : Addr := He.ma K (cRun K) "ended"
abbrev s_Run_outcome : Stmt := inClass (top 51) 2
abbrev a_Run_outcome (K : PySem.W.Frag) : Addr := He.ma K (cRun K) "outcome"
abbrev cState (K : PySem.W.Frag) : Addr := He.ga K "State"
abbrev s_State_init : Stmt := inClass (top 71) 1
abbrev a_State_init (K : PySem.W.Frag) : Addr := He.ma K (cState K) "__init__"
abbrev s_State_kept : Stmt := inClass (top 71) 2
abbrev a_State_kept (K : PySem.W.Frag) : Addr := He.ma K (cState K) "kept"
abbrev s_State_copied : Stmt := inClass (top 71) 3
abbrev a_State_copied (K : PySem.W.Frag) : Addr := He.ma K (cState K) "copied"
abbrev s_State_go_on : Stmt := inClass (top 71) 4
abbrev a_State_go_on (K : PySem.W.Frag) : Addr := He.ma K (cState K) "go_on"
abbrev cRegister (K : PySem.W.Frag) : Addr := He.ga K "Register"
abbrev s_Register_init : Stmt := inClass (top 73) 0
abbrev a_Register_init (K : PySem.W.Frag) : Addr := He.ma K (cRegister K) "__init__"
abbrev s_Register_stack : Stmt := inClass (top 73) 5
abbrev a_Register_stack (K : PySem.W.Frag) : Addr := He.ma K (cRegister K) "stack"
abbrev s_Register_enter : Stmt := inClass (top 73) 6
abbrev a_Register_enter (K : PySem.W.Frag) : Addr := He.ma K (cRegister K) "enter"
abbrev s_Register_edit : Stmt := inClass (top 73) 7
abbrev a_Register_edit (K : PySem.W.Frag) : Addr := He.ma K (cRegister K) "edit"
abbrev s_Register_need_entries : Stmt := inClass (top 73) 8
abbrev a_Register_need_entries (K : PySem.W.Frag) : Addr := He.ma K (cRegister K) "need_entries"
abbrev s_Register_put : Stmt := inClass (top 73) 9
abbrev a_Register_put (K : PySem.W.Frag) : Addr := He.ma K (cRegister K) "put"
abbrev s_Register_take : Stmt := inClass (top 73) 10
abbrev a_Register_take (K : PySem.W.Frag) : Addr := He.ma K (cRegister K) "take"
abbrev s_Register_swap : Stmt := inClass (top 73) 11
abbrev a_Register_swap (K : PySem.W.Frag) : Addr := He.ma K (cRegister K) "swap"
abbrev s_Register_turn : Stmt := inClass (top 73) 12
abbrev a_Register_turn (K : PySem.W.Frag) : Addr := He.ma K (cRegister K) "turn"
abbrev s_Register_execute : Stmt := inClass (top 73) 18
abbrev a_Register_execute (K : PySem.W.Frag) : Addr := He.ma K (cRegister K) "execute"
abbrev s_Register_apply_all : Stmt := inClass (top 73) 19
abbrev a_Register_apply_all (K : PySem.W.Frag) : Addr := He.ma K (cRegister K) "apply_all"
abbrev s_Register_history : Stmt := inClass (top 73) 4
abbrev a_Register_history (K : PySem.W.Frag) : Addr := He5.wf K (cRegister K) "property" "history"
abbrev cTrial (K : PySem.W.Frag) : Addr := He.ga K "Trial"
abbrev s_Trial_init : Stmt := inClass (top 74) 0
abbrev a_Trial_init (K : PySem.W.Frag) : Addr := He.ma K (cTrial K) "__init__"
abbrev s_Trial_hold : Stmt := inClass (top 74) 1
abbrev a_Trial_hold (K : PySem.W.Frag) : Addr := He.ma K (cTrial K) "hold"
abbrev s_Trial_enter : Stmt := inClass (top 74) 2
abbrev a_Trial_enter (K : PySem.W.Frag) : Addr := He.ma K (cTrial K) "__enter__"
abbrev s_Trial_exit : Stmt := inClass (top 74) 3
abbrev a_Trial_exit (K : PySem.W.Frag) : Addr := He.ma K (cTrial K) "__exit__"
abbrev cReader (K : PySem.W.Frag) : Addr := He.ga K "Reader"
abbrev s_Reader_init : Stmt := inClass (top 87) 0
abbrev a_Reader_init (K : PySem.W.Frag) : Addr := He.ma K (cReader K) "__init__"
abbrev s_Reader_item : Stmt := inClass (top 87) 1
abbrev a_Reader_item (K : PySem.W.Frag) : Addr := He.ma K (cReader K) "item"
abbrev s_Reader_read_rule : Stmt := inClass (top 87) 2
abbrev a_Reader_read_rule (K : PySem.W.Frag) : Addr := He.ma K (cReader K) "read_rule"
abbrev s_Reader_read_parts : Stmt := inClass (top 87) 3
abbrev a_Reader_read_parts (K : PySem.W.Frag) : Addr := He.ma K (cReader K) "read_parts"
abbrev s_Reader_finish : Stmt := inClass (top 87) 4
abbrev a_Reader_finish (K : PySem.W.Frag) : Addr := He.ma K (cReader K) "finish"
abbrev cRows (K : PySem.W.Frag) : Addr := He.ga K "Rows"
abbrev s_Rows_init : Stmt := inClass (top 100) 0
abbrev a_Rows_init (K : PySem.W.Frag) : Addr := He.ma K (cRows K) "__init__"
abbrev s_Rows_next_words : Stmt := inClass (top 100) 1
abbrev a_Rows_next_words (K : PySem.W.Frag) : Addr := He.ma K (cRows K) "next_words"
abbrev s_Rows_need_size : Stmt := inClass (top 100) 3
abbrev a_Rows_need_size (K : PySem.W.Frag) : Addr := He.ma K (cRows K) "need_size"
abbrev s_Register_replay : Stmt := inClass (top 73) 1
abbrev a_Register_replay (K : PySem.W.Frag) : Addr := He5.wf K (cRegister K) "classmethod" "replay"
def Fal0 : List He.Fa := [.glo "is_number", .glo "is_word", .glo "is_action", .glo "table_of", .glo "steps_of", .glo "firsts_of", .glo "marked", .glo "all_answers", .glo "outcomes", .glo "both_outcomes"]
def Fal1 : List He.Fa := [.glo "first_difference", .glo "alike", .glo "is_operation", .glo "with_control", .glo "copied", .glo "checksum", .glo "action_item", .glo "rule_items", .glo "stack_items", .glo "encode_stack"]
def Fal2 : List He.Fa := [.glo "made_stack_codec", .glo "decode_stack", .glo "control_word", .glo "stack_rows", .glo "format_stack", .glo "read_action", .glo "read_control", .glo "read_rule", .glo "read_parts", .glo "made_stack_notation"]
def Fal3 : List He.Fa := [.glo "parse_stack", .glo "_law_taken", .glo "_law_control", .glo "_law_stack", .glo "_law_names", .glo "_law_edits", .glo "law", .glo "Rule", .cls "Rule", .mkr "Rule"]
def Fal4 : List He.Fa := [.noat "Rule" "asks", .noat "Rule" "acts", .meth "Rule" "__init__", .meth "Rule" "__eq__", .meth "Rule" "action_for", .glo "Stack", .cls "Stack", .mkr "Stack", .noat "Stack" "parts", .noat "Stack" "steps"]
def Fal5 : List He.Fa := [.noat "Stack" "names", .noat "Stack" "depth", .meth "Stack" "__init__", .meth "Stack" "__len__", .meth "Stack" "__getitem__", .meth "Stack" "__add__", .meth "Stack" "__eq__", .meth "Stack" "spliced", .glo "Run", .cls "Run"]
def Fal6 : List He.Fa := [.mkr "Run", .noat "Run" "told", .noat "Run" "asked_rules", .noat "Run" "mark", .meth "Run" "__init__", .meth "Run" "ended", .meth "Run" "outcome", .glo "State", .mkr "State", .meth "State" "__init__"]
def Fal7 : List He.Fa := [.meth "State" "kept", .meth "State" "copied", .meth "State" "go_on", .glo "Register", .cls "Register", .mkr "Register", .noat "Register" "state", .meth "Register" "__init__", .meth "Register" "stack", .meth "Register" "enter"]
def Fal8 : List He.Fa := [.meth "Register" "edit", .meth "Register" "need_entries", .meth "Register" "put", .meth "Register" "take", .meth "Register" "swap", .meth "Register" "turn", .meth "Register" "execute", .meth "Register" "apply_all", .glo "Trial", .cls "Trial"]
def Fal9 : List He.Fa := [.mkr "Trial", .noat "Trial" "tested_desk", .noat "Trial" "base", .noat "Trial" "fresh", .noat "Trial" "chosen", .meth "Trial" "__init__", .meth "Trial" "hold", .meth "Trial" "__enter__", .meth "Trial" "__exit__", .glo "Reader"]
def Fal10 : List He.Fa := [.cls "Reader", .mkr "Reader", .noat "Reader" "data", .noat "Reader" "offset", .meth "Reader" "__init__", .meth "Reader" "item", .meth "Reader" "read_rule", .meth "Reader" "read_parts", .meth "Reader" "finish", .glo "Rows"]
def Fal11 : List He.Fa := [.cls "Rows", .mkr "Rows", .noat "Rows" "lines", .noat "Rows" "number", .meth "Rows" "__init__", .meth "Rows" "next_words", .meth "Rows" "need_size", .free "isinstance", .free "int", .free "bool"]
def Fal12 : List He.Fa := [.free "str", .free "len", .free "all", .free "list", .free "tuple", .free "set", .free "sorted", .free "enumerate", .free "max", .free "zip"]
def Fal13 : List He.Fa := [.free "range", .str "YES" "yes", .str "NO" "no", .str "SKIP" "skip", .str "GONE" "gone", .str "OK" "ok", .str "BAD" "bad", .str "DIE" "die", .str "DONE" "done", .str "IGNORE" "ignore"]
def Fal14 : List He.Fa := [.str "RESET" "reset", .str "LETTERS" "abcdefghijklmnopqrstuvwxyz", .str "IN" "in", .str "OUT" "out", .str "BEGIN" "begin", .str "END" "end", .str "JUMPS" "123456789", .int "MOST_JUMP" 9, .int "MOST_LETTERS" 8, .int "MOST_ENTRIES" 12]
def Fal15 : List He.Fa := [.int "MOST_RULES" 12, .int "MOST_MODULES" 6, .int "MOST_DEPTH" 3, .int "FIRST" 83, .int "STACK" 0, .int "RULE" 1, .int "CHECK_START" 5, .int "CHECK_TIMES" 9, .int "CHECK_REST" 251, .glo "RESULTS"]
def Fal16 : List He.Fa := [.glo "ACTIONS", .glo "NONE", .glo "GOOD", .glo "KINDS", .glo "SIZES"]
/-- a def of the text: where it stands, its name, its qualified name, its statement -/
structure Dn where
  at_ : PySem.W.Frag → Addr
  name : Str
  qual : Str
  st : Stmt
def Dnl0 : List Dn := [⟨fun K => He.ga K "is_number", "is_number", "is_number", s_is_number⟩, ⟨fun K => He.ga K "is_word", "is_word", "is_word", s_is_word⟩, ⟨fun K => He.ga K "is_action", "is_action", "is_action", s_is_action⟩, ⟨fun K => He.ga K "table_of", "table_of", "table_of", s_table_of⟩, ⟨fun K => He.ga K "steps_of", "steps_of", "steps_of", s_steps_of⟩, ⟨fun K => He.ga K "firsts_of", "firsts_of", "firsts_of", s_firsts_of⟩, ⟨fun K => He.ga K "marked", "marked", "marked", s_marked⟩, ⟨fun K => He.ga K "all_answers", "all_answers", "all_answers", s_all_answers⟩, ⟨fun K => He.ga K "outcomes", "outcomes", "outcomes", s_outcomes⟩, ⟨fun K => He.ga K "both_outcomes", "both_outcomes", "both_outcomes", s_both_outcomes⟩]
def Dnl1 : List Dn := [⟨fun K => He.ga K "first_difference", "first_difference", "first_difference", s_first_difference⟩, ⟨fun K => He.ga K "alike", "alike", "alike", s_alike⟩, ⟨fun K => He.ga K "is_operation", "is_operation", "is_operation", s_is_operation⟩, ⟨fun K => He.ga K "with_control", "with_control", "with_control", s_with_control⟩, ⟨fun K => He.ga K "copied", "copied", "copied", s_copied⟩, ⟨fun K => He.ga K "checksum", "checksum", "checksum", s_checksum⟩, ⟨fun K => He.ga K "action_item", "action_item", "action_item", s_action_item⟩, ⟨fun K => He.ga K "rule_items", "rule_items", "rule_items", s_rule_items⟩, ⟨fun K => He.ga K "stack_items", "stack_items", "stack_items", s_stack_items⟩, ⟨fun K => He.ga K "encode_stack", "encode_stack", "encode_stack", s_encode_stack⟩]
def Dnl2 : List Dn := [⟨fun K => He.ga K "made_stack_codec", "made_stack", "made_stack", s_made_stack_codec⟩, ⟨fun K => He.ga K "decode_stack", "decode_stack", "decode_stack", s_decode_stack⟩, ⟨fun K => He.ga K "control_word", "control_word", "control_word", s_control_word⟩, ⟨fun K => He.ga K "stack_rows", "stack_rows", "stack_rows", s_stack_rows⟩, ⟨fun K => He.ga K "format_stack", "format_stack", "format_stack", s_format_stack⟩, ⟨fun K => He.ga K "read_action", "read_action", "read_action", s_read_action⟩, ⟨fun K => He.ga K "read_control", "read_control", "read_control", s_read_control⟩, ⟨fun K => He.ga K "read_rule", "read_rule", "read_rule", s_read_rule⟩, ⟨fun K => He.ga K "read_parts", "read_parts", "read_parts", s_read_parts⟩, ⟨fun K => He.ga K "made_stack_notation", "made_stack", "made_stack", s_made_stack_notation⟩]
def Dnl3 : List Dn := [⟨fun K => He.ga K "parse_stack", "parse_stack", "parse_stack", s_parse_stack⟩, ⟨fun K => He.ga K "_law_taken", "_law_taken", "_law_taken", s_law_taken⟩, ⟨fun K => He.ga K "_law_control", "_law_control", "_law_control", s_law_control⟩, ⟨fun K => He.ga K "_law_stack", "_law_stack", "_law_stack", s_law_stack⟩, ⟨fun K => He.ga K "_law_names", "_law_names", "_law_names", s_law_names⟩, ⟨fun K => He.ga K "_law_edits", "_law_edits", "_law_edits", s_law_edits⟩, ⟨fun K => He.ga K "law", "law", "law", s_law⟩, ⟨fun K => a_Rule_init K, "__init__", "Rule.__init__", s_Rule_init⟩, ⟨fun K => a_Rule_eq K, "__eq__", "Rule.__eq__", s_Rule_eq⟩, ⟨fun K => a_Rule_action_for K, "action_for", "Rule.action_for", s_Rule_action_for⟩]
def Dnl4 : List Dn := [⟨fun K => a_Rule_module K, "module", "Rule.module", s_Rule_module⟩, ⟨fun K => a_Rule_control K, "control", "Rule.control", s_Rule_control⟩, ⟨fun K => a_Rule_kind K, "kind", "Rule.kind", s_Rule_kind⟩, ⟨fun K => a_Stack_init K, "__init__", "Stack.__init__", s_Stack_init⟩, ⟨fun K => a_Stack_len K, "__len__", "Stack.__len__", s_Stack_len⟩, ⟨fun K => a_Stack_getitem K, "__getitem__", "Stack.__getitem__", s_Stack_getitem⟩, ⟨fun K => a_Stack_add K, "__add__", "Stack.__add__", s_Stack_add⟩, ⟨fun K => a_Stack_eq K, "__eq__", "Stack.__eq__", s_Stack_eq⟩, ⟨fun K => a_Stack_spliced K, "spliced", "Stack.spliced", s_Stack_spliced⟩, ⟨fun K => a_Stack_entries K, "entries", "Stack.entries", s_Stack_entries⟩]
def Dnl5 : List Dn := [⟨fun K => a_Stack_rules K, "rules", "Stack.rules", s_Stack_rules⟩, ⟨fun K => a_Stack_modules K, "modules", "Stack.modules", s_Stack_modules⟩, ⟨fun K => a_Run_init K, "__init__", "Run.__init__", s_Run_init⟩, ⟨fun K => a_Run_ended K, "ended", "Run.ended", s_Run_ended⟩, ⟨fun K => a_Run_outcome K, "outcome", "Run.outcome", s_Run_outcome⟩, ⟨fun K => a_State_init K, "__init__", "State.__init__", s_State_init⟩, ⟨fun K => a_State_kept K, "kept", "State.kept", s_State_kept⟩, ⟨fun K => a_State_copied K, "copied", "State.copied", s_State_copied⟩, ⟨fun K => a_State_go_on K, "go_on", "State.go_on", s_State_go_on⟩, ⟨fun K => a_Register_init K, "__init__", "Register.__init__", s_Register_init⟩]
def Dnl6 : List Dn := [⟨fun K => a_Register_stack K, "stack", "Register.stack", s_Register_stack⟩, ⟨fun K => a_Register_enter K, "enter", "Register.enter", s_Register_enter⟩, ⟨fun K => a_Register_edit K, "edit", "Register.edit", s_Register_edit⟩, ⟨fun K => a_Register_need_entries K, "need_entries", "Register.need_entries", s_Register_need_entries⟩, ⟨fun K => a_Register_put K, "put", "Register.put", s_Register_put⟩, ⟨fun K => a_Register_take K, "take", "Register.take", s_Register_take⟩, ⟨fun K => a_Register_swap K, "swap", "Register.swap", s_Register_swap⟩, ⟨fun K => a_Register_turn K, "turn", "Register.turn", s_Register_turn⟩, ⟨fun K => a_Register_execute K, "execute", "Register.execute", s_Register_execute⟩, ⟨fun K => a_Register_apply_all K, "apply_all", "Register.apply_all", s_Register_apply_all⟩]
def Dnl7 : List Dn := [⟨fun K => a_Register_history K, "history", "Register.history", s_Register_history⟩, ⟨fun K => a_Trial_init K, "__init__", "Trial.__init__", s_Trial_init⟩, ⟨fun K => a_Trial_hold K, "hold", "Trial.hold", s_Trial_hold⟩, ⟨fun K => a_Trial_enter K, "__enter__", "Trial.__enter__", s_Trial_enter⟩, ⟨fun K => a_Trial_exit K, "__exit__", "Trial.__exit__", s_Trial_exit⟩, ⟨fun K => a_Reader_init K, "__init__", "Reader.__init__", s_Reader_init⟩, ⟨fun K => a_Reader_item K, "item", "Reader.item", s_Reader_item⟩, ⟨fun K => a_Reader_read_rule K, "read_rule", "Reader.read_rule", s_Reader_read_rule⟩, ⟨fun K => a_Reader_read_parts K, "read_parts", "Reader.read_parts", s_Reader_read_parts⟩, ⟨fun K => a_Reader_finish K, "finish", "Reader.finish", s_Reader_finish⟩]
def Dnl8 : List Dn := [⟨fun K => a_Rows_init K, "__init__", "Rows.__init__", s_Rows_init⟩, ⟨fun K => a_Rows_next_words K, "next_words", "Rows.next_words", s_Rows_next_words⟩, ⟨fun K => a_Rows_need_size K, "need_size", "Rows.need_size", s_Rows_need_size⟩, ⟨fun K => a_Register_replay K, "replay", "Register.replay", s_Register_replay⟩]
abbrev DnOk (K : PySem.W.Frag) (l : List Dn) : Prop := ∀ (i : Nat) (d : Dn), l[i]? = some d → ∃ fd, Fun K d.name d.qual d.st (d.at_ K) fd
/-- the kinds and their actions -/
def kindTab : List (Str × List V) := [("required", [.str "ok", .str "bad", .str "ignore", .str "bad"]), ("requisite", [.str "ok", .str "die", .str "ignore", .str "die"]), ("sufficient", [.str "done", .str "ignore", .str "ignore", .str "ignore"]), ("optional", [.str "ok", .str "ignore", .str "ignore", .str "ignore"])]
/-- the entries are the pairs kvs -/
def EntsAre : List DictEntry → List (Str × V) → Prop
  | [], [] => True
  | e :: es, kv :: kvs => (∃ t, e.key = .str kv.1 t) ∧ RelV kv.2 e.val ∧ EntsAre es kvs
  | _, _ => False
structure KD (K : PySem.W.Frag) (w : World) (d : Addr) (kvs : List (Str × V)) : Prop where
  ex : ∃ es n, KDict K w d es n ∧ EntsAre es.toList kvs
  nd : (kvs.map (·.1)).Nodup
/-- where the i-th kind's actions stand -/
def kindA (K : PySem.W.Frag) (i : Nat) : Addr := match K.lookup (He.ga K "KINDS") with
  | some ⟨_, _, .dict es _, _⟩ => (match es.toList[i]? with
    | some e => (match e.val with
      | .ref a => a
      | _ => 0)
    | none => 0)
  | _ => 0
def kindKV (K : PySem.W.Frag) : List (Str × V) := [("required", .ref (kindA K 0)), ("requisite", .ref (kindA K 1)), ("sufficient", .ref (kindA K 2)), ("optional", .ref (kindA K 3))]
def sizeKV : List (Str × V) := [("put", .int 3), ("take", .int 2), ("swap", .int 2), ("turn", .int 3), ("promise", .int 3), ("store", .int 2), ("go", .int 2), ("undo", .int 1), ("redo", .int 1)]
structure Txt (w : World) (K : PySem.W.Frag) (mg : Str → Option Value) : Prop where
  mgs : ∀ (x : Str) (r : Option Value), PySem.W.nsIn K mainGlobals x = some r → mg x = r
  fa0 : Fal0.all (fun f => f.ok K) = true
  fa1 : Fal1.all (fun f => f.ok K) = true
  fa2 : Fal2.all (fun f => f.ok K) = true
  fa3 : Fal3.all (fun f => f.ok K) = true
  fa4 : Fal4.all (fun f => f.ok K) = true
  fa5 : Fal5.all (fun f => f.ok K) = true
  fa6 : Fal6.all (fun f => f.ok K) = true
  fa7 : Fal7.all (fun f => f.ok K) = true
  fa8 : Fal8.all (fun f => f.ok K) = true
  fa9 : Fal9.all (fun f => f.ok K) = true
  fa10 : Fal10.all (fun f => f.ok K) = true
  fa11 : Fal11.all (fun f => f.ok K) = true
  fa12 : Fal12.all (fun f => f.ok K) = true
  fa13 : Fal13.all (fun f => f.ok K) = true
  fa14 : Fal14.all (fun f => f.ok K) = true
  fa15 : Fal15.all (fun f => f.ok K) = true
  fa16 : Fal16.all (fun f => f.ok K) = true
  dn0 : DnOk K Dnl0
  dn1 : DnOk K Dnl1
  dn2 : DnOk K Dnl2
  dn3 : DnOk K Dnl3
  dn4 : DnOk K Dnl4
  dn5 : DnOk K Dnl5
  dn6 : DnOk K Dnl6
  dn7 : DnOk K Dnl7
  dn8 : DnOk K Dnl8
  p_Rule_module : PropOf K (cRule K) "module" (He.ma K (cRule K) "module") (a_Rule_module K)
  p_Rule_control : PropOf K (cRule K) "control" (He.ma K (cRule K) "control") (a_Rule_control K)
  p_Rule_kind : PropOf K (cRule K) "kind" (He.ma K (cRule K) "kind") (a_Rule_kind K)
  p_Stack_entries : PropOf K (cStack K) "entries" (He.ma K (cStack K) "entries") (a_Stack_entries K)
  p_Stack_rules : PropOf K (cStack K) "rules" (He.ma K (cStack K) "rules") (a_Stack_rules K)
  p_Stack_modules : PropOf K (cStack K) "modules" (He.ma K (cStack K) "modules") (a_Stack_modules K)
  p_Register_history : PropOf K (cRegister K) "history" (He.ma K (cRegister K) "history") (a_Register_history K)
  cm_replay : ClX.CMet K (cRegister K) (.type "type") "replay" (He.ma K (cRegister K) "replay") (a_Register_replay K)
  cr_Register : ClX.CRead K (cRegister K) (.type "type")
  kp_Register : PySem.W.keepIn K (.ref (cRegister K)) = true
  sc_State : SlX.SCls K (cState K)
  sl_noted : SlX.Slot1 K (cState K) "noted" (He.ma K (cState K) "noted") 0
  sl_past : SlX.Slot1 K (cState K) "past" (He.ma K (cState K) "past") 1
  sl_present : SlX.Slot1 K (cState K) "present" (He.ma K (cState K) "present") 2
  sl_undone : SlX.Slot1 K (cState K) "undone" (He.ma K (cState K) "undone") 3
  sl_vows : SlX.Slot1 K (cState K) "vows" (He.ma K (cState K) "vows") 4
  results : ∀ H, SqT K H (He.ga K "RESULTS") [.str "yes", .str "no", .str "skip", .str "gone"]
  actions : ∀ H, SqT K H (He.ga K "ACTIONS") [.str "ok", .str "bad", .str "die", .str "done", .str "ignore", .str "reset"]
  none_ : ∀ H, SqT K H (He.ga K "NONE") [.str "none", .non]
  good_ : ∀ H, SqT K H (He.ga K "GOOD") [.str "good", .non]
  kinds : KD K w (He.ga K "KINDS") (kindKV K)
  kindsT : ∀ (i : Nat) (p : Str × List V), kindTab[i]? = some p → ∀ H, SqT K H (kindA K i) p.2
  sizes : KD K w (He.ga K "SIZES") sizeKV
  rk_RESULTS : ∃ o, K.lookup (He.ga K "RESULTS") = some o ∧ o.cls = .type "tuple" ∧ o.dict = none
  rk_ACTIONS : ∃ o, K.lookup (He.ga K "ACTIONS") = some o ∧ o.cls = .type "tuple" ∧ o.dict = none
  sf_Stack : PySem.W.selfFirst K (cStack K) = true
  fn_getitem : PySem.W.fnIn K (a_Stack_getitem K) = true
  mo_Stack : PySem.W.mroIn K (cStack K) (.type "object") = some true
  mo_Rule : PySem.W.mroIn K (cRule K) (.type "object") = some true
  ne_Stack : PySem.W.findIn K (.ref (cStack K)) "__ne__" = some (some (.builtin "object.__ne__"))
  ha_Stack : PySem.W.findIn K (.ref (cStack K)) "__class__" = some (some (.builtin "object.__class__"))
  ha_Rule : PySem.W.findIn K (.ref (cRule K)) "__class__" = some (some (.builtin "object.__class__"))
  hn_cls : PySem.W.specialIn K (.builtin "object.__class__") "__get__" = some (some (.builtin "getset_descriptor.__get__"))
  htk_cls : PySem.W.takesIn K (.builtin "object.__class__") = some true
  kit_RS : PySem.W.kitOne K (.ref (cRule K)) (.ref (cStack K)) = some false
  kit_RL : PySem.W.kitOne K (.ref (cRule K)) (.type "list") = some false
namespace Txt
variable {w : World} {K : PySem.W.Frag} {mg : Str → Option Value}
theorem fx0 (T : Txt w K mg) (j : Nat) {f : He.Fa} (h : Fal0[j]? = some f) : f.ok K = true := List.all_eq_true.mp T.fa0 f (List.mem_of_getElem? h)
theorem fx1 (T : Txt w K mg) (j : Nat) {f : He.Fa} (h : Fal1[j]? = some f) : f.ok K = true := List.all_eq_true.mp T.fa1 f (List.mem_of_getElem? h)
theorem fx2 (T : Txt w K mg) (j : Nat) {f : He.Fa} (h : Fal2[j]? = some f) : f.ok K = true := List.all_eq_true.mp T.fa2 f (List.mem_of_getElem? h)
theorem fx3 (T : Txt w K mg) (j : Nat) {f : He.Fa} (h : Fal3[j]? = some f) : f.ok K = true := List.all_eq_true.mp T.fa3 f (List.mem_of_getElem? h)
theorem fx4 (T : Txt w K mg) (j : Nat) {f : He.Fa} (h : Fal4[j]? = some f) : f.ok K = true := List.all_eq_true.mp T.fa4 f (List.mem_of_getElem? h)
theorem fx5 (T : Txt w K mg) (j : Nat) {f : He.Fa} (h : Fal5[j]? = some f) : f.ok K = true := List.all_eq_true.mp T.fa5 f (List.mem_of_getElem? h)
theorem fx6 (T : Txt w K mg) (j : Nat) {f : He.Fa} (h : Fal6[j]? = some f) : f.ok K = true := List.all_eq_true.mp T.fa6 f (List.mem_of_getElem? h)
theorem fx7 (T : Txt w K mg) (j : Nat) {f : He.Fa} (h : Fal7[j]? = some f) : f.ok K = true := List.all_eq_true.mp T.fa7 f (List.mem_of_getElem? h)
theorem fx8 (T : Txt w K mg) (j : Nat) {f : He.Fa} (h : Fal8[j]? = some f) : f.ok K = true := List.all_eq_true.mp T.fa8 f (List.mem_of_getElem? h)
theorem fx9 (T : Txt w K mg) (j : Nat) {f : He.Fa} (h : Fal9[j]? = some f) : f.ok K = true := List.all_eq_true.mp T.fa9 f (List.mem_of_getElem? h)
theorem fx10 (T : Txt w K mg) (j : Nat) {f : He.Fa} (h : Fal10[j]? = some f) : f.ok K = true := List.all_eq_true.mp T.fa10 f (List.mem_of_getElem? h)
theorem fx11 (T : Txt w K mg) (j : Nat) {f : He.Fa} (h : Fal11[j]? = some f) : f.ok K = true := List.all_eq_true.mp T.fa11 f (List.mem_of_getElem? h)
theorem fx12 (T : Txt w K mg) (j : Nat) {f : He.Fa} (h : Fal12[j]? = some f) : f.ok K = true := List.all_eq_true.mp T.fa12 f (List.mem_of_getElem? h)
theorem fx13 (T : Txt w K mg) (j : Nat) {f : He.Fa} (h : Fal13[j]? = some f) : f.ok K = true := List.all_eq_true.mp T.fa13 f (List.mem_of_getElem? h)
theorem fx14 (T : Txt w K mg) (j : Nat) {f : He.Fa} (h : Fal14[j]? = some f) : f.ok K = true := List.all_eq_true.mp T.fa14 f (List.mem_of_getElem? h)
theorem fx15 (T : Txt w K mg) (j : Nat) {f : He.Fa} (h : Fal15[j]? = some f) : f.ok K = true := List.all_eq_true.mp T.fa15 f (List.mem_of_getElem? h)
theorem fx16 (T : Txt w K mg) (j : Nat) {f : He.Fa} (h : Fal16[j]? = some f) : f.ok K = true := List.all_eq_true.mp T.fa16 f (List.mem_of_getElem? h)
theorem intG (T : Txt w K mg) {x : Str} {i : Int} (c : (He.Fa.int x i).ok K = true) : ∃ t, mg x = some (.int i t) := by
  unfold He.Fa.ok at c
  dsimp only at c
  split at c
  · rename_i j t e
    have q : j = i := of_decide_eq_true c
    exact ⟨t, by rw [T.mgs x _ e, q]⟩
  · cases c
theorem strG (T : Txt w K mg) {x z : Str} (c : (He.Fa.str x z).ok K = true) : ∃ t, mg x = some (.str z t) := by
  unfold He.Fa.ok at c
  dsimp only at c
  split at c
  · rename_i j t e
    have q : j = z := of_decide_eq_true c
    exact ⟨t, by rw [T.mgs x _ e, q]⟩
  · cases c
theorem g_is_number (T : Txt w K mg) : mg "is_number" = some (.ref (He.ga K "is_number")) := T.mgs _ _ (He.eqO_ok (T.fx0 0 rfl))
theorem g_is_word (T : Txt w K mg) : mg "is_word" = some (.ref (He.ga K "is_word")) := T.mgs _ _ (He.eqO_ok (T.fx0 1 rfl))
theorem g_is_action (T : Txt w K mg) : mg "is_action" = some (.ref (He.ga K "is_action")) := T.mgs _ _ (He.eqO_ok (T.fx0 2 rfl))
theorem g_table_of (T : Txt w K mg) : mg "table_of" = some (.ref (He.ga K "table_of")) := T.mgs _ _ (He.eqO_ok (T.fx0 3 rfl))
theorem g_steps_of (T : Txt w K mg) : mg "steps_of" = some (.ref (He.ga K "steps_of")) := T.mgs _ _ (He.eqO_ok (T.fx0 4 rfl))
theorem g_firsts_of (T : Txt w K mg) : mg "firsts_of" = some (.ref (He.ga K "firsts_of")) := T.mgs _ _ (He.eqO_ok (T.fx0 5 rfl))
theorem g_marked (T : Txt w K mg) : mg "marked" = some (.ref (He.ga K "marked")) := T.mgs _ _ (He.eqO_ok (T.fx0 6 rfl))
theorem g_all_answers (T : Txt w K mg) : mg "all_answers" = some (.ref (He.ga K "all_answers")) := T.mgs _ _ (He.eqO_ok (T.fx0 7 rfl))
theorem g_outcomes (T : Txt w K mg) : mg "outcomes" = some (.ref (He.ga K "outcomes")) := T.mgs _ _ (He.eqO_ok (T.fx0 8 rfl))
theorem g_both_outcomes (T : Txt w K mg) : mg "both_outcomes" = some (.ref (He.ga K "both_outcomes")) := T.mgs _ _ (He.eqO_ok (T.fx0 9 rfl))
theorem g_first_difference (T : Txt w K mg) : mg "first_difference" = some (.ref (He.ga K "first_difference")) := T.mgs _ _ (He.eqO_ok (T.fx1 0 rfl))
theorem g_alike (T : Txt w K mg) : mg "alike" = some (.ref (He.ga K "alike")) := T.mgs _ _ (He.eqO_ok (T.fx1 1 rfl))
theorem g_is_operation (T : Txt w K mg) : mg "is_operation" = some (.ref (He.ga K "is_operation")) := T.mgs _ _ (He.eqO_ok (T.fx1 2 rfl))
theorem g_with_control (T : Txt w K mg) : mg "with_control" = some (.ref (He.ga K "with_control")) := T.mgs _ _ (He.eqO_ok (T.fx1 3 rfl))
theorem g_copied (T : Txt w K mg) : mg "copied" = some (.ref (He.ga K "copied")) := T.mgs _ _ (He.eqO_ok (T.fx1 4 rfl))
theorem g_checksum (T : Txt w K mg) : mg "checksum" = some (.ref (He.ga K "checksum")) := T.mgs _ _ (He.eqO_ok (T.fx1 5 rfl))
theorem g_action_item (T : Txt w K mg) : mg "action_item" = some (.ref (He.ga K "action_item")) := T.mgs _ _ (He.eqO_ok (T.fx1 6 rfl))
theorem g_rule_items (T : Txt w K mg) : mg "rule_items" = some (.ref (He.ga K "rule_items")) := T.mgs _ _ (He.eqO_ok (T.fx1 7 rfl))
theorem g_stack_items (T : Txt w K mg) : mg "stack_items" = some (.ref (He.ga K "stack_items")) := T.mgs _ _ (He.eqO_ok (T.fx1 8 rfl))
theorem g_encode_stack (T : Txt w K mg) : mg "encode_stack" = some (.ref (He.ga K "encode_stack")) := T.mgs _ _ (He.eqO_ok (T.fx1 9 rfl))
theorem g_made_stack_codec (T : Txt w K mg) : mg "made_stack_codec" = some (.ref (He.ga K "made_stack_codec")) := T.mgs _ _ (He.eqO_ok (T.fx2 0 rfl))
theorem g_decode_stack (T : Txt w K mg) : mg "decode_stack" = some (.ref (He.ga K "decode_stack")) := T.mgs _ _ (He.eqO_ok (T.fx2 1 rfl))
theorem g_control_word (T : Txt w K mg) : mg "control_word" = some (.ref (He.ga K "control_word")) := T.mgs _ _ (He.eqO_ok (T.fx2 2 rfl))
theorem g_stack_rows (T : Txt w K mg) : mg "stack_rows" = some (.ref (He.ga K "stack_rows")) := T.mgs _ _ (He.eqO_ok (T.fx2 3 rfl))
theorem g_format_stack (T : Txt w K mg) : mg "format_stack" = some (.ref (He.ga K "format_stack")) := T.mgs _ _ (He.eqO_ok (T.fx2 4 rfl))
theorem g_read_action (T : Txt w K mg) : mg "read_action" = some (.ref (He.ga K "read_action")) := T.mgs _ _ (He.eqO_ok (T.fx2 5 rfl))
theorem g_read_control (T : Txt w K mg) : mg "read_control" = some (.ref (He.ga K "read_control")) := T.mgs _ _ (He.eqO_ok (T.fx2 6 rfl))
theorem g_read_rule (T : Txt w K mg) : mg "read_rule" = some (.ref (He.ga K "read_rule")) := T.mgs _ _ (He.eqO_ok (T.fx2 7 rfl))
theorem g_read_parts (T : Txt w K mg) : mg "read_parts" = some (.ref (He.ga K "read_parts")) := T.mgs _ _ (He.eqO_ok (T.fx2 8 rfl))
theorem g_made_stack_notation (T : Txt w K mg) : mg "made_stack_notation" = some (.ref (He.ga K "made_stack_notation")) := T.mgs _ _ (He.eqO_ok (T.fx2 9 rfl))
theorem g_parse_stack (T : Txt w K mg) : mg "parse_stack" = some (.ref (He.ga K "parse_stack")) := T.mgs _ _ (He.eqO_ok (T.fx3 0 rfl))
theorem g_law_taken (T : Txt w K mg) : mg "_law_taken" = some (.ref (He.ga K "_law_taken")) := T.mgs _ _ (He.eqO_ok (T.fx3 1 rfl))
theorem g_law_control (T : Txt w K mg) : mg "_law_control" = some (.ref (He.ga K "_law_control")) := T.mgs _ _ (He.eqO_ok (T.fx3 2 rfl))
theorem g_law_stack (T : Txt w K mg) : mg "_law_stack" = some (.ref (He.ga K "_law_stack")) := T.mgs _ _ (He.eqO_ok (T.fx3 3 rfl))
theorem g_law_names (T : Txt w K mg) : mg "_law_names" = some (.ref (He.ga K "_law_names")) := T.mgs _ _ (He.eqO_ok (T.fx3 4 rfl))
theorem g_law_edits (T : Txt w K mg) : mg "_law_edits" = some (.ref (He.ga K "_law_edits")) := T.mgs _ _ (He.eqO_ok (T.fx3 5 rfl))
theorem g_law (T : Txt w K mg) : mg "law" = some (.ref (He.ga K "law")) := T.mgs _ _ (He.eqO_ok (T.fx3 6 rfl))
theorem g_Rule (T : Txt w K mg) : mg "Rule" = some (.ref (cRule K)) := T.mgs _ _ (He.eqO_ok (T.fx3 7 rfl))
theorem c_Rule (T : Txt w K mg) : Cls K (cRule K) := He.cls_ok (T.fx3 8 rfl)
theorem mk_Rule (T : Txt w K mg) : Mk K (cRule K) (He.ma K (cRule K) "__init__") := He.mkr_ok (T.fx3 9 rfl)
theorem n_Rule_asks (T : Txt w K mg) : NoAttr K (cRule K) "asks" := He.noat_ok (T.fx4 0 rfl)
theorem n_Rule_acts (T : Txt w K mg) : NoAttr K (cRule K) "acts" := He.noat_ok (T.fx4 1 rfl)
theorem m_Rule_init (T : Txt w K mg) : Meth K (cRule K) "__init__" (a_Rule_init K) := He.meth_ok (T.fx4 2 rfl)
theorem m_Rule_eq (T : Txt w K mg) : Meth K (cRule K) "__eq__" (a_Rule_eq K) := He.meth_ok (T.fx4 3 rfl)
theorem m_Rule_action_for (T : Txt w K mg) : Meth K (cRule K) "action_for" (a_Rule_action_for K) := He.meth_ok (T.fx4 4 rfl)
theorem g_Stack (T : Txt w K mg) : mg "Stack" = some (.ref (cStack K)) := T.mgs _ _ (He.eqO_ok (T.fx4 5 rfl))
theorem c_Stack (T : Txt w K mg) : Cls K (cStack K) := He.cls_ok (T.fx4 6 rfl)
theorem mk_Stack (T : Txt w K mg) : Mk K (cStack K) (He.ma K (cStack K) "__init__") := He.mkr_ok (T.fx4 7 rfl)
theorem n_Stack_parts (T : Txt w K mg) : NoAttr K (cStack K) "parts" := He.noat_ok (T.fx4 8 rfl)
theorem n_Stack_steps (T : Txt w K mg) : NoAttr K (cStack K) "steps" := He.noat_ok (T.fx4 9 rfl)
theorem n_Stack_names (T : Txt w K mg) : NoAttr K (cStack K) "names" := He.noat_ok (T.fx5 0 rfl)
theorem n_Stack_depth (T : Txt w K mg) : NoAttr K (cStack K) "depth" := He.noat_ok (T.fx5 1 rfl)
theorem m_Stack_init (T : Txt w K mg) : Meth K (cStack K) "__init__" (a_Stack_init K) := He.meth_ok (T.fx5 2 rfl)
theorem m_Stack_len (T : Txt w K mg) : Meth K (cStack K) "__len__" (a_Stack_len K) := He.meth_ok (T.fx5 3 rfl)
theorem m_Stack_getitem (T : Txt w K mg) : Meth K (cStack K) "__getitem__" (a_Stack_getitem K) := He.meth_ok (T.fx5 4 rfl)
theorem m_Stack_add (T : Txt w K mg) : Meth K (cStack K) "__add__" (a_Stack_add K) := He.meth_ok (T.fx5 5 rfl)
theorem m_Stack_eq (T : Txt w K mg) : Meth K (cStack K) "__eq__" (a_Stack_eq K) := He.meth_ok (T.fx5 6 rfl)
theorem m_Stack_spliced (T : Txt w K mg) : Meth K (cStack K) "spliced" (a_Stack_spliced K) := He.meth_ok (T.fx5 7 rfl)
theorem g_Run (T : Txt w K mg) : mg "Run" = some (.ref (cRun K)) := T.mgs _ _ (He.eqO_ok (T.fx5 8 rfl))
theorem c_Run (T : Txt w K mg) : Cls K (cRun K) := He.cls_ok (T.fx5 9 rfl)
theorem mk_Run (T : Txt w K mg) : Mk K (cRun K) (He.ma K (cRun K) "__init__") := He.mkr_ok (T.fx6 0 rfl)
theorem n_Run_told (T : Txt w K mg) : NoAttr K (cRun K) "told" := He.noat_ok (T.fx6 1 rfl)
theorem n_Run_asked_rules (T : Txt w K mg) : NoAttr K (cRun K) "asked_rules" := He.noat_ok (T.fx6 2 rfl)
theorem n_Run_mark (T : Txt w K mg) : NoAttr K (cRun K) "mark" := He.noat_ok (T.fx6 3 rfl)
theorem m_Run_init (T : Txt w K mg) : Meth K (cRun K) "__init__" (a_Run_init K) := He.meth_ok (T.fx6 4 rfl)
theorem m_Run_ended (T : Txt w K mg) : Meth K (cRun K) "ended" (a_Run_ended K) := He.meth_ok (T.fx6 5 rfl)
theorem m_Run_outcome (T : Txt w K mg) : Meth K (cRun K) "outcome" (a_Run_outcome K) := He.meth_ok (T.fx6 6 rfl)
theorem g_State (T : Txt w K mg) : mg "State" = some (.ref (cState K)) := T.mgs _ _ (He.eqO_ok (T.fx6 7 rfl))
theorem mk_State (T : Txt w K mg) : Mk K (cState K) (He.ma K (cState K) "__init__") := He.mkr_ok (T.fx6 8 rfl)
theorem m_State_init (T : Txt w K mg) : Meth K (cState K) "__init__" (a_State_init K) := He.meth_ok (T.fx6 9 rfl)
theorem m_State_kept (T : Txt w K mg) : Meth K (cState K) "kept" (a_State_kept K) := He.meth_ok (T.fx7 0 rfl)
theorem m_State_copied (T : Txt w K mg) : Meth K (cState K) "copied" (a_State_copied K) := He.meth_ok (T.fx7 1 rfl)
theorem m_State_go_on (T : Txt w K mg) : Meth K (cState K) "go_on" (a_State_go_on K) := He.meth_ok (T.fx7 2 rfl)
theorem g_Register (T : Txt w K mg) : mg "Register" = some (.ref (cRegister K)) := T.mgs _ _ (He.eqO_ok (T.fx7 3 rfl))
theorem c_Register (T : Txt w K mg) : Cls K (cRegister K) := He.cls_ok (T.fx7 4 rfl)
theorem mk_Register (T : Txt w K mg) : Mk K (cRegister K) (He.ma K (cRegister K) "__init__") := He.mkr_ok (T.fx7 5 rfl)
theorem n_Register_state (T : Txt w K mg) : NoAttr K (cRegister K) "state" := He.noat_ok (T.fx7 6 rfl)
theorem m_Register_init (T : Txt w K mg) : Meth K (cRegister K) "__init__" (a_Register_init K) := He.meth_ok (T.fx7 7 rfl)
theorem m_Register_stack (T : Txt w K mg) : Meth K (cRegister K) "stack" (a_Register_stack K) := He.meth_ok (T.fx7 8 rfl)
theorem m_Register_enter (T : Txt w K mg) : Meth K (cRegister K) "enter" (a_Register_enter K) := He.meth_ok (T.fx7 9 rfl)
theorem m_Register_edit (T : Txt w K mg) : Meth K (cRegister K) "edit" (a_Register_edit K) := He.meth_ok (T.fx8 0 rfl)
theorem m_Register_need_entries (T : Txt w K mg) : Meth K (cRegister K) "need_entries" (a_Register_need_entries K) := He.meth_ok (T.fx8 1 rfl)
theorem m_Register_put (T : Txt w K mg) : Meth K (cRegister K) "put" (a_Register_put K) := He.meth_ok (T.fx8 2 rfl)
theorem m_Register_take (T : Txt w K mg) : Meth K (cRegister K) "take" (a_Register_take K) := He.meth_ok (T.fx8 3 rfl)
theorem m_Register_swap (T : Txt w K mg) : Meth K (cRegister K) "swap" (a_Register_swap K) := He.meth_ok (T.fx8 4 rfl)
theorem m_Register_turn (T : Txt w K mg) : Meth K (cRegister K) "turn" (a_Register_turn K) := He.meth_ok (T.fx8 5 rfl)
theorem m_Register_execute (T : Txt w K mg) : Meth K (cRegister K) "execute" (a_Register_execute K) := He.meth_ok (T.fx8 6 rfl)
theorem m_Register_apply_all (T : Txt w K mg) : Meth K (cRegister K) "apply_all" (a_Register_apply_all K) := He.meth_ok (T.fx8 7 rfl)
theorem g_Trial (T : Txt w K mg) : mg "Trial" = some (.ref (cTrial K)) := T.mgs _ _ (He.eqO_ok (T.fx8 8 rfl))
theorem c_Trial (T : Txt w K mg) : Cls K (cTrial K) := He.cls_ok (T.fx8 9 rfl)
theorem mk_Trial (T : Txt w K mg) : Mk K (cTrial K) (He.ma K (cTrial K) "__init__") := He.mkr_ok (T.fx9 0 rfl)
theorem n_Trial_tested_desk (T : Txt w K mg) : NoAttr K (cTrial K) "tested_desk" := He.noat_ok (T.fx9 1 rfl)
theorem n_Trial_base (T : Txt w K mg) : NoAttr K (cTrial K) "base" := He.noat_ok (T.fx9 2 rfl)
theorem n_Trial_fresh (T : Txt w K mg) : NoAttr K (cTrial K) "fresh" := He.noat_ok (T.fx9 3 rfl)
theorem n_Trial_chosen (T : Txt w K mg) : NoAttr K (cTrial K) "chosen" := He.noat_ok (T.fx9 4 rfl)
theorem m_Trial_init (T : Txt w K mg) : Meth K (cTrial K) "__init__" (a_Trial_init K) := He.meth_ok (T.fx9 5 rfl)
theorem m_Trial_hold (T : Txt w K mg) : Meth K (cTrial K) "hold" (a_Trial_hold K) := He.meth_ok (T.fx9 6 rfl)
theorem m_Trial_enter (T : Txt w K mg) : Meth K (cTrial K) "__enter__" (a_Trial_enter K) := He.meth_ok (T.fx9 7 rfl)
theorem m_Trial_exit (T : Txt w K mg) : Meth K (cTrial K) "__exit__" (a_Trial_exit K) := He.meth_ok (T.fx9 8 rfl)
theorem g_Reader (T : Txt w K mg) : mg "Reader" = some (.ref (cReader K)) := T.mgs _ _ (He.eqO_ok (T.fx9 9 rfl))
theorem c_Reader (T : Txt w K mg) : Cls K (cReader K) := He.cls_ok (T.fx10 0 rfl)
theorem mk_Reader (T : Txt w K mg) : Mk K (cReader K) (He.ma K (cReader K) "__init__") := He.mkr_ok (T.fx10 1 rfl)
theorem n_Reader_data (T : Txt w K mg) : NoAttr K (cReader K) "data" := He.noat_ok (T.fx10 2 rfl)
theorem n_Reader_offset (T : Txt w K mg) : NoAttr K (cReader K) "offset" := He.noat_ok (T.fx10 3 rfl)
theorem m_Reader_init (T : Txt w K mg) : Meth K (cReader K) "__init__" (a_Reader_init K) := He.meth_ok (T.fx10 4 rfl)
theorem m_Reader_item (T : Txt w K mg) : Meth K (cReader K) "item" (a_Reader_item K) := He.meth_ok (T.fx10 5 rfl)
theorem m_Reader_read_rule (T : Txt w K mg) : Meth K (cReader K) "read_rule" (a_Reader_read_rule K) := He.meth_ok (T.fx10 6 rfl)
theorem m_Reader_read_parts (T : Txt w K mg) : Meth K (cReader K) "read_parts" (a_Reader_read_parts K) := He.meth_ok (T.fx10 7 rfl)
theorem m_Reader_finish (T : Txt w K mg) : Meth K (cReader K) "finish" (a_Reader_finish K) := He.meth_ok (T.fx10 8 rfl)
theorem g_Rows (T : Txt w K mg) : mg "Rows" = some (.ref (cRows K)) := T.mgs _ _ (He.eqO_ok (T.fx10 9 rfl))
theorem c_Rows (T : Txt w K mg) : Cls K (cRows K) := He.cls_ok (T.fx11 0 rfl)
theorem mk_Rows (T : Txt w K mg) : Mk K (cRows K) (He.ma K (cRows K) "__init__") := He.mkr_ok (T.fx11 1 rfl)
theorem n_Rows_lines (T : Txt w K mg) : NoAttr K (cRows K) "lines" := He.noat_ok (T.fx11 2 rfl)
theorem n_Rows_number (T : Txt w K mg) : NoAttr K (cRows K) "number" := He.noat_ok (T.fx11 3 rfl)
theorem m_Rows_init (T : Txt w K mg) : Meth K (cRows K) "__init__" (a_Rows_init K) := He.meth_ok (T.fx11 4 rfl)
theorem m_Rows_next_words (T : Txt w K mg) : Meth K (cRows K) "next_words" (a_Rows_next_words K) := He.meth_ok (T.fx11 5 rfl)
theorem m_Rows_need_size (T : Txt w K mg) : Meth K (cRows K) "need_size" (a_Rows_need_size K) := He.meth_ok (T.fx11 6 rfl)
theorem f_isinstance (T : Txt w K mg) : mg "isinstance" = none := T.mgs _ _ (He.eqO_ok (T.fx11 7 rfl))
theorem f_int (T : Txt w K mg) : mg "int" = none := T.mgs _ _ (He.eqO_ok (T.fx11 8 rfl))
theorem f_bool (T : Txt w K mg) : mg "bool" = none := T.mgs _ _ (He.eqO_ok (T.fx11 9 rfl))
theorem f_str (T : Txt w K mg) : mg "str" = none := T.mgs _ _ (He.eqO_ok (T.fx12 0 rfl))
theorem f_len (T : Txt w K mg) : mg "len" = none := T.mgs _ _ (He.eqO_ok (T.fx12 1 rfl))
theorem f_all (T : Txt w K mg) : mg "all" = none := T.mgs _ _ (He.eqO_ok (T.fx12 2 rfl))
theorem f_list (T : Txt w K mg) : mg "list" = none := T.mgs _ _ (He.eqO_ok (T.fx12 3 rfl))
theorem f_tuple (T : Txt w K mg) : mg "tuple" = none := T.mgs _ _ (He.eqO_ok (T.fx12 4 rfl))
theorem f_set (T : Txt w K mg) : mg "set" = none := T.mgs _ _ (He.eqO_ok (T.fx12 5 rfl))
theorem f_sorted (T : Txt w K mg) : mg "sorted" = none := T.mgs _ _ (He.eqO_ok (T.fx12 6 rfl))
theorem f_enumerate (T : Txt w K mg) : mg "enumerate" = none := T.mgs _ _ (He.eqO_ok (T.fx12 7 rfl))
theorem f_max (T : Txt w K mg) : mg "max" = none := T.mgs _ _ (He.eqO_ok (T.fx12 8 rfl))
theorem f_zip (T : Txt w K mg) : mg "zip" = none := T.mgs _ _ (He.eqO_ok (T.fx12 9 rfl))
theorem f_range (T : Txt w K mg) : mg "range" = none := T.mgs _ _ (He.eqO_ok (T.fx13 0 rfl))
theorem t_YES (T : Txt w K mg) : ∃ t, mg "YES" = some (.str "yes" t) := T.strG (T.fx13 1 rfl)
theorem t_NO (T : Txt w K mg) : ∃ t, mg "NO" = some (.str "no" t) := T.strG (T.fx13 2 rfl)
theorem t_SKIP (T : Txt w K mg) : ∃ t, mg "SKIP" = some (.str "skip" t) := T.strG (T.fx13 3 rfl)
theorem t_GONE (T : Txt w K mg) : ∃ t, mg "GONE" = some (.str "gone" t) := T.strG (T.fx13 4 rfl)
theorem t_OK (T : Txt w K mg) : ∃ t, mg "OK" = some (.str "ok" t) := T.strG (T.fx13 5 rfl)
theorem t_BAD (T : Txt w K mg) : ∃ t, mg "BAD" = some (.str "bad" t) := T.strG (T.fx13 6 rfl)
theorem t_DIE (T : Txt w K mg) : ∃ t, mg "DIE" = some (.str "die" t) := T.strG (T.fx13 7 rfl)
theorem t_DONE (T : Txt w K mg) : ∃ t, mg "DONE" = some (.str "done" t) := T.strG (T.fx13 8 rfl)
theorem t_IGNORE (T : Txt w K mg) : ∃ t, mg "IGNORE" = some (.str "ignore" t) := T.strG (T.fx13 9 rfl)
theorem t_RESET (T : Txt w K mg) : ∃ t, mg "RESET" = some (.str "reset" t) := T.strG (T.fx14 0 rfl)
theorem t_LETTERS (T : Txt w K mg) : ∃ t, mg "LETTERS" = some (.str "abcdefghijklmnopqrstuvwxyz" t) := T.strG (T.fx14 1 rfl)
theorem t_IN (T : Txt w K mg) : ∃ t, mg "IN" = some (.str "in" t) := T.strG (T.fx14 2 rfl)
theorem t_OUT (T : Txt w K mg) : ∃ t, mg "OUT" = some (.str "out" t) := T.strG (T.fx14 3 rfl)
theorem t_BEGIN (T : Txt w K mg) : ∃ t, mg "BEGIN" = some (.str "begin" t) := T.strG (T.fx14 4 rfl)
theorem t_END (T : Txt w K mg) : ∃ t, mg "END" = some (.str "end" t) := T.strG (T.fx14 5 rfl)
theorem t_JUMPS (T : Txt w K mg) : ∃ t, mg "JUMPS" = some (.str "123456789" t) := T.strG (T.fx14 6 rfl)
theorem i_MOST_JUMP (T : Txt w K mg) : ∃ t, mg "MOST_JUMP" = some (.int 9 t) := T.intG (T.fx14 7 rfl)
theorem i_MOST_LETTERS (T : Txt w K mg) : ∃ t, mg "MOST_LETTERS" = some (.int 8 t) := T.intG (T.fx14 8 rfl)
theorem i_MOST_ENTRIES (T : Txt w K mg) : ∃ t, mg "MOST_ENTRIES" = some (.int 12 t) := T.intG (T.fx14 9 rfl)
theorem i_MOST_RULES (T : Txt w K mg) : ∃ t, mg "MOST_RULES" = some (.int 12 t) := T.intG (T.fx15 0 rfl)
theorem i_MOST_MODULES (T : Txt w K mg) : ∃ t, mg "MOST_MODULES" = some (.int 6 t) := T.intG (T.fx15 1 rfl)
theorem i_MOST_DEPTH (T : Txt w K mg) : ∃ t, mg "MOST_DEPTH" = some (.int 3 t) := T.intG (T.fx15 2 rfl)
theorem i_FIRST (T : Txt w K mg) : ∃ t, mg "FIRST" = some (.int 83 t) := T.intG (T.fx15 3 rfl)
theorem i_STACK (T : Txt w K mg) : ∃ t, mg "STACK" = some (.int 0 t) := T.intG (T.fx15 4 rfl)
theorem i_RULE (T : Txt w K mg) : ∃ t, mg "RULE" = some (.int 1 t) := T.intG (T.fx15 5 rfl)
theorem i_CHECK_START (T : Txt w K mg) : ∃ t, mg "CHECK_START" = some (.int 5 t) := T.intG (T.fx15 6 rfl)
theorem i_CHECK_TIMES (T : Txt w K mg) : ∃ t, mg "CHECK_TIMES" = some (.int 9 t) := T.intG (T.fx15 7 rfl)
theorem i_CHECK_REST (T : Txt w K mg) : ∃ t, mg "CHECK_REST" = some (.int 251 t) := T.intG (T.fx15 8 rfl)
theorem g_RESULTS (T : Txt w K mg) : mg "RESULTS" = some (.ref (He.ga K "RESULTS")) := T.mgs _ _ (He.eqO_ok (T.fx15 9 rfl))
theorem g_ACTIONS (T : Txt w K mg) : mg "ACTIONS" = some (.ref (He.ga K "ACTIONS")) := T.mgs _ _ (He.eqO_ok (T.fx16 0 rfl))
theorem g_NONE (T : Txt w K mg) : mg "NONE" = some (.ref (He.ga K "NONE")) := T.mgs _ _ (He.eqO_ok (T.fx16 1 rfl))
theorem g_GOOD (T : Txt w K mg) : mg "GOOD" = some (.ref (He.ga K "GOOD")) := T.mgs _ _ (He.eqO_ok (T.fx16 2 rfl))
theorem g_KINDS (T : Txt w K mg) : mg "KINDS" = some (.ref (He.ga K "KINDS")) := T.mgs _ _ (He.eqO_ok (T.fx16 3 rfl))
theorem g_SIZES (T : Txt w K mg) : mg "SIZES" = some (.ref (He.ga K "SIZES")) := T.mgs _ _ (He.eqO_ok (T.fx16 4 rfl))
theorem tyS (T : Txt w K mg) {H : Hp} {a dx : Addr} {fs : List (Str × V)} (e : H a = some (.ins (cStack K) dx fs)) : TyX K H (.ref a) (.ref (cStack K)) := .base (.ins e T.c_Stack T.ha_Stack T.hn_cls T.htk_cls T.mo_Stack)
theorem tyR (T : Txt w K mg) {H : Hp} {a dx : Addr} {fs : List (Str × V)} (e : H a = some (.ins (cRule K) dx fs)) : TyX K H (.ref a) (.ref (cRule K)) := .base (.ins e T.c_Rule T.ha_Rule T.hn_cls T.htk_cls T.mo_Rule)
theorem d_is_number (T : Txt w K mg) : ∃ fd, Fun K "is_number" "is_number" s_is_number (He.ga K "is_number") fd := T.dn0 0 _ rfl
theorem d_is_word (T : Txt w K mg) : ∃ fd, Fun K "is_word" "is_word" s_is_word (He.ga K "is_word") fd := T.dn0 1 _ rfl
theorem d_is_action (T : Txt w K mg) : ∃ fd, Fun K "is_action" "is_action" s_is_action (He.ga K "is_action") fd := T.dn0 2 _ rfl
theorem d_table_of (T : Txt w K mg) : ∃ fd, Fun K "table_of" "table_of" s_table_of (He.ga K "table_of") fd := T.dn0 3 _ rfl
theorem d_steps_of (T : Txt w K mg) : ∃ fd, Fun K "steps_of" "steps_of" s_steps_of (He.ga K "steps_of") fd := T.dn0 4 _ rfl
theorem d_firsts_of (T : Txt w K mg) : ∃ fd, Fun K "firsts_of" "firsts_of" s_firsts_of (He.ga K "firsts_of") fd := T.dn0 5 _ rfl
theorem d_marked (T : Txt w K mg) : ∃ fd, Fun K "marked" "marked" s_marked (He.ga K "marked") fd := T.dn0 6 _ rfl
theorem d_all_answers (T : Txt w K mg) : ∃ fd, Fun K "all_answers" "all_answers" s_all_answers (He.ga K "all_answers") fd := T.dn0 7 _ rfl
theorem d_outcomes (T : Txt w K mg) : ∃ fd, Fun K "outcomes" "outcomes" s_outcomes (He.ga K "outcomes") fd := T.dn0 8 _ rfl
theorem d_both_outcomes (T : Txt w K mg) : ∃ fd, Fun K "both_outcomes" "both_outcomes" s_both_outcomes (He.ga K "both_outcomes") fd := T.dn0 9 _ rfl
theorem d_first_difference (T : Txt w K mg) : ∃ fd, Fun K "first_difference" "first_difference" s_first_difference (He.ga K "first_difference") fd := T.dn1 0 _ rfl
theorem d_alike (T : Txt w K mg) : ∃ fd, Fun K "alike" "alike" s_alike (He.ga K "alike") fd := T.dn1 1 _ rfl
theorem d_is_operation (T : Txt w K mg) : ∃ fd, Fun K "is_operation" "is_operation" s_is_operation (He.ga K "is_operation") fd := T.dn1 2 _ rfl
theorem d_with_control (T : Txt w K mg) : ∃ fd, Fun K "with_control" "with_control" s_with_control (He.ga K "with_control") fd := T.dn1 3 _ rfl
theorem d_copied (T : Txt w K mg) : ∃ fd, Fun K "copied" "copied" s_copied (He.ga K "copied") fd := T.dn1 4 _ rfl
theorem d_checksum (T : Txt w K mg) : ∃ fd, Fun K "checksum" "checksum" s_checksum (He.ga K "checksum") fd := T.dn1 5 _ rfl
theorem d_action_item (T : Txt w K mg) : ∃ fd, Fun K "action_item" "action_item" s_action_item (He.ga K "action_item") fd := T.dn1 6 _ rfl
theorem d_rule_items (T : Txt w K mg) : ∃ fd, Fun K "rule_items" "rule_items" s_rule_items (He.ga K "rule_items") fd := T.dn1 7 _ rfl
theorem d_stack_items (T : Txt w K mg) : ∃ fd, Fun K "stack_items" "stack_items" s_stack_items (He.ga K "stack_items") fd := T.dn1 8 _ rfl
theorem d_encode_stack (T : Txt w K mg) : ∃ fd, Fun K "encode_stack" "encode_stack" s_encode_stack (He.ga K "encode_stack") fd := T.dn1 9 _ rfl
theorem d_made_stack_codec (T : Txt w K mg) : ∃ fd, Fun K "made_stack" "made_stack" s_made_stack_codec (He.ga K "made_stack_codec") fd := T.dn2 0 _ rfl
theorem d_decode_stack (T : Txt w K mg) : ∃ fd, Fun K "decode_stack" "decode_stack" s_decode_stack (He.ga K "decode_stack") fd := T.dn2 1 _ rfl
theorem d_control_word (T : Txt w K mg) : ∃ fd, Fun K "control_word" "control_word" s_control_word (He.ga K "control_word") fd := T.dn2 2 _ rfl
theorem d_stack_rows (T : Txt w K mg) : ∃ fd, Fun K "stack_rows" "stack_rows" s_stack_rows (He.ga K "stack_rows") fd := T.dn2 3 _ rfl
theorem d_format_stack (T : Txt w K mg) : ∃ fd, Fun K "format_stack" "format_stack" s_format_stack (He.ga K "format_stack") fd := T.dn2 4 _ rfl
theorem d_read_action (T : Txt w K mg) : ∃ fd, Fun K "read_action" "read_action" s_read_action (He.ga K "read_action") fd := T.dn2 5 _ rfl
theorem d_read_control (T : Txt w K mg) : ∃ fd, Fun K "read_control" "read_control" s_read_control (He.ga K "read_control") fd := T.dn2 6 _ rfl
theorem d_read_rule (T : Txt w K mg) : ∃ fd, Fun K "read_rule" "read_rule" s_read_rule (He.ga K "read_rule") fd := T.dn2 7 _ rfl
theorem d_read_parts (T : Txt w K mg) : ∃ fd, Fun K "read_parts" "read_parts" s_read_parts (He.ga K "read_parts") fd := T.dn2 8 _ rfl
theorem d_made_stack_notation (T : Txt w K mg) : ∃ fd, Fun K "made_stack" "made_stack" s_made_stack_notation (He.ga K "made_stack_notation") fd := T.dn2 9 _ rfl
theorem d_parse_stack (T : Txt w K mg) : ∃ fd, Fun K "parse_stack" "parse_stack" s_parse_stack (He.ga K "parse_stack") fd := T.dn3 0 _ rfl
theorem d_law_taken (T : Txt w K mg) : ∃ fd, Fun K "_law_taken" "_law_taken" s_law_taken (He.ga K "_law_taken") fd := T.dn3 1 _ rfl
theorem d_law_control (T : Txt w K mg) : ∃ fd, Fun K "_law_control" "_law_control" s_law_control (He.ga K "_law_control") fd := T.dn3 2 _ rfl
theorem d_law_stack (T : Txt w K mg) : ∃ fd, Fun K "_law_stack" "_law_stack" s_law_stack (He.ga K "_law_stack") fd := T.dn3 3 _ rfl
theorem d_law_names (T : Txt w K mg) : ∃ fd, Fun K "_law_names" "_law_names" s_law_names (He.ga K "_law_names") fd := T.dn3 4 _ rfl
theorem d_law_edits (T : Txt w K mg) : ∃ fd, Fun K "_law_edits" "_law_edits" s_law_edits (He.ga K "_law_edits") fd := T.dn3 5 _ rfl
theorem d_law (T : Txt w K mg) : ∃ fd, Fun K "law" "law" s_law (He.ga K "law") fd := T.dn3 6 _ rfl
theorem d_Rule_init (T : Txt w K mg) : ∃ fd, Fun K "__init__" "Rule.__init__" s_Rule_init (a_Rule_init K) fd := T.dn3 7 _ rfl
theorem d_Rule_eq (T : Txt w K mg) : ∃ fd, Fun K "__eq__" "Rule.__eq__" s_Rule_eq (a_Rule_eq K) fd := T.dn3 8 _ rfl
theorem d_Rule_action_for (T : Txt w K mg) : ∃ fd, Fun K "action_for" "Rule.action_for" s_Rule_action_for (a_Rule_action_for K) fd := T.dn3 9 _ rfl
theorem d_Rule_module (T : Txt w K mg) : ∃ fd, Fun K "module" "Rule.module" s_Rule_module (a_Rule_module K) fd := T.dn4 0 _ rfl
theorem d_Rule_control (T : Txt w K mg) : ∃ fd, Fun K "control" "Rule.control" s_Rule_control (a_Rule_control K) fd := T.dn4 1 _ rfl
theorem d_Rule_kind (T : Txt w K mg) : ∃ fd, Fun K "kind" "Rule.kind" s_Rule_kind (a_Rule_kind K) fd := T.dn4 2 _ rfl
theorem d_Stack_init (T : Txt w K mg) : ∃ fd, Fun K "__init__" "Stack.__init__" s_Stack_init (a_Stack_init K) fd := T.dn4 3 _ rfl
theorem d_Stack_len (T : Txt w K mg) : ∃ fd, Fun K "__len__" "Stack.__len__" s_Stack_len (a_Stack_len K) fd := T.dn4 4 _ rfl
theorem d_Stack_getitem (T : Txt w K mg) : ∃ fd, Fun K "__getitem__" "Stack.__getitem__" s_Stack_getitem (a_Stack_getitem K) fd := T.dn4 5 _ rfl
theorem d_Stack_add (T : Txt w K mg) : ∃ fd, Fun K "__add__" "Stack.__add__" s_Stack_add (a_Stack_add K) fd := T.dn4 6 _ rfl
theorem d_Stack_eq (T : Txt w K mg) : ∃ fd, Fun K "__eq__" "Stack.__eq__" s_Stack_eq (a_Stack_eq K) fd := T.dn4 7 _ rfl
theorem d_Stack_spliced (T : Txt w K mg) : ∃ fd, Fun K "spliced" "Stack.spliced" s_Stack_spliced (a_Stack_spliced K) fd := T.dn4 8 _ rfl
theorem d_Stack_entries (T : Txt w K mg) : ∃ fd, Fun K "entries" "Stack.entries" s_Stack_entries (a_Stack_entries K) fd := T.dn4 9 _ rfl
theorem d_Stack_rules (T : Txt w K mg) : ∃ fd, Fun K "rules" "Stack.rules" s_Stack_rules (a_Stack_rules K) fd := T.dn5 0 _ rfl
theorem d_Stack_modules (T : Txt w K mg) : ∃ fd, Fun K "modules" "Stack.modules" s_Stack_modules (a_Stack_modules K) fd := T.dn5 1 _ rfl
theorem d_Run_init (T : Txt w K mg) : ∃ fd, Fun K "__init__" "Run.__init__" s_Run_init (a_Run_init K) fd := T.dn5 2 _ rfl
theorem d_Run_ended (T : Txt w K mg) : ∃ fd, Fun K "ended" "Run.ended" s_Run_ended (a_Run_ended K) fd := T.dn5 3 _ rfl
theorem d_Run_outcome (T : Txt w K mg) : ∃ fd, Fun K "outcome" "Run.outcome" s_Run_outcome (a_Run_outcome K) fd := T.dn5 4 _ rfl
theorem d_State_init (T : Txt w K mg) : ∃ fd, Fun K "__init__" "State.__init__" s_State_init (a_State_init K) fd := T.dn5 5 _ rfl
theorem d_State_kept (T : Txt w K mg) : ∃ fd, Fun K "kept" "State.kept" s_State_kept (a_State_kept K) fd := T.dn5 6 _ rfl
theorem d_State_copied (T : Txt w K mg) : ∃ fd, Fun K "copied" "State.copied" s_State_copied (a_State_copied K) fd := T.dn5 7 _ rfl
theorem d_State_go_on (T : Txt w K mg) : ∃ fd, Fun K "go_on" "State.go_on" s_State_go_on (a_State_go_on K) fd := T.dn5 8 _ rfl
theorem d_Register_init (T : Txt w K mg) : ∃ fd, Fun K "__init__" "Register.__init__" s_Register_init (a_Register_init K) fd := T.dn5 9 _ rfl
theorem d_Register_stack (T : Txt w K mg) : ∃ fd, Fun K "stack" "Register.stack" s_Register_stack (a_Register_stack K) fd := T.dn6 0 _ rfl
theorem d_Register_enter (T : Txt w K mg) : ∃ fd, Fun K "enter" "Register.enter" s_Register_enter (a_Register_enter K) fd := T.dn6 1 _ rfl
theorem d_Register_edit (T : Txt w K mg) : ∃ fd, Fun K "edit" "Register.edit" s_Register_edit (a_Register_edit K) fd := T.dn6 2 _ rfl
theorem d_Register_need_entries (T : Txt w K mg) : ∃ fd, Fun K "need_entries" "Register.need_entries" s_Register_need_entries (a_Register_need_entries K) fd := T.dn6 3 _ rfl
theorem d_Register_put (T : Txt w K mg) : ∃ fd, Fun K "put" "Register.put" s_Register_put (a_Register_put K) fd := T.dn6 4 _ rfl
theorem d_Register_take (T : Txt w K mg) : ∃ fd, Fun K "take" "Register.take" s_Register_take (a_Register_take K) fd := T.dn6 5 _ rfl
theorem d_Register_swap (T : Txt w K mg) : ∃ fd, Fun K "swap" "Register.swap" s_Register_swap (a_Register_swap K) fd := T.dn6 6 _ rfl
theorem d_Register_turn (T : Txt w K mg) : ∃ fd, Fun K "turn" "Register.turn" s_Register_turn (a_Register_turn K) fd := T.dn6 7 _ rfl
theorem d_Register_execute (T : Txt w K mg) : ∃ fd, Fun K "execute" "Register.execute" s_Register_execute (a_Register_execute K) fd := T.dn6 8 _ rfl
theorem d_Register_apply_all (T : Txt w K mg) : ∃ fd, Fun K "apply_all" "Register.apply_all" s_Register_apply_all (a_Register_apply_all K) fd := T.dn6 9 _ rfl
theorem d_Register_history (T : Txt w K mg) : ∃ fd, Fun K "history" "Register.history" s_Register_history (a_Register_history K) fd := T.dn7 0 _ rfl
theorem d_Trial_init (T : Txt w K mg) : ∃ fd, Fun K "__init__" "Trial.__init__" s_Trial_init (a_Trial_init K) fd := T.dn7 1 _ rfl
theorem d_Trial_hold (T : Txt w K mg) : ∃ fd, Fun K "hold" "Trial.hold" s_Trial_hold (a_Trial_hold K) fd := T.dn7 2 _ rfl
theorem d_Trial_enter (T : Txt w K mg) : ∃ fd, Fun K "__enter__" "Trial.__enter__" s_Trial_enter (a_Trial_enter K) fd := T.dn7 3 _ rfl
theorem d_Trial_exit (T : Txt w K mg) : ∃ fd, Fun K "__exit__" "Trial.__exit__" s_Trial_exit (a_Trial_exit K) fd := T.dn7 4 _ rfl
theorem d_Reader_init (T : Txt w K mg) : ∃ fd, Fun K "__init__" "Reader.__init__" s_Reader_init (a_Reader_init K) fd := T.dn7 5 _ rfl
theorem d_Reader_item (T : Txt w K mg) : ∃ fd, Fun K "item" "Reader.item" s_Reader_item (a_Reader_item K) fd := T.dn7 6 _ rfl
theorem d_Reader_read_rule (T : Txt w K mg) : ∃ fd, Fun K "read_rule" "Reader.read_rule" s_Reader_read_rule (a_Reader_read_rule K) fd := T.dn7 7 _ rfl
theorem d_Reader_read_parts (T : Txt w K mg) : ∃ fd, Fun K "read_parts" "Reader.read_parts" s_Reader_read_parts (a_Reader_read_parts K) fd := T.dn7 8 _ rfl
theorem d_Reader_finish (T : Txt w K mg) : ∃ fd, Fun K "finish" "Reader.finish" s_Reader_finish (a_Reader_finish K) fd := T.dn7 9 _ rfl
theorem d_Rows_init (T : Txt w K mg) : ∃ fd, Fun K "__init__" "Rows.__init__" s_Rows_init (a_Rows_init K) fd := T.dn8 0 _ rfl
theorem d_Rows_next_words (T : Txt w K mg) : ∃ fd, Fun K "next_words" "Rows.next_words" s_Rows_next_words (a_Rows_next_words K) fd := T.dn8 1 _ rfl
theorem d_Rows_need_size (T : Txt w K mg) : ∃ fd, Fun K "need_size" "Rows.need_size" s_Rows_need_size (a_Rows_need_size K) fd := T.dn8 2 _ rfl
theorem d_Register_replay (T : Txt w K mg) : ∃ fd, Fun K "replay" "Register.replay" s_Register_replay (a_Register_replay K) fd := T.dn8 3 _ rfl
end Txt
end Ls
set_option maxRecDepth 100000
set_option maxHeartbeats 4000000
/-! what is looked at behind the top, and that it says Txt -/
namespace Ls
open PySem PySem.Spec PyProof.Rows L2
def propB (K : PySem.W.Frag) (C m : Str) : Bool := He.eqO (PySem.W.findIn K (.ref (He.ga K C)) m) (some (some (.ref (He.ma K (He.ga K C) m)))) && (He.eqO (PySem.W.specialIn K (.ref (He.ma K (He.ga K C) m)) "__get__") (some (some (.builtin "property.__get__"))) &&
  (decide (PySem.W.takesIn K (.ref (He.ma K (He.ga K C) m)) = some true) && (match PySem.W.recIn K (He.ma K (He.ga K C) m) "property" with
    | some (.ref _ :: _) => true
    | _ => false)))
theorem propB_ok {K : PySem.W.Frag} {C m : Str} (h : propB K C m = true) : PropOf K (He.ga K C) m (He.ma K (He.ga K C) m) (He5.wf K (He.ga K C) "property" m) := by
  obtain ⟨h1, h⟩ := He.ba h
  obtain ⟨h2, h⟩ := He.ba h
  obtain ⟨h3, h4⟩ := He.ba h
  refine ⟨He.eqO_ok h1, He.eqO_ok h2, of_decide_eq_true h3, ?_⟩
  unfold He5.wf
  split at h4
  · rename_i f r e
    exact ⟨r, by rw [e]⟩
  · cases h4
def slotB (K : PySem.W.Frag) (C f : Str) (i : Nat) : Bool := He.eqO (PySem.W.findIn K (.ref (He.ga K C)) f) (some (some (.ref (He.ma K (He.ga K C) f)))) && (He.eqO (PySem.W.specialIn K (.ref (He.ma K (He.ga K C) f)) "__get__") (some (some (.builtin "member_descriptor.__get__"))) &&
  (decide (PySem.W.takesIn K (.ref (He.ma K (He.ga K C) f)) = some true) && (decide (PySem.W.typeIn K (.ref (He.ma K (He.ga K C) f)) = some (.type "member_descriptor")) && decide (PySem.W.slotIn K (He.ma K (He.ga K C) f) (He.ga K C) = some i))))
theorem slotB_ok {K : PySem.W.Frag} {C f : Str} {i : Nat} (h : slotB K C f i = true) (hi : i < 1000) : SlX.Slot1 K (He.ga K C) f (He.ma K (He.ga K C) f) i := by
  obtain ⟨h1, h⟩ := He.ba h
  obtain ⟨h2, h⟩ := He.ba h
  obtain ⟨h3, h⟩ := He.ba h
  obtain ⟨h4, h5⟩ := He.ba h
  exact ⟨He.eqO_ok h1, He.eqO_ok h2, of_decide_eq_true h3, of_decide_eq_true h4, of_decide_eq_true h5, hi⟩
def sclsB (K : PySem.W.Frag) (C : Str) : Bool := PySem.W.plainGet K (He.ga K C) Str.empty && (PySem.W.isClsIn K (He.ga K C) && (PySem.W.plainOver K (He.ga K C) && He.eqO (PySem.W.findIn K (.ref (He.ga K C)) "__setattr__") (some (some (.builtin "object.__setattr__")))))
theorem sclsB_ok {K : PySem.W.Frag} {C : Str} (h : sclsB K C = true) : SlX.SCls K (He.ga K C) := by
  obtain ⟨h1, h⟩ := He.ba h
  obtain ⟨h2, h⟩ := He.ba h
  obtain ⟨h3, h4⟩ := He.ba h
  exact ⟨h1, h2, h3, He.eqO_ok h4⟩
/-- a tuple of the top at an address -/
def tupAB (K : PySem.W.Frag) (a : Addr) (vs : List V) : Bool := match K.lookup a with
  | some ⟨.type c, _, .seq its _, _⟩ => decide (c = "tuple") && (decide (its.size ≤ sizeLine) && He.relAll vs its.toList)
  | _ => false
theorem tupAB_ok {K : PySem.W.Frag} {a : Addr} {vs : List V} (h : tupAB K a vs = true) (H : Hp) : SqT K H a vs := by
  unfold tupAB at h
  cases q : K.lookup a with
  | none =>
    rw [q] at h
    cases h
  | some o =>
    obtain ⟨oc, od, dt, osl⟩ := o
    rw [q] at h
    cases oc with
    | type c =>
      cases dt with
      | seq its n =>
        obtain ⟨h1, h2⟩ := He.ba (show (decide (c = "tuple") && (decide (its.size ≤ sizeLine) && He.relAll vs its.toList)) = true from h)
        obtain ⟨h3, h4⟩ := He.ba h2
        exact .inr ⟨_, its, n, q, congrArg Value.type (of_decide_eq_true h1), rfl, of_decide_eq_true h3, He.relAll_ok h4⟩
      | _ => cases h
    | _ => cases dt <;> cases h
def rkB (K : PySem.W.Frag) (a : Addr) : Bool := match K.lookup a with
  | some ⟨.type c, none, _, _⟩ => decide (c = "tuple")
  | _ => false
theorem rkB_ok {K : PySem.W.Frag} {a : Addr} (h : rkB K a = true) : ∃ o, K.lookup a = some o ∧ o.cls = .type "tuple" ∧ o.dict = none := by
  unfold rkB at h
  cases q : K.lookup a with
  | none =>
    rw [q] at h
    cases h
  | some o =>
    obtain ⟨oc, od, dt, osl⟩ := o
    rw [q] at h
    cases oc with
    | type c =>
      cases od with
      | none => exact ⟨_, rfl, congrArg Value.type (of_decide_eq_true h), rfl⟩
      | some d => cases h
    | _ => cases od <;> cases h
/-- a dict's entries are these pairs -/
def entsB : List DictEntry → List (Str × V) → Bool
  | [], [] => true
  | e :: es, kv :: kvs => (match e.key with
    | .str x _ => decide (x = kv.1)
    | _ => false) && (He.relB kv.2 e.val && entsB es kvs)
  | _, _ => false
theorem entsB_ok : ∀ {es : List DictEntry} {kvs : List (Str × V)}, entsB es kvs = true → EntsAre es kvs
  | [], [], _ => trivial
  | [], _ :: _, h => by cases h
  | _ :: _, [], h => by cases h
  | e :: es, kv :: kvs, h => by
    obtain ⟨h1, h⟩ := He.ba (show ((match e.key with
      | .str x _ => decide (x = kv.1)
      | _ => false) && (He.relB kv.2 e.val && entsB es kvs)) = true from h)
    obtain ⟨h2, h3⟩ := He.ba h
    refine ⟨?_, He.relB_ok h2, entsB_ok h3⟩
    split at h1
    · rename_i x t q
      exact ⟨t, by rw [q, of_decide_eq_true h1]⟩
    · cases h1
def kdB (K : PySem.W.Frag) (a : Addr) (kvs : List (Str × V)) : Bool := match K.lookup a with
  | some ⟨_, _, .dict es _, _⟩ => entsB es.toList kvs
  | _ => false
theorem kd_of {K : PySem.W.Frag} {w : World} {a : Addr} {ks : List Str} {kvs : List (Str × V)} (h : He.dicW K a = some (He.keysIn w.params ks)) (h2 : kdB K a kvs = true) (nd : (kvs.map (·.1)).Nodup) : KD K w a kvs := by
  obtain ⟨es, n, D⟩ := He.dicW_ok h
  refine ⟨⟨es, n, D, entsB_ok ?_⟩, nd⟩
  unfold kdB at h2
  rw [D.at_] at h2
  exact h2
def creadB (K : PySem.W.Frag) (C : Str) : Bool := PySem.W.readsIn K (He.ga K C) (.type "type") && He.eqO (PySem.W.specialIn K (.ref (He.ga K C)) "__getattribute__") (some (some (.builtin "type.__getattribute__")))
/-! ### all of it -/
def falAll : List He.Fa := Fal0 ++ (Fal1 ++ (Fal2 ++ (Fal3 ++ (Fal4 ++ (Fal5 ++ (Fal6 ++ (Fal7 ++ (Fal8 ++ (Fal9 ++ (Fal10 ++ (Fal11 ++ (Fal12 ++ (Fal13 ++ (Fal14 ++ (Fal15 ++ Fal16)))))))))))))))
def dnlAll : List Dn := Dnl0 ++ (Dnl1 ++ (Dnl2 ++ (Dnl3 ++ (Dnl4 ++ (Dnl5 ++ (Dnl6 ++ (Dnl7 ++ Dnl8)))))))
def Dn.toA (d : Dn) : He5.DefA := ⟨d.at_, d.name, d.qual, defArgs d.st, defBody d.st, defScope d.st, [], []⟩
def fnAll : List He5.DefA := dnlAll.map Dn.toA
def bits1 (K : PySem.W.Frag) : Bool := propB K "Rule" "module" && (propB K "Rule" "control" && (propB K "Rule" "kind" && (propB K "Stack" "entries" && (propB K "Stack" "rules" && (propB K "Stack" "modules" && (propB K "Register" "history" &&
  (He5.wrapB K (cRegister K) "classmethod" "classmethod.__get__" "replay" && (PySem.W.fnIn K (a_Register_replay K) && (creadB K "Register" && PySem.W.keepIn K (.ref (cRegister K)))))))))))
def bits2 (K : PySem.W.Frag) : Bool := sclsB K "State" && (slotB K "State" "noted" 0 && (slotB K "State" "past" 1 && (slotB K "State" "present" 2 && (slotB K "State" "undone" 3 && slotB K "State" "vows" 4))))
def bits3 (K : PySem.W.Frag) : Bool := tupAB K (He.ga K "RESULTS") [.str "yes", .str "no", .str "skip", .str "gone"] && (tupAB K (He.ga K "ACTIONS") [.str "ok", .str "bad", .str "die", .str "done", .str "ignore", .str "reset"] && (tupAB K (He.ga K "NONE") [.str "none", .non] && (tupAB K (He.ga K "GOOD") [.str "good", .non] &&
  (kdB K (He.ga K "KINDS") (kindKV K) && (kdB K (He.ga K "SIZES") sizeKV && (tupAB K (kindA K 0) [.str "ok", .str "bad", .str "ignore", .str "bad"] && (tupAB K (kindA K 1) [.str "ok", .str "die", .str "ignore", .str "die"] && (tupAB K (kindA K 2) [.str "done", .str "ignore", .str "ignore", .str "ignore"] &&
  (tupAB K (kindA K 3) [.str "ok", .str "ignore", .str "ignore", .str "ignore"] && (rkB K (He.ga K "RESULTS") && rkB K (He.ga K "ACTIONS")))))))))))
def bits4 (K : PySem.W.Frag) : Bool := PySem.W.selfFirst K (cStack K) && (PySem.W.fnIn K (a_Stack_getitem K) && (decide (PySem.W.mroIn K (cStack K) (.type "object") = some true) && (decide (PySem.W.mroIn K (cRule K) (.type "object") = some true) &&
  (He.eqO (PySem.W.findIn K (.ref (cStack K)) "__ne__") (some (some (.builtin "object.__ne__"))) && (He.eqO (PySem.W.findIn K (.ref (cStack K)) "__class__") (some (some (.builtin "object.__class__"))) && (He.eqO (PySem.W.findIn K (.ref (cRule K)) "__class__") (some (some (.builtin "object.__class__"))) &&
  (He.eqO (PySem.W.specialIn K (.builtin "object.__class__") "__get__") (some (some (.builtin "getset_descriptor.__get__"))) && (decide (PySem.W.takesIn K (.builtin "object.__class__") = some true) && (decide (PySem.W.kitOne K (.ref (cRule K)) (.ref (cStack K)) = some false) && decide (PySem.W.kitOne K (.ref (cRule K)) (.type "list") = some false))))))))))
def bits (K : PySem.W.Frag) : Bool := bits1 K && (bits2 K && (bits3 K && bits4 K))
def tabsAll : List He.Tab := [(fun K => He.ga K "KINDS", ["required", "requisite", "sufficient", "optional"]), (fun K => He.ga K "SIZES", ["put", "take", "swap", "turn", "promise", "store", "go", "undo", "redo"])]
abbrev AlL : Type := He.AlD × (Bool × List (Option (List (Option (Str × Int)))))
def obsL (K : PySem.W.Frag) : AlL := (He5.obsA falAll fnAll K, bits K, tabsAll.map fun t => He.dicW K (t.1 K))
def valL (w : World) : AlL := (He5.valA fnAll, true, tabsAll.map fun t => some (He.keysIn w.params t.2))
def SaysL (w : World) (K : PySem.W.Frag) : Prop := obsL K = valL w
theorem SaysL.a {w : World} {K : PySem.W.Frag} (c : SaysL w K) : He5.SaysA falAll fnAll K := congrArg (fun z : AlL => z.1) c
theorem SaysL.bit {w : World} {K : PySem.W.Frag} (c : SaysL w K) : bits K = true := congrArg (fun z : AlL => z.2.1) c
theorem SaysL.tab {w : World} {K : PySem.W.Frag} (c : SaysL w K) (i : Nat) {t : He.Tab} (h : tabsAll[i]? = some t) : He.dicW K (t.1 K) = some (He.keysIn w.params t.2) := by
  have e : tabsAll.map (fun t => He.dicW K (t.1 K)) = tabsAll.map fun t => some (He.keysIn w.params t.2) := congrArg (fun z : AlL => z.2.2) c
  have e2 : (tabsAll.map fun t => He.dicW K (t.1 K))[i]? = (tabsAll.map fun t => some (He.keysIn w.params t.2))[i]? := by rw [e]
  rw [List.getElem?_map, List.getElem?_map, h] at e2
  exact Option.some.inj e2
theorem SaysL.fa {w : World} {K : PySem.W.Frag} (c : SaysL w K) {l : List He.Fa} (h : ∀ f ∈ l, f ∈ falAll) : l.all (fun f => f.ok K) = true :=
  List.all_eq_true.mpr fun f hf => by
    obtain ⟨i, hi, e⟩ := List.mem_iff_getElem.mp (h f hf)
    exact c.a.fact i (f := f) (by rw [List.getElem?_eq_getElem hi, e])
theorem SaysL.dn {w : World} {K : PySem.W.Frag} (c : SaysL w K) {l : List Dn} (h : ∀ d ∈ l, d ∈ dnlAll) : DnOk K l := fun i d hd => by
  have hm := h d (List.mem_of_getElem? hd)
  have hm2 : d.toA ∈ fnAll := List.mem_map_of_mem hm
  obtain ⟨j, hj, e⟩ := List.mem_iff_getElem.mp hm2
  obtain ⟨fd, F⟩ := c.a.def_ j (d := d.toA) (by rw [List.getElem?_eq_getElem hj, e])
  exact ⟨fd, He5.fun_of F⟩
theorem mem_l {α : Type} {a : α} {l m : List α} (h : a ∈ l) : a ∈ l ++ m := List.mem_append_left _ h
theorem mem_r {α : Type} {a : α} {l m : List α} (h : a ∈ m) : a ∈ l ++ m := List.mem_append_right _ h
theorem kindsT_of {K : PySem.W.Frag} (h0 : tupAB K (kindA K 0) [.str "ok", .str "bad", .str "ignore", .str "bad"] = true) (h1 : tupAB K (kindA K 1) [.str "ok", .str "die", .str "ignore", .str "die"] = true) (h2 : tupAB K (kindA K 2) [.str "done", .str "ignore", .str "ignore", .str "ignore"] = true)
    (h3 : tupAB K (kindA K 3) [.str "ok", .str "ignore", .str "ignore", .str "ignore"] = true) : ∀ (i : Nat) (p : Str × List V), kindTab[i]? = some p → ∀ H, SqT K H (kindA K i) p.2
  | 0, p, h, H => by
    cases h
    exact tupAB_ok h0 H
  | 1, p, h, H => by
    cases h
    exact tupAB_ok h1 H
  | 2, p, h, H => by
    cases h
    exact tupAB_ok h2 H
  | 3, p, h, H => by
    cases h
    exact tupAB_ok h3 H
  | i + 4, p, h, H => by cases h
theorem txt_of {w : World} {K : PySem.W.Frag} {h : Heap} {mg : Str → Option Value} (X : K.In h) (G : h.Ns mainGlobals mg) (c : SaysL w K) : Txt w K mg := by
  obtain ⟨b1, b⟩ := He.ba c.bit
  obtain ⟨b2, b⟩ := He.ba b
  obtain ⟨b3, b4⟩ := He.ba b
  obtain ⟨p1, b1⟩ := He.ba b1
  obtain ⟨p2, b1⟩ := He.ba b1
  obtain ⟨p3, b1⟩ := He.ba b1
  obtain ⟨p4, b1⟩ := He.ba b1
  obtain ⟨p5, b1⟩ := He.ba b1
  obtain ⟨p6, b1⟩ := He.ba b1
  obtain ⟨p7, b1⟩ := He.ba b1
  obtain ⟨p8, b1⟩ := He.ba b1
  obtain ⟨p9, b1⟩ := He.ba b1
  obtain ⟨p10, p11⟩ := He.ba b1
  obtain ⟨r1, r2⟩ := He.ba p10
  obtain ⟨s1, b2⟩ := He.ba b2
  obtain ⟨s2, b2⟩ := He.ba b2
  obtain ⟨s3, b2⟩ := He.ba b2
  obtain ⟨s4, b2⟩ := He.ba b2
  obtain ⟨s5, s6⟩ := He.ba b2
  obtain ⟨t1, b3⟩ := He.ba b3
  obtain ⟨t2, b3⟩ := He.ba b3
  obtain ⟨t3, b3⟩ := He.ba b3
  obtain ⟨t4, b3⟩ := He.ba b3
  obtain ⟨t5, b3⟩ := He.ba b3
  obtain ⟨t6, b3⟩ := He.ba b3
  obtain ⟨t7, b3⟩ := He.ba b3
  obtain ⟨t8, b3⟩ := He.ba b3
  obtain ⟨t9, b3⟩ := He.ba b3
  obtain ⟨t10, b3⟩ := He.ba b3
  obtain ⟨t11, t12⟩ := He.ba b3
  obtain ⟨u1, b4⟩ := He.ba b4
  obtain ⟨u2, b4⟩ := He.ba b4
  obtain ⟨u3, b4⟩ := He.ba b4
  obtain ⟨u4, b4⟩ := He.ba b4
  obtain ⟨u5, b4⟩ := He.ba b4
  obtain ⟨u6, b4⟩ := He.ba b4
  obtain ⟨u7, b4⟩ := He.ba b4
  obtain ⟨u8, b4⟩ := He.ba b4
  obtain ⟨u9, b4⟩ := He.ba b4
  obtain ⟨u10, u11⟩ := He.ba b4
  exact
  { mgs := fun x r e => by
      cases r with
      | none => exact PySem.W.mg_none_of X G e
      | some v => exact PySem.W.mg_of X G e
    fa0 := c.fa fun f h => mem_l h
    fa1 := c.fa fun f h => mem_r (mem_l h)
    fa2 := c.fa fun f h => mem_r (mem_r (mem_l h))
    fa3 := c.fa fun f h => mem_r (mem_r (mem_r (mem_l h)))
    fa4 := c.fa fun f h => mem_r (mem_r (mem_r (mem_r (mem_l h))))
    fa5 := c.fa fun f h => mem_r (mem_r (mem_r (mem_r (mem_r (mem_l h)))))
    fa6 := c.fa fun f h => mem_r (mem_r (mem_r (mem_r (mem_r (mem_r (mem_l h))))))
    fa7 := c.fa fun f h => mem_r (mem_r (mem_r (mem_r (mem_r (mem_r (mem_r (mem_l h)))))))
    fa8 := c.fa fun f h => mem_r (mem_r (mem_r (mem_r (mem_r (mem_r (mem_r (mem_r (mem_l h))))))))
    fa9 := c.fa fun f h => mem_r (mem_r (mem_r (mem_r (mem_r (mem_r (mem_r (mem_r (mem_r (mem_l h)))))))))
    fa10 := c.fa fun f h => mem_r (mem_r (mem_r (mem_r (mem_r (mem_r (mem_r (mem_r (mem_r (mem_r (mem_l h))))))))))
    fa11 := c.fa fun f h => mem_r (mem_r (mem_r (mem_r (mem_r (mem_r (mem_r (mem_r (mem_r (mem_r (mem_r (mem_l h)))))))))))
    fa12 := c.fa fun f h => mem_r (mem_r (mem_r (mem_r (mem_r (mem_r (mem_r (mem_r (mem_r (mem_r (mem_r (mem_r (mem_l h))))))))))))
    fa13 := c.fa fun f h => mem_r (mem_r (mem_r (mem_r (mem_r (mem_r (mem_r (mem_r (mem_r (mem_r (mem_r (mem_r (mem_r (mem_l h)))))))))))))
    fa14 := c.fa fun f h => mem_r (mem_r (mem_r (mem_r (mem_r (mem_r (mem_r (mem_r (mem_r (mem_r (mem_r (mem_r (mem_r (mem_r (mem_l h))))))))))))))
    fa15 := c.fa fun f h => mem_r (mem_r (mem_r (mem_r (mem_r (mem_r (mem_r (mem_r (mem_r (mem_r (mem_r (mem_r (mem_r (mem_r (mem_r (mem_l h)))))))))))))))
    fa16 := c.fa fun f h => mem_r (mem_r (mem_r (mem_r (mem_r (mem_r (mem_r (mem_r (mem_r (mem_r (mem_r (mem_r (mem_r (mem_r (mem_r (mem_r h)))))))))))))))
    dn0 := c.dn fun f h => mem_l h
    dn1 := c.dn fun f h => mem_r (mem_l h)
    dn2 := c.dn fun f h => mem_r (mem_r (mem_l h))
    dn3 := c.dn fun f h => mem_r (mem_r (mem_r (mem_l h)))
    dn4 := c.dn fun f h => mem_r (mem_r (mem_r (mem_r (mem_l h))))
    dn5 := c.dn fun f h => mem_r (mem_r (mem_r (mem_r (mem_r (mem_l h)))))
    dn6 := c.dn fun f h => mem_r (mem_r (mem_r (mem_r (mem_r (mem_r (mem_l h))))))
    dn7 := c.dn fun f h => mem_r (mem_r (mem_r (mem_r (mem_r (mem_r (mem_r (mem_l h)))))))
    dn8 := c.dn fun f h => mem_r (mem_r (mem_r (mem_r (mem_r (mem_r (mem_r (mem_r h)))))))
    p_Rule_module := propB_ok p1
    p_Rule_control := propB_ok p2
    p_Rule_kind := propB_ok p3
    p_Stack_entries := propB_ok p4
    p_Stack_rules := propB_ok p5
    p_Stack_modules := propB_ok p6
    p_Register_history := propB_ok p7
    cm_replay := He5.cmet_of p8 p9
    cr_Register := ⟨r1, He.eqO_ok r2⟩
    kp_Register := p11
    sc_State := sclsB_ok s1
    sl_noted := slotB_ok s2 (by decide)
    sl_past := slotB_ok s3 (by decide)
    sl_present := slotB_ok s4 (by decide)
    sl_undone := slotB_ok s5 (by decide)
    sl_vows := slotB_ok s6 (by decide)
    results := tupAB_ok t1
    actions := tupAB_ok t2
    none_ := tupAB_ok t3
    good_ := tupAB_ok t4
    kinds := kd_of (c.tab 0 rfl) t5 (show (["required", "requisite", "sufficient", "optional"] : List Str).Nodup by decide +kernel)
    kindsT := kindsT_of t7 t8 t9 t10
    sizes := kd_of (c.tab 1 rfl) t6 (show (["put", "take", "swap", "turn", "promise", "store", "go", "undo", "redo"] : List Str).Nodup by decide +kernel)
    rk_RESULTS := rkB_ok t11
    rk_ACTIONS := rkB_ok t12
    sf_Stack := u1
    fn_getitem := u2
    mo_Stack := of_decide_eq_true u3
    mo_Rule := of_decide_eq_true u4
    ne_Stack := He.eqO_ok u5
    ha_Stack := He.eqO_ok u6
    ha_Rule := He.eqO_ok u7
    hn_cls := He.eqO_ok u8
    htk_cls := of_decide_eq_true u9
    kit_RS := of_decide_eq_true u10
    kit_RL := of_decide_eq_true u11 }
/-! ### the Hook -/
/-- the spine of a part of the heap worked out, once -/
def frAL {α : Type} : List (Addr × Obj) → (PySem.W.Frag → α) → α
  | [], k => k []
  | (a, o) :: r, k => HandSHeadRun.frNat a fun a => frAL r fun r => k ((a, o) :: r)
theorem frAL_eq {α : Type} : ∀ (l : List (Addr × Obj)) (k : PySem.W.Frag → α), frAL l k = k l
  | [], _ => rfl
  | (a, o) :: r, k => by
    show (HandSHeadRun.frNat a fun a => frAL r fun r => k ((a, o) :: r)) = _
    rw [HandSHeadRun.frNat_eq, frAL_eq]
/-- what the module's names reach: functions and their code, classes, what stands in them, tables -/
def fnR (g : Addr → Option Obj) (a : Addr) : List Addr := match g a with
  | some ⟨_, _, .func fd, _⟩ => a :: He.refV fd.code
  | some ⟨_, _, .fields vs, _⟩ => a :: (vs.toList.flatMap He.refV).flatMap fun f => (match g f with
    | some ⟨_, _, .func fd, _⟩ => f :: He.refV fd.code
    | _ => [])
  | some _ => [a]
  | none => []
def objR (g : Addr → Option Obj) (a : Addr) : List Addr := match g a with
  | some ⟨_, _, .cls cd, _⟩ => a :: cd.ns :: (match g cd.ns with
    | some ⟨_, _, .dict es _, _⟩ => es.toList.flatMap fun e => (He.refV e.val).flatMap (fnR g)
    | _ => [])
  | some ⟨_, _, .func fd, _⟩ => a :: He.refV fd.code
  | some ⟨_, _, .dict es _, _⟩ => a :: es.toList.flatMap fun e => He.refV e.val
  | some _ => [a]
  | none => []
def asL (g : Addr → Option Obj) : List Addr := mainGlobals :: cStatics :: (match g mainGlobals with
  | some ⟨_, _, .dict es _, _⟩ => es.toList.flatMap fun e => (He.refV e.val).flatMap (objR g)
  | _ => [])
def hookL : PySem.W.Hook where
  α := AlL
  obs := fun s => obsL (He.frG s.heap.get? (asL s.heap.get?))
  val := fun w => valL w
  says := fun w h => ∃ K : PySem.W.Frag, K.In h ∧ SaysL w K
  of := fun _ _ e => ⟨_, He.frG_in, e⟩
  keeps := fun _ _ _ ⟨K, hK, c⟩ k => ⟨K, PySem.W.Frag.In.keeps hK k, c⟩
def obL (s : PySem.W.SharedT) : AlL := frAL (He.frG (HandSHeadRun.getT s) (asL (HandSHeadRun.getT s))) obsL
theorem obL_eq (s : PySem.W.SharedT) : obL s = hookL.obs s.abs := by
  have e : HandSHeadRun.getT s = s.abs.heap.get? := funext (HandSHeadRun.getT_eq s)
  unfold obL
  rw [frAL_eq, e] <;> rfl
end Ls
set_option maxRecDepth 100000
set_option maxHeartbeats 0
/-! the top's run, looked at part by part -/
namespace Ls
open PySem PySem.W PySem.Calls PyProof.Rows HandSHeadRun
abbrev rwL : PySem.W.OpenLaw := PySem.Challenge.rw_loginstacks_k65_whole_edits_and_back
abbrev R : PySem.W.OpenRow := PySem.W.OpenLaw.row rwL
abbrev qv : Program := PySem.W.view R.prog [112]
def loose1 : List Str := ["_wall", "StackError", "InvalidRule", "InvalidStack", "InvalidAnswers", "InvalidPlace", "UnknownRule", "TooMany", "InvalidWord", "PromiseBroken", "InvalidName", "UnknownName"]
def loose2 : List Str := ["InvalidOperation", "InvalidText", "DecodeError", "YES", "NO", "SKIP", "GONE", "RESULTS", "OK", "BAD", "DIE", "DONE"]
def loose3 : List Str := ["IGNORE", "RESET", "ACTIONS", "MOST_JUMP", "KINDS", "LETTERS", "MOST_LETTERS", "is_number", "is_word", "is_action", "table_of", "Rule"]
def loose4 : List Str := ["MOST_ENTRIES", "MOST_RULES", "MOST_MODULES", "MOST_DEPTH", "Stack", "steps_of", "firsts_of", "IN", "OUT", "NONE", "GOOD", "Run"]
def loose5 : List Str := ["marked", "need_answers", "all_answers", "outcomes", "agrees", "both_outcomes", "first_difference", "alike", "need_word", "OPEN", "where_all", "SIZES"]
def loose6 : List Str := ["is_operation", "with_control", "State", "copied", "Register", "Trial", "FIRST", "STACK", "RULE", "CHECK_START", "CHECK_TIMES", "CHECK_REST"]
def loose7 : List Str := ["checksum", "action_item", "rule_items", "stack_items", "encode_stack", "Reader", "made_stack", "made_stack_codec", "decode_stack", "BEGIN", "END", "JUMPS"]
def loose8 : List Str := ["control_word", "stack_rows", "format_stack", "read_action", "read_control", "Rows", "read_rule", "read_parts", "made_stack_notation", "parse_stack", "_law_taken", "_law_control"]
def loose9 : List Str := ["_law_stack", "_law_names", "_law_edits"]
def loose : List Str := loose1 ++ (loose2 ++ (loose3 ++ (loose4 ++ (loose5 ++ (loose6 ++ (loose7 ++ (loose8 ++ (loose9))))))))
abbrev rowG : String := "special-get-raises"
theorem map_join {α β γ δ : Type} {e : Option α} {f1 : α → β} {f2 : α → γ} {g : α → δ} {a : β} {b : γ} {c : δ} (h1 : e.map (fun s => (f1 s, f2 s)) = some (a, b)) (h2 : e.map g = some c) : e.map (fun s => (f1 s, f2 s, g s)) = some (a, b, c) := by
  obtain ⟨s, hs, k1⟩ := Option.map_eq_some_iff.mp h1
  obtain ⟨t, ht, k2⟩ := Option.map_eq_some_iff.mp h2
  rw [hs] at ht
  cases ht
  obtain ⟨q1, q2⟩ := Prod.mk.inj k1
  rw [hs, Option.map_some, q1, q2, k2]
/-- the two halves of the run's equation: what the library looks at, what this proof looks at -/
def Half1 (r : OpenRow) (q : Program) (M : Nat) (loose : List PySem.Str) (w : World) : Prop :=
  ∀ os : OsState, (endF (stepQ (denQ tabQ) r.prog w) M r.prog w os).map (fun s => (looksF r.prog (boot_heap w.params) s.abs, seenQ q loose (importedModules r.prog.main.body) (fun s => xlAt q [] s && recOk r.toRowW.records s) s.abs)) = some (true, openGood q loose)
def Half2 (r : OpenRow) (H : Hook) (ob : SharedT → H.α) (M : Nat) (w : World) : Prop :=
  ∀ os : OsState, (endF (stepQ (denQ tabQ) r.prog w) M r.prog w os).map ob = some (H.val w)
theorem runEq_of {r : OpenRow} {q : Program} {H : Hook} {ob : SharedT → H.α} {M : Nat} {loose : List PySem.Str} {w : World} (h1 : Half1 r q M loose w) (h2 : Half2 r H ob M w) : RunEq r q H ob M loose w :=
  fun os => map_join (h1 os) (h2 os)
theorem topRun1 (w : World) : Half1 R qv 40000 loose (w.withFollow rowG false) := by
  intro os
  kernel_rfl
theorem topRun2 (w : World) : Half1 R qv 40000 loose (w.withFollow rowG true) := by
  intro os
  kernel_rfl
theorem topRun3 (w : World) : Half2 R hookL obL 40000 (w.withFollow rowG false) := by
  intro os
  kernel_rfl
theorem topRun4 (w : World) : Half2 R hookL obL 40000 (w.withFollow rowG true) := by
  intro os
  kernel_rfl
theorem runL (w : World) : RunEq R qv hookL obL 40000 loose w :=
  byRow2 rowG (P := fun w => RunEq R qv hookL obL 40000 loose w) (fun w => runEq_of (topRun1 w) (topRun3 w)) (fun w => runEq_of (topRun2 w) (topRun4 w)) w
end Ls
set_option maxRecDepth 100000
set_option maxHeartbeats 4000000
/-! calls by positional promises: defs, methods, classes, properties -/
namespace Ls
open PySem PySem.Spec PyProof.Rows L2

/-- a def of the module, callable by its name -/
structure GF (P : Program) (w : World) (K : PySem.W.Frag) (mg : Str → Option Value) (base : Heap) (k : Nat) (x : Str) (f : Addr) (sp : Sp) : Prop where
  run : FnR P w K mg base CX0 k f sp
  kp : PySem.W.keepIn K (.ref f) = true
  gl : mg x = some (.ref f)
/-- a method -/
structure MF (P : Program) (w : World) (K : PySem.W.Frag) (mg : Str → Option Value) (base : Heap) (k : Nat) (C : Addr) (m : Str) (f : Addr) (sp : Sp) : Prop where
  run : FnR P w K mg base CX0 k f sp
  me : Meth K C m f
  cl : Cls K C
/-- a class, made by its __init__ -/
structure CF (P : Program) (w : World) (K : PySem.W.Frag) (mg : Str → Option Value) (base : Heap) (k : Nat) (x : Str) (C f : Addr) (sp : Sp) : Prop where
  run : FnR P w K mg base CX0 k f sp
  mk_ : Mk K C f
  gl : mg x = some (.ref C)
/-- a property -/
structure PF (P : Program) (w : World) (K : PySem.W.Frag) (mg : Str → Option Value) (base : Heap) (k : Nat) (C : Addr) (m : Str) (p g : Addr) (sp : Sp) : Prop where
  run : FnR P w K mg base CX0 k g sp
  pr : PropOf K C m p g
  cl : Cls K C

/-- from a def's body to its positional promise -/
theorem fnr {P : Program} {w : World} {K : PySem.W.Frag} {mg : Str → Option Value} {base : Heap} {x qual : Str} {st : Stmt} {f : Addr} {fd : FuncData} {N ps : List Str} {k : Nat} {sp : Sp}
    (F : Fun K x qual st f fd) (S : FnScope N ps (defScope st)) (hb : Binds K fd ps []) (len : ∀ vs H Q E, sp vs H Q E → vs.length = ps.length)
    (hbody : ∀ (cdv : Value) (A : Around) (outer : List Env) (s : Shared) (H : Hp) (vs : List V) (Q : VK) (E : XK), Room k (A.deeper (envOfC qual (defScope st) s.heap.objs.size f cdv)) → sp vs H Q E →
      ∃ t, PSs (cxOf CX0 P w K mg base N qual (defScope st) f cdv A outer s H E).nox (defBody st) t ∧ t { nx := fun _ H' => Q .non H', rt := Q } (start N vs) H) : FnR P w K mg base CX0 (k + 1) f sp :=
  ((F.ok S len hbody).raw hb .nil).imp fun vs H Q E h => by
    rw [List.append_nil]
    exact h
/-- three facts of a def at once -/
theorem gf_of {P : Program} {w : World} {K : PySem.W.Frag} {mg : Str → Option Value} {base : Heap} {x y qual : Str} {st : Stmt} {f : Addr} {fd : FuncData} {k : Nat} {sp : Sp} (F : Fun K x qual st f fd) (gl : mg y = some (.ref f))
    (run : FnR P w K mg base CX0 k f sp) : GF P w K mg base k y f sp := ⟨run, F.kp, gl⟩

def tC0 (sp : Sp) (t : TA) : TE := fun σ H Q => t σ H fun vs H1 => sp vs H1 Q E0
section
variable {X : Cx} {k : Nat} {f g C pa : Addr} {sp : Sp} {x m : Str} {p pos apos : Pos} {e o : Expr} {es : List Expr} {ta te : TE} {t : TA}
theorem pcall (G : GF X.prog X.w X.K X.mg X.base k x f sp) (hr : Room k X.A) (ha : PA X (e :: es) t) (hg : Gl X x := by rfl) (hdb : (x == ("__debug__" : Str)) = false := by decide)
    (he : starEach (e :: es) X.env = (false, eval e X.env) :: starEach es X.env := by rfl) (hpl : (backTo pos (starEach es X.env)).any (·.1) = false := by rfl) : PE X (.Call (.Name x p) (e :: es) [] pos) (tC0 sp t) :=
  ⟨fun pins s σ H Q I h => wpAny_Call_Name_kw (ld_glob I hg G.gl (PySem.W.callWith_K (h₀ := X.base) I.ok.mod.kin G.kp (thn (ha.run pos pins s σ H _ I h) fun us s1 ⟨vs, H1, I1, r, q⟩ => ⟨I1.kIn, wpAny_call (run_fnR G.run hr pass0 I1 r q)⟩) he hpl) hdb)⟩
/-- x(a), x a name of the def that holds the class at C -/
def tLocC (C : Addr) (sp : Sp) (i : Nat) (t : TA) : TE := fun σ H Q => σ[i]? = some (some (.ref C)) ∧ StX.tMakeR C sp E0 t σ H Q

theorem pmakeL {i : Nat} (M : Mk X.K C f) (F : FnR X.prog X.w X.K X.mg X.base CX0 k f sp) (hr : Room (k + 1) X.A) (ha : PA X (e :: es) t) (hN : X.N[i]? = some x := by rfl) (hv : Vis X.env.scope x := by first | exact Or.inl rfl | exact Or.inr (Or.inl rfl))
    (hd : (x == ("__debug__" : Str)) = false := by decide) (hcd : (x == ("__classdict__" : Str)) = false := by decide)
    (he : starEach (e :: es) X.env = (false, eval e X.env) :: starEach es X.env := by rfl) (hpl : (backTo pos (starEach es X.env)).any (·.1) = false := by rfl) : PE X (.Call (.Name x p) (e :: es) [] pos) (tLocC C sp i t) := by
  refine ⟨fun pins s σ H Q I h => ?_⟩
  obtain ⟨hs, h⟩ := h
  refine wpAny_Call_Name_kw (thn ((pe_var (pos := p) (i := i) hN hv hd hcd).run pins s σ H (fun v H1 => v = .ref C ∧ H1 = H) I ⟨.ref C, hs, rfl, rfl⟩) fun u s1 ⟨v, H1, I1, r1, ev, eH⟩ => ?_)
  subst ev
  rw [eH] at I1
  cases r1
  exact PySem.W.callWith_K (h₀ := X.base) I.ok.mod.kin M.kp (thn (ha.run pos pins s1 σ H _ I1 h) fun us s2 ⟨vs, H2, I2, r, q⟩ => ⟨I2.kIn, StX.run_makeR M F hr pass0 I2 r q⟩) he hpl
theorem pmeth {pl : Sem Bool} (he : PE X o ta) (G : MF X.prog X.w X.K X.mg X.base k C m f sp) (hr : Room k X.A) (ha : PA X (e :: es) t)
    (hst : starEach (e :: es) X.env = (false, eval e X.env) :: starEach es X.env := by rfl) (hpl : (backTo pos (starEach es X.env)).any (·.1) = false := by rfl)
    (ht : eval (.Call (.Attribute o m apos) (e :: es) [] pos) X.env = (do
      let ov ← eval o X.env
      standAt apos.atName
      let (f, first) ← holding [ov] (getMethod ov m pl)
      callWith pos f first (backTo pos (starEach (e :: es) X.env)) (backToKw pos (keywordEach [] X.env))) := by rfl) :
    PE X (.Call (.Attribute o m apos) (e :: es) [] pos) (tMethR C m sp E0 ta t) := pe_methR he G.cl G.me G.run hr pass0 ha hst hpl ht
theorem pmeth0 {pl : Sem Bool} (he : PE X o ta) (G : MF X.prog X.w X.K X.mg X.base k C m f sp) (hr : Room k X.A)
    (ht : eval (.Call (.Attribute o m apos) [] [] pos) X.env = (do
      let ov ← eval o X.env
      standAt apos.atName
      let (f, first) ← holding [ov] (getMethod ov m pl)
      callWith pos f first (backTo pos (starEach [] X.env)) (backToKw pos (keywordEach [] X.env))) := by rfl) :
    PE X (.Call (.Attribute o m apos) [] [] pos) (tMethR C m sp E0 ta tNil) := by
  refine ⟨fun pins s σ H Q I h => ?_⟩
  refine PySem.W.methodCall_KW (pl := pl) (thn (he.run pins s σ H _ I h) fun u s1 ⟨x, H1, I1, rx, a, dx, fs, ex, ea, l, q⟩ => ?_) ht
  subst ex
  obtain rfl : u = Value.ref a := rx
  refine getmeth_ok I1 ea G.cl G.me l ?_
  exact PySem.W.callWith_K0 (first := [.ref a]) I1.kIn G.me.kp (wpAny_call (run_fnR (us := [.ref a]) (vs := [.ref a]) G.run hr pass0 I1 (.cons rfl .nil) q))
theorem pmake (G : CF X.prog X.w X.K X.mg X.base k x C f sp) (hr : Room (k + 1) X.A) (ha : PA X (e :: es) t) (hg : Gl X x := by rfl) (hdb : (x == ("__debug__" : Str)) = false := by decide)
    (he : starEach (e :: es) X.env = (false, eval e X.env) :: starEach es X.env := by rfl) (hpl : (backTo pos (starEach es X.env)).any (·.1) = false := by rfl) : PE X (.Call (.Name x p) (e :: es) [] pos) (StX.tMakeR C sp E0 t) :=
  StX.pe_makeR G.mk_ G.run hr hg G.gl pass0 ha hdb he hpl
theorem pmake0 (G : CF X.prog X.w X.K X.mg X.base k x C f sp) (hr : Room (k + 1) X.A) (hg : Gl X x := by rfl) (hdb : (x == ("__debug__" : Str)) = false := by decide) : PE X (.Call (.Name x p) [] [] pos) (StX.tMakeR C sp E0 tNil) :=
  ⟨fun pins s σ H Q I h => wpAny_Call_Name_kw (ld_glob I hg G.gl (PySem.W.callWith_K0 I.kIn G.mk_.kp (StX.run_makeR (us := []) (vs := []) G.mk_ G.run hr pass0 I .nil h)) hdb)⟩
/-- C(*xs) -/
def tMakeS (K : PySem.W.Frag) (C : Addr) (sp : Sp) (te : TE) : TE := fun σ H Q => te σ H fun y H1 => ∃ a xs, y = V.ref a ∧ (SqT K H1 a xs ∨ SqL K H1 a xs) ∧ ∀ x dx, H1 x = none → H1 dx = none → dx ≠ x →
  sp (V.ref x :: xs) (upd (upd H1 dx (.own x)) x (.ins C dx [])) (fun v H2 => v = .non ∧ Q (.ref x) H2) E0
theorem pmakeS {sp_ : Pos} (G : CF X.prog X.w X.K X.mg X.base k x C f sp) (hr : Room (k + 1) X.A) (he : PE X e te) (hg : Gl X x := by rfl) (hdb : (x == ("__debug__" : Str)) = false := by decide)
    (hst : starEach [.Starred e sp_] X.env = [(true, eval e X.env)] := by rfl) : PE X (.Call (.Name x p) [.Starred e sp_] [] pos) (tMakeS X.K C sp te) := by
  refine ⟨fun pins s σ H Q I h => ?_⟩
  refine wpAny_Call_Name_kw (ld_glob I hg G.gl ?_ hdb)
  refine PySem.W.callWith_S (h₀ := X.base) I.ok.mod.kin G.mk_.kp (thn (he.run pins s σ H _ I h) fun v s1 ⟨y, H1, I1, ry, a, xs, ey, hxs, q⟩ => ?_) hst
  subst ey
  obtain rfl : v = Value.ref a := ry
  exact StX.star_any I1 hxs fun us s2 I2 rv => ⟨I2.kIn, StX.run_makeR G.mk_ G.run hr pass0 I2 rv q⟩
/-- e.f, a property -/
def tPr (C : Addr) (sp : Sp) (ta : TE) : TE := fun σ H Q => ta σ H fun x H1 => ∃ a dx fs, x = .ref a ∧ H1 a = some (.ins C dx fs) ∧ sp [.ref a] H1 Q E0
theorem pprop (he : PE X e ta) (G : PF X.prog X.w X.K X.mg X.base k C m pa g sp) (hr : Room (k + 1) X.A) (hab : attributeBase e m X.env (eval e X.env) = eval e X.env := by rfl) : PE X (.Attribute e m pos) (tPr C sp ta) := by
  refine ⟨fun pins s σ H Q I h => ?_⟩
  refine attr_of hab (thn (he.run pins s σ H _ I h) fun u s1 ⟨x, H1, I1, rx, a, dx, fs, ex, ea, q⟩ => ?_)
  subst ex
  obtain rfl : u = Value.ref a := rx
  obtain ⟨mA, O, _, _, _, _⟩ := ins_get I1.hok ea
  obtain ⟨od, J, _⟩ := O.look
  obtain ⟨rest, hrec⟩ := G.pr.rec_
  have I2 := I1.tok (s1.toks + 1)
  have hc : (PySem.W.clsIn X.K C).isSome = true := by
    obtain ⟨cd, hc, _⟩ := PySem.W.any_some G.cl.hd
    rw [hc]
    rfl
  refine PySem.W.get_bind I1.kIn J (PySem.W.plainGet_of (G.cl.get m)).1 (PySem.W.findObj_data hc G.pr.at_ G.pr.get G.pr.tak) (PySem.W.plainGet_of (G.cl.get m)).2 (wpAny_call (PySem.W.prop_get (s := { s1 with toks := s1.toks + 1 }) I1.kIn hrec ?_))
  refine codeAny_mono (G.run X.A.in1 X.stack { s1 with toks := s1.toks + 1 } H1 [.ref a] [.ref a] Q E0 hr.in1 I2.env0.in1 (.cons rfl .nil) q) fun r s' hq => ?_
  cases r with
  | error er => exact False.elim hq
  | ok fl =>
    cases fl with
    | ret u =>
      obtain ⟨v, H', I3, rv, q3⟩ := I2.after hq
      show wpAny _ _ (handedOut u) _ _ _
      rw [PySem.W.handedOut_of (handed_of rv)]
      exact wpAny_pure ⟨v, H', I3, rv, q3⟩
    | next => exact False.elim hq
    | brk => exact False.elim hq
    | cont => exact False.elim hq
/-- a built-in class by its name, as a value -/
theorem pty (n : String) (hm : X.mg x = none) (hv : bootBuiltins x = some (.type n) := by decide +kernel) (hg : Gl X x := by rfl) (hn : x ≠ "__name__" := by decide) (hd : (x == ("__debug__" : Str)) = false := by decide) : PE X (.Name x p) (tC (.ty n)) :=
  pe_bltn hg hm hv rfl hn hd
/-- a built-in def called by its name; a built-in class -/
theorem pcb {id : String} {r : List V → Hp → VK → Prop} (hc : CallR X (.builtin id) r) (hm : X.mg x = none) (ha : PA X (e :: es) t) (hv : bootBuiltins x = some (.builtin id) := by decide +kernel) (hg : Gl X x := by rfl) (hn : x ≠ "__name__" := by decide) (hd : (x == ("__debug__" : Str)) = false := by decide)
    (he : starEach (e :: es) X.env = (false, eval e X.env) :: starEach es X.env := by rfl) (hpl : (backTo pos (starEach es X.env)).any (·.1) = false := by rfl) : PE X (.Call (.Name x p) (e :: es) [] pos) (tCB r t) := pe_callB hc hg hm hv ha hn hd he hpl
theorem pct {T : String} {r : List V → Hp → VK → Prop} (hc : CallR X (.type T) r) (hm : X.mg x = none) (ha : PA X (e :: es) t) (hv : bootBuiltins x = some (.type T) := by decide +kernel) (hg : Gl X x := by rfl) (hn : x ≠ "__name__" := by decide) (hd : (x == ("__debug__" : Str)) = false := by decide)
    (he : starEach (e :: es) X.env = (false, eval e X.env) :: starEach es X.env := by rfl) (hpl : (backTo pos (starEach es X.env)).any (·.1) = false := by rfl) : PE X (.Call (.Name x p) (e :: es) [] pos) (tCB r t) := pe_callTy hc hg hm hv ha hn hd he hpl
/-- a text, a number of the module by its name; an object -/
theorem pgs (z : Str) (hm : ∃ t, X.mg x = some (.str z t)) (hg : Gl X x := by rfl) (hd : (x == ("__debug__" : Str)) = false := by decide) : PE X (.Name x p) (tC (.str z)) :=
  let ⟨t, e⟩ := hm
  pe_glob hg e ⟨t, rfl⟩ hd
theorem pgi (z : Int) (hm : ∃ t, X.mg x = some (.int z t)) (hg : Gl X x := by rfl) (hd : (x == ("__debug__" : Str)) = false := by decide) : PE X (.Name x p) (tC (.int z)) :=
  let ⟨t, e⟩ := hm
  pe_glob hg e ⟨t, rfl⟩ hd
theorem pgr {a : Addr} (hm : X.mg x = some (.ref a)) (hg : Gl X x := by rfl) (hd : (x == ("__debug__" : Str)) = false := by decide) : PE X (.Name x p) (tC (.ref a)) := pe_glob hg hm rfl hd
end
end Ls
set_option maxRecDepth 100000
set_option maxHeartbeats 4000000
namespace Ls
open PySem PySem.Spec PyProof.Rows L2
section
variable {P : Program} {w : World} {K : PySem.W.Frag} {mg : Str → Option Value} {base : Heap}
def spIsNum : Sp := fun vs H Q _ => ∃ (x : V) (lo hi : Int), vs = [x, .int lo, .int hi] ∧ ((∃ n, x = .int n ∧ Q (.bl (decide (lo ≤ n) && decide (n ≤ hi))) H) ∨ ∃ z, x = .str z ∧ Q (.bl false) H)
theorem sc_is_number : FnScope ["thing", "low", "high"] ["thing", "low", "high"] (defScope s_is_number) := ⟨rfl, rfl, rfl, by decide +kernel, rfl, by decide +kernel, by decide +kernel⟩
theorem ok_is_number (T : Txt w K mg) : GF P w K mg base 1 "is_number" (He.ga K "is_number") spIsNum := by
  obtain ⟨fd, F⟩ := T.d_is_number
  refine gf_of F T.g_is_number (fnr F sc_is_number (F.binds fun _ _ _ _ _ _ us hl => match us, hl with | [_, _, _], _ => rfl) (by rintro vs H Q E ⟨_, _, _, rfl, _⟩; rfl) fun cdv A outer s H vs Q E hr h => ?_)
  obtain ⟨x, lo, hi, rfl, h⟩ := h
  refine ⟨_, pss_one (ps_ret (pe_and (pcb call_isi T.f_isinstance (pa_cons (pv 0) (pa_cons (pty "int" T.f_int) pa_nil)))
    (pe_and (pe_not (pcb call_isi T.f_isinstance (pa_cons (pv 0) (pa_cons (pty "bool" T.f_bool) pa_nil))))
      (pe_one (pe_chain op_le op_le (pv 1) (pv 0) (pv 2)))))), ?_⟩
  rcases h with ⟨n, rfl, q⟩ | ⟨z, rfl, q⟩
  · refine ⟨_, rfl, _, .ty "int", _, _, true, rfl, .ty "int", .base (.int n), kit_ty (by decide +kernel), true, rfl, iteT ?_⟩
    refine ⟨_, rfl, _, .ty "bool", _, _, false, rfl, .ty "bool", .base (.int n), kit_ty (by decide +kernel), false, rfl, true, rfl, iteT ?_⟩
    refine ⟨_, rfl, _, rfl, _, _, rfl, rfl, _, rfl, ?_⟩
    by_cases c : lo ≤ n
    · rw [decide_eq_true c] at q ⊢
      refine iteT ⟨_, rfl, _, _, rfl, rfl, ?_⟩
      rw [Bool.true_and] at q
      exact q
    · rw [decide_eq_false c] at q ⊢
      refine iteF ?_
      rw [Bool.false_and] at q
      exact q
  · exact ⟨_, rfl, _, .ty "int", _, _, false, rfl, .ty "int", .base (.str z), kit_ty (by decide +kernel), false, rfl, iteF q⟩
end
end Ls
set_option maxRecDepth 100000
set_option maxHeartbeats 4000000
/-! what a class's own methods do under len, [], +, == and != -/
namespace Ls
open PySem PySem.Spec PyProof.Rows L2

section
variable {prog : Program} {w : World} {A : Around} {E : Value → Shared → Prop} {s : Shared} {K : PySem.W.Frag} {x y C f : Addr} {ox : Obj} {od : Option Obj}
/-- x.__ne__, which is object's, bound and called -/
theorem ne_bound {M : Model} {args : List Value} {Q : Option Value → Shared → Prop} (X : K.In s.heap) (I : PySem.W.InstAt s.heap x ox C od) (hs : PySem.W.findIn K (.ref C) "__ne__" = some (some (.builtin "object.__ne__")))
    (h : wpAny M A (call (.builtin "object.__ne__") (.ref x :: args)) (fun v => Q (some v)) E s) : wpAny M A (callSpecialIfBound? (.ref x) "__ne__" args) Q E s := by
  simp only [callSpecialIfBound?, bindSpecialIfBound?]
  refine wpAny_holding (wpAny_bind (wpAny_bind (wpAny_bind (I.type.here ((PySem.W.looks_findIn X hs).here ?_)))))
  have g : wpAny M A (call (.builtin "object.__ne__") ([.ref x] ++ args) >>= fun v => pure (some v)) Q E s := wpAny_bind (wpAny_mono h (fun v s' q => wpAny_pure q) fun _ _ q => q)
  refine wpAny_bind (wpAny_askSetting (wpAny_ite ?_))
  split
  · exact wpAny_bind (wpAny_of_eq (F.cmp_object.ne.bind _) (wpAny_pure (by exact g)))
  · exact wpAny_tryCatch (wpAny_bind (wpAny_of_eq (F.cmp_object.ne.bind _) (wpAny_pure (by exact g))))
theorem ne_entry {b : Value} {Q : Fin → Shared → Prop} (hu : A.units < cLine) (X : K.In s.heap) (I : PySem.W.InstAt s.heap x ox C od) (hs : PySem.W.findIn K (.ref C) "__eq__" = some (some (.ref f))) (hf : PySem.W.isFn K (.ref f) = true)
    (h : wpAny (model prog w) A (call (.ref f) [.ref x, b]) (fun v s' => ∃ k, v = .bool k ∧ Q (.done (.ret (.bool (!k)))) s') E s) : wpAny (model prog w) A (Builtin.«object.__ne__» ⟨[.ref x, b], []⟩) Q E s := by
  unfold Builtin.«object.__ne__»
  refine wpAny_bind (m := slotArgs "__ne__" 1 _) (wpAny_pure ?_)
  refine wpAny_bind (wpAny_cRoomFor hu ?_)
  refine wpAny_bind (m := callSpecialIfBound? (.ref x) (Str.ofString "__eq__") [b]) (PySem.W.ifBound_K X I hs hf (wpAny_mono h (fun v s' z => ?_) fun _ _ z => z))
  obtain ⟨k, rfl, q⟩ := z
  refine wpAny_bind (m := truthy (.bool k)) (wpAny_truthy_bool ?_)
  exact wpAny_pure q
theorem ne_call {b : Value} {Q : Value → Shared → Prop} (hu : A.in1.units < cLine) (X : K.In s.heap) (I : PySem.W.InstAt s.heap x ox C od) (hm : PySem.W.mroIn K C (.type "object") = some true)
    (hs : PySem.W.findIn K (.ref C) "__eq__" = some (some (.ref f))) (hf : PySem.W.isFn K (.ref f) = true)
    (h : wpAny (model prog w) A.in1 (call (.ref f) [.ref x, b]) (fun v s' => ∃ k, v = .bool k ∧ Q (.bool (!k)) s') E s) : wpAny (model prog w) A (call (.builtin "object.__ne__") [.ref x, b]) Q E s :=
  wpAny_call (codeAny_call_builtin F.cmp_object.ne.plain F.cmpEntry_ne (PySem.W.check_slot F.cmpKind_ne F.cmpSplit_ne (I.type.andThen (PySem.W.looks_mroIn X hm)) (F.cmpArgs_ne _ _) (ne_entry (A := A.in1) hu X I hs hf h)))
theorem ne_rich {Q : Value → Shared → Prop} (hu : A.units < cLine) (hu1 : A.in1.units < cLine) (X : K.In s.heap) (I : PySem.W.InstAt s.heap x ox C od) (hy : PySem.W.Looks (model prog w) s.heap (typeOf (.ref y)) (.ref C)) (hm : PySem.W.mroIn K C (.type "object") = some true)
    (hn : PySem.W.findIn K (.ref C) "__ne__" = some (some (.builtin "object.__ne__"))) (hs : PySem.W.findIn K (.ref C) "__eq__" = some (some (.ref f))) (hf : PySem.W.isFn K (.ref f) = true)
    (h : wpAny (model prog w) A.in1 (call (.ref f) [.ref x, .ref y]) (fun v s' => ∃ k, v = .bool k ∧ Q (.bool (!k)) s') E s) : wpAny (model prog w) A (richCompare .NotEq (.ref x) (.ref y)) Q E s := by
  have one : wpAny (model prog w) A (tryCompare (.ref x) "__ne__" (.ref y)) (fun r s' => ∃ k, r = some (.bool k) ∧ Q (.bool k) s') E s := by
    unfold tryCompare
    refine wpAny_bind (ne_bound X I hn (ne_call hu1 X I hm hs hf (wpAny_mono h (fun v s' z => ?_) fun _ _ z => z)))
    obtain ⟨k, rfl, q⟩ := z
    exact ⟨k, rfl, wpAny_pure ⟨_, rfl, q⟩⟩
  unfold richCompare
  simp only [oneThing_ref]
  refine wpAny_holding (wpAny_bind (wpAny_cRoomFor hu ?_))
  refine wpAny_bind (I.type.here (wpAny_bind (hy.here ?_)))
  split
  · rename_i q
    exact absurd q (by simp)
  · refine wpAny_bind (wpAny_pure ?_)
    simp only [Bool.false_eq_true, if_false]
    refine wpAny_bind (wpAny_mono one (fun r s' z => ?_) fun _ _ z => z)
    obtain ⟨k, rfl, q⟩ := z
    exact wpAny_pure q
end

section
variable {X : Cx} {k : Nat} {C f : Addr} {sp : Sp} {m : Str}
theorem run1 {pins : List (Addr × Obj)} {σ : L2.St} {H : Hp} {s : Shared} {Q : VK} {us : List Value} {vs : List V} (F : FnR X.prog X.w X.K X.mg X.base CX0 k f sp) (hr : Room (k + 1) X.A) (I : Inv X pins σ H s) (r : Vals vs us) (h : sp vs H Q E0) :
    wpAny (model X.prog X.w) X.A.in1 (call (.ref f) us) (EP X pins σ Q) X.xe s := by
  refine wpAny_call (codeAny_mono (F X.A.in1 X.stack s H us vs Q E0 hr.in1 I.env0.in1 r h) fun r s' hq => ?_)
  cases r with
  | error er => exact False.elim hq
  | ok fl =>
    cases fl with
    | ret u => exact I.after hq
    | next => exact False.elim hq
    | brk => exact False.elim hq
    | cont => exact False.elim hq
theorem run0 {pins : List (Addr × Obj)} {σ : L2.St} {H : Hp} {s : Shared} {Q : VK} {us : List Value} {vs : List V} (F : FnR X.prog X.w X.K X.mg X.base CX0 k f sp) (hr : Room k X.A) (I : Inv X pins σ H s) (r : Vals vs us) (h : sp vs H Q E0) :
    wpAny (model X.prog X.w) X.A (call (.ref f) us) (EP X pins σ Q) X.xe s := wpAny_call (run_fnR F hr pass0 I r h)
theorem inst_of {pins : List (Addr × Obj)} {σ : L2.St} {H : Hp} {s : Shared} {a dx : Addr} {fs : List (Str × V)} (I : Inv X pins σ H s) (h : H a = some (.ins C dx fs)) : ∃ od, PySem.W.InstAt s.heap a (PySem.W.instObj C dx) C (some od) := by
  obtain ⟨mA, O, _⟩ := ins_get I.hok h
  obtain ⟨od, J, _⟩ := O.look
  exact ⟨od, J⟩
/-- len of an own instance -/
def rLenO (C : Addr) (sp : Sp) : List V → Hp → VK → Prop := fun xs H Q => ∃ a dx fs, xs = [.ref a] ∧ H a = some (.ins C dx fs) ∧ sp [.ref a] H (fun v H' => ∃ n : Nat, v = .int n ∧ n < 1000 ∧ Q (.int n) H') E0
theorem call_lenO (G : MF X.prog X.w X.K X.mg X.base k C "__len__" f sp) (hr : Room (k + 1) X.A) : CallR X (.builtin "len") (rLenO C sp) := by
  intro pins s σ H xs us Q I r h
  obtain ⟨a, dx, fs, rfl, ha, q⟩ := h
  obtain ⟨u, rfl, ru⟩ := vals1 r
  cases ru
  obtain ⟨od, J⟩ := inst_of I ha
  obtain ⟨m, F⟩ := I.fr
  refine PySem.W.len_K F I.ok.mod.kin J G.me.at_ G.me.fn (thn (run1 (vs := [.ref a]) G.run hr I (.cons rfl .nil) q) fun u s1 ⟨v, H1, I1, rv, n, ev, hn, q1⟩ => ?_)
  subst ev
  obtain ⟨t, rfl⟩ := rv
  refine ⟨⟨?_, ?_⟩, ⟨.int n, H1, I1.tok _, ⟨_, rfl⟩, q1⟩⟩
  · exact Int.natCast_nonneg n
  · have : (n : Int) < 1000 := by exact_mod_cast hn
    omega
/-- x[i], x an own instance -/
def rIxO (C : Addr) (sp : Sp) : R2 := fun x y H Q => ∃ a dx fs, x = .ref a ∧ H a = some (.ins C dx fs) ∧ sp [.ref a, y] H Q E0
theorem pixO {a b : Expr} {ta tb : TE} {pos : Pos} (G : MF X.prog X.w X.K X.mg X.base k C "__getitem__" f sp) (hf : PySem.W.fnIn X.K f = true) (hr : Room (k + 1) X.A) (ha : PE X a ta) (hb : PE X b tb)
    (hsl : ∀ x i, subscripted b true (.ref x) i = runValue (.builtin "lifetime.subscript" ⟨[.ref x, i], []⟩) := by intro _ _; with_unfolding_all rfl) : PE X (.Subscript a b pos) (tOp (rIxO C sp) ta tb) := by
  refine ⟨fun pins s σ H Q I h => ?_⟩
  refine Subscript_ (binT ha hb I h fun v u s2 x y H2 I2 rx ry q => ?_)
  obtain ⟨p, dx, fs, rfl, hp, q⟩ := q
  cases rx
  obtain ⟨od, J⟩ := inst_of I2 hp
  obtain ⟨m, F⟩ := I2.fr
  exact PySem.W.sub_K F I2.ok.mod.kin J G.me.at_ hf G.me.fn (run1 (vs := [.ref p, y]) G.run hr I2 (.cons rfl (.cons ry .nil)) q) (hsl _ _)
/-- x + y, both own instances -/
def rAddO (C : Addr) (sp : Sp) : R2 := fun x y H Q => ∃ a b dx dy fs gs, x = .ref a ∧ y = .ref b ∧ H a = some (.ins C dx fs) ∧ H b = some (.ins C dy gs) ∧ sp [.ref a, .ref b] H Q E0
theorem rel_noNI {v : V} {u : Value} (r : RelV v u) : u ≠ .notImplemented := by
  intro e
  subst e
  cases v <;> first | exact nomatch r | (obtain ⟨t, e⟩ := r; cases e)
theorem cmpBack {Q : Value → Shared → Prop} {u : Value} {s : Shared} (h : u ≠ .notImplemented) (q : Q u s) : PySem.W.CmpBack Q u s := by
  cases u <;> first | exact q | exact absurd rfl h
theorem op_addO (G : MF X.prog X.w X.K X.mg X.base k C "__add__" f sp) (hc : PySem.W.selfFirst X.K C = true) (hr : Room k X.A) : OpR X (binaryOp .Add) (rAddO C sp) := by
  intro pins s σ H x y v u Q I rx ry h
  obtain ⟨a, b, dx, dy, fs, gs, rfl, rfl, ha, hb, q⟩ := h
  cases rx
  cases ry
  obtain ⟨od, J⟩ := inst_of I ha
  obtain ⟨od2, J2⟩ := inst_of I hb
  obtain ⟨m, F⟩ := I.fr
  refine PySem.W.binop_K F I.ok.mod.kin J J2.type hc G.me.at_ G.me.fn (thn (run0 (vs := [.ref a, .ref b]) G.run hr I (.cons rfl (.cons rfl .nil)) q) fun u s1 z => ?_)
  obtain ⟨z, H1, I1, rz, q1⟩ := z
  exact cmpBack (rel_noNI rz) ⟨z, H1, I1, rz, q1⟩
/-- x != y, both own instances with an own __eq__ -/
def rNeO (C : Addr) (sp : Sp) : R2 := fun x y H Q => ∃ a b dx dy fs gs, x = .ref a ∧ y = .ref b ∧ H a = some (.ins C dx fs) ∧ H b = some (.ins C dy gs) ∧ sp [.ref a, .ref b] H (fun v H' => ∃ c, v = .bl c ∧ Q (.bl (!c)) H') E0
theorem op_neO (G : MF X.prog X.w X.K X.mg X.base k C "__eq__" f sp) (hm : PySem.W.mroIn X.K C (.type "object") = some true) (hn : PySem.W.findIn X.K (.ref C) "__ne__" = some (some (.builtin "object.__ne__"))) (hr : Room (k + 1) X.A) : OpR X (compareOp .NotEq) (rNeO C sp) := by
  intro pins s σ H x y v u Q I rx ry h
  obtain ⟨a, b, dx, dy, fs, gs, rfl, rfl, ha, hb, q⟩ := h
  cases rx
  cases ry
  obtain ⟨od, J⟩ := inst_of I ha
  obtain ⟨od2, J2⟩ := inst_of I hb
  show wpAny (model X.prog X.w) X.A (richCompare .NotEq (.ref a) (.ref b)) (EP X pins σ Q) X.xe s
  refine ne_rich hr.units0 hr.in1.units0 I.kIn J J2.type hm hn G.me.at_ G.me.fn (thn (run1 (vs := [.ref a, .ref b]) G.run hr I (.cons rfl (.cons rfl .nil)) q) fun u s1 ⟨z, H1, I1, rz, c, ez, q1⟩ => ?_)
  subst ez
  cases rz
  exact ⟨c, rfl, ⟨.bl (!c), H1, I1, rfl, q1⟩⟩
end
end Ls
set_option maxRecDepth 100000
set_option maxHeartbeats 4000000
/-! with of an own class; a tuple's items into slots; == by own methods -/
namespace Ls
open PySem PySem.Spec PyProof.Rows L2

section
variable {X : Cx} {k k2 n : Nat} {C f fe fx : Addr} {sp spE spX : Sp} {m : Str}
/-- with ctx as y: body, where the body ends by itself -/
def tWith (C : Addr) (spE spX : Sp) (te : TE) (i : Nat) (tb : TS) : TS := fun D σ H => te σ H fun x H1 => ∃ a dx fs, x = .ref a ∧ H1 a = some (.ins C dx fs) ∧
  spE [.ref a] H1 (fun v H2 => tb { nx := fun σ' H' => spX [.ref a, .non, .non, .non] H' (fun _ H'' => D.nx σ' H'') E0, rt := fun _ _ => False } (σ.set i (some v)) H2) E0
theorem pwith {ctx : Expr} {y : Str} {py pos : Pos} {body : List Stmt} {te : TE} {tb : TS} {i : Nat} (he : PE X ctx te) (Ge : MF X.prog X.w X.K X.mg X.base k C "__enter__" fe spE) (Gx : MF X.prog X.w X.K X.mg X.base k2 C "__exit__" fx spX) (hr : Room k X.A) (hr2 : Room k2 X.A)
    (hN : X.N.Nodup) (hi : X.N[i]? = some y) (hy : Loc X.env.scope y) (hb : PSs X body tb) (hE : ∀ e s, X.xe e s → False) (hf : X.fn y = true ∨ X.env.scope.names.lookup y = some .local := by first | exact .inl rfl | exact .inr rfl) :
    PS X (.With [⟨ctx, some (.Name y py)⟩] body pos) (tWith C spE spX te i tb) := by
  refine ⟨fun pins s σ H D I h => ?_⟩
  refine PySem.W.kw_execN (thn (he.run pins s σ H _ I h) fun u s1 ⟨x, H1, I1, rx, a, dx, fs, ex, ha, q⟩ => ?_)
  subst ex
  cases rx
  obtain ⟨od, J⟩ := inst_of I1 ha
  obtain ⟨mm, F⟩ := I1.fr
  refine PySem.W.kw_inN F I1.ok.mod.kin J Ge.me.at_ Ge.me.fn Gx.me.at_ Gx.me.fn (thn (run0 (vs := [.ref a]) Ge.run hr I1 (.cons rfl .nil) q) fun u s2 ⟨v, H2, I2, rv, q2⟩ => ?_)
  refine store_ok I2 hN hi hy rv (fun s3 I3 => ?_) hf
  refine wpAny_mono (hb.run pins s3 _ H2 _ I3 q2) (fun fl s4 z => ?_) fun e s4 z => hE e s4 z
  cases fl with
  | next =>
    obtain ⟨σ', H', I4, q4⟩ := z
    show wpAny _ _ _ _ _ _
    refine thn (run0 (vs := [.ref a, .non, .non, .non]) Gx.run hr2 I4 (.cons rfl (.cons rfl (.cons rfl (.cons rfl .nil)))) q4) fun u s5 ⟨v5, H5, I5, r5, q5⟩ => ⟨σ', H5, I5, q5⟩
  | ret u =>
    obtain ⟨_, _, _, _, _, z⟩ := z
    exact False.elim z
  | brk =>
    obtain ⟨_, _, _, z⟩ := z
    exact False.elim z
  | cont =>
    obtain ⟨_, _, _, z⟩ := z
    exact False.elim z

/-- a target e.f, f a slot -/
def gSl (K : PySem.W.Frag) (ta : TE) (f : Str) : TG := fun v σ H Q => ta σ H fun x H1 => ∃ a C dx p vs i, x = .ref a ∧ SlX.Slt H1 a C dx vs ∧ SlX.SCls K C ∧ SlX.Slot1 K C f p i ∧ Q σ (SlX.slH H1 a C dx (SlX.putS i v vs))
theorem pgSl {o : Expr} {f : Str} {pos : Pos} {ta : TE} (ha : PE X o ta) (hs : ∀ v, assign (.Attribute o f pos) X.env v = (do
      let ov ← holding [v] (eval o X.env)
      standAt pos.atName
      holding [v, ov] (setAttr ov f v)
      release [v, ov] []) := by intro _; rfl) : PG X (.Attribute o f pos) (gSl X.K ta f) := by
  refine ⟨fun pins s σ H v u Q I r h => ?_⟩
  rw [hs]
  refine wpAny_bind (wpAny_holding (thn (ha.run pins s σ H _ I h) fun ov s1 ⟨x, H1, I1, rx, a, C, dx, p, vs, i, ex, hsl, c, t, q⟩ => ?_))
  subst ex
  cases rx
  refine wpAny_bind (wpAny_standAt (wpAny_bind (wpAny_holding (SlX.setslot_ok I1 hsl c t r fun s3 I3 => ?_))))
  exact wpAny_release ⟨σ, _, I3, q⟩

/-- an own __eq__ by its positional promise -/
theorem rcR_ins {R : Addr → Addr → Hp → Prop} (F : FnR X.prog X.w X.K X.mg X.base CX0 n f (spEq R)) (hm : Meth X.K C "__eq__" f) : RcG X n (DIns C R) := by
  intro A pins s σ H x y u v sb I rx ry d
  obtain ⟨a, b, dx, dy, fs, gs, rfl, rfl, ha, hb, hr⟩ := d
  cases rx
  cases ry
  obtain ⟨od, J⟩ := inst_of I ha
  obtain ⟨od2, J2⟩ := inst_of I hb
  obtain ⟨m, hF⟩ := I.fr
  refine PySem.W.cmp_K (op := .Eq) (tb := .ref C) sb.room.units0 hF I.ok.mod.kin J J2.type (by simp [PySem.W.notFirst]) hm.at_ hm.fn ?_
  have hsp : spEq R [.ref a, .ref b] H (fun v H' => v = .bl true ∧ Ext H H') E0 := ⟨a, b, rfl, hr, fun H' e => ⟨rfl, e⟩⟩
  have e0 : Env0 X.prog X.w X.K X.mg X.base A X.stack s H := by
    have e := I.env0
    exact ⟨by rw [sb.fr]; exact e.frames, e.mod, e.bs, e.bsz, e.funs, e.frf, e.hok, e.bare⟩
  refine wpAny_call (codeAny_mono (F A X.stack s H [.ref a, .ref b] [.ref a, .ref b] _ E0 sb.room e0 (.cons rfl (.cons rfl .nil)) hsp) fun r s' hq => ?_)
  cases r with
  | error e => exact False.elim hq
  | ok fl =>
    cases fl with
    | ret w =>
      obtain ⟨z, H', I', rz, ez, ex⟩ := I.after hq
      subst ez
      cases rz
      exact ⟨rfl, H', I', ex⟩
    | next => exact False.elim hq
    | brk => exact False.elim hq
    | cont => exact False.elim hq
end
end Ls
set_option maxRecDepth 100000
set_option maxHeartbeats 4000000
/-! sets of texts: set(xs), sorted(set(xs)) -/
namespace Ls
open PySem PySem.Spec PyProof.Rows L2 PySem.Froz

/-- the set at a holds the texts l; its table rises and can be walked -/
def TxR (P : Program) (w : World) (h : Heap) (a : Addr) (l : List Str) : Prop :=
  ∃ D : SD, h.get? a = some (sObj "set" D) ∧ TxOk P w D l ∧ Ris D.2.2.place.toList ∧ (w.params.followText "set-order" = true ∨ D.2.2.led = true)

section
variable {P : Program} {w : World} {A : Around} {E : Value → Shared → Prop} {s : Shared} {a : Addr} {l : List Str} {h h' : Heap}
theorem TxR.at (R : TxR P w h a l) (k : ∀ o, h.get? a = some o → h'.get? a = some o) : TxR P w h' a l := by
  obtain ⟨D, e, r⟩ := R
  exact ⟨D, k _ e, r⟩
theorem tail_ris {ep : Nat} {es1 : Array (Int × Value)} {t2 : SetTable} {wd : Bool} (r : Ris t2.place.toList) : Ris (tailTx ep es1 t2 wd).2.2.place.toList ∧ (tailTx ep es1 t2 wd).2.2.led = t2.led := by
  unfold tailTx
  by_cases c : (!wd && t2.tooFull) = true
  · rw [if_pos c]
    exact ⟨relayAll_ris _ _ _, relayAll_led _ _ _⟩
  · rw [if_neg c]
    exact ⟨r, rfl⟩
theorem add_ris {D : SD} {k : Int} {v : Value} (r : Ris D.2.2.place.toList) : Ris (addTx k v D).2.2.place.toList ∧ (addTx k v D).2.2.led = D.2.2.led := by
  obtain ⟨es, ep, t⟩ := D
  have r1 := layNew_ris t es k v r
  have l1 := layNew_led t es k v
  unfold addTx
  by_cases c : (layNew t es k v).2.1.plain = true
  · simp only [c, if_true]
    obtain ⟨q1, q2⟩ := tail_ris (ep := ep) (es1 := (layNew t es k v).1) (t2 := { (layNew t es k v).2.1 with plain := false }) (wd := (layNew t es k v).2.2.1) r1
    exact ⟨q1, q2.trans l1⟩
  · simp only [if_neg c]
    obtain ⟨q1, q2⟩ := tail_ris (ep := ep) (es1 := (layNew t es k v).1) (t2 := (layNew t es k v).2.1) (wd := (layNew t es k v).2.2.1) r1
    exact ⟨q1, q2.trans l1⟩
theorem old_x {D : SD} {k : Str} {u : Tok} {T : String} {Q : Bool → Shared → Prop} (ho : s.heap.get? a = some (sObj T D)) (F : TxOk P w D l) (hk : k ∈ l) (hb : l.length < scanBound)
    (h : Q false s) : wpAny (model P w) A (setAddHashed a (.str k u) (hashStr w k)) Q E s := by
  obtain ⟨es, ep, t⟩ := D
  have hd : (sObj T (es, ep, t)).data = .set es ep t := rfl
  have hf : t.fits es.size = true := F.fit
  have hel : ElemsOf (PySem.strKind P w) es.toList := F.el
  have hsz : es.size = l.length := F.sz
  have hb0 : es.size < scanBound := by omega
  have hkey : (PySem.strKind P w).is k (.str k u) = true := is_str k u
  unfold setAddHashed setAddHashedIn
  refine wpAny_holding (wpAny_bind (wpAny_setState_of ho hd hf ?_))
  dsimp only
  rw [byScan_of rfl hb0 hel]
  simp only [↓reduceIte]
  unfold setAddByScan
  refine wpAny_bind ?_
  refine wpAny_bind (wpAny_rule ?_)
  refine wpAny_bind (wpAny_setScan_of (knd := PySem.strKind P w) (k := k) hkey ho hd hf hel ?_)
  cases hfi : List.findIdx? (fun e => (PySem.strKind P w).is k e.2) es.toList with
  | some j =>
    dsimp only
    exact wpAny_pure (wpAny_pure h)
  | none =>
    obtain ⟨e, he, q⟩ := (F.mem k).mp hk
    have c := List.findIdx?_eq_none_iff.mp hfi e he
    rw [q] at c
    cases c
/-- the texts met so far -/
def met (l : List Str) (x : Str) : List Str := if x ∈ l then l else x :: l
theorem met_mem {l : List Str} {x y : Str} : y ∈ met l x ↔ y ∈ l ∨ y = x := by
  unfold met
  split
  · rename_i c
    exact ⟨.inl, fun z => z.elim id fun e => e ▸ c⟩
  · rw [List.mem_cons]
    exact or_comm
theorem met_nd {l : List Str} {x : Str} (h : l.Nodup) : (met l x).Nodup := by
  unfold met
  split
  · exact h
  · rename_i c
    exact List.nodup_cons.mpr ⟨c, h⟩
theorem met_len {l : List Str} {x : Str} : (met l x).length ≤ l.length + 1 := by
  unfold met
  split
  · omega
  · simp
theorem txR_add {k : Str} {u : Tok} {Q : Bool → Shared → Prop} (R : TxR P w s.heap a l) (room : l.length + 1 < scanBound)
    (hQ : ∀ h' b, Heap.SameBut a s.heap h' → TxR P w h' a (met l k) → Q b { s with heap := h' }) : wpAny (model P w) A (setAddHashed a (.str k u) (hashStr w k)) Q E s := by
  obtain ⟨D, ho, F, r, hl⟩ := R
  by_cases hk : k ∈ l
  · refine old_x ho F hk (by omega) (hQ s.heap false (Heap.SameBut.refl a s.heap) ?_)
    unfold met
    rw [if_pos hk]
    exact ⟨D, ho, F, r, hl⟩
  · refine add_x ho F hk room (hQ _ true (Heap.SameBut.update _ a _) ?_)
    unfold met
    rw [if_neg hk]
    obtain ⟨q1, q2⟩ := add_ris (k := hashStr w k) (v := .str k u) r
    exact ⟨_, get_upd _ ho rfl, add_ok u F, q1, hl.imp id fun z => q2.trans z⟩
end

section
variable {P : Program} {w : World} {A : Around} {E : Value → Shared → Prop} {s : Shared}
theorem set_update_txt {I : Addr} {fp wr : List Addr} {G : Array GenState → Array GenState → Prop} {n : Nat} {Pv : Nat → Value → Prop} {St : Nat → Shared → Prop} {R : Result → Shared → Prop}
    (W : WalksS P w A.in1 I fp wr G n Pv St) (S : Addr) (hSf : S ∉ fp) (xs : List Str) (hn : n = xs.length) (hb : xs.length + 1 < scanBound) (hval : ∀ i v, Pv i v → ∃ k t, xs[i]? = some k ∧ v = .str k t) :
    ∀ (k i : Nat) (s : Shared), n - i = k → i ≤ n → St i s → (∃ l : List Str, l.length ≤ i ∧ l.Nodup ∧ (∀ x, x ∈ l ↔ x ∈ xs.take i) ∧ TxR P w s.heap S l) →
      (∀ s' l, Moved (S :: wr) G s s' → l.length ≤ n → l.Nodup → (∀ x, x ∈ l ↔ x ∈ xs) → TxR P w s'.heap S l → R (.ok (.ret .none)) s') →
      codeAny (model P w) A (.builtin "set.update.loop" ⟨[.ref S, .ref I], []⟩) R s := by
  have hSw : S ∉ wr := fun h => hSf (W.sub _ h)
  have hsub : ∀ b ∈ wr, b ∈ S :: wr := fun b hb => List.mem_cons_of_mem _ hb
  intro k
  induction k with
  | zero =>
    intro i s hk' hi hst ⟨l, hc, nd, hm, hS⟩ hR
    have hin : i = n := by omega
    subst hin
    refine codeAny_builtin F.entry_set_update_loop ?_
    rw [Around.under_plainId F.plain_set_update_loop _]
    show wpAny _ A.in1 (pyNext (.ref I) >>= _) _ _ s
    refine wpAny_bind (W.done s _ _ hst fun s' hmv => ?_)
    show wpAny _ A.in1 (ret Value.none) _ _ s'
    have e : xs.take i = xs := List.take_of_length_le (by omega)
    rw [e] at hm
    exact wpAny_pure (hR s' l (hmv.mono hsub) hc nd hm (hS.at fun o e => hmv.heap S o hSw e))
  | succ k ih =>
    intro i s hk' hi hst ⟨l, hc, nd, hm, hS⟩ hR
    have hlt : i < n := by omega
    refine codeAny_builtin F.entry_set_update_loop ?_
    rw [Around.under_plainId F.plain_set_update_loop _]
    show wpAny _ A.in1 (pyNext (.ref I) >>= _) _ _ s
    refine wpAny_bind (W.item i s _ _ hlt hst fun v s' hP hst' hmv => ?_)
    obtain ⟨z, t, hz, rfl⟩ := hval i v hP
    have hS' : TxR P w s'.heap S l := hS.at fun o e => hmv.heap S o hSw e
    show wpAny _ A.in1 (holding [Value.str z t] (setAdd S (.str z t)) >>= _) _ _ s'
    refine wpAny_bind (wpAny_holding ?_)
    unfold setAdd
    refine wpAny_holding ?_
    refine wpAny_bind ((PySem.strKind P w).pyHash (k := z) (is_str _ _) ?_)
    refine txR_add (s := { s' with toks := s'.toks + 1 }) hS' (by omega) fun h' b hsb hS2 => ?_
    have hl2 := met_len (l := l) (x := z)
    refine wpAny_pure ⟨plainId_quiet F.plain_set_update_loop _, ih (i + 1) _ (by omega) hlt (W.frame _ s' _ _ hst' (Nat.le_succ _) fun b hb o e => ?_) ⟨_, by omega, met_nd nd, fun x => ?_, hS2⟩ fun s'' l2 hm'' hc'' nd'' hm2 hS'' => ?_⟩
    · rw [hsb.2 b (fun h : b = S => hSf (by rw [← h]; exact hb))]; exact e
    · rw [met_mem, hm x, List.take_add_one, hz]
      simp [List.mem_append]
    · refine hR s'' l2 (Moved.trans W.gtrans ((hmv.mono hsub).then_heap (Nat.le_succ _) fun b o hb e => ?_) hm'') hc'' nd'' hm2 hS''
      rw [hsb.2 b (fun h : b = S => hb (by rw [h]; exact List.mem_cons_self))]; exact e
theorem txR_new {h : Heap} {a : Addr} (ho : h.get? a = some { cls := .type "set", dict := none, data := .set #[] 0 (.fresh 0 0 (!w.params.followText "set-order")) }) : TxR P w h a [] :=
  ⟨(#[], 0, .fresh 0 0 (!w.params.followText "set-order")), ho, .nil (by rfl), List.Pairwise.nil, by
    show _ ∨ (!w.params.followText "set-order") = true
    cases w.params.followText "set-order"
    · exact .inr rfl
    · exact .inl rfl⟩

set_option maxHeartbeats 3200000 in
theorem call_set_tupletxt {l : Addr} {items : Array Value} (xs : List Str) {Q : Value → Shared → Prop} (hh : A.handled = none) (hl : s.heap.IsTuple l items) (hit : StrsAre items.toList xs) (hb : xs.length + 1 < scanBound)
    (h : ∀ (h' : Heap) (tk : Nat) (ys : List Str), TxR P w h' s.heap.objs.size ys → ys.length ≤ xs.length → ys.Nodup → (∀ x, x ∈ ys ↔ x ∈ xs) → (∀ b o, s.heap.get? b = some o → h'.get? b = some o) → Q (.ref s.heap.objs.size) { s with heap := h', toks := tk }) :
    wpAny (model P w) A (call (.type "set") [.ref l]) Q E s := by
  have hisz : items.size = xs.length := by
    have q := StrsAre.strs hit
    have q2 := congrArg List.length q
    rw [List.length_map, Array.length_toList] at q2
    exact q2
  obtain ⟨c, tl, hmro⟩ := F.called_set.mro
  have hmade := F.called_set.made
  have hsub := F.called_set.sub
  refine wpAny_call (codeAny_of_tree ?_)
  show wpAny _ _ (callAny (.type "set") _) _ _ _
  refine wpAny_pure ⟨Code.quiet_builtin _ (by decide +kernel), codeAny_builtin F.entry_type_call ?_⟩
  rw [Around.under_plain (weight_type_call_type "set" [.ref l] []) rfl]
  have h1 := F.called_set.notType
  have h2 := F.called_set.canCreate
  have hct := F.typeCall_set_1 (.ref l)
  repeat (any_goals (first | assumption | wp_step))
  refine codeAny_mono (code_set_led1 (.ref l) (E := E) (Q₁ := fun obj s₁ => obj = .ref s.heap.objs.size ∧ s₁ = { s with heap := s.heap.push { cls := .type "set", dict := none, data := .set #[] 0 (.fresh 0 0 (!w.params.followText "set-order")) } }) ⟨rfl, rfl⟩) fun r s₁ hr => ?_
  cases r with
  | error e => exact hr
  | ok fl =>
    cases fl with
    | ret obj =>
      obtain ⟨rfl, rfl⟩ := hr
      have hS : (s.heap.push { cls := .type "set", dict := none, data := .set #[] 0 (.fresh 0 0 (!w.params.followText "set-order")) }).get? s.heap.objs.size = some { cls := .type "set", dict := none, data := .set #[] 0 (.fresh 0 0 (!w.params.followText "set-order")) } := Heap.get?_push_size _ rfl
      have hT : Shared.TypeIs { s with heap := s.heap.push { cls := .type "set", dict := none, data := .set #[] 0 (.fresh 0 0 (!w.params.followText "set-order")) } } (.ref s.heap.objs.size) "set" := ⟨_, hS, rfl⟩
      have hli := F.called_set.init.lookup
      have hbi := F.called_set.init.bind (.ref s.heap.objs.size)
      repeat (any_goals (first | assumption | wp_step))
      refine codeAny_mono (codeAny_call_builtin (R := wants (fun r s₂ => r = .none ∧ ∃ h' tk ys, s₂ = { s with heap := h', toks := tk } ∧ TxR P w h' s.heap.objs.size ys ∧ ys.length ≤ xs.length ∧ ys.Nodup ∧ (∀ x, x ∈ ys ↔ x ∈ xs) ∧
          (∀ b o, s.heap.get? b = some o → h'.get? b = some o)) E) F.called_set.init.plain F.entry_set_init (check_set_init_1 hT ?_)) fun r₂ s₂ hr₂ => ?_
      · obtain ⟨ol, hol, hcl, nl, hdl⟩ := hl
        obtain ⟨ocls, odict, odata, oslots⟩ := ol
        simp only at hcl hdl
        subst hcl; subst hdl
        have hol' : (s.heap.push { cls := .type "set", dict := none, data := .set #[] 0 (.fresh 0 0 (!w.params.followText "set-order")) }).get? l = some { cls := .type "tuple", dict := odict, data := .seq items nl, slots := oslots } := Heap.get?_push_of_some _ hol
        have hsls := F.sub_tuple_set
        have hslf := F.sub_tuple_frozenset
        have hne : (Value.type "tuple" == Value.type "dict") = false := by decide
        have hl1 : (s.heap.push { cls := .type "set", dict := none, data := .set #[] 0 (.fresh 0 0 (!w.params.followText "set-order")) }).IsTuple l items := ⟨_, hol', rfl, nl, rfl⟩
        unfold Builtin.«set.__init__» noKeywords Builtin.Frozenset.updateFrom
        generalize hPI : pyIter = PI
        wp_walk
        subst hPI
        refine wpAny_pyIter_tuple hl1 ?_
        refine wpAny_bind (wpAny_runValue ?_)
        have hlS : l < s.heap.objs.size := Heap.lt_size hol
        have hh3 : A.in1.in1.in1.handled = none := by simp [hh]
        have hz1 : (s.heap.push { cls := .type "set", dict := none, data := .set #[] 0 (.fresh 0 0 (!w.params.followText "set-order")) }).objs.size = s.heap.objs.size + 1 := Heap.size_push ..
        have hneI : l ≠ (s.heap.push { cls := .type "set", dict := none, data := .set #[] 0 (.fresh 0 0 (!w.params.followText "set-order")) }).objs.size := by
          rw [Heap.size_push]; exact Nat.ne_of_lt (Nat.lt_succ_of_lt hlS)
        have hSf : s.heap.objs.size ∉ [(s.heap.push { cls := .type "set", dict := none, data := .set #[] 0 (.fresh 0 0 (!w.params.followText "set-order")) }).objs.size, l] := by
          rw [Heap.size_push]; simp only [List.mem_cons, List.mem_singleton, List.not_mem_nil, or_false, not_or]
          exact ⟨Nat.ne_of_lt (Nat.lt_succ_self _), Nat.ne_of_gt hlS⟩
        have hval : ∀ (i : Nat) (v : Value), items[i]? = some v → ∃ k t, xs[i]? = some k ∧ v = .str k t := fun i v hv => by
          have hi : i < xs.length := by rw [← hisz]; exact (Array.getElem?_eq_some_iff.mp hv).1
          obtain ⟨t, e⟩ := SS.strs_at hit i v (by rw [Array.getElem?_toList]; exact hv)
          refine ⟨xs[i], t, List.getElem?_eq_getElem hi, ?_⟩
          rw [e, List.getD_eq_getElem?_getD, List.getElem?_eq_getElem hi] <;> rfl
        refine set_update_txt ((Walks.tuple hh3 _ l hneI items).toS) s.heap.objs.size
          hSf xs hisz hb hval (items.size - 0) 0 _ (by omega) (Nat.zero_le _)
          ⟨⟨_, Heap.get?_push_size _ rfl, rfl, rfl⟩, (hl1.push _)⟩ ?hS0 ?hR
        case hS0 =>
          have hget : ((s.heap.push { cls := .type "set", dict := none, data := .set #[] 0 (.fresh 0 0 (!w.params.followText "set-order")) }).push { cls := .type "tuple_iterator", data := .fields #[.ref l, .int 0 0] }).get? s.heap.objs.size
              = some { cls := .type "set", dict := none, data := .set #[] 0 (.fresh 0 0 (!w.params.followText "set-order")) } := Heap.get?_push_of_some _ hS
          exact ⟨[], Nat.le_refl 0, List.nodup_nil, fun x => by simp, txR_new hget⟩
        case hR =>
          intro s' ys hm hc' nd' hm' hS'
          obtain ⟨h', g2, d', tk', os'⟩ := s'
          have eg : g2 = s.gens := hm.gens
          have ed : d' = s.drawn := hm.drawn
          have eo : os' = s.os := hm.os
          subst eg; subst ed; subst eo
          show wpAny _ _ _ _ _ _
          refine wpAny_pure ?_
          show wpAny _ _ (ret Value.none) _ _ _
          rw [hisz] at hc'
          refine wpAny_pure ⟨rfl, h', tk', ys, rfl, hS', hc', nd', hm', fun b o e => ?_⟩
          have hb0 : b < s.heap.objs.size := Heap.lt_size e
          have hb1 : b ≠ s.heap.objs.size := Nat.ne_of_lt hb0
          have hb2 : b ≠ (s.heap.push { cls := .type "set", dict := none, data := .set #[] 0 (.fresh 0 0 (!w.params.followText "set-order")) }).objs.size := by
            rw [Heap.size_push]; exact Nat.ne_of_lt (Nat.lt_succ_of_lt hb0)
          exact hm.heap b o (by simp only [List.mem_cons, List.mem_singleton, List.not_mem_nil, or_false, not_or]; exact ⟨hb1, hb2⟩) (Heap.get?_push_of_some _ (Heap.get?_push_of_some _ e))
      · cases r₂ with
        | error e => exact hr₂
        | ok fl₂ =>
          cases fl₂ with
          | ret r =>
            obtain ⟨rfl, h', tk, ys, rfl, hS', hc', nd', hm', hk'⟩ := hr₂
            repeat (any_goals (first | assumption | wp_step))
            exact h _ _ _ hS' hc' nd' hm' hk'
          | _ => exact hr₂.elim
    | _ => exact hr.elim

set_option maxHeartbeats 3200000 in
theorem call_set_listtxt {l : Addr} {items : Array Value} (xs : List Str) {Q : Value → Shared → Prop} (hh : A.handled = none) (hl : s.heap.IsList l items) (hit : StrsAre items.toList xs) (hb : xs.length + 1 < scanBound)
    (h : ∀ (h' : Heap) (tk : Nat) (ys : List Str), TxR P w h' s.heap.objs.size ys → ys.length ≤ xs.length → ys.Nodup → (∀ x, x ∈ ys ↔ x ∈ xs) → (∀ b o, s.heap.get? b = some o → h'.get? b = some o) → Q (.ref s.heap.objs.size) { s with heap := h', toks := tk }) :
    wpAny (model P w) A (call (.type "set") [.ref l]) Q E s := by
  have hisz : items.size = xs.length := by
    have q := StrsAre.strs hit
    have q2 := congrArg List.length q
    rw [List.length_map, Array.length_toList] at q2
    exact q2
  obtain ⟨c, tl, hmro⟩ := F.called_set.mro
  have hmade := F.called_set.made
  have hsub := F.called_set.sub
  refine wpAny_call (codeAny_of_tree ?_)
  show wpAny _ _ (callAny (.type "set") _) _ _ _
  refine wpAny_pure ⟨Code.quiet_builtin _ (by decide +kernel), codeAny_builtin F.entry_type_call ?_⟩
  rw [Around.under_plain (weight_type_call_type "set" [.ref l] []) rfl]
  have h1 := F.called_set.notType
  have h2 := F.called_set.canCreate
  have hct := F.typeCall_set_1 (.ref l)
  repeat (any_goals (first | assumption | wp_step))
  refine codeAny_mono (code_set_led1 (.ref l) (E := E) (Q₁ := fun obj s₁ => obj = .ref s.heap.objs.size ∧ s₁ = { s with heap := s.heap.push { cls := .type "set", dict := none, data := .set #[] 0 (.fresh 0 0 (!w.params.followText "set-order")) } }) ⟨rfl, rfl⟩) fun r s₁ hr => ?_
  cases r with
  | error e => exact hr
  | ok fl =>
    cases fl with
    | ret obj =>
      obtain ⟨rfl, rfl⟩ := hr
      have hS : (s.heap.push { cls := .type "set", dict := none, data := .set #[] 0 (.fresh 0 0 (!w.params.followText "set-order")) }).get? s.heap.objs.size = some { cls := .type "set", dict := none, data := .set #[] 0 (.fresh 0 0 (!w.params.followText "set-order")) } := Heap.get?_push_size _ rfl
      have hT : Shared.TypeIs { s with heap := s.heap.push { cls := .type "set", dict := none, data := .set #[] 0 (.fresh 0 0 (!w.params.followText "set-order")) } } (.ref s.heap.objs.size) "set" := ⟨_, hS, rfl⟩
      have hli := F.called_set.init.lookup
      have hbi := F.called_set.init.bind (.ref s.heap.objs.size)
      repeat (any_goals (first | assumption | wp_step))
      refine codeAny_mono (codeAny_call_builtin (R := wants (fun r s₂ => r = .none ∧ ∃ h' tk ys, s₂ = { s with heap := h', toks := tk } ∧ TxR P w h' s.heap.objs.size ys ∧ ys.length ≤ xs.length ∧ ys.Nodup ∧ (∀ x, x ∈ ys ↔ x ∈ xs) ∧
          (∀ b o, s.heap.get? b = some o → h'.get? b = some o)) E) F.called_set.init.plain F.entry_set_init (check_set_init_1 hT ?_)) fun r₂ s₂ hr₂ => ?_
      · obtain ⟨ol, hol, hcl, nl, hdl⟩ := hl
        obtain ⟨ocls, odict, odata, oslots⟩ := ol
        simp only at hcl hdl
        subst hcl; subst hdl
        have hol' : (s.heap.push { cls := .type "set", dict := none, data := .set #[] 0 (.fresh 0 0 (!w.params.followText "set-order")) }).get? l = some { cls := .type "list", dict := odict, data := .seq items nl, slots := oslots } := Heap.get?_push_of_some _ hol
        have hsls := F.sub_list_set
        have hslf := F.sub_list_frozenset
        have hne : (Value.type "list" == Value.type "dict") = false := by decide
        have hl1 : (s.heap.push { cls := .type "set", dict := none, data := .set #[] 0 (.fresh 0 0 (!w.params.followText "set-order")) }).IsList l items := ⟨_, hol', rfl, nl, rfl⟩
        unfold Builtin.«set.__init__» noKeywords Builtin.Frozenset.updateFrom
        generalize hPI : pyIter = PI
        wp_walk
        subst hPI
        refine wpAny_pyIter_list hl1 ?_
        refine wpAny_bind (wpAny_runValue ?_)
        have hlS : l < s.heap.objs.size := Heap.lt_size hol
        have hh3 : A.in1.in1.in1.handled = none := by simp [hh]
        have hz1 : (s.heap.push { cls := .type "set", dict := none, data := .set #[] 0 (.fresh 0 0 (!w.params.followText "set-order")) }).objs.size = s.heap.objs.size + 1 := Heap.size_push ..
        have hneI : l ≠ (s.heap.push { cls := .type "set", dict := none, data := .set #[] 0 (.fresh 0 0 (!w.params.followText "set-order")) }).objs.size := by
          rw [Heap.size_push]; exact Nat.ne_of_lt (Nat.lt_succ_of_lt hlS)
        have hSf : s.heap.objs.size ∉ [(s.heap.push { cls := .type "set", dict := none, data := .set #[] 0 (.fresh 0 0 (!w.params.followText "set-order")) }).objs.size, l] := by
          rw [Heap.size_push]; simp only [List.mem_cons, List.mem_singleton, List.not_mem_nil, or_false, not_or]
          exact ⟨Nat.ne_of_lt (Nat.lt_succ_self _), Nat.ne_of_gt hlS⟩
        have hval : ∀ (i : Nat) (v : Value), items[i]? = some v → ∃ k t, xs[i]? = some k ∧ v = .str k t := fun i v hv => by
          have hi : i < xs.length := by rw [← hisz]; exact (Array.getElem?_eq_some_iff.mp hv).1
          obtain ⟨t, e⟩ := SS.strs_at hit i v (by rw [Array.getElem?_toList]; exact hv)
          refine ⟨xs[i], t, List.getElem?_eq_getElem hi, ?_⟩
          rw [e, List.getD_eq_getElem?_getD, List.getElem?_eq_getElem hi] <;> rfl
        refine set_update_txt ((Walks.list hh3 _ l hneI items).toS) s.heap.objs.size
          hSf xs hisz hb hval (items.size - 0) 0 _ (by omega) (Nat.zero_le _)
          ⟨⟨_, Heap.get?_push_size _ rfl, rfl, rfl⟩, (hl1.push _)⟩ ?hS0 ?hR
        case hS0 =>
          have hget : ((s.heap.push { cls := .type "set", dict := none, data := .set #[] 0 (.fresh 0 0 (!w.params.followText "set-order")) }).push { cls := .type "list_iterator", data := .fields #[.ref l, .int 0 0] }).get? s.heap.objs.size
              = some { cls := .type "set", dict := none, data := .set #[] 0 (.fresh 0 0 (!w.params.followText "set-order")) } := Heap.get?_push_of_some _ hS
          exact ⟨[], Nat.le_refl 0, List.nodup_nil, fun x => by simp, txR_new hget⟩
        case hR =>
          intro s' ys hm hc' nd' hm' hS'
          obtain ⟨h', g2, d', tk', os'⟩ := s'
          have eg : g2 = s.gens := hm.gens
          have ed : d' = s.drawn := hm.drawn
          have eo : os' = s.os := hm.os
          subst eg; subst ed; subst eo
          show wpAny _ _ _ _ _ _
          refine wpAny_pure ?_
          show wpAny _ _ (ret Value.none) _ _ _
          rw [hisz] at hc'
          refine wpAny_pure ⟨rfl, h', tk', ys, rfl, hS', hc', nd', hm', fun b o e => ?_⟩
          have hb0 : b < s.heap.objs.size := Heap.lt_size e
          have hb1 : b ≠ s.heap.objs.size := Nat.ne_of_lt hb0
          have hb2 : b ≠ (s.heap.push { cls := .type "set", dict := none, data := .set #[] 0 (.fresh 0 0 (!w.params.followText "set-order")) }).objs.size := by
            rw [Heap.size_push]; exact Nat.ne_of_lt (Nat.lt_succ_of_lt hb0)
          exact hm.heap b o (by simp only [List.mem_cons, List.mem_singleton, List.not_mem_nil, or_false, not_or]; exact ⟨hb1, hb2⟩) (Heap.get?_push_of_some _ (Heap.get?_push_of_some _ e))
      · cases r₂ with
        | error e => exact hr₂
        | ok fl₂ =>
          cases fl₂ with
          | ret r =>
            obtain ⟨rfl, h', tk, ys, rfl, hS', hc', nd', hm', hk'⟩ := hr₂
            repeat (any_goals (first | assumption | wp_step))
            exact h _ _ _ hS' hc' nd' hm' hk'
          | _ => exact hr₂.elim
    | _ => exact hr.elim


/-! ### sorted -/
theorem perm_of_sub {α : Type} [DecidableEq α] : ∀ (l m : List α), l.Nodup → (∀ x ∈ l, x ∈ m) → m.length ≤ l.length → m.Perm l
  | [], m, _, _, h => by
    have : m = [] := List.length_eq_zero_iff.mp (Nat.le_zero.mp h)
    rw [this]
  | x :: l, m, nd, hs, hl => by
    obtain ⟨n1, n2⟩ := List.nodup_cons.mp nd
    have hx := hs x List.mem_cons_self
    have p := List.perm_cons_erase hx
    have hl2 : (m.erase x).length ≤ l.length := by
      rw [List.length_erase_of_mem hx]
      simp only [List.length_cons] at hl
      omega
    exact p.trans ((perm_of_sub l (m.erase x) n2 (fun y hy => (List.mem_erase_of_ne fun e => n1 (by rw [← e]; exact hy)).mpr (hs y (List.mem_cons_of_mem _ hy))) hl2).cons x)
theorem sorted_setTx {a : Addr} {ys : List Str} {Q : Value → Shared → Prop} (R : TxR P w s.heap a ys) (nd : ys.Nodup) (hh : A.handled = none) (h64 : ys.length < 64)
    (hQ : ∀ s' p (out : Array Value) (c : Nat) (zs : List Str), (∀ b o, s.heap.get? b = some o → s'.heap.get? b = some o) → s'.gens = s.gens → s'.os = s.os → s.heap.objs.size ≤ p →
      s'.heap.get? p = some (seqObj "list" out c) → StrsAre out.toList zs → sortedS zs = true → zs.Perm ys → Q (.ref p) s') :
    wpAny (model P w) A (call (.builtin "sorted") [.ref a]) Q E s := by
  obtain ⟨⟨es, ep, t⟩, ho, F, hr, hl⟩ := R
  have hsz : es.size = ys.length := F.sz
  have hb : es.size < scanBound := by
    have : (64 : Nat) ≤ scanBound := by decide
    omega
  refine Calls.call_function_entry kind_sorted plain_sorted entry_sorted (args_sorted1 _) ?_
  unfold Builtin.«sorted»
  refine wpAny_bind (m := checkCount "sorted" 1 1 _) (wpAny_pure ?_)
  refine wpAny_bind (collect_set (A := A.in1) (es := es) (ep := ep) (t := t) hh ⟨_, ho, rfl, rfl⟩ F.fit hb hr hl fun s1 vs k1 hz g1 o1 pm => ?_)
  have hvl : vs.length = ys.length := by rw [pm.length_eq, List.length_map, Array.length_toList]; exact hsz
  have hstr : ∀ v ∈ vs, ∃ k tk, v = Value.str k tk := fun v hv => by
    obtain ⟨e, he, q⟩ := List.mem_map.mp (pm.mem_iff.mp hv)
    obtain ⟨⟨k, h1, _⟩, _⟩ := F.el e he
    obtain ⟨tk, z⟩ := Value.isStrOf_shape h1
    exact ⟨k, tk, by rw [← q]; exact z⟩
  have hI : StrsAre vs (vs.map strOf) := strsAre_map vs hstr
  have pk : (vs.map strOf).Perm ys := by
    refine perm_of_sub _ _ nd (fun x hx => ?_) (by rw [List.length_map, hvl]; exact Nat.le_refl _)
    obtain ⟨e, he, q⟩ := (F.mem x).mp hx
    obtain ⟨tk, z⟩ := Value.isStrOf_shape q
    exact List.mem_map.mpr ⟨e.2, pm.mem_iff.mpr (List.mem_map.mpr ⟨e, he, rfl⟩), by rw [z] <;> rfl⟩
  refine wpAny_bind (wpAny_newList ?_ (by rw [hvl, sizeLine_eq]; omega))
  have hoL : (s1.heap.push (seqObj "list" vs.toArray 0)).get? s1.heap.objs.size = some (seqObj "list" vs.toArray 0) := Heap.get?_push_size _ rfl
  refine wpAny_bind (wpAny_holding (wpAny_call_entry slot_list_sort ⟨_, hoL, rfl⟩ entry_list_sort (list_sort_treeK strKind_oneLt hoL hI.keysOf (fun v₁ v₂ rest e => keyKind_strs (by rw [← e]; exact hI)) (by rw [hvl]; exact h64) fun st' a1 a2 => ⟨_, rfl, ?_⟩) (args_list_sort _)))
  obtain ⟨zs, z1, z2, z3⟩ := sorted_out_str hI a1 a2
  generalize hout : (arrOf st').map (·.2) = out at z1 ⊢
  obtain ⟨c, hc⟩ := sortedHeap_at (vs := vs) (out := out) hoL
  refine wpAny_pure ⟨_, rfl, hQ _ s1.heap.objs.size out c zs (fun b u e => ?_) g1 o1 hz hc z1 z3 (z2.trans pk)⟩
  have q := k1 b u e
  have hlt := Heap.lt_size q
  show (sortedHeap (s1.heap.push (seqObj "list" vs.toArray 0)) s1.heap.objs.size vs out).get? b = some u
  rw [sortedHeap_old (Nat.ne_of_lt hlt) (by rw [size_push']; exact Nat.lt_succ_of_lt hlt)]
  exact Heap.get?_push_of_some _ q
end

/-! ### strictly rising lists of texts -/
/-- zs: the texts of xs, each once, in their order -/
structure Canon (zs xs : List Str) : Prop where
  srt : sortedS zs = true
  nd : zs.Nodup
  mem : ∀ x, x ∈ zs ↔ x ∈ xs
theorem lt_total : ∀ a b : List Nat, ltCps a b = false → ltCps b a = false → a = b
  | [], [], _, _ => rfl
  | [], _ :: _, h, _ => by simp [ltCps] at h
  | _ :: _, [], _, h => by simp [ltCps] at h
  | x :: a, y :: b, h1, h2 => by
    simp only [ltCps, Bool.or_eq_false_iff, decide_eq_false_iff_not, Bool.and_eq_false_iff, beq_eq_false_iff_ne] at h1 h2
    have e : x = y := by omega
    subst e
    rw [lt_total a b (h1.2.resolve_left fun z => z rfl) (h2.2.resolve_left fun z => z rfl)]
theorem lt_trans' : ∀ a b c : List Nat, ltCps b a = false → ltCps c b = false → ltCps c a = false
  | [], _, [], _, _ => rfl
  | _ :: _, [], [], h, _ => by simp [ltCps] at h
  | _ :: _, _ :: _, [], _, h => by simp [ltCps] at h
  | [], _, _ :: _, _, _ => by simp [ltCps]
  | _ :: _, [], _ :: _, h, _ => by simp [ltCps] at h
  | x :: a, y :: b, z :: c, h1, h2 => by
    simp only [ltCps, Bool.or_eq_false_iff, decide_eq_false_iff_not, Bool.and_eq_false_iff, beq_eq_false_iff_ne] at h1 h2 ⊢
    refine ⟨by omega, ?_⟩
    by_cases e : z = x
    · right
      subst e
      have e2 : z = y := by omega
      subst e2
      exact lt_trans' a b c (h1.2.resolve_left fun z => z rfl) (h2.2.resolve_left fun z => z rfl)
    · exact .inl e
theorem rising_pw : ∀ (p : Str) (l : List Str), risingS p l = true → (p :: l).Pairwise fun a b => ltCps b.cps.toList a.cps.toList = false
  | p, [], _ => List.pairwise_singleton _ _
  | p, x :: r, h => by
    simp only [risingS, Bool.and_eq_true, Bool.not_eq_true'] at h
    have ih := rising_pw x r h.2
    refine List.pairwise_cons.mpr ⟨fun y hy => ?_, ih⟩
    rcases List.mem_cons.mp hy with e | e
    · rw [e]; exact h.1
    · exact lt_trans' _ _ _ h.1 ((List.pairwise_cons.mp ih).1 y e)
theorem sortedS_pw : ∀ l : List Str, sortedS l = true → l.Pairwise fun a b => ltCps b.cps.toList a.cps.toList = false
  | [], _ => List.Pairwise.nil
  | x :: r, h => rising_pw x r h
theorem pw_uniq : ∀ (l m : List Str), l.Pairwise (fun a b => ltCps b.cps.toList a.cps.toList = false) → m.Pairwise (fun a b => ltCps b.cps.toList a.cps.toList = false) → l.Perm m → l = m
  | [], m, _, _, p => (List.nil_perm.mp p).symm
  | x :: l, [], _, _, p => absurd p.length_eq (by simp)
  | x :: l, y :: m, h1, h2, p => by
    obtain ⟨a1, a2⟩ := List.pairwise_cons.mp h1
    obtain ⟨b1, b2⟩ := List.pairwise_cons.mp h2
    have e : x = y := by
      rcases List.mem_cons.mp (p.mem_iff.mp List.mem_cons_self) with z | z
      · exact z
      · rcases List.mem_cons.mp (p.mem_iff.mpr List.mem_cons_self) with z2 | z2
        · exact z2.symm
        · have q := lt_total _ _ (b1 x z) (a1 y z2)
          obtain ⟨⟨u⟩⟩ := x
          obtain ⟨⟨v⟩⟩ := y
          have q' : u = v := q
          rw [q']
    subst e
    rw [pw_uniq l m a2 b2 (List.Perm.cons_inv p)]
theorem nd_len : ∀ (l m : List Str), l.Nodup → (∀ x ∈ l, x ∈ m) → l.length ≤ m.length
  | [], _, _, _ => Nat.zero_le _
  | x :: l, m, nd, hs => by
    obtain ⟨n1, n2⟩ := List.nodup_cons.mp nd
    have hx := hs x List.mem_cons_self
    have q := nd_len l (m.erase x) n2 fun y hy => (List.mem_erase_of_ne fun e => n1 (by rw [← e]; exact hy)).mpr (hs y (List.mem_cons_of_mem _ hy))
    rw [List.length_erase_of_mem hx] at q
    have : 0 < m.length := List.length_pos_of_mem hx
    simp only [List.length_cons]
    omega
theorem Canon.uniq {zs zs' xs xs' : List Str} (C : Canon zs xs) (D : Canon zs' xs') (h : ∀ x, x ∈ xs ↔ x ∈ xs') : zs = zs' := by
  refine pw_uniq _ _ (sortedS_pw _ C.srt) (sortedS_pw _ D.srt) ?_
  have hs : ∀ x, x ∈ zs ↔ x ∈ zs' := fun x => (C.mem x).trans ((h x).trans (D.mem x).symm)
  have l1 : zs.length ≤ zs'.length := (nd_len _ _ C.nd fun x hx => (hs x).mp hx)
  exact (perm_of_sub _ _ C.nd (fun x hx => (hs x).mp hx) (nd_len _ _ D.nd fun x hx => (hs x).mpr hx)).symm
end Ls
set_option maxRecDepth 100000
set_option maxHeartbeats 4000000
/-! sorted(set(xs)); enumerate and zip of tuples; the written dicts -/
namespace Ls
open PySem PySem.Spec PyProof.Rows L2 PySem.Froz

/-- sorted(set(xs)) -/
def tSSet (K : PySem.W.Frag) (ta : TE) : TE := fun σ H Q => ta σ H fun x H1 => ∃ l, ∃ xs : List Str, x = .ref l ∧ (SqL K H1 l (xs.map V.str) ∨ SqT K H1 l (xs.map V.str)) ∧ xs.length < 60 ∧
  ∀ (zs : List Str) (p : Addr), Canon zs xs → H1 p = none → Q (.ref p) (upd H1 p (.lst (zs.map V.str)))
theorem vals_of_strs : ∀ {us : List Value} {zs : List Str}, StrsAre us zs → Vals (zs.map V.str) us
  | _, _, .nil => .nil
  | _, _, .cons y t r => .cons ⟨t, rfl⟩ (vals_of_strs r)
section
variable {X : Cx}
theorem pe_sset {a : Expr} {ta : TE} {p p2 q pos : Pos} (hc : X.calm = true) (hm : X.mg "sorted" = none) (hm2 : X.mg "set" = none) (ha : PE X a ta) (hg : Gl X "sorted" := by rfl) (hg2 : Gl X "set" := by rfl)
    (na : starEach [a] X.env = (false, eval a X.env) :: starEach [] X.env := by rfl) : PE X (.Call (.Name "sorted" p) [.Call (.Name "set" p2) [a] [] q] [] pos) (tSSet X.K ta) := by
  refine ⟨fun pins s σ H Q I h => ?_⟩
  refine Call_ (ld_blt I hg hm boot_sorted ?_)
  refine PyProof.Rows.callWith_builtin1 (PyProof.Rows.args_cons ?_ rfl) rfl rfl
  refine Call_ (ld_blt I hg2 hm2 boot_set ?_)
  refine PyProof.Rows.callWith_type1 (PyProof.Rows.args_cons (thn (ha.run pins s σ H _ I h) fun v s1 ⟨x, H1, I1, r1, q1⟩ => PyProof.Rows.args_nil ?_) na) na rfl
  obtain ⟨l, xs, rfl, hq, h1, q1⟩ := q1
  cases r1
  have fin : ∀ (h' : Heap) (tk : Nat) (ys : List Str), TxR X.prog X.w h' s1.heap.objs.size ys → ys.length ≤ xs.length → ys.Nodup → (∀ x, x ∈ ys ↔ x ∈ xs) →
      (∀ b o, s1.heap.get? b = some o → h'.get? b = some o) →
      wpAny (model X.prog X.w) X.A (spliced (backTo pos (starEach [] X.env))) (fun vs s₂ => wpAny (model X.prog X.w) X.A (call (.builtin "sorted") (Value.ref s1.heap.objs.size :: vs)) (EP X pins σ Q) X.xe s₂) X.xe { s1 with heap := h', toks := tk } := fun h' tk ys R hl nd hm hk => by
    refine PyProof.Rows.args_nil ?_
    have I2 : Inv X pins σ H1 { s1 with heap := h', toks := tk } := I1.kept hk
    refine sorted_setTx (s := { s1 with heap := h', toks := tk }) R nd (I1.ok.hd hc) (by omega) fun s' p out c zs k g o hp hge hi hs hpm => ?_
    have hzl : zs.length = ys.length := hpm.length_eq
    have hlen : (zs.map V.str).length ≤ sizeLine := by rw [List.length_map, hzl, sizeLine_eq]; omega
    have hn : H1 p = none := I2.hok.fresh hp
    have J : Inv X pins σ (upd H1 p (.lst (zs.map V.str))) { { s1 with heap := h', toks := tk } with heap := s'.heap, gens := s'.gens, drawn := s'.drawn, toks := s'.toks } :=
      I2.call (ch := []) (Un.laid k hp hn) (I2.hok.laid k hp ⟨hlen, out.toList, c, vals_of_strs hi, hge⟩) (by rw [g]; exact I2.bare) (fun _ z => nomatch z)
    have e : s' = { { s1 with heap := h', toks := tk } with heap := s'.heap, gens := s'.gens, drawn := s'.drawn, toks := s'.toks } := by
      cases s'
      cases s1
      cases o
      rfl
    rw [e]
    exact ⟨.ref p, _, J, rfl, q1 zs p ⟨hs, hpm.nodup_iff.mpr nd, fun x => (hpm.mem_iff).trans (hm x)⟩ hn⟩
  have hb : xs.length + 1 < scanBound := by
    have : (64 : Nat) ≤ scanBound := by decide
    omega
  rcases hq with hq | hq
  · obtain ⟨its, r, pl, hz⟩ := I1.list hq
    exact call_set_listtxt xs (I1.ok.hd hc) pl.isList (by simpa using strsAre_of r) hb fun h' tk ys R hl nd hm hk => fin h' tk ys R hl nd hm hk
  · obtain ⟨its, r, pl, hz⟩ := I1.tuple hq
    exact call_set_tupletxt xs (I1.ok.hd hc) pl (by simpa using strsAre_of r) hb fun h' tk ys R hl nd hm hk => fin h' tk ys R hl nd hm hk
end

/-! ### enumerate(tuple) -/
set_option maxHeartbeats 1000000 in
theorem meets_enumerate_new1 {v : Value} {o : Obj} {H : Heap → Prop} (B : Begins v o H) :
    Meets (Builtin.«enumerate.__new__» ⟨[.type "enumerate", v], []⟩) (fun _ R s => H s.heap ∧
      R (.ok (.ret (.ref (s.heap.push o).objs.size))) { s with heap := (s.heap.push o).push { cls := .type "enumerate", data := .fields #[.none, .bool false, .ref s.heap.objs.size, rawInt 0, .none, .none] } }) :=
  .of_wp fun prog w A R s h => by
    obtain ⟨hp, g, d, tk, os⟩ := s; obtain ⟨h1, h⟩ := h
    have hsub := sub_enumerate
    have q1 : ∀ {A' : Around} {E : Value → Shared → Prop} {Q : Value → Shared → Prop}, Q (.ref hp.objs.size) ⟨hp.push o, g, d, tk, os⟩ → wpAny (model prog w) A' (pyIter v) Q E ⟨hp, g, d, tk, os⟩ :=
      fun q => B.iter prog w _ _ ⟨hp, g, d, tk, os⟩ _ h1 q
    wp_walk using q1
    refine wpAny_stack_any fun st => wpAny_pure ?_
    split
    · rename_i c _ _ _ _ _
      cases (c == Value.type "enumerate")
      · wp_walk using q1
        exact ⟨_, rfl, h⟩
      · wp_walk using q1
        exact ⟨_, rfl, h⟩
    · wp_walk using q1
      exact ⟨_, rfl, h⟩
/-- the tuple at a, each item in a new pair with its number -/
def IteT (K : PySem.W.Frag) (a : Addr) (xs : List V) : It :=
  ⟨fun i H => SqT K H a xs ∧ i < xs.length, fun i H v H' => ∃ T x, v = .ref T ∧ H T = none ∧ H' = upd H T (.tup [.int (i : Nat), x]) ∧ xs[i]? = some x, fun i H => SqT K H a xs ∧ i = xs.length⟩
theorem turn_enumT {P : Program} {w : World} {K : PySem.W.Frag} {elts : List Expr} {kk : Nat} {tpos : Pos} {a e it : Addr} {xs : List V} (hea : e ≠ a) (hia : it ≠ a) :
    Turn P w K (.Tuple elts kk tpos) (IteT K a xs) [e, it] e (fun i h => (∃ old, IsEnum h e it ((i : Nat) : Int) old) ∧ h.IsTupleIter it a i ∧ e ≠ it) where
  mem := by simp
  obj := fun i h st b hb => by
    obtain ⟨⟨old, he⟩, ⟨o, ho, hc, hd⟩, _⟩ := st
    have e' : b = e ∨ b = it := by simpa using hb
    rcases e' with z | z
    · rw [z]; exact ⟨_, he, fun v q => nomatch q⟩
    · rw [z]; exact ⟨o, ho, fun v q => by rw [hd] at q; cases q⟩
  keep := fun i h h' st k => let ⟨⟨old, he⟩, hi, hne⟩ := st; ⟨⟨old, k e (by simp) _ he⟩, hi.at fun o q => k it (by simp) o q, hne⟩
  item := by
    intro X hP hw hK hc i pins s σ H E I hf st hg
    subst hP hw hK
    obtain ⟨⟨old, he⟩, hit, hne⟩ := st
    obtain ⟨hq, hlt⟩ := hg
    obtain ⟨its, rv, p, hz⟩ := I.tuple hq
    have pt : s.heap.IsTuple a its.toArray := p
    have hel : e < s.heap.objs.size := Heap.lt_size he
    have hil : it < s.heap.objs.size := by obtain ⟨_, q, _⟩ := hit; exact Heap.lt_size q
    have hlen := rv.length
    refine wpAny_pyNext_enum_itemC (Draws.tuple (show X.A.in1.handled = none from by simpa using I.ok.hd hc) it a (Ne.symm hia) its.toArray) he ⟨hit, pt⟩ (by simp; omega) hne (by simp [hne, hea]) fun u h' tk hP ho hst' hT hsz hk => ?_
    obtain ⟨hit', _⟩ := hst'
    have hu : its[i]? = some u := by simpa using hP
    obtain ⟨x, hx⟩ : ∃ x, xs[i]? = some x := ⟨xs[i], List.getElem?_eq_getElem hlt⟩
    obtain ⟨u', hu', ru⟩ := rv.get hx
    rw [hu] at hu'
    cases hu'
    refine ⟨_, rfl, wpAny_letOwnedTupleGo_enum (s := { s with heap := h', toks := tk + 1 }) ho fun h'' he' sb => ?_⟩
    have hT2 : h''.get? s.heap.objs.size = some { cls := .type "tuple", data := .seq #[.int i tk, u] } := (sb.2 _ (Nat.ne_of_gt hel)).trans hT
    have new : ObjOk X.prog X.w (upd H s.heap.objs.size (.tup [.int (i : Nat), x])) h'' s.heap.objs.size (.tup [.int (i : Nat), x]) :=
      ⟨by show 2 ≤ sizeLine; decide, [.int i tk, u], .cons ⟨_, rfl⟩ (.cons ru .nil), ⟨_, hT2, rfl, _, rfl⟩⟩
    have I1 : Inv X pins σ (upd H s.heap.objs.size (.tup [.int (i : Nat), x])) { s with heap := h'', toks := tk + 1 } :=
      I.turnedNew (ch := [e, it]) (fun b ob hb q => (sb.2 b (fun z => hb (by simp [z]))).trans (hk b ob (fun z => hb (by simp [z])) (fun z => hb (by simp [z])) q)) hf (Nat.le_refl _) new
    refine ⟨.ref s.heap.objs.size, _, I1, rfl, ⟨_, x, rfl, I.hok.fresh (Nat.le_refl _), rfl, hx⟩, ⟨⟨u, ?_⟩, hit'.at fun o q => (sb.2 it (Ne.symm hne)).trans q, hne⟩, fun b hb => ?_⟩
    · have e1 : ((i + 1 : Nat) : Int) = (i : Int) + 1 := by omega
      rw [e1]; exact he'
    · have hb' : b < s.heap.objs.size := by
        have e' : b = e ∨ b = it := by simpa using hb
        rcases e' with z | z
        · rw [z]; exact hel
        · rw [z]; exact hil
      rw [upd_ne (Nat.ne_of_lt hb')]
      exact (hf b hb).1
  done := by
    intro X hP hw hK hc i pins s σ H E I hf st hg
    subst hP hw hK
    obtain ⟨⟨old, he⟩, hit, hne⟩ := st
    obtain ⟨hq, hx⟩ := hg
    obtain ⟨its, rv, p, hz⟩ := I.tuple hq
    have pt : s.heap.IsTuple a its.toArray := p
    obtain ⟨f0, f1, f2, f3, f4, f5⟩ := hf it (by simp)
    have hl := rv.length
    have hin : i = its.toArray.size := by simp; omega
    refine wpAny_pyNext_enum_endD (Draws.tuple (show X.A.in1.handled = none from by simpa using I.ok.hd hc) it a (Ne.symm hia) its.toArray) he ⟨by rw [← hin]; exact hit, pt⟩ fun h' eb => ⟨rfl, I.turned (t' := s.toks) (fun b o hb q => eb b o hb q) f0 f1 f3 f4 f5⟩
  self := fun A i s Q E st h => let ⟨⟨_, he⟩, _⟩ := st; wpAny_pyIter_enum he h
theorem call_enumerate_tuple {prog : Program} {w : World} {A : Around} {E : Value → Shared → Prop} {s : Shared} {l : Addr} {items : Array Value} {Q : Value → Shared → Prop} (hL : s.heap.IsTuple l items)
    (h : ∀ h', IsEnum h' (s.heap.objs.size + 1) s.heap.objs.size 0 .none → h'.IsTupleIter s.heap.objs.size l 0 → h'.objs.size = s.heap.objs.size + 2 →
      (∀ b o, s.heap.get? b = some o → h'.get? b = some o) → Q (.ref (s.heap.objs.size + 1)) { s with heap := h' }) :
    wpAny (model prog w) A (call (.type "enumerate") [.ref l]) Q E s := by
  refine callType_new F.called_enumerate (by decide) (F.typeCall_enumerate_1 _) (F.newCall_enumerate_1 _) (fun obj => F.args_object_init_2 obj _) F.entry_enumerate_new
    (meets_enumerate_new1 (begins_tuple l items)) ⟨hL, ?_⟩
  have hz : (s.heap.push { cls := .type "tuple_iterator", data := .fields #[.ref l, .int 0 0] }).objs.size = s.heap.objs.size + 1 := Heap.size_push ..
  show _ ∧ _
  rw [hz]
  have he : IsEnum ((s.heap.push { cls := .type "tuple_iterator", data := .fields #[.ref l, .int 0 0] }).push { cls := .type "enumerate", data := .fields #[.none, .bool false, .ref s.heap.objs.size, rawInt 0, .none, .none] }) (s.heap.objs.size + 1) s.heap.objs.size 0 .none := by
    have := Heap.get?_push_size (s.heap.push { cls := .type "tuple_iterator", data := .fields #[.ref l, .int 0 0] }) (o := { cls := .type "enumerate", data := .fields #[.none, .bool false, .ref s.heap.objs.size, rawInt 0, .none, .none] }) rfl
    rw [hz] at this; exact this
  exact ⟨⟨_, he, rfl⟩, h _ he ⟨_, Heap.get?_push_of_some _ (Heap.get?_push_size _ rfl), rfl, rfl⟩ (by rw [Heap.size_push, hz]) fun b o x => Heap.get?_push_of_some _ (Heap.get?_push_of_some _ x)⟩
def iEnumT (K : PySem.W.Frag) (ta : TA) : TI := fun σ H R => ta σ H fun vs H1 => ∃ a xs, vs = [.ref a] ∧ SqT K H1 a xs ∧ R (IteT K a xs) H1
theorem pi_enumT {X : Cx} {e : Expr} {ta : TA} {p pos tpos : Pos} {elts : List Expr} {kk : Nat} (hm : X.mg "enumerate" = none) (ha : PA X [e] ta) (hg : Gl X "enumerate" := by rfl) (hs : starEach [e] X.env = [(false, eval e X.env)] := by rfl) :
    PI X (.Tuple elts kk tpos) (.Call (.Name "enumerate" p) [e] [] pos) (iEnumT X.K ta) := by
  refine ⟨fun pins s σ H R I h => ?_⟩
  refine Call_ (ld_blt I hg hm boot_enumerate (PyProof.Rows.callWith_type1 (thn (ha.run pos pins s σ H _ I h) fun us s1 ⟨vs, H1, I1, r1, q1⟩ => ?_) hs rfl))
  obtain ⟨a, xs, ex, hq, q⟩ := q1
  subst ex
  cases r1 with
  | cons r rr =>
    cases rr
    cases r
    obtain ⟨its, rv, p', hz⟩ := I1.tuple hq
    have pt : s1.heap.IsTuple a its.toArray := p'
    have hal : a < s1.heap.objs.size := by obtain ⟨o, ho, _⟩ := pt; exact Heap.lt_size ho
    refine call_enumerate_tuple pt fun h' he hit hsz hk => wpAny_pyIter_enum he ?_
    have I2 : Inv X pins σ H1 { s1 with heap := h' } := I1.kept (t' := s1.toks) hk
    refine ⟨s1.heap.objs.size + 1, [s1.heap.objs.size + 1, s1.heap.objs.size], _, _, H1, rfl, I2, turn_enumT (a := a) (e := s1.heap.objs.size + 1) (it := s1.heap.objs.size) (Nat.ne_of_gt (Nat.lt_succ_of_lt hal)) (Nat.ne_of_gt hal), ⟨⟨.none, he⟩, hit, Nat.succ_ne_self _⟩, fun b hb => ?_, q⟩
    have e' : b = s1.heap.objs.size + 1 ∨ b = s1.heap.objs.size := by simpa using hb
    have hle : s1.heap.objs.size ≤ b := by
      rcases e' with z | z
      · rw [z]; exact Nat.le_add_right _ _
      · rw [z]; exact Nat.le_refl _
    exact I1.fpOk hle (I1.hok.fresh hle)
end Ls
set_option maxRecDepth 100000
set_option maxHeartbeats 4000000
namespace Ls
open PySem PySem.Spec PyProof.Rows L2
theorem walk_enumT {K : PySem.W.Frag} {a : Addr} {xs : List V} : Walk (IteT K a xs) xs.length (fun H => SqT K H a xs) (YPair (fun i => some (.int (i : Nat))) (fun i => xs[i]?)) := by
  refine ⟨fun i _ hi q => ⟨q, hi⟩, fun _ q => ⟨q, rfl⟩, fun i H v H' _ q y => ?_⟩
  obtain ⟨T, x, h1, h2, h3, h4⟩ := y
  exact ⟨T, .int (i : Nat), x, h1, h2, h3, rfl, h4⟩
/-! ### zip(tuple, list) -/
def ItzX (K : PySem.W.Frag) (a b : Addr) (xs ys : List V) : It :=
  ⟨fun i H => SqT K H a xs ∧ SqL K H b ys ∧ i < xs.length ∧ i < ys.length, fun i H v H' => ∃ T x y, v = .ref T ∧ H T = none ∧ H' = upd H T (.tup [x, y]) ∧ xs[i]? = some x ∧ ys[i]? = some y,
    fun i H => SqT K H a xs ∧ SqL K H b ys ∧ i = xs.length ∧ i = ys.length⟩
theorem walk_zipX {K : PySem.W.Frag} {a b : Addr} {xs ys : List V} (hl : xs.length = ys.length) : Walk (ItzX K a b xs ys) xs.length (fun H => SqT K H a xs ∧ SqL K H b ys) (YPair (fun i => xs[i]?) (fun i => ys[i]?)) := by
  refine ⟨fun i _ hi q => ⟨q.1, q.2, hi, by omega⟩, fun _ q => ⟨q.1, q.2, rfl, hl⟩, fun i H v H' _ q y => ?_⟩
  obtain ⟨T, x, z, h1, h2, h3, h4, h5⟩ := y
  exact ⟨T, x, z, h1, h2, h3, h4, h5⟩
theorem turn_zipX {P : Program} {w : World} {K : PySem.W.Frag} {elts : List Expr} {kk : Nat} {tpos : Pos} {a b z TI TO i1 i2 : Addr} {xs ys : List V} (S : ZipSep2 z TI TO i1 i2 [i1, a] [i2, b]) (ha1 : a ≠ i1) (hb2 : b ≠ i2) :
    Turn P w K (.Tuple elts kk tpos) (ItzX K a b xs ys) [z, TI, TO, i1, i2] z (fun i h => IsZip h z TI TO .none ∧ IsTupOf2 h TI (.ref i1) (.ref i2) ∧ (∃ x y, IsTupOf2 h TO x y) ∧ h.IsTupleIter i1 a i ∧ h.IsListIter i2 b i) where
  mem := by simp
  obj := fun i h st c hc => by
    obtain ⟨hz, hTI, ⟨x, y, hTO⟩, ⟨o1, e1, _, d1⟩, ⟨o2, e2, _, d2⟩⟩ := st
    have e' : c = z ∨ c = TI ∨ c = TO ∨ c = i1 ∨ c = i2 := by simpa using hc
    rcases e' with q | q | q | q | q
    · rw [q]; exact ⟨_, hz, fun v q => nomatch q⟩
    · rw [q]; exact ⟨_, hTI, fun v q => nomatch q⟩
    · rw [q]; exact ⟨_, hTO, fun v q => nomatch q⟩
    · rw [q]; exact ⟨o1, e1, fun v q => by rw [d1] at q; cases q⟩
    · rw [q]; exact ⟨o2, e2, fun v q => by rw [d2] at q; cases q⟩
  keep := fun i h h' st k => by
    obtain ⟨hz, hTI, ⟨x, y, hTO⟩, h1, h2⟩ := st
    exact ⟨k z (by simp) _ hz, k TI (by simp) _ hTI, ⟨x, y, k TO (by simp) _ hTO⟩, h1.at fun o q => k i1 (by simp) o q, h2.at fun o q => k i2 (by simp) o q⟩
  item := by
    intro X hP hw hK hc i pins s σ H E I hf st hg
    subst hP hw hK
    obtain ⟨hz, hTI, ⟨x0, y0, hTO⟩, h1, h2⟩ := st
    obtain ⟨hqx, hqy, lx, ly⟩ := hg
    obtain ⟨its, rv, p, _⟩ := I.tuple hqx
    obtain ⟨its2, rv2, p2, _⟩ := I.list hqy
    have pt : s.heap.IsTuple a its.toArray := p
    have hh : X.A.in1.handled = none := by simpa using I.ok.hd hc
    have hzl : z < s.heap.objs.size := Heap.lt_size hz
    have l1 := rv.length
    have l2 := rv2.length
    have i1z : i1 ≠ z := fun e => S.zf1 (by rw [← e]; simp)
    have i2z : i2 ≠ z := fun e => S.zf2 (by rw [← e]; simp)
    refine wpAny_pyNext_zipD2_item S (Draws.tuple hh i1 a ha1 its.toArray) (Draws.list hh i2 b hb2 its2.toArray) hz hTI hTO ⟨h1, pt⟩ ⟨h2, p2.isList⟩ (by simp; omega) (by simp; omega) fun u u2 h' tk hP1 hP2 z' TO' h1' h2' hT hsz hk => ?_
    have hu : its[i]? = some u := by simpa using hP1
    have hu2 : its2[i]? = some u2 := by simpa using hP2
    obtain ⟨x, hx⟩ : ∃ x, xs[i]? = some x := ⟨xs[i], List.getElem?_eq_getElem lx⟩
    obtain ⟨y, hy⟩ : ∃ y, ys[i]? = some y := ⟨ys[i], List.getElem?_eq_getElem ly⟩
    obtain ⟨v1, hv1, ru⟩ := rv.get hx
    obtain ⟨v2, hv2, ru2⟩ := rv2.get hy
    rw [hu] at hv1
    cases hv1
    rw [hu2] at hv2
    cases hv2
    refine ⟨_, rfl, wpAny_letOwnedTupleGo_zip (s := { s with heap := h', toks := tk }) z' fun h'' z'' sb => ?_⟩
    have hT2 : h''.get? s.heap.objs.size = some { cls := .type "tuple", data := .seq #[u, u2] } := (sb.2 _ (Nat.ne_of_gt hzl)).trans hT
    have new : ObjOk X.prog X.w (upd H s.heap.objs.size (.tup [x, y])) h'' s.heap.objs.size (.tup [x, y]) :=
      ⟨by show 2 ≤ sizeLine; decide, [u, u2], .cons ru (.cons ru2 .nil), ⟨_, hT2, rfl, _, rfl⟩⟩
    have I1 : Inv X pins σ (upd H s.heap.objs.size (.tup [x, y])) { s with heap := h'', toks := tk } :=
      I.turnedNew (t' := tk) (ch := [z, TI, TO, i1, i2]) (fun c o hb q => (sb.2 c (fun q' => hb (by simp [q']))).trans (hk c o (fun q' => hb (by simp [q'])) (fun q' => hb (by simp [q'])) (fun q' => hb (by simp [q'])) (fun q' => hb (by simp [q'])) q)) hf (Nat.le_refl _) new
    refine ⟨.ref s.heap.objs.size, _, I1, rfl, ⟨_, x, y, rfl, I.hok.fresh (Nat.le_refl _), rfl, hx, hy⟩, ⟨z'', ?_, ⟨u, u2, ?_⟩, ?_, ?_⟩, fun c hcm => ?_⟩
    · exact (sb.2 _ S.TIz).trans (hk _ _ S.TIz S.TITO S.TIi1 S.TIi2 hTI)
    · exact (sb.2 _ S.TOz).trans TO'
    · exact h1'.1.at fun o q => (sb.2 _ i1z).trans q
    · exact h2'.1.at fun o q => (sb.2 _ i2z).trans q
    · have hlt : c < s.heap.objs.size := by
        have e' : c = z ∨ c = TI ∨ c = TO ∨ c = i1 ∨ c = i2 := by simpa using hcm
        rcases e' with q | q | q | q | q
        · rw [q]; exact hzl
        · rw [q]; exact Heap.lt_size hTI
        · rw [q]; exact Heap.lt_size hTO
        · rw [q]; obtain ⟨_, e1, _⟩ := h1; exact Heap.lt_size e1
        · rw [q]; obtain ⟨_, e2, _⟩ := h2; exact Heap.lt_size e2
      rw [upd_ne (Nat.ne_of_lt hlt)]
      exact (hf c hcm).1
  done := by
    intro X hP hw hK hc i pins s σ H E I hf st hg
    subst hP hw hK
    obtain ⟨hz, hTI, ⟨x0, y0, hTO⟩, h1, h2⟩ := st
    obtain ⟨hqx, hqy, lx, ly⟩ := hg
    obtain ⟨its, rv, p, _⟩ := I.tuple hqx
    obtain ⟨its2, rv2, p2, _⟩ := I.list hqy
    have pt : s.heap.IsTuple a its.toArray := p
    have hh : X.A.in1.handled = none := by simpa using I.ok.hd hc
    have l1 := rv.length
    have l2 := rv2.length
    exact wpAny_pyNext_zipD2_end S (Draws.tuple hh i1 a ha1 its.toArray) (Draws.list hh i2 b hb2 its2.toArray) hz hTI hTO ⟨h1, pt⟩ ⟨h2, p2.isList⟩ (by simp; omega) (by simp; omega) (.inl (by simp; omega)) fun h' tk hk => ⟨rfl, I.turnedL (t' := tk) (ch := [z, TI, TO, i1, i2]) (fun c o hb q =>
      hk c o (fun q' => hb (by simp [q'])) (fun q' => hb (by simp [q'])) (fun q' => hb (by simp [q'])) (fun q' => hb (by simp [q'])) q) hf⟩
  self := fun A i s Q E st h => wpAny_pyIter_zip st.1 h
def iZipX (K : PySem.W.Frag) (ta : TA) : TI := fun σ H R => ta σ H fun vs H1 => ∃ a b xs ys, vs = [.ref a, .ref b] ∧ SqT K H1 a xs ∧ SqL K H1 b ys ∧ R (ItzX K a b xs ys) H1
theorem pi_zipX {X : Cx} {e e2 : Expr} {ta : TA} {p pos tpos : Pos} {elts : List Expr} {kk : Nat} (hm : X.mg "zip" = none) (ha : PA X [e, e2] ta) (hg : Gl X "zip" := by rfl)
    (hs : starEach [e, e2] X.env = (false, eval e X.env) :: starEach [e2] X.env := by rfl) (hpl : (backTo pos (starEach [e2] X.env)).any (·.1) = false := by rfl) :
    PI X (.Tuple elts kk tpos) (.Call (.Name "zip" p) [e, e2] [] pos) (iZipX X.K ta) := by
  refine ⟨fun pins s σ H R I h => ?_⟩
  refine Call_ (ld_blt I hg hm PyProof.Rows.boot_zip (PyProof.Rows.callWith_type1 (thn (ha.run pos pins s σ H _ I h) fun us s1 ⟨vs, H1, I1, r1, q1⟩ => ?_) hs hpl))
  obtain ⟨a, b, xs, ys, ex, hqx, hqy, q⟩ := q1
  subst ex
  cases r1 with
  | cons r rr =>
    cases rr with
    | cons r' rr =>
      cases rr
      cases r
      cases r'
      obtain ⟨its, rv, p1, _⟩ := I1.tuple hqx
      obtain ⟨its2, rv2, p2, _⟩ := I1.list hqy
      have pt : s1.heap.IsTuple a its.toArray := p1
      have la : a < s1.heap.objs.size := by obtain ⟨o, ho, _⟩ := pt; exact Heap.lt_size ho
      have lb : b < s1.heap.objs.size := p2.lt
      refine zip_begins2 (begins_tuple a its.toArray) (begins_list b its2.toArray) pt p2.isList fun h' hz hTI hTO h1 h2 hsz hk => wpAny_pyIter_zip hz ?_
      have I2 : Inv X pins σ H1 { s1 with heap := h' } := I1.kept (t' := s1.toks) hk
      refine ⟨s1.heap.objs.size + 4, [s1.heap.objs.size + 4, s1.heap.objs.size + 2, s1.heap.objs.size + 3, s1.heap.objs.size, s1.heap.objs.size + 1], _, _, H1, rfl, I2,
        turn_zipX (zip_sep2 (N := s1.heap.objs.size) (fp1 := [a]) (fp2 := [b]) (by simpa using la) (by simpa using lb)) (Nat.ne_of_lt la) (Nat.ne_of_lt (Nat.lt_succ_of_lt lb)), ⟨hz, hTI, ⟨_, _, hTO⟩, ⟨_, h1, rfl, rfl⟩, ⟨_, h2, rfl, rfl⟩⟩, fun c hcm => ?_, q⟩
      have e' : c = s1.heap.objs.size + 4 ∨ c = s1.heap.objs.size + 2 ∨ c = s1.heap.objs.size + 3 ∨ c = s1.heap.objs.size ∨ c = s1.heap.objs.size + 1 := by simpa using hcm
      have hle : s1.heap.objs.size ≤ c := by
        rcases e' with z | z | z | z | z
        · rw [z]; exact Nat.le_add_right _ _
        · rw [z]; exact Nat.le_add_right _ _
        · rw [z]; exact Nat.le_add_right _ _
        · rw [z]; exact Nat.le_refl _
        · rw [z]; exact Nat.le_add_right _ _
      exact I1.fpOk hle (I1.hok.fresh hle)
end Ls
set_option maxRecDepth 100000
set_option maxHeartbeats 4000000
/-! the written dicts: get, len, list, items, values -/
namespace Ls
open PySem PySem.Spec PyProof.Rows L2
def lk (kvs : List (Str × V)) (k : Str) : Option V := (kvs.find? fun p => decide (p.1 = k)).map (·.2)
theorem ents_pairs {P : Program} {w : World} : ∀ {es : List DictEntry} {kvs : List (Str × V)}, EntsAre es kvs → ∃ us : List (Str × Value), Pairs (PySem.strKind P w) es us ∧ KV kvs us ∧ us.map (·.1) = kvs.map (·.1)
  | [], [], _ => ⟨[], .nil, .nil, rfl⟩
  | e :: es, kv :: kvs, h => by
    obtain ⟨⟨t, hk⟩, hv, h2⟩ := h
    obtain ⟨us, p, q, r⟩ := ents_pairs (P := P) (w := w) h2
    exact ⟨(kv.1, e.val) :: us, .cons (by rw [hk]; exact PySem.strKind_is P w kv.1 t) rfl p, .cons ⟨rfl, hv⟩ q, by simp [r]⟩
  | [], _ :: _, h => h.elim
  | _ :: _, [], h => h.elim
theorem kv_find {us : List (Str × Value)} {kvs : List (Str × V)} (h : KV kvs us) (k : Str) : (lk kvs k = none ∧ valueAt us k = none) ∨ ∃ v u, lk kvs k = some v ∧ valueAt us k = some u ∧ RelV v u := by
  induction h with
  | nil => exact .inl ⟨rfl, rfl⟩
  | @cons a b l m hab h ih =>
    obtain ⟨e, r⟩ := hab
    unfold lk valueAt at ih ⊢
    rw [List.find?_cons, List.find?_cons, e]
    by_cases c : b.1 = k
    · rw [decide_eq_true c]
      exact .inr ⟨_, _, rfl, rfl, r⟩
    · rw [decide_eq_false c]
      exact ih
section
variable {X : Cx} {d : Addr} {kvs : List (Str × V)} {pins : List (Addr × Obj)} {σ : L2.St} {H : Hp} {s : Shared}
theorem KD.at_ (D : KD X.K X.w d kvs) (I : Inv X pins σ H s) : (d == sysModules) = false ∧ ∃ us ep, s.heap.DictAt (PySem.strKind X.prog X.w) d us ep ∧ KV kvs us := by
  obtain ⟨⟨es, n, hd, ha⟩, nd⟩ := D
  obtain ⟨us, p, q, r⟩ := ents_pairs (P := X.prog) (w := X.w) ha
  refine ⟨hd.low, us, n, ⟨_, es, I.kIn _ _ hd.at_, ⟨rfl, rfl, rfl⟩, rfl, fun e he => ?_, p, by rw [r]; exact nd⟩, q⟩
  obtain ⟨x, t, e1, e2⟩ := hd.lit.all e (Array.mem_toList_iff.mpr he)
  exact ⟨x, by rw [e1]; exact PySem.strKind_is X.prog X.w x t, e2⟩
/-- x in D -/
theorem op_inKD (D : KD X.K X.w d kvs) : OpR X (compareOp .In) (fun x y H Q => ∃ z : Str, x = .str z ∧ y = .ref d ∧ Q (.bl (lk kvs z).isSome) H) := by
  intro pins s σ H x y v u Q I rx ry h
  obtain ⟨z, rfl, rfl, q⟩ := h
  obtain ⟨t, rfl⟩ := rx
  cases ry
  obtain ⟨lo, us, ep, hm, hv⟩ := D.at_ I
  refine wpAny_in_of (PySem.strKind_is X.prog X.w z t) lo hm.dictOf.mapOf ?_
  rcases kv_find hv z with ⟨e1, e2⟩ | ⟨v, u, e1, e2, r⟩
  · rw [e1] at q
    rw [e2]
    exact ⟨.bl false, H, I.tok _, rfl, q⟩
  · rw [e1] at q
    rw [e2]
    exact ⟨.bl true, H, I.tok _, rfl, q⟩
/-- len(D) -/
theorem call_lenKD (D : KD X.K X.w d kvs) (hl : kvs.length < 1000) : CallR X (.builtin "len") (fun xs H Q => xs = [.ref d] ∧ Q (.int (kvs.length : Nat)) H) := by
  intro pins s σ H xs us Q I r h
  obtain ⟨rfl, q⟩ := h
  obtain ⟨u, rfl, ru⟩ := vals1 r
  cases ru
  obtain ⟨lo, us, ep, hm, hv⟩ := D.at_ I
  have e : kvs.length = us.length := Paired.length hv
  refine call_len_dict lo hm.dictOf (by omega) ⟨.int (kvs.length : Nat), H, I.tok _, ⟨s.toks + 1, by rw [e]⟩, q⟩
/-- list(D) -/
theorem call_listKD (D : KD X.K X.w d kvs) (hc : X.calm = true) (hl : kvs.length < 1000) : CallR X (.type "list") (fun xs H Q => xs = [.ref d] ∧ ∀ p, H p = none → Q (.ref p) (upd H p (.lst (kvs.map fun kv => .str kv.1)))) := by
  intro pins s σ H xs us Q I r h
  obtain ⟨rfl, q⟩ := h
  obtain ⟨u, rfl, ru⟩ := vals1 r
  cases ru
  obtain ⟨lo, us, ep, hm, hv⟩ := D.at_ I
  have e : kvs.length = us.length := Paired.length hv
  refine PySem.W.kdl_call (PySem.W.kdl_dict (knd := PySem.strKind X.prog X.w) (kvs := us) (ep := ep) lo) (I.ok.hd hc) hm (by rw [← e, sizeLine_eq]; omega) fun h' tk acc c hk hS hacc => ?_
  have hn : H s.heap.objs.size = none := I.hok.fresh (Nat.le_refl _)
  refine ⟨.ref _, _, I.laid (t' := tk) hk (Nat.le_refl _) (o := .lst (kvs.map fun kv => .str kv.1)) ⟨?_, acc.toList, c, ?_, ?_⟩, rfl, q _ hn⟩
  · rw [List.length_map, sizeLine_eq]; omega
  · refine vals_of_at (by have q1 := hacc.1; simp only [List.length_map, Array.length_toList]; omega) fun j x u hx hu => ?_
    obtain ⟨k, v, h1, h2⟩ := hacc.2 j u (by rw [← Array.getElem?_toList]; exact hu)
    rw [List.getElem?_map] at hx
    cases hj : kvs[j]? with
    | none => rw [hj] at hx; cases hx
    | some kv =>
      rw [hj] at hx
      obtain ⟨u', hu', _⟩ := kv_get hv hj
      rw [h1] at hu'
      cases hu'
      cases hx
      obtain ⟨tk, z⟩ := Value.isStrOf_shape h2
      exact ⟨tk, z⟩
  · simpa using hS
/-- D.get(e, f) -/
def tGetKD (kvs : List (Str × V)) (d : Addr) (td ty tx : TE) : TE := fun σ H Q => td σ H fun x H1 => x = .ref d ∧ ty σ H1 fun y H2 => tx σ H2 fun z H3 => ∃ k : Str, y = .str k ∧ Q ((lk kvs k).getD z) H3
theorem pe_getKD {o e f : Expr} {td ty tx : TE} {apos cpos : Pos} (D : KD X.K X.w d kvs) (ho : PE X o td) (he : PE X e ty) (hf : PE X f tx)
    (m : M2 X o "get" apos e f cpos := by exact ⟨rfl, rfl, rfl, rfl⟩) : PE X (.Call (.Attribute o "get" apos) [e, f] [] cpos) (tGetKD kvs d td ty tx) := by
  refine ⟨fun pins s σ H Q I h => ?_⟩
  refine wpAny_Call_method m.base m.few m.line PySem.F.plainAttrs_dict PySem.F.slot_dict_get PySem.F.type_dict_get (thn (ho.run pins s σ H _ I h) fun u s1 ⟨x, H1, I1, rx, ex, q1⟩ => ?_)
  subst ex
  obtain rfl : u = Value.ref d := rx
  obtain ⟨lo, us, ep, hm, hv⟩ := D.at_ I1
  refine ⟨hm.dictOf.typeIs, hm.dictOf.mapOf.noDict, ?_⟩
  rw [m.trees]
  refine wpAny_dict_get2 lo (knd := PySem.strKind X.prog X.w) (thn (he.run pins s1 σ H1 _ I1 q1) fun iv s2 ⟨y, H2, I2, ry, q2⟩ => thn (hf.run pins s2 σ H2 _ I2 q2) fun fv s3 ⟨z, H3, I3, rz, k, ey, q3⟩ => ?_)
  subst ey
  obtain ⟨tk, rfl⟩ := ry
  obtain ⟨lo3, us3, ep3, hm3, hv3⟩ := D.at_ I3
  refine ⟨k, _, PySem.strKind_is X.prog X.w k tk, hm3.dictOf.mapOf, ?_⟩
  rcases kv_find hv3 k with ⟨e1, e2⟩ | ⟨v, u, e1, e2, r⟩
  · rw [e1] at q3
    rw [e2]
    exact ⟨z, H3, I3.tok _, rz, q3⟩
  · rw [e1] at q3
    rw [e2]
    exact ⟨v, H3, I3.tok _, r, q3⟩
end
/-! ### for k, v in D.items() -/
def ItKD (d : Addr) (kvs : List (Str × V)) : It :=
  ⟨fun i _ => i < kvs.length, fun i H x H' => ∃ T k v, kvs[i]? = some (k, v) ∧ x = .ref T ∧ H T = none ∧ H' = upd H T (.tup [.str k, v]), fun i _ => i = kvs.length⟩
theorem walk_KD {d : Addr} {kvs : List (Str × V)} : Walk (ItKD d kvs) kvs.length (fun _ => True) (YPair (fun i => kvs[i]?.map fun kv => .str kv.1) (fun i => kvs[i]?.map Prod.snd)) := by
  refine ⟨fun _ _ hi _ => hi, fun _ _ => rfl, fun i H x H' _ _ y => ?_⟩
  obtain ⟨T, k, v, h1, h2, h3, h4⟩ := y
  exact ⟨T, .str k, v, h2, h3, h4, by simp [h1], by simp [h1]⟩
theorem turn_KD {P : Program} {w : World} {K : PySem.W.Frag} {elts : List Expr} {kk : Nat} {tpos : Pos} {d it : Addr} {kvs : List (Str × V)} {ep : Nat} (D : KD K w d kvs) (hep : ∀ (X : Cx) (pins : List (Addr × Obj)) (σ : L2.St) (H : Hp) (s : Shared), X.prog = P → X.w = w → X.K = K → Inv X pins σ H s → ∃ us, s.heap.DictAt (PySem.strKind X.prog X.w) d us ep ∧ KV kvs us) :
    Turn P w K (.Tuple elts kk tpos) (ItKD d kvs) [it] it (fun i h => ∃ ok ov, IsItemIter h it d i kvs.length ep ok ov) where
  mem := by simp
  obj := fun i h st b hb => by
    have e : b = it := by simpa using hb
    subst e
    obtain ⟨ok, ov, e⟩ := st
    exact ⟨_, e, fun v z => nomatch z⟩
  keep := fun i h h' st k => let ⟨ok, ov, e⟩ := st; ⟨ok, ov, k it (by simp) _ e⟩
  item := by
    intro X hP hw hK hc i pins s σ H E I hf st hi
    obtain ⟨us, hm, kv⟩ := hep X pins σ H s hP hw hK I
    subst hP hw hK
    obtain ⟨⟨k, v⟩, hkv⟩ : ∃ p, kvs[i]? = some p := ⟨kvs[i], List.getElem?_eq_getElem hi⟩
    obtain ⟨u, hu, ru⟩ := kv_get kv hkv
    have hl : kvs.length = us.length := Paired.length kv
    obtain ⟨ok, ov, he⟩ := st
    rw [hl] at he
    have hlt : it < s.heap.objs.size := Heap.lt_size he
    refine wpAny_pyNext_items_item he hm hu fun key h' hkey ho hT hz hk => ?_
    refine ⟨_, rfl, wpAny_letOwnedTupleGo_items (s := { s with heap := h' }) ho fun h'' he' sb => ?_⟩
    have hT2 : h''.get? s.heap.objs.size = some { cls := .type "tuple", data := .seq #[key, u] } := (sb.2 _ (Nat.ne_of_gt hlt)).trans hT
    obtain ⟨tk, hkey'⟩ := Value.isStrOf_shape hkey
    have new : ObjOk X.prog X.w (upd H s.heap.objs.size (.tup [.str k, v])) h'' s.heap.objs.size (.tup [.str k, v]) :=
      ⟨by show 2 ≤ sizeLine; decide, [key, u], .cons ⟨tk, hkey'⟩ (.cons ru .nil), ⟨_, hT2, rfl, _, rfl⟩⟩
    have I1 : Inv X pins σ (upd H s.heap.objs.size (.tup [.str k, v])) { s with heap := h'' } :=
      I.turnedNew (t' := s.toks) (ch := [it]) (fun b ob hb e => (sb.2 b (by simpa using hb)).trans (hk b ob (by simpa using hb) e)) hf (Nat.le_refl _) new
    refine ⟨.ref s.heap.objs.size, _, I1, rfl, ⟨_, k, v, hkv, rfl, I.hok.fresh (Nat.le_refl _), rfl⟩, ⟨key, u, ?_⟩, fun b hb => ?_⟩
    · rw [hl]; exact he'
    · have e : b = it := by simpa using hb
      rw [e, upd_ne (Nat.ne_of_lt hlt)]
      exact (hf it (by simp)).1
  done := by
    intro X hP hw hK hc i pins s σ H E I hf st hi
    obtain ⟨us, hm, kv⟩ := hep X pins σ H s hP hw hK I
    subst hP hw hK
    obtain ⟨f0, f1, f2, f3, f4, f5⟩ := hf it (by simp)
    have hl : kvs.length = us.length := Paired.length kv
    obtain ⟨ok, ov, he⟩ := st
    rw [hl] at he
    exact wpAny_pyNext_items_end (I.ok.hd hc) he hm (List.getElem?_eq_none (by have : i = kvs.length := hi; omega)) fun h' eb => ⟨rfl, I.turned (t' := s.toks) (fun b ob hb e => eb b ob hb e) f0 f1 f3 f4 f5⟩
  self := fun A i s Q E st h => let ⟨_, _, e⟩ := st; PySem.W.kcp_self e h
section
variable {X : Cx} {d : Addr} {kvs : List (Str × V)}
theorem KD.ep_ (D : KD X.K X.w d kvs) : ∃ ep, ∀ (Y : Cx) (pins : List (Addr × Obj)) (σ : L2.St) (H : Hp) (s : Shared), Y.prog = X.prog → Y.w = X.w → Y.K = X.K → Inv Y pins σ H s → ∃ us, s.heap.DictAt (PySem.strKind Y.prog Y.w) d us ep ∧ KV kvs us := by
  obtain ⟨⟨es, n, hd, ha⟩, nd⟩ := D
  refine ⟨n, fun Y pins σ H s hP hw hK I => ?_⟩
  obtain ⟨us, p, q, r⟩ := ents_pairs (P := Y.prog) (w := Y.w) ha
  refine ⟨us, ⟨_, es, I.kIn _ _ (by rw [hK]; exact hd.at_), ⟨rfl, rfl, rfl⟩, rfl, fun e he => ?_, p, by rw [r]; exact nd⟩, q⟩
  obtain ⟨x, t, e1, e2⟩ := hd.lit.all e (Array.mem_toList_iff.mpr he)
  exact ⟨x, by rw [e1]; exact PySem.strKind_is Y.prog Y.w x t, by rw [hw]; exact e2⟩
def iKD (kvs : List (Str × V)) (d : Addr) (td : TE) : TI := fun σ H R => td σ H fun x H1 => x = .ref d ∧ R (ItKD d kvs) H1
theorem pi_KD {e : Expr} {td : TE} {apos cpos : Pos} {elts : List Expr} {kk : Nat} {tpos : Pos} (D : KD X.K X.w d kvs) (he : PE X e td) (hbase : attributeBase e "items" X.env (eval e X.env) = eval e X.env := by rfl) (hline : (apos.endLine == cpos.line) = true := by rfl) :
    PI X (.Tuple elts kk tpos) (.Call (.Attribute e "items" apos) [] [] cpos) (iKD kvs d td) := by
  refine ⟨fun pins s σ H R I h => ?_⟩
  refine wpAny_Call_method (T := "dict") (id := "dict.items") hbase rfl hline F.plainAttrs_dict F.slot_dict_items F.type_dict_items (thn (he.run pins s σ H _ I h) fun u s1 ⟨x, H1, I1, rx, ex, q⟩ => ?_)
  subst ex
  obtain rfl : u = Value.ref d := rx
  obtain ⟨hs, _⟩ := D.at_ I1
  obtain ⟨ep, hep⟩ := D.ep_
  obtain ⟨us, hm, kv⟩ := hep X pins σ H1 s1 rfl rfl rfl I1
  have hl : kvs.length = us.length := Paired.length kv
  refine ⟨hm.dictOf.typeIs, hm.dictOf.mapOf.noDict, ?_⟩
  have I2 : Inv X pins σ H1 { s1 with heap := s1.heap.push { cls := .type "dict_items", data := .fields #[.ref d] } } := I1.kept (t' := s1.toks) fun b ob q => Heap.get?_push_of_some _ q
  have fin : wpAny (model X.prog X.w) X.A (pyIter (.ref s1.heap.objs.size)) (PIE X pins σ (.Tuple elts kk tpos) R) X.xe { s1 with heap := s1.heap.push { cls := .type "dict_items", data := .fields #[.ref d] } } := by
    refine wpAny_pyIter_items (d := d) (knd := PySem.strKind X.prog X.w) ⟨_, Heap.get?_push_size _ rfl, rfl, rfl⟩ (hm.push _) (pi_one (tk := s1.toks) I2 _ (turn_KD (ep := ep) D hep) ⟨.none, .none, ?_⟩ q)
    rw [hl]
    exact Heap.get?_push_size _ rfl
  show wpAny _ _ (callWith cpos (.builtin "dict.items") [.ref d] [] []) _ X.xe s1
  exact method_meetsIn F.slot_dict_items F.entry_dict_items rfl (PySem.evalArgs_none ⟨rfl, hm.dictOf.typeIs, F.args_dict_items_1 _, _, meets_dict_items (PySem.strKind X.prog X.w) d hs, ⟨us, hm.dictOf⟩, fin⟩)
end
end Ls
set_option maxRecDepth 100000
set_option maxHeartbeats 4000000
/-! tuples of texts, ints and None, compared -/
namespace Ls
open PySem PySem.Spec PyProof.Rows L2
def atom : V → Bool
  | .int _ => true
  | .str x => PyData.strOk x
  | .non => true
  | _ => false
def toD : V → PyData
  | .int i => .int i
  | .str x => .str x
  | _ => .none
def dT (xs : List V) : PyData := .tuple (xs.map toD)
def dL (xs : List V) : PyData := .list (xs.map toD)
section
variable {K : PySem.W.Frag} {H : Hp}
theorem dp_atom : ∀ {v : V}, atom v = true → Dp K H v (toD v)
  | .int i, _ => .int i
  | .str x, _ => .str x
  | .non, _ => .non
  | .bl _, h => by cases h
  | .byt _, h => by cases h
  | .flt _, h => by cases h
  | .ref _, h => by cases h
  | .ty _, h => by cases h
theorem dp_atoms : ∀ {xs : List V}, xs.all atom = true → DpAll K H xs (xs.map toD)
  | [], _ => .nil
  | x :: xs, h => by
    rw [List.all_cons, Bool.and_eq_true] at h
    exact .cons (dp_atom h.1) (dp_atoms h.2)
theorem dpT {a : Addr} {xs : List V} (h : SqT K H a xs) (c : xs.all atom = true) : Dp K H (.ref a) (dT xs) := .tup h (dp_atoms c)
theorem dpL {a : Addr} {xs : List V} (h : SqL K H a xs) (c : xs.all atom = true) : Dp K H (.ref a) (dL xs) := .lst h (dp_atoms c)
end
theorem lay_atom : ∀ {v : V}, atom v = true → (toD v).canLay0 = true
  | .int i, _ => by simp [toD, PyData.canLay0]
  | .str x, h => by
    have h' : PyData.strOk x = true := h
    simp [toD, PyData.canLay0, h']
  | .non, _ => by simp [toD, PyData.canLay0]
  | .bl _, h => by cases h
  | .byt _, h => by cases h
  | .flt _, h => by cases h
  | .ref _, h => by cases h
  | .ty _, h => by cases h
theorem dep_atom : ∀ v : V, (toD v).depth = 0
  | .int i => by simp [toD, PyData.depth]
  | .str x => by simp [toD, PyData.depth]
  | .non => by simp [toD, PyData.depth]
  | .bl _ => by simp [toD, PyData.depth]
  | .byt _ => by simp [toD, PyData.depth]
  | .flt _ => by simp [toD, PyData.depth]
  | .ref _ => by simp [toD, PyData.depth]
  | .ty _ => by simp [toD, PyData.depth]
theorem lay_atoms : ∀ {xs : List V}, xs.all atom = true → PyData.canLayAll0 (xs.map toD) = true
  | [], _ => by simp [PyData.canLayAll0]
  | x :: xs, h => by
    rw [List.all_cons, Bool.and_eq_true] at h
    simp [PyData.canLayAll0, lay_atom h.1, lay_atoms h.2]
theorem dep_atoms : ∀ xs : List V, PyData.depthAll (xs.map toD) = 0
  | [] => by simp [PyData.depthAll]
  | x :: xs => by simp [PyData.depthAll, dep_atom x, dep_atoms xs]
theorem shT {xs : List V} (c : xs.all atom = true) : SeqAt.shaped (dT xs) = true := by
  show ((dT xs).canLay0 && decide ((dT xs).depth ≤ 64)) = true
  rw [Bool.and_eq_true]
  exact ⟨by unfold dT; rw [PyData.canLay0]; exact lay_atoms c, decide_eq_true (by unfold dT; rw [PyData.depth, dep_atoms]; omega)⟩
theorem shL {xs : List V} (c : xs.all atom = true) : SeqAt.shaped (dL xs) = true := by
  show ((dL xs).canLay0 && decide ((dL xs).depth ≤ 64)) = true
  rw [Bool.and_eq_true]
  exact ⟨by unfold dL; rw [PyData.canLay0]; exact lay_atoms c, decide_eq_true (by unfold dL; rw [PyData.depth, dep_atoms]; omega)⟩
theorem eqv_atom : ∀ {v u : V}, atom v = true → atom u = true → PyData.eqv (toD v) (toD u) = decide (v = u)
  | .int i, .int j, _, _ => by
    simp only [toD, PyData.eqv, V.int.injEq]
    rfl
  | .int i, .str j, _, _ => by simp [toD, PyData.eqv]
  | .int i, .non, _, _ => by simp [toD, PyData.eqv]
  | .str i, .int j, _, _ => by simp [toD, PyData.eqv]
  | .str i, .str j, _, _ => by
    simp only [toD, PyData.eqv, V.str.injEq]
    by_cases c : i = j
    · simp [c]
    · simp [c]
  | .str i, .non, _, _ => by simp [toD, PyData.eqv]
  | .non, .int j, _, _ => by simp [toD, PyData.eqv]
  | .non, .str j, _, _ => by simp [toD, PyData.eqv]
  | .non, .non, _, _ => by simp [toD, PyData.eqv]
  | .bl _, _, h, _ => by cases h
  | .byt _, _, h, _ => by cases h
  | .flt _, _, h, _ => by cases h
  | .ref _, _, h, _ => by cases h
  | .ty _, _, h, _ => by cases h
  | .int _, .bl _, _, h => by cases h
  | .int _, .byt _, _, h => by cases h
  | .int _, .flt _, _, h => by cases h
  | .int _, .ref _, _, h => by cases h
  | .int _, .ty _, _, h => by cases h
  | .str _, .bl _, _, h => by cases h
  | .str _, .byt _, _, h => by cases h
  | .str _, .flt _, _, h => by cases h
  | .str _, .ref _, _, h => by cases h
  | .str _, .ty _, _, h => by cases h
  | .non, .bl _, _, h => by cases h
  | .non, .byt _, _, h => by cases h
  | .non, .flt _, _, h => by cases h
  | .non, .ref _, _, h => by cases h
  | .non, .ty _, _, h => by cases h
theorem eqv_atoms : ∀ {xs ys : List V}, xs.all atom = true → ys.all atom = true → PyData.eqvAll (xs.map toD) (ys.map toD) = decide (xs = ys)
  | [], [], _, _ => by simp [PyData.eqvAll]
  | [], _ :: _, _, _ => by simp [PyData.eqvAll]
  | _ :: _, [], _, _ => by simp [PyData.eqvAll]
  | x :: xs, y :: ys, h, h' => by
    rw [List.all_cons, Bool.and_eq_true] at h h'
    rw [List.map_cons, List.map_cons, PyData.eqvAll, eqv_atom h.1 h'.1, eqv_atoms h.2 h'.2]
    by_cases c : x = y
    · subst c
      simp
    · simp [c]
theorem eqvT {xs ys : List V} (c : xs.all atom = true) (c' : ys.all atom = true) : PyData.eqv (dT xs) (dT ys) = decide (xs = ys) := by
  unfold dT
  rw [PyData.eqv, eqv_atoms c c']
theorem eqvL {xs ys : List V} (c : xs.all atom = true) (c' : ys.all atom = true) : PyData.eqv (dL xs) (dL ys) = decide (xs = ys) := by
  unfold dL
  rw [PyData.eqv, eqv_atoms c c']
/-- two tuples of atoms: ==, != -/
def rEqT (K : PySem.W.Frag) (f : Bool → Bool) : R2 := fun x y H Q => ∃ a b xs ys, x = .ref a ∧ y = .ref b ∧ SqT K H a xs ∧ SqT K H b ys ∧ xs.all atom = true ∧ ys.all atom = true ∧ Q (.bl (f (decide (xs = ys)))) H
def rEqL (K : PySem.W.Frag) (f : Bool → Bool) : R2 := fun x y H Q => ∃ a b xs ys, x = .ref a ∧ y = .ref b ∧ SqL K H a xs ∧ SqL K H b ys ∧ xs.all atom = true ∧ ys.all atom = true ∧ Q (.bl (f (decide (xs = ys)))) H
section
variable {X : Cx}
theorem op_eqT (hu : X.A.units + 64 < cLine) : OpR X (compareOp .Eq) (rEqT X.K id) := fun pins s σ H x y v u Q I rx ry ⟨a, b, xs, ys, ea, eb, h1, h2, c1, c2, q⟩ =>
  op_eqD hu pins s σ H x y v u Q I rx ry ⟨dT xs, dT ys, ea ▸ dpT h1 c1, eb ▸ dpT h2 c2, shT c1, shT c2, by rw [eqvT c1 c2]; exact q⟩
theorem op_neT (hu : X.A.units + 64 < cLine) : OpR X (compareOp .NotEq) (rEqT X.K not) := fun pins s σ H x y v u Q I rx ry ⟨a, b, xs, ys, ea, eb, h1, h2, c1, c2, q⟩ =>
  op_neD hu pins s σ H x y v u Q I rx ry ⟨dT xs, dT ys, ea ▸ dpT h1 c1, eb ▸ dpT h2 c2, shT c1, shT c2, by rw [eqvT c1 c2]; exact q⟩
theorem op_eqL (hu : X.A.units + 64 < cLine) : OpR X (compareOp .Eq) (rEqL X.K id) := fun pins s σ H x y v u Q I rx ry ⟨a, b, xs, ys, ea, eb, h1, h2, c1, c2, q⟩ =>
  op_eqD hu pins s σ H x y v u Q I rx ry ⟨dL xs, dL ys, ea ▸ dpL h1 c1, eb ▸ dpL h2 c2, shL c1, shL c2, by rw [eqvL c1 c2]; exact q⟩
theorem op_neL (hu : X.A.units + 64 < cLine) : OpR X (compareOp .NotEq) (rEqL X.K not) := fun pins s σ H x y v u Q I rx ry ⟨a, b, xs, ys, ea, eb, h1, h2, c1, c2, q⟩ =>
  op_neD hu pins s σ H x y v u Q I rx ry ⟨dL xs, dL ys, ea ▸ dpL h1 c1, eb ▸ dpL h2 c2, shL c1, shL c2, by rw [eqvL c1 c2]; exact q⟩
/-- eqBool of two tuples of atoms -/
theorem eqB_T {pins : List (Addr × Obj)} {σ : L2.St} {H : Hp} {s : Shared} (I : Inv X pins σ H s) {a b : Addr} {xs ys : List V} {A : Around} {E : Value → Shared → Prop} {Q : Bool → Shared → Prop} (h1 : SqT X.K H a xs) (h2 : SqT X.K H b ys) (c1 : xs.all atom = true) (c2 : ys.all atom = true)
    (hu : A.units + 64 < cLine) (q : Q (decide (xs = ys)) s) : wpAny (model X.prog X.w) A (eqBool (.ref a) (.ref b)) Q E s := by
  obtain ⟨as, r1⟩ := Dp.reads I _ _ _ (dpT h1 c1) rfl
  obtain ⟨bs, r2⟩ := Dp.reads I _ _ _ (dpT h2 c2) rfl
  exact SeqAt.eqBoolOverData _ _ _ _ _ _ _ _ _ _ _ _ r1 r2 (SeqAt.canLay_of_shaped (shT c1)) (SeqAt.canLay_of_shaped (shT c2)) (SeqAt.room_of_shaped (shT c1) hu) (by rw [eqvT c1 c2]; exact q)
end
end Ls
set_option maxRecDepth 100000
set_option maxHeartbeats 4000000
/-! t in D.values() -/
namespace Ls
open PySem PySem.Spec PyProof.Rows L2
theorem entry_ci : entryFor table "proto.contains_iter" = some Builtin.«proto.contains_iter» := entryFor_of_fast (by kernel_rfl)
theorem plain_ci : plainId "proto.contains_iter" = true := by decide +kernel
theorem noc_values : typeLookup (.type "dict_values") "__contains__" = pure none := by rw [typeLookup_type, builtinLookup_eq_fast]; kernel_rfl
section
variable {prog : Program} {w : World} {K : Type} [DecidableEq K] {knd : KeyKind prog w K} {A : Around} {s : Shared} {R : Result → Shared → Prop}
theorem ci_loop {h0 : Heap} {it d : Addr} {us : List (K × Value)} {ep : Nat} {x : Value} {bs : List Bool} (hh : A.handled = none) (hn : h0.get? it = none) (hm : h0.DictAt knd d us ep) (hlen : bs.length = us.length)
    (heq : ∀ (h' : Heap) (tk : Tok), (∀ b o, h0.get? b = some o → h'.get? b = some o) → ∀ (j : Nat) (k : K) (v : Value) (c : Bool), us[j]? = some (k, v) → bs[j]? = some c → ∀ (E : Value → Shared → Prop) (Q : Bool → Shared → Prop), Q c { s with heap := h', toks := tk } → wpAny (model prog w) A.in1 (eqBool v x) Q E { s with heap := h', toks := tk })
    (hR : ∀ (h' : Heap) (tk : Tok) (c : Bool), c = bs.any id → (∀ b o, h0.get? b = some o → h'.get? b = some o) → R (.ok (.ret (.bool c))) { s with heap := h', toks := tk }) :
    ∀ (n i : Nat) (h1 : Heap) (tk : Tok), us.length - i = n → i ≤ us.length → (∀ j, j < i → bs[j]? = some false) → (∀ b o, h0.get? b = some o → h1.get? b = some o) → h1.IsValIter it d i us.length ep →
      codeAny (model prog w) A (.builtin "proto.contains_iter" ⟨[.ref it, x], []⟩) R { s with heap := h1, toks := tk } := by
  intro n
  induction n with
  | zero =>
    intro i h1 tk hni hi hf hk hit
    have e : i = us.length := by omega
    subst e
    refine codeAny_builtin entry_ci ?_
    rw [Around.under_plainId plain_ci _]
    show wpAny _ A.in1 (pyNext (.ref it) >>= _) _ _ _
    refine wpAny_bind (wpAny_pyNext_values_end (by simpa using hh) hit (hm.keep hk) (List.getElem?_eq_none (Nat.le_refl _)) fun h' eb => ?_)
    refine wpAny_bind (wpAny_rule (wpAny_pure ?_))
    refine hR h' tk false ?_ fun b o e => eb b o (fun z => by rw [z, hn] at e; cases e) (hk b o e)
    symm
    rw [List.any_eq_false]
    intro b hb
    obtain ⟨j, hj, hj2⟩ := List.mem_iff_getElem.mp hb
    have := hf j (by omega)
    rw [List.getElem?_eq_getElem hj, hj2] at this
    simp [Option.some.inj this]
  | succ n ih =>
    intro i h1 tk hni hi hf hk hit
    have hlt : i < us.length := by omega
    refine codeAny_builtin entry_ci ?_
    rw [Around.under_plainId plain_ci _]
    show wpAny _ A.in1 (pyNext (.ref it) >>= _) _ _ _
    have hx : us[i]? = some (us[i].1, us[i].2) := List.getElem?_eq_getElem hlt
    refine wpAny_bind (wpAny_pyNext_values_item hit (hm.keep hk) hx fun h' hit' sb => ?_)
    have hk' : ∀ b o, h0.get? b = some o → h'.get? b = some o := fun b o e => (sb.2 b fun z => by rw [z, hn] at e; cases e).trans (hk b o e)
    have hb : bs[i]? = some bs[i] := List.getElem?_eq_getElem (by omega)
    refine wpAny_bind (heq h' tk hk' i _ _ _ hx hb _ _ ?_)
    cases hc : bs[i] with
    | true =>
      refine wpAny_bind (wpAny_rule (wpAny_pure ?_))
      refine hR h' tk true ?_ hk'
      symm
      rw [List.any_eq_true]
      exact ⟨_, List.getElem_mem (by omega), hc⟩
    | false =>
      refine wpAny_pure ⟨plainId_quiet plain_ci _, ih (i + 1) h' tk (by omega) hlt (fun j hj => ?_) hk' hit'⟩
      by_cases e : j = i
      · rw [e, hb, hc]
      · exact hf j (by omega)
end
section
variable {X : Cx} {d : Addr} {kvs : List (Str × V)}
/-- the view of the values -/
def ValsO (v d : Addr) : HO := .ext fun h => h.IsValuesView v d
def tValsKD (d : Addr) (td : TE) : TE := fun σ H Q => td σ H fun x H1 => x = .ref d ∧ ∀ v, H1 v = none → Q (.ref v) (upd H1 v (ValsO v d))
theorem pe_valsKD {o : Expr} {td : TE} {apos cpos : Pos} (D : KD X.K X.w d kvs) (he : PE X o td) (hbase : attributeBase o "values" X.env (eval o X.env) = eval o X.env := by rfl) (hline : (apos.endLine == cpos.line) = true := by rfl) :
    PE X (.Call (.Attribute o "values" apos) [] [] cpos) (tValsKD d td) := by
  refine ⟨fun pins s σ H Q I h => ?_⟩
  refine wpAny_Call_method (T := "dict") (id := "dict.values") hbase rfl hline F.plainAttrs_dict F.slot_dict_values F.type_dict_values (thn (he.run pins s σ H _ I h) fun u s1 ⟨x, H1, I1, rx, ex, q⟩ => ?_)
  subst ex
  obtain rfl : u = Value.ref d := rx
  obtain ⟨hs, us, ep, hm, kv⟩ := D.at_ I1
  refine ⟨hm.dictOf.typeIs, hm.dictOf.mapOf.noDict, ?_⟩
  show wpAny _ _ (callWith cpos (.builtin "dict.values") [.ref d] [] []) _ X.xe s1
  refine method_meetsIn F.slot_dict_values F.entry_dict_values rfl (PySem.evalArgs_none ⟨rfl, hm.dictOf.typeIs, F.args_dict_values_1 _, _, meets_dict_values (PySem.strKind X.prog X.w) d hs, ⟨us, hm.dictOf⟩, ?_⟩)
  have hn : H1 s1.heap.objs.size = none := I1.hok.fresh (Nat.le_refl _)
  exact ⟨.ref s1.heap.objs.size, _, I1.laid (t' := s1.toks) (fun b u e => Heap.get?_push_of_some _ e) (Nat.le_refl _) (o := ValsO s1.heap.objs.size d) ⟨⟨_, Heap.get?_push_size _ rfl, rfl, rfl⟩, ⟨_, Heap.get?_push_size _ rfl⟩, fun h1 h2 p k => let ⟨o, ho, r⟩ := p; ⟨o, k o ho, r⟩⟩, rfl, q _ hn⟩
def rInVals (K : PySem.W.Frag) (d : Addr) (kvs : List (Str × V)) : R2 := fun x y H Q => ∃ (v p : Addr) (xs : List V) (yss : List (List V)), x = .ref p ∧ y = .ref v ∧ H v = some (ValsO v d) ∧ SqT K H p xs ∧ xs.all atom = true ∧ yss.length = kvs.length ∧
  (∀ (j : Nat) (k : Str) (u : V), kvs[j]? = some (k, u) → ∃ (a : Addr) (ys : List V), u = .ref a ∧ yss[j]? = some ys ∧ SqT K H a ys ∧ ys.all atom = true) ∧ Q (.bl (yss.any fun ys => decide (ys = xs))) H
theorem op_inVals (D : KD X.K X.w d kvs) (hc : X.calm = true) (hu : X.A.units + 70 < cLine) : OpR X (compareOp .In) (rInVals X.K d kvs) := by
  intro pins s σ H x y xv yv Q I rx ry h
  obtain ⟨v, p, xs, yss, rfl, rfl, hv, hx, cx, hl, hall, q⟩ := h
  cases rx
  cases ry
  have hview : s.heap.IsValuesView v d := (I.hok v _ hv).1
  obtain ⟨lo, us, ep, hm, kv⟩ := D.at_ I
  have hlu : kvs.length = us.length := Paired.length kv
  have hd := I.ok.hd hc
  show wpAny _ _ (do return Value.bool (← contains (.ref v) (.ref p))) _ _ s
  refine wpAny_bind ?_
  unfold contains
  refine wpAny_holding ?_
  rw [stdlibNamesSay?_ref]
  refine wpAny_bind (wpAny_specialOf hview.typeIs noc_values ?_)
  show wpAny _ _ (if (none == some Value.none) = true then _ else _) _ _ s
  rw [if_neg (by simp)]
  refine wpAny_bind ?_
  unfold callSpecialUnlessNone?
  refine wpAny_bind (wpAny_specialOf hview.typeIs noc_values (wpAny_pure ?_))
  refine wpAny_bind (wpAny_rule ?_)
  refine wpAny_bind (wpAny_tryCatch (wpAny_pyIter_values hview hm ?_))
  refine wpAny_bind (wpAny_runValue ?_)
  have hn : s.heap.get? s.heap.objs.size = none := Heap.get?_none_of_le (Nat.le_refl _)
  refine ci_loop (s := s) (h0 := s.heap) (A := X.A) (bs := yss.map fun ys => decide (ys = xs)) hd hn hm (by rw [List.length_map, hl, hlu]) (fun h' tk hk j k u c hj hc' E Q2 q2 => ?_) (fun h' tk c e hk => ?_) (us.length - 0) 0 _ s.toks rfl (Nat.zero_le _) (fun j hj => absurd hj (Nat.not_lt_zero _)) (fun b o e => Heap.get?_push_of_some _ e) ⟨_, Heap.get?_push_size _ rfl, rfl, rfl⟩
  · have I' : Inv X pins σ H { s with heap := h', toks := tk } := I.kept hk
    have hjl : j < kvs.length := by rw [hlu]; exact (List.getElem?_eq_some_iff.mp hj).1
    obtain ⟨u', hu', ru⟩ := kv_get kv (List.getElem?_eq_getElem hjl : kvs[j]? = some (kvs[j].1, kvs[j].2))
    rw [hj] at hu'
    cases hu'
    obtain ⟨a, ys, ea, ey, hy, cy⟩ := hall j _ _ (List.getElem?_eq_getElem hjl : kvs[j]? = some (kvs[j].1, kvs[j].2))
    rw [ea] at ru
    cases ru
    rw [List.getElem?_map, ey] at hc'
    cases hc'
    refine eqB_T I' hy hx cy cx ?_ q2
    simp only [PySem.Around.in1_units]
    omega
  · refine wpAny_pure (wpAny_pure ⟨.bl c, H, I.kept (t' := tk) hk, rfl, ?_⟩)
    rw [e, List.any_map]
    exact q
end
end Ls
set_option maxRecDepth 100000
set_option maxHeartbeats 4000000
/-! d | e of two dicts -/
namespace Ls
open PySem PySem.Spec PyProof.Rows L2
section
variable {prog : Program} {w : World} {K : Type} [DecidableEq K] {knd : KeyKind prog w K} {A : Around} {E : Value → Shared → Prop} {s : Shared}
theorem or_dicts {a b : Addr} {kvs more : List (K × Value)} {Q : Value → Shared → Prop} (haS : (a == sysModules) = false) (hbS : (b == sysModules) = false) (ha : s.heap.DictOf knd a kvs) (hb : s.heap.DictOf knd b more)
    (hsz : kvs.length + more.length ≤ sizeLine)
    (h : ∀ h', h'.DictOf knd s.heap.objs.size (merged kvs more) → (∀ c o, s.heap.get? c = some o → h'.get? c = some o) → Q (.ref s.heap.objs.size) { s with heap := h' }) :
    wpAny (model prog w) A (binaryOp .BitOr (.ref a) (.ref b)) Q E s := by
  refine wpAny_binaryOp_same (op := .BitOr) ha.typeIs hb.typeIs F.fills_dict_or F.slot_dict_or ?_
  refine wpAny_call_entry F.slot_dict_or ha.typeIs F.entry_dict_or ?_ (F.args_dict_or_2 _ _)
  unfold Builtin.«dict.__or__»
  refine wpAny_bind ?_
  unfold Builtin.Dict.dictSlotArgs
  refine wpAny_bind (wpAny_notOrdered_dict ha.typeIs ?_)
  refine wpAny_bind (m := slotArgs "__or__" 1 _) (wpAny_pure ?_)
  refine wpAny_pure ?_
  have two : wpAny (model prog w) A.in1 (isInstance (.ref a) (.type "dict") <&&> isInstance (.ref b) (.type "dict")) (fun r s' => r = true ∧ s' = s) E s := by
    refine wpAny_bind (wpAny_isInstance ha.typeIs isSubtype_dict_dict ?_)
    exact wpAny_isInstance hb.typeIs isSubtype_dict_dict ⟨rfl, rfl⟩
  dsimp only
  refine wpAny_bind (m := (isInstance (.ref a) (.type "dict") <&&> isInstance (.ref b) (.type "dict"))) (wpAny_mono two (fun r s' z => ?_) fun _ _ e => e)
  obtain ⟨e1, e2⟩ := z
  rw [e1, e2]
  show wpAny _ _ (do
    let new ← Builtin.Dict.copyOf "dict.__or__" (.ref a)
    let d ← Builtin.Dict.addrOf new
    holding [new] (Builtin.Dict.updateFrom "dict.__or__" d (.ref b) [] new)) _ _ s
  obtain ⟨o, es, ep, ho, hc, hdat, hk, hp, hn⟩ := id ha
  have hel := hp.length
  have hes : es.size ≤ sizeLine + 1 := by
    have e2 : es.toList.length = es.size := by simp
    omega
  have copy : wpAny (model prog w) A.in1 (Builtin.Dict.copyOf "dict.__or__" (.ref a)) (fun r s' => r = .ref s.heap.objs.size ∧ s' = { s with heap := s.heap.push { cls := .type "dict", data := .dict es } }) E s := by
    unfold Builtin.Dict.copyOf
    refine wpAny_bind (wpAny_pure ?_)
    unfold Builtin.Dict.showsAll
    rw [if_neg (by rw [haS]; exact Bool.false_ne_true)]
    refine wpAny_bind (wpAny_pure ?_)
    refine wpAny_bind (wpAny_dictEntries ho hdat ?_)
    by_cases hemp : es.isEmpty = true
    · rw [if_pos hemp]
      have e0 : es = #[] := Array.isEmpty_iff.mp hemp
      refine wpAny_bind (wpAny_rule (wpAny_newObj_type ?_))
      rw [e0]
      exact ⟨rfl, rfl⟩
    · rw [if_neg hemp]
      refine wpAny_bind ?_
      unfold Builtin.Dict.readDirectly
      refine wpAny_bind (wpAny_isInstance ha.typeIs isSubtype_dict_dict ?_)
      simp only [Bool.not_true, Bool.false_eq_true, if_false]
      refine wpAny_bind (wpAny_specialOf ha.typeIs F.slot_dict_iter.lookup (wpAny_pure ?_))
      simp only [beq_self_eq_true, if_true]
      refine wpAny_bind (wpAny_entriesForEmpty (knd := knd) ho hdat hk (wpAny_newObj_type ?_ hes))
      exact ⟨rfl, rfl⟩
  refine wpAny_bind (wpAny_mono copy (fun r s' z => ?_) fun _ _ e => e)
  obtain ⟨e1, e2⟩ := z
  rw [e1, e2]
  refine wpAny_bind (m := Builtin.Dict.addrOf _) (wpAny_pure ?_)
  refine wpAny_holding ?_
  have hlt : b < s.heap.objs.size := by
    obtain ⟨_, _, _, hg, _⟩ := hb
    exact Heap.lt_size hg
  have hnew : (s.heap.push { cls := .type "dict", data := .dict es }).DictOf knd s.heap.objs.size kvs := ⟨_, es, 0, Heap.get?_push_size _ rfl, ⟨rfl, rfl, rfl⟩, rfl, hk, hp, hn⟩
  have hb' : (s.heap.push { cls := .type "dict", data := .dict es }).DictOf knd b more := hb.push _
  unfold Builtin.Dict.updateFrom
  refine wpAny_bind (wpAny_typeOf (s := { s with heap := s.heap.push { cls := .type "dict", data := .dict es } }) hb'.typeIs ?_)
  rw [if_neg (by decide)]
  refine wpAny_bind ?_
  unfold Builtin.Dict.merge
  refine wpAny_bind ?_
  unfold Builtin.Dict.readDirectly
  refine wpAny_bind (wpAny_isInstance (s := { s with heap := s.heap.push { cls := .type "dict", data := .dict es } }) hb'.typeIs isSubtype_dict_dict ?_)
  simp only [Bool.not_true, Bool.false_eq_true, if_false]
  refine wpAny_bind (wpAny_specialOf (s := { s with heap := s.heap.push { cls := .type "dict", data := .dict es } }) hb'.typeIs F.slot_dict_iter.lookup (wpAny_pure ?_))
  simp only [beq_self_eq_true, if_true]
  refine wpAny_bind (wpAny_pure ?_)
  refine wpAny_mergeDict (s := { s with heap := s.heap.push { cls := .type "dict", data := .dict es } }) (hsz := hsz) (Nat.ne_of_gt hlt) hbS hnew hb' fun h' hd' _ hs' => ?_
  show wpAny _ _ (Builtin.Dict.addKeywords s.heap.objs.size [] >>= _) _ _ _
  refine wpAny_bind (wpAny_pure (wpAny_pure ⟨_, rfl, by simp, h h' hd' fun c o e => ?_⟩))
  exact (hs'.2 c (Nat.ne_of_lt (Heap.lt_size e))).trans (Heap.get?_push_of_some _ e)
end
section
variable {X : Cx}
def rOrD : R2 := fun x y H Q => ∃ (a b : Addr) (kvs more : List (Key × V)), x = .ref a ∧ y = .ref b ∧ H a = some (.dK kvs) ∧ H b = some (.dK more) ∧ kvs.length + more.length ≤ sizeLine ∧ ∀ p, H p = none → Q (.ref p) (upd H p (.dK (mergeK kvs more)))
theorem op_orD : OpR X (binaryOp .BitOr) rOrD := by
  intro pins s σ H x y v u Q I rx ry h
  obtain ⟨a, b, kvs, more, rfl, rfl, ha, hb, hl, q⟩ := h
  cases rx
  cases ry
  obtain ⟨z1, l1, vs, r1, d1⟩ := dk_of I.hok ha
  obtain ⟨z2, l2, ws, r2, d2⟩ := dk_of I.hok hb
  have e1 : kvs.length = vs.length := Paired.length r1
  have e2 : more.length = ws.length := Paired.length r2
  refine or_dicts l1 l2 d1 d2 (by omega) fun h' hd hk => ?_
  have hn : H s.heap.objs.size = none := I.hok.fresh (Nat.le_refl _)
  refine ⟨.ref _, _, I.laid (t' := s.toks) hk (Nat.le_refl _) (o := .dK (mergeK kvs more)) (dk_new (Nat.le_trans (length_mergeK more kvs) hl) (beq_eq_false_iff_ne.mpr (Ne.symm (Nat.ne_of_lt I.big))) (r2.merge r1) hd), rfl, q _ hn⟩
end
end Ls
set_option maxRecDepth 100000
set_option maxHeartbeats 4000000
/-! stacks as trees; what the functions compute; where trees stand -/
namespace Ls
open PySem PySem.Spec PyProof.Rows L2

/-! ### trees -/
inductive Tr
  | rl (m : Str) (acts : List V)
  | st (es : List Tr)
abbrev Ru := Str × List V
mutual
def Tr.steps : Tr → List Ru
  | .rl m a => [(m, a)]
  | .st es => stepsL es
def stepsL : List Tr → List Ru
  | [] => []
  | e :: es => e.steps ++ stepsL es
end
mutual
def Tr.dep : Tr → Nat
  | .rl _ _ => 1
  | .st es => depL es + 1
def depL : List Tr → Nat
  | [] => 1
  | e :: es => max e.dep (depL es)
end
def modsL (es : List Tr) : List Str := (stepsL es).map (·.1)
theorem stepsL_append : ∀ a b : List Tr, stepsL (a ++ b) = stepsL a ++ stepsL b
  | [], b => rfl
  | e :: a, b => by
    simp only [List.cons_append, stepsL]
    rw [stepsL_append a b, List.append_assoc]
theorem depL_append : ∀ a b : List Tr, depL (a ++ b) = max (depL a) (depL b)
  | [], b => by
    have : ∀ l : List Tr, 1 ≤ depL l := fun l => by
      induction l with
      | nil => simp [depL]
      | cons e l ih => simp only [depL]; omega
    have := this b
    simp only [List.nil_append, depL]
    omega
  | e :: a, b => by
    simp only [List.cons_append, depL]
    rw [depL_append a b]
    omega
theorem depL_pos : ∀ l : List Tr, 1 ≤ depL l
  | [] => by simp [depL]
  | e :: l => by
    have := depL_pos l
    simp only [depL]
    omega
theorem dep_mem {e : Tr} : ∀ {es : List Tr}, e ∈ es → e.dep ≤ depL es
  | x :: es, h => by
    simp only [depL]
    rcases List.mem_cons.mp h with z | z
    · rw [z]; omega
    · have := dep_mem z
      omega

/-! ### actions -/
def actS : List Str := ["ok", "bad", "die", "done", "ignore", "reset"]
def isActB (v : V) : Bool := match v with
  | .str x => actS.contains x
  | .int n => decide (1 ≤ n) && decide (n ≤ 9)
  | _ => false
def wordOk (z : Str) : Bool := decide (1 ≤ z.cps.size) && decide (z.cps.size ≤ 8) && z.cps.toList.all fun c => decide (97 ≤ c) && decide (c ≤ 122)
def actsOk (as : List V) : Bool := as.length == 4 && as.all isActB
def ruOk (r : Ru) : Bool := wordOk r.1 && actsOk r.2
/-- a stack that the program takes -/
structure Ok (es : List Tr) : Prop where
  len : es.length ≤ 12
  dep : depL es ≤ 3
  rules : (stepsL es).length ≤ 12
  mods : ∃ ns : List Str, ns.length ≤ 6 ∧ ∀ m ∈ modsL es, m ∈ ns
  rus : (stepsL es).all ruOk = true

/-! ### marks -/
inductive Mk1
  | none | good | bad
  deriving DecidableEq
def mkF (act : V) (mk begin : Mk1) : Mk1 :=
  if act = .str "ok" ∨ act = .str "done" then (if mk = .none then .good else mk)
  else if act = .str "bad" ∨ act = .str "die" then .bad
  else if act = .str "reset" then begin else mk
def resIx (r : Str) : Nat := if r = "yes" then 0 else if r = "no" then 1 else if r = "skip" then 2 else 3
def actFor (acts : List V) (r : Str) : V := acts.getD (resIx r) .non
def endL (ans : Str → Str) (begin : Mk1) : List Tr → Nat → Mk1 → Mk1
  | [], _, mk => mk
  | _ :: es, k + 1, mk => endL ans begin es k mk
  | .st sub :: es, 0, mk => endL ans begin es 0 (endL ans mk sub 0 mk)
  | .rl m acts :: es, 0, mk =>
    let act := actFor acts (ans m)
    let mk' := mkF act mk begin
    if act = .str "die" ∨ (act = .str "done" ∧ mk' = .good) then mk'
    else endL ans begin es (match act with | .int n => n.toNat | _ => 0) mk'
def outL (ans : Str → Str) (es : List Tr) : Str := if endL ans .none es 0 .none = .good then "in" else "out"

/-! ### answers -/
abbrev Asg := List (Str × Str)
def resS : List Str := ["yes", "no", "skip", "gone"]
def stepA (n : Str) (gs : List Asg) : List Asg := gs.flatMap fun g => resS.map fun r => g ++ [(n, r)]
def allAns (ns : List Str) : List Asg := ns.foldl (fun gs n => stepA n gs) [[]]
def ansF (g : Asg) (m : Str) : Str := ((g.find? fun p => decide (p.1 = m)).map (·.2)).getD "gone"
noncomputable def canon (xs : List Str) : List Str := by
  classical exact if h : ∃ zs, Canon zs xs then Classical.choose h else []
theorem canon_of {zs xs : List Str} (h : Canon zs xs) : canon xs = zs := by
  have hs : ∃ zs, Canon zs xs := ⟨zs, h⟩
  unfold canon
  rw [dif_pos hs]
  exact (Classical.choose_spec hs).uniq h fun _ => Iff.rfl
theorem canon_congr {xs ys : List Str} (h : ∀ x, x ∈ xs ↔ x ∈ ys) : canon xs = canon ys := by
  classical
  have e : ∀ zs, Canon zs xs ↔ Canon zs ys := fun zs => ⟨fun c => ⟨c.srt, c.nd, fun x => (c.mem x).trans (h x)⟩, fun c => ⟨c.srt, c.nd, fun x => (c.mem x).trans (h x).symm⟩⟩
  by_cases c : ∃ zs, Canon zs xs
  · obtain ⟨zs, hz⟩ := c
    rw [canon_of hz, canon_of ((e zs).mp hz)]
  · have c' : ¬ ∃ zs, Canon zs ys := fun ⟨zs, hz⟩ => c ⟨zs, (e zs).mpr hz⟩
    unfold canon
    rw [dif_neg c, dif_neg c']
noncomputable def bothN (a b : List Tr) : List Str := canon (modsL a ++ modsL b)
noncomputable def bothL (a b : List Tr) : List (Asg × Str × Str) := (allAns (bothN a b)).map fun g => (g, outL (ansF g) a, outL (ansF g) b)
noncomputable def told (a b : List Tr) : Nat := ((bothL a b).filter fun r => decide (r.2.1 ≠ r.2.2)).length
theorem bothN_comm (a b : List Tr) : bothN a b = bothN b a := canon_congr fun x => by
  rw [List.mem_append, List.mem_append]
  exact or_comm
theorem told_comm (a b : List Tr) : told a b = told b a := by
  unfold told bothL
  rw [bothN_comm a b, List.filter_map, List.filter_map, List.length_map, List.length_map]
  congr 1
  apply List.filter_congr
  intro g _
  show decide (outL (ansF g) a ≠ outL (ansF g) b) = decide (outL (ansF g) b ≠ outL (ansF g) a)
  exact decide_eq_decide.mpr ⟨Ne.symm, Ne.symm⟩

/-! ### turning a rule -/
mutual
def turnT (number : Int) (acts : List V) : Int → Tr → Tr
  | b, .rl m a => if b = number then .rl m acts else .rl m a
  | b, .st es => .st (turnL number acts b es)
def turnL (number : Int) (acts : List V) : Int → List Tr → List Tr
  | _, [] => []
  | b, e :: es => turnT number acts b e :: turnL number acts (b + (e.steps.length : Nat)) es
end
def firstsL : Int → List Tr → List Int
  | _, [] => []
  | b, e :: es => b :: firstsL (b + (e.steps.length : Nat)) es
/-! ### where they stand -/
def RuAt (K : PySem.W.Frag) (H : Hp) (r : Ru) (a : Addr) : Prop := ∃ dx t, H a = some (.ins (cRule K) dx [("asks", .str r.1), ("acts", .ref t)]) ∧ SqT K H t r.2
def RusAt (K : PySem.W.Frag) (H : Hp) : List Ru → List Addr → Prop
  | [], [] => True
  | r :: rs, a :: as => RuAt K H r a ∧ RusAt K H rs as
  | _, _ => False
mutual
def AtT (K : PySem.W.Frag) (H : Hp) : Tr → Addr → Prop
  | .rl m acts, a => RuAt K H (m, acts) a
  | .st es, a => ∃ dx tp ts tn as rs, H a = some (.ins (cStack K) dx [("parts", .ref tp), ("steps", .ref ts), ("names", .ref tn), ("depth", .int (depL es : Nat))]) ∧
    SqT K H tp (as.map V.ref) ∧ AtL K H es as ∧ SqT K H ts (rs.map V.ref) ∧ RusAt K H (stepsL es) rs ∧ Canon (canon (modsL es)) (modsL es) ∧ SqT K H tn ((canon (modsL es)).map V.str) ∧ Ok es
def AtL (K : PySem.W.Frag) (H : Hp) : List Tr → List Addr → Prop
  | [], [] => True
  | e :: es, a :: as => AtT K H e a ∧ AtL K H es as
  | _, _ => False
end
/-- what never changes once it stands -/
def Imm : HO → Bool
  | .tup _ => true
  | .frz _ _ => true
  | .ins _ _ fs => decide (fs.map (·.1) = (["asks", "acts"] : List Str)) || decide (fs.map (·.1) = (["parts", "steps", "names", "depth"] : List Str))
  | _ => false
theorem imm_ru {C dx : Addr} {x y : V} : Imm (.ins C dx [("asks", x), ("acts", y)]) = true := by simp [Imm]
theorem imm_st {C dx : Addr} {x y z u : V} : Imm (.ins C dx [("parts", x), ("steps", y), ("names", z), ("depth", u)]) = true := by simp [Imm]
def Fz (H H' : Hp) : Prop := ∀ b o, Imm o = true → H b = some o → H' b = some o
def Sm (l : List Addr) (H H' : Hp) : Prop := ∀ b o, H b = some o → b ∉ l → H' b = some o
theorem Fz.refl (H : Hp) : Fz H H := fun _ _ _ h => h
theorem Fz.trans {H H1 H2 : Hp} (a : Fz H H1) (b : Fz H1 H2) : Fz H H2 := fun c o i h => b c o i (a c o i h)
theorem Fz.of {H H' : Hp} (e : Ext H H') : Fz H H' := fun b o _ h => e b o h
theorem Sm.fz {l : List Addr} {H H' : Hp} (s : Sm l H H') (h : ∀ b ∈ l, ∀ o, H b = some o → Imm o = false) : Fz H H' := fun b o i e => s b o e fun hb => by
  rw [h b hb o e] at i
  cases i
theorem Sm.of {l : List Addr} {H H' : Hp} (e : Ext H H') : Sm l H H' := fun b o h _ => e b o h
theorem Sm.trans {l : List Addr} {H H1 H2 : Hp} (a : Sm l H H1) (b : Sm l H1 H2) : Sm l H H2 := fun c o h n => b c o (a c o h n) n
theorem Sm.mono {l m : List Addr} {H H' : Hp} (a : Sm l H H') (h : ∀ b ∈ l, b ∈ m) : Sm m H H' := fun c o e n => a c o e fun z => n (h c z)
theorem Sm.upd {a : Addr} {l : List Addr} {H H' : Hp} {o : HO} (s : Sm l H H') (ha : a ∈ l) : Sm l H (L2.upd H' a o) := fun c u h n => by
  rw [upd_ne fun e => n (by rw [e]; exact ha)]
  exact s c u h n
theorem Sm.new {a : Addr} {l : List Addr} {H H' : Hp} {o : HO} (s : Sm l H H') (ha : H' a = none) : Sm l H (L2.upd H' a o) := fun c u h n => by
  have q := s c u h n
  rw [upd_ne fun e => by rw [e, ha] at q; cases q]
  exact q
theorem Sm.ext {H H' : Hp} (s : Sm [] H H') : Ext H H' := fun b o h => s b o h (by simp)
theorem Sm.refl (l : List Addr) (H : Hp) : Sm l H H := fun _ _ h _ => h
/-- new places drop out -/
theorem Sm.drop {a : Addr} {l : List Addr} {H H' : Hp} (s : Sm (a :: l) H H') (ha : H a = none) : Sm l H H' := fun c u h n => s c u h fun z => by
  rcases List.mem_cons.mp z with e | e
  · rw [e, ha] at h
    cases h
  · exact n e
section
variable {K : PySem.W.Frag} {H H' : Hp}
theorem SqT.fz {a : Addr} {xs : List V} (h : SqT K H a xs) (e : Fz H H') : SqT K H' a xs := by
  rcases h with h | h
  · refine .inl ?_
    rcases h with h | ⟨o, h⟩
    · exact .inl (e a _ rfl h)
    · exact .inr ⟨o, e a _ rfl h⟩
  · exact .inr h
theorem RuAt.fz {r : Ru} {a : Addr} (h : RuAt K H r a) (e : Fz H H') : RuAt K H' r a := by
  obtain ⟨dx, t, h1, h2⟩ := h
  exact ⟨dx, t, e a _ imm_ru h1, SqT.fz h2 e⟩
theorem RusAt.fz (e : Fz H H') : ∀ {rs : List Ru} {as : List Addr}, RusAt K H rs as → RusAt K H' rs as
  | [], [], _ => trivial
  | r :: rs, a :: as, h => ⟨h.1.fz e, RusAt.fz e h.2⟩
  | [], _ :: _, h => h.elim
  | _ :: _, [], h => h.elim
mutual
theorem AtT.fz (e : Fz H H') : ∀ {t : Tr} {a : Addr}, AtT K H t a → AtT K H' t a
  | .rl m acts, a, h => RuAt.fz h e
  | .st es, a, h => by
    obtain ⟨dx, tp, ts, tn, as, rs, h1, h2, h3, h4, h5, h6, h7, h8⟩ := h
    exact ⟨dx, tp, ts, tn, as, rs, e a _ imm_st h1, SqT.fz h2 e, AtL.fz e h3, SqT.fz h4 e, RusAt.fz e h5, h6, SqT.fz h7 e, h8⟩
theorem AtL.fz (e : Fz H H') : ∀ {es : List Tr} {as : List Addr}, AtL K H es as → AtL K H' es as
  | [], [], _ => trivial
  | t :: es, a :: as, h => ⟨AtT.fz e h.1, AtL.fz e h.2⟩
  | [], _ :: _, h => h.elim
  | _ :: _, [], h => h.elim
end
end
end Ls
set_option maxRecDepth 100000
set_option maxHeartbeats 4000000
/-! the rules module -/
namespace Ls
open PySem PySem.Spec PyProof.Rows L2
section
variable {P : Program} {w : World} {K : PySem.W.Frag} {mg : Str → Option Value} {base : Heap}
theorem blT {c : Prop} [Decidable c] (h : c) : V.bl (decide c) = V.bl true := by rw [decide_eq_true h]
theorem blF {c : Prop} [Decidable c] (h : ¬ c) : V.bl (decide c) = V.bl false := by rw [decide_eq_false h]
theorem _root_.L2.Ext.updD {H H1 : Hp} {D : Addr} {o : HO} (e : Ext H H1) (h : H D = none) : Ext H (upd H1 D o) := fun b u q => by
  rw [upd_ne fun z => by rw [z, h] at q; cases q]
  exact e b u q
/-! is_word -/
def spIsWord : Sp := fun vs H Q _ => ∃ z : Str, vs = [.str z] ∧ wordOk z = true ∧ ∀ H', Ext H H' → Q (.bl true) H'
theorem sc_is_word : FnScope ["thing", "letter"] ["thing"] (defScope s_is_word) := ⟨rfl, rfl, rfl, by decide +kernel, rfl, by decide +kernel, by decide +kernel⟩
theorem letters_mem {c : Nat} (h1 : 97 ≤ c) (h2 : c ≤ 122) : c ∈ (Str.ofString "abcdefghijklmnopqrstuvwxyz").cps.toList := by
  have e : (Str.ofString "abcdefghijklmnopqrstuvwxyz").cps.toList = (List.range 26).map (· + 97) := by decide +kernel
  rw [e, List.mem_map]
  exact ⟨c - 97, List.mem_range.mpr (by omega), by omega⟩
theorem ok_is_word (T : Txt w K mg) : GF P w K mg base 1 "is_word" (He.ga K "is_word") spIsWord := by
  obtain ⟨fd, F⟩ := T.d_is_word
  refine gf_of F T.g_is_word (fnr F sc_is_word (F.binds fun _ _ _ _ _ _ us hl => match us, hl with | [_], _ => rfl) (by rintro vs H Q E ⟨_, rfl, _⟩; rfl) fun cdv A outer s H vs Q E hr h => ?_)
  obtain ⟨z, rfl, hz, q⟩ := h
  refine ⟨_, pss_cons (ps_if (PW.pt (pw_or (pt_not (pt_val (pcb call_isi T.f_isinstance (pa_cons (pv 0) (pa_cons (pty "str" T.f_str) pa_nil)))))
      (pw_or1 (pt_not (pt_chain op_le op_le pe_int (pcb call_len_str T.f_len (pa_cons (pv 0) pa_nil)) (pgi 8 T.i_MOST_LETTERS)))))) (pss_one (ps_ret pe_bl)) pss_nil)
    (pss_one (ps_ret (pcb (cr_all rfl) T.f_all (pa_cons (pe_lc (own := [("letter", 1)]) (g := gName 1) (tt := tYes) rfl sc_is_word.nd (pi_str (pv 0)) (blkOk_by (own := [("letter", 1)]) (N := ["thing", "letter"]) (sc := defScope s_is_word) (by decide +kernel))
      (fun _ _ _ _ _ => pg_name (i := 1) sc_is_word.nd rfl (Or.inl rfl)) (fun _ _ _ _ _ => pts_nil)
      (fun _ _ _ _ _ => pe_cmpR op_in_sign (pv 1) (pgs "abcdefghijklmnopqrstuvwxyz" T.t_LETTERS) rfl)) pa_nil)))), ?_⟩
  unfold wordOk at hz
  simp only [Bool.and_eq_true, decide_eq_true_eq] at hz
  obtain ⟨⟨h1, h2⟩, h3⟩ := hz
  have hlen : z.length = z.cps.size := rfl
  refine ⟨_, rfl, _, .ty "str", _, _, true, rfl, .ty "str", .base (.str z), kit_ty (by decide +kernel), true, rfl, iteF ?_⟩
  refine ⟨_, rfl, _, rfl, by rw [hlen]; exact Nat.le_trans h2 (by decide), ?_⟩
  refine ⟨_, _, rfl, rfl, true, blT (by rw [hlen]; omega), iteT ⟨_, _, rfl, rfl, true, blT (by rw [hlen]; omega), iteF ?_⟩⟩
  refine ⟨_, rfl, _, rfl, fun D hD => ?_⟩
  refine lc_it walk_str (fun i H' => i ≤ z.cps.size ∧ Ext H H' ∧ H' D = some (.lst ((List.replicate i true).map V.bl))) ⟨Nat.zero_le _, Ext.upd hD, upd_same⟩ (fun _ _ _ _ => trivial) (fun i x H1 H2 hi hp hy => ?_) fun H1 hp => ?_
  · obtain ⟨p1, p2, p3⟩ := hp
    obtain ⟨rfl, c, hc, rfl⟩ := hy
    refine ⟨rfl, _, rfl, c, _, rfl, rfl, _, p3, by rw [List.length_map, List.length_replicate]; exact Nat.lt_of_le_of_lt p1 (Nat.lt_of_le_of_lt h2 (by decide)), ?_⟩
    have hm : c ∈ z.cps.toList := by
      rw [← Array.getElem?_toList] at hc
      exact List.mem_of_getElem? hc
    have hcc := List.all_eq_true.mp h3 c hm
    simp only [Bool.and_eq_true, decide_eq_true_eq] at hcc
    rw [decide_eq_true (letters_mem hcc.1 hcc.2)]
    refine ⟨by omega, fun b o e => ?_, ?_⟩
    · rw [upd_ne]
      · exact p2 b o e
      · rintro rfl
        rw [hD] at e
        cases e
    · rw [upd_same, List.replicate_succ', List.map_append]
      rfl
  · obtain ⟨p1, p2, p3⟩ := hp
    refine ⟨_, _, rfl, SqL.of p3, ?_⟩
    have e : (List.replicate z.cps.size true).all id = true := by
      rw [List.all_eq_true]
      intro b hb
      rw [(List.mem_replicate.mp hb).2]
      rfl
    rw [e]
    exact q H1 p2
theorem tyTup {H : Hp} {a : Addr} {xs : List V} (h : SqT K H a xs) : TyX K H (.ref a) (.type "tuple") := by
  rcases h with (h | ⟨o, h⟩) | ⟨o, its, n, hk, hc, _⟩
  · exact .base (.tup h)
  · exact .fTuple h
  · exact .kTuple hk hc
/-! is_action -/
def spIsAct : Sp := fun vs H Q _ => ∃ x : V, vs = [x] ∧ isActB x = true ∧ Q (.bl true) H
theorem sc_is_action : FnScope ["thing"] ["thing"] (defScope s_is_action) := ⟨rfl, rfl, rfl, by decide +kernel, rfl, by decide +kernel, by decide +kernel⟩
theorem act_cases {x : V} (h : isActB x = true) : (x = .str "ok" ∨ x = .str "bad" ∨ x = .str "die" ∨ x = .str "done" ∨ x = .str "ignore" ∨ x = .str "reset") ∨ ∃ n : Int, x = .int n ∧ 1 ≤ n ∧ n ≤ 9 := by
  cases x with
  | str z =>
    have h' : actS.contains z = true := h
    rw [List.contains_iff_mem] at h'
    simp only [actS, List.mem_cons, List.not_mem_nil, or_false] at h'
    left
    rcases h' with e | e | e | e | e | e <;> simp [e]
  | int n =>
    right
    have h' : (decide (1 ≤ n) && decide (n ≤ 9)) = true := h
    simp only [Bool.and_eq_true, decide_eq_true_eq] at h'
    exact ⟨n, rfl, h'.1, h'.2⟩
  | _ => cases h
def actV : List V := [.str "ok", .str "bad", .str "die", .str "done", .str "ignore", .str "reset"]
theorem act_in {x : V} (h : x = .str "ok" ∨ x = .str "bad" ∨ x = .str "die" ∨ x = .str "done" ∨ x = .str "ignore" ∨ x = .str "reset") : inV x actV = true ∧ ∃ z, x = .str z := by
  rcases h with e | e | e | e | e | e <;> subst e <;> exact ⟨by decide +kernel, _, rfl⟩
theorem ok_is_action (T : Txt w K mg) : GF P w K mg base 2 "is_action" (He.ga K "is_action") spIsAct := by
  obtain ⟨fd, F⟩ := T.d_is_action
  refine gf_of F T.g_is_action (fnr F sc_is_action (F.binds fun _ _ _ _ _ _ us hl => match us, hl with | [_], _ => rfl) (by rintro vs H Q E ⟨_, rfl, _⟩; rfl) fun cdv A outer s H vs Q E hr h => ?_)
  obtain ⟨x, rfl, hx, q⟩ := h
  refine ⟨_, pss_one (ps_ret (pe_or (pe_and (pcb call_isi T.f_isinstance (pa_cons (pv 0) (pa_cons (pty "str" T.f_str) pa_nil))) (pe_one (pe_cmpR op_in_seq (pv 0) (pgr T.g_ACTIONS) (by rfl))))
    (pe_one (pcall (ok_is_number T) hr (pa_cons (pv 0) (pa_cons pe_int (pa_cons (pgi 9 T.i_MOST_JUMP) pa_nil))))))), ?_⟩
  rcases act_cases hx with e | ⟨n, rfl, h1, h2⟩
  · obtain ⟨a1, z, rfl⟩ := act_in e
    refine ⟨_, rfl, _, .ty "str", _, _, true, rfl, .ty "str", .base (.str z), kit_ty (by decide +kernel), true, rfl, iteT ?_⟩
    refine ⟨_, rfl, _, _, rfl, .inr (T.actions H), rfl, by decide +kernel, true, ?_, iteT q⟩
    show V.bl (inV (.str z) actV) = V.bl true
    rw [a1]
  · refine ⟨_, rfl, _, .ty "str", _, _, false, rfl, .ty "str", .base (.int n), kit_ty (by decide +kernel), false, rfl, iteF ⟨false, rfl, iteF ?_⟩⟩
    refine ⟨_, rfl, _, 1, 9, rfl, .inl ⟨n, rfl, ?_⟩⟩
    rw [decide_eq_true h1, decide_eq_true h2]
    exact q
/-! table_of -/
/-- c stands for the actions acts, which stand at a -/
def Ctl (K : PySem.W.Frag) (H : Hp) (c : V) (a : Addr) (acts : List V) : Prop := (∃ i p, kindTab[i]? = some p ∧ c = .str p.1 ∧ acts = p.2 ∧ a = kindA K i) ∨ (c = .ref a ∧ SqT K H a acts ∧ actsOk acts = true)
def spTable (K : PySem.W.Frag) : Sp := fun vs H Q _ => ∃ c a acts, vs = [c] ∧ Ctl K H c a acts ∧ ∀ H', Ext H H' → Q (.ref a) H'
theorem sc_table_of : FnScope ["control", "one"] ["control"] (defScope s_table_of) := ⟨rfl, rfl, rfl, by decide +kernel, rfl, by decide +kernel, by decide +kernel⟩
theorem lk_hd (k : Str) (v : V) (r : List (Str × V)) : lk ((k, v) :: r) k = some v := by simp [lk]
theorem lk_tl {k k' : Str} (v : V) (r : List (Str × V)) (h : k' ≠ k) : lk ((k', v) :: r) k = lk r k := by simp [lk, h]
theorem kind_lk (K : PySem.W.Frag) {i : Nat} {p : Str × List V} (h : kindTab[i]? = some p) : lk (kindKV K) p.1 = some (.ref (kindA K i)) := by
  match i, h with
  | 0, h => cases h; exact lk_hd _ _ _
  | 1, h => cases h; exact (lk_tl _ _ (by decide +kernel)).trans (lk_hd _ _ _)
  | 2, h => cases h; exact (lk_tl _ _ (by decide +kernel)).trans ((lk_tl _ _ (by decide +kernel)).trans (lk_hd _ _ _))
  | 3, h => cases h; exact (lk_tl _ _ (by decide +kernel)).trans ((lk_tl _ _ (by decide +kernel)).trans ((lk_tl _ _ (by decide +kernel)).trans (lk_hd _ _ _)))
theorem ok_table_of (T : Txt w K mg) : GF P w K mg base 3 "table_of" (He.ga K "table_of") (spTable K) := by
  obtain ⟨fd, F⟩ := T.d_table_of
  refine gf_of F T.g_table_of (fnr F sc_table_of (F.binds fun _ _ _ _ _ _ us hl => match us, hl with | [_], _ => rfl) (by rintro vs H Q E ⟨_, _, _, rfl, _⟩; rfl) fun cdv A outer s H vs Q E hr h => ?_)
  obtain ⟨c, a, acts, rfl, hc, q⟩ := h
  refine ⟨_, pss_cons (ps_if (pt_val (pcb call_isi T.f_isinstance (pa_cons (pv 0) (pa_cons (pty "str" T.f_str) pa_nil)))) (pss_one (ps_ret (pe_getKD T.kinds (pgr T.g_KINDS) (pv 0) pe_non))) pss_nil)
    (pss_cons (ps_if (PW.pt (pw_or (pt_not (pt_val (pcb call_isi T.f_isinstance (pa_cons (pv 0) (pa_cons (pty "tuple" T.f_tuple) pa_nil)))))
      (pw_or (pt_cmpR op_ne (pcb call_len_seq T.f_len (pa_cons (pv 0) pa_nil)) (pcb call_len_seq T.f_len (pa_cons (pgr T.g_RESULTS) pa_nil)) (nomark _))
      (pw_or1 (pt_not (pt_val (pcb (cr_all rfl) T.f_all (pa_cons (pe_lc (own := [("one", 1)]) (g := gName 1) (tt := tYes) rfl sc_table_of.nd (pi_tup (pv 0)) (blkOk_by (own := [("one", 1)]) (N := ["control", "one"]) (sc := defScope s_table_of) (by decide +kernel))
      (fun _ _ _ _ _ => pg_name (i := 1) sc_table_of.nd rfl (Or.inl rfl)) (fun _ _ _ _ _ => pts_nil)
      (fun _ _ _ _ _ => pcall (ok_is_action T) hr (pa_cons (pv 1) pa_nil))) pa_nil)))))))) (pss_one (ps_ret pe_non)) pss_nil)
    (pss_one (ps_ret (pv 0)))), ?_⟩
  rcases hc with ⟨i, p, hp, rfl, rfl, rfl⟩ | ⟨rfl, ht, ha⟩
  · refine ⟨_, rfl, _, .ty "str", _, _, true, rfl, .ty "str", .base (.str p.1), kit_ty (by decide +kernel), true, rfl, iteT ?_⟩
    refine ⟨rfl, _, rfl, p.1, rfl, ?_⟩
    rw [kind_lk K hp]
    exact q H Ext.rfl'
  · unfold actsOk at ha
    rw [Bool.and_eq_true, beq_iff_eq] at ha
    obtain ⟨h4, hall⟩ := ha
    refine ⟨_, rfl, _, .ty "str", _, _, false, rfl, .ty "str", tyTup ht, kit_ty (by decide +kernel), false, rfl, iteF ?_⟩
    refine ⟨_, rfl, _, .ty "tuple", _, _, true, rfl, .ty "tuple", tyTup ht, kit_ty (by decide +kernel), true, rfl, iteF ?_⟩
    refine ⟨_, rfl, _, _, rfl, .inr ht, _, _, rfl, .inr (T.results H), rfl, _, rfl, ?_⟩
    rw [h4]
    refine iteF ⟨_, rfl, _, rfl, ⟨_, ht⟩, fun D hD => ?_⟩
    refine lc_it walk_tup (fun i H' => i ≤ acts.length ∧ Ext H H' ∧ H' D = some (.lst ((List.replicate i true).map V.bl))) ⟨Nat.zero_le _, Ext.upd hD, upd_same⟩ (fun i H1 _ hp => SqT.ext ht hp.2.1) (fun i x H1 H2 hi hp hy => ?_) fun H1 hp => ?_
    · obtain ⟨p1, p2, p3⟩ := hp
      obtain ⟨rfl, hx⟩ := hy
      refine ⟨rfl, _, rfl, _, rfl, List.all_eq_true.mp hall x (List.mem_of_getElem? hx), _, p3, by rw [List.length_map, List.length_replicate]; exact Nat.lt_of_le_of_lt p1 (by rw [h4]; decide), ?_⟩
      refine ⟨by omega, Ext.updD p2 hD, ?_⟩
      rw [upd_same, List.replicate_succ', List.map_append]
      rfl
    · obtain ⟨p1, p2, p3⟩ := hp
      refine ⟨_, _, rfl, SqL.of p3, _, rfl, ?_⟩
      have e : (List.replicate acts.length true).all id = true := by
        rw [List.all_eq_true]
        intro b hb
        rw [(List.mem_replicate.mp hb).2]
        rfl
      rw [e]
      exact iteF ⟨_, rfl, q H1 p2⟩
end
end Ls
set_option maxRecDepth 100000
set_option maxHeartbeats 4000000
/-! Rule -/
namespace Ls
open PySem PySem.Spec PyProof.Rows L2
section
variable {P : Program} {w : World} {K : PySem.W.Frag} {mg : Str → Option Value} {base : Heap}
theorem kind_ok {i : Nat} {p : Str × List V} (h : kindTab[i]? = some p) : actsOk p.2 = true := by
  match i, h with
  | 0, h => cases h; decide +kernel
  | 1, h => cases h; decide +kernel
  | 2, h => cases h; decide +kernel
  | 3, h => cases h; decide +kernel
theorem Ctl.sq (T : Txt w K mg) {H : Hp} {c : V} {a : Addr} {acts : List V} (h : Ctl K H c a acts) : SqT K H a acts ∧ actsOk acts = true := by
  rcases h with ⟨i, p, hp, rfl, rfl, rfl⟩ | ⟨rfl, ht, ha⟩
  · exact ⟨T.kindsT i p hp H, kind_ok hp⟩
  · exact ⟨ht, ha⟩
theorem Ctl.fz {H H' : Hp} {c : V} {a : Addr} {acts : List V} (h : Ctl K H c a acts) (e : Fz H H') : Ctl K H' c a acts := by
  rcases h with h | ⟨rfl, ht, ha⟩
  · exact .inl h
  · exact .inr ⟨rfl, SqT.fz ht e, ha⟩
/-! __init__ -/
def spRuleI (K : PySem.W.Frag) : Sp := fun vs H Q _ => ∃ x m c a acts dx, vs = [.ref x, .str m, c] ∧ wordOk m = true ∧ Ctl K H c a acts ∧ H x = some (.ins (cRule K) dx []) ∧
  ∀ H', Sm [x] H H' → H' x = some (.ins (cRule K) dx [("asks", .str m), ("acts", .ref a)]) → Q .non H'
theorem sc_Rule_init : FnScope ["self", "module", "control"] ["self", "module", "control"] (defScope s_Rule_init) := ⟨rfl, rfl, rfl, by decide +kernel, rfl, by decide +kernel, by decide +kernel⟩
theorem ok_Rule (T : Txt w K mg) : CF P w K mg base 4 "Rule" (cRule K) (a_Rule_init K) (spRuleI K) := by
  obtain ⟨fd, F⟩ := T.d_Rule_init
  refine ⟨fnr F sc_Rule_init (F.binds fun _ _ _ _ _ _ us hl => match us, hl with | [_, _, _], _ => rfl) (by rintro vs H Q E ⟨_, _, _, _, _, _, rfl, _⟩; rfl) fun cdv A outer s H vs Q E hr h => ?_, T.mk_Rule, T.g_Rule⟩
  obtain ⟨x, m, c, a, acts, dx, rfl, hm, hc, hx, q⟩ := h
  refine ⟨_, pss_cons (ps_if (pt_not (pt_val (pcall (ok_is_word T) (hr.mono (by decide)) (pa_cons (pv 1) pa_nil)))) pss_never pss_nil)
    (pss_cons (ps_if (pt_cmpR op_isN (pcall (ok_table_of T) hr (pa_cons (pv 2) pa_nil)) pe_non (nomark _)) pss_never pss_nil)
    (pss_cons (ps_fld (pv 0) (pv 1) rfl) (pss_one (ps_fld (pv 0) (pcall (ok_table_of T) hr (pa_cons (pv 2) pa_nil)) rfl)))), ?_⟩
  refine ⟨_, rfl, m, rfl, hm, fun H1 e1 => ⟨true, rfl, iteF ?_⟩⟩
  refine ⟨_, rfl, c, a, acts, rfl, hc.fz (Fz.of e1), fun H2 e2 => ⟨rfl, false, rfl, iteF ?_⟩⟩
  have s2 : Sm [x] H H2 := (Sm.of e1).trans (Sm.of e2)
  have hx2 : H2 x = some (.ins (cRule K) dx []) := e2 _ _ (e1 _ _ hx)
  refine ⟨_, rfl, _, rfl, x, cRule K, dx, _, rfl, hx2, T.c_Rule, T.n_Rule_asks, by simp, ?_⟩
  have s3 : Sm [x] H (upd H2 x (.ins (cRule K) dx [("asks", .str m)])) := s2.upd (by simp)
  refine ⟨_, rfl, c, a, acts, rfl, hc.fz ((s3.fz fun b hb o e => ?_)), fun H4 e4 => ?_⟩
  · rw [List.mem_singleton.mp hb, hx] at e
    cases e
    simp [Imm]
  have hx4 : H4 x = some (.ins (cRule K) dx [("asks", .str m)]) := e4 _ _ upd_same
  exact ⟨_, rfl, x, cRule K, dx, _, rfl, hx4, T.c_Rule, T.n_Rule_acts, by simp, q _ ((s3.trans (Sm.of e4)).upd (by simp)) upd_same⟩
/-! properties module, control -/
def spModule (K : PySem.W.Frag) : Sp := fun vs H Q _ => ∃ x r, vs = [.ref x] ∧ RuAt K H r x ∧ Q (.str r.1) H
def spControl (K : PySem.W.Frag) : Sp := fun vs H Q _ => ∃ x dx m t, vs = [.ref x] ∧ H x = some (.ins (cRule K) dx [("asks", m), ("acts", .ref t)]) ∧ Q (.ref t) H
theorem sc_Rule_module : FnScope ["self"] ["self"] (defScope s_Rule_module) := ⟨rfl, rfl, rfl, by decide +kernel, rfl, by decide +kernel, by decide +kernel⟩
theorem sc_Rule_control : FnScope ["self"] ["self"] (defScope s_Rule_control) := ⟨rfl, rfl, rfl, by decide +kernel, rfl, by decide +kernel, by decide +kernel⟩
theorem ok_Rule_module (T : Txt w K mg) : PF P w K mg base 1 (cRule K) "module" (He.ma K (cRule K) "module") (a_Rule_module K) (spModule K) := by
  obtain ⟨fd, F⟩ := T.d_Rule_module
  refine ⟨fnr F sc_Rule_module (F.binds fun _ _ _ _ _ _ us hl => match us, hl with | [_], _ => rfl) (by rintro vs H Q E ⟨_, _, rfl, _⟩; rfl) fun cdv A outer s H vs Q E hr h => ?_, T.p_Rule_module, T.c_Rule⟩
  obtain ⟨x, r, rfl, ⟨dx, t, hx, ht⟩, q⟩ := h
  exact ⟨_, pss_one (ps_ret (pe_fld (pv 0) rfl)), _, rfl, x, cRule K, dx, _, _, rfl, hx, T.c_Rule, T.n_Rule_asks, rfl, q⟩
theorem ok_Rule_control (T : Txt w K mg) : PF P w K mg base 1 (cRule K) "control" (He.ma K (cRule K) "control") (a_Rule_control K) (spControl K) := by
  obtain ⟨fd, F⟩ := T.d_Rule_control
  refine ⟨fnr F sc_Rule_control (F.binds fun _ _ _ _ _ _ us hl => match us, hl with | [_], _ => rfl) (by rintro vs H Q E ⟨_, _, _, _, rfl, _⟩; rfl) fun cdv A outer s H vs Q E hr h => ?_, T.p_Rule_control, T.c_Rule⟩
  obtain ⟨x, dx, m, t, rfl, hx, q⟩ := h
  exact ⟨_, pss_one (ps_ret (pe_fld (pv 0) rfl)), _, rfl, x, cRule K, dx, _, _, rfl, hx, T.c_Rule, T.n_Rule_acts, rfl, q⟩
end
end Ls
set_option maxRecDepth 100000
set_option maxHeartbeats 4000000
/-! Rule: kind, ==, action_for -/
namespace Ls
open PySem PySem.Spec PyProof.Rows L2
section
variable {P : Program} {w : World} {K : PySem.W.Frag} {mg : Str → Option Value} {base : Heap}
def kindOf (acts : List V) : Option Str := (kindTab.find? fun p => decide (p.2 = acts)).map (·.1)
def kindV (acts : List V) : V := match kindOf acts with
  | some k => .str k
  | none => .non
def spKind (K : PySem.W.Frag) : Sp := fun vs H Q _ => ∃ x r, vs = [.ref x] ∧ RuAt K H r x ∧ actsOk r.2 = true ∧ ∀ H', Ext H H' → Q (kindV r.2) H'
theorem act_atom {x : V} (h : isActB x = true) : atom x = true := by
  rcases act_cases h with (e | e | e | e | e | e) | ⟨n, e, _⟩ <;> subst e <;> first | decide +kernel | rfl
theorem acts_atom {as : List V} (h : actsOk as = true) : as.all atom = true := by
  unfold actsOk at h
  rw [Bool.and_eq_true] at h
  rw [List.all_eq_true]
  exact fun x hx => act_atom (List.all_eq_true.mp h.2 x hx)
theorem kindKV_at (K : PySem.W.Frag) {i : Nat} {p : Str × List V} (h : kindTab[i]? = some p) : (kindKV K)[i]? = some (p.1, .ref (kindA K i)) := by
  match i, h with
  | 0, h => cases h; rfl
  | 1, h => cases h; rfl
  | 2, h => cases h; rfl
  | 3, h => cases h; rfl
theorem kindTab_atom {p : Str × List V} (h : p ∈ kindTab) : PyData.strOk p.1 = true := by
  have h2 : kindTab.all (fun p => PyData.strOk p.1) = true := by decide +kernel
  exact List.all_eq_true.mp h2 p h
theorem sc_Rule_kind : FnScope ["self", "found", "word", "actions"] ["self"] (defScope s_Rule_kind) := ⟨rfl, rfl, rfl, by decide +kernel, rfl, by decide +kernel, by decide +kernel⟩
def kf (acts : List V) (i : Nat) : List V := ((kindTab.take i).filter fun p => decide (p.2 = acts)).map fun p => .str p.1
theorem kf_step {acts : List V} {i : Nat} {p : Str × List V} (h : kindTab[i]? = some p) : kf acts (i + 1) = if p.2 = acts then kf acts i ++ [.str p.1] else kf acts i := by
  unfold kf
  rw [List.take_add_one, h, Option.toList_some, List.filter_append, List.map_append]
  by_cases c : p.2 = acts
  · rw [if_pos c]
    simp [c]
  · rw [if_neg c]
    simp [c]
theorem kf_head {acts : List V} : kindV acts = match (kf acts 4)[0]? with | some v => v | none => .non := by
  have e : kindTab.take 4 = kindTab := by decide +kernel
  unfold kindV kindOf kf
  rw [e, List.getElem?_map, ← List.head?_eq_getElem?, List.head?_filter]
  cases kindTab.find? fun p => decide (p.2 = acts) with
  | none => rfl
  | some p => rfl
theorem kf_atoms {acts : List V} (i : Nat) : (kf acts i).all atom = true := by
  rw [List.all_eq_true]
  intro v hv
  obtain ⟨p, hp, rfl⟩ := List.mem_map.mp hv
  exact kindTab_atom (List.mem_of_mem_take (List.mem_filter.mp hp).1)
theorem kf_len {acts : List V} (i : Nat) : (kf acts i).length ≤ 4 := by
  unfold kf
  rw [List.length_map]
  refine Nat.le_trans (List.length_filter_le _ _) ?_
  rw [List.length_take]
  have e : kindTab.length = 4 := by decide +kernel
  omega
theorem ok_Rule_kind (T : Txt w K mg) : PF P w K mg base 1 (cRule K) "kind" (He.ma K (cRule K) "kind") (a_Rule_kind K) (spKind K) := by
  obtain ⟨fd, F⟩ := T.d_Rule_kind
  refine ⟨fnr F sc_Rule_kind (F.binds fun _ _ _ _ _ _ us hl => match us, hl with | [_], _ => rfl) (by rintro vs H Q E ⟨_, _, rfl, _⟩; rfl) fun cdv A outer s H vs Q E hr h => ?_, T.p_Rule_kind, T.c_Rule⟩
  obtain ⟨x, r, rfl, hx, ha, q⟩ := h
  refine ⟨_, pss_cons (ps_setLc (i := 1) (own := [("word", 2), ("actions", 3)]) (g := gTup K 2 (gCons (gName 2) (gCons (gName 3) gNil))) (tt := tTest (tOp (rEqT K id) (tVar 3) (tFld K (tVar 0) "acts"))) (te := tVar 2) rfl sc_Rule_kind.nd rfl rfl (sw_true rfl rfl rfl (by decide +kernel)) (pi_KD T.kinds (pgr T.g_KINDS))
      (blkOk_by (own := [("word", 2), ("actions", 3)]) (N := ["self", "found", "word", "actions"]) (sc := defScope s_Rule_kind) (by decide +kernel))
      (fun _ _ _ _ _ => pg_tup rfl (pgs_cons (pg_name (i := 2) sc_Rule_kind.nd rfl (.inl rfl)) (pgs_cons (pg_name (i := 3) sc_Rule_kind.nd rfl (.inl rfl)) pgs_nil)))
      (fun _ _ _ _ _ => pts_one (pt_cmpR (op_eqT hr.units) (pv 3) (pe_fld (pv 0) rfl) (nomark _)))
      (fun _ _ _ _ _ => pv 2))
    (pss_one (ps_ret (pe_ifExp (pt_cmpR (op_neL hr.units) (pv 1) (pe_lst pa_nil) (nomark _)) (pe_ix ix_list (pv 1) pe_int (fun _ _ => rfl)) pe_non))), ?_⟩
  have h4 : (kindKV K).length = 4 := rfl
  refine ⟨rfl, fun D hD => ?_⟩
  refine lc_it walk_KD (fun i H' => Ext H H' ∧ H' D = some (.lst (kf r.2 i))) ⟨Ext.upd hD, upd_same⟩ (fun _ _ _ _ => trivial) (fun i v H1 H2 hi hp hy => ?_) fun H1 hp => ?_
  · obtain ⟨p2, p3⟩ := hp
    obtain ⟨T0, a, b, rfl, hT, rfl, ea, eb⟩ := hy
    obtain ⟨p, hpk⟩ : ∃ p, kindTab[i]? = some p := (by have hi' : i < kindTab.length := hi; exact ⟨kindTab[i], List.getElem?_eq_getElem hi'⟩)
    have ek := kindKV_at K hpk
    simp only [ek, Option.map_some, Option.some.injEq] at ea eb
    subst ea eb
    obtain ⟨dx, t, hx1, ht1⟩ := hx
    have hTD : D ≠ T0 := ne_of_none p3 hT
    have e1 : Ext H (upd H1 T0 (.tup [.str p.1, .ref (kindA K i)])) := p2.upd' hT
    refine ⟨T0, _, rfl, SqT.of upd_same, rfl, _, _, rfl, _, _, rfl, rfl, rfl, _, rfl, _, rfl, x, cRule K, dx, _, _, rfl, e1 _ _ hx1, T.c_Rule, T.n_Rule_acts, rfl, ?_⟩
    refine ⟨_, _, p.2, r.2, rfl, rfl, T.kindsT i p hpk _, SqT.ext ht1 e1, acts_atom (kind_ok hpk), acts_atom ha, _, rfl, ?_⟩
    have e2 := kf_step (acts := r.2) hpk
    by_cases c : p.2 = r.2
    · rw [decide_eq_true c, if_pos c] at *
      refine ⟨_, rfl, kf r.2 i, by rw [upd_ne hTD]; exact p3, Nat.lt_of_le_of_lt (kf_len i) (by decide), e1.updD hD, ?_⟩
      rw [upd_same, e2]
    · rw [decide_eq_false c, if_neg c] at *
      refine ⟨e1, ?_⟩
      rw [upd_ne hTD, p3, e2]
  · obtain ⟨p2, p3⟩ := hp
    rw [h4] at p3
    refine ⟨_, rfl, by show 0 ≤ sizeLine; decide, fun l hl => ?_⟩
    have hlD : D ≠ l := ne_of_none p3 hl
    refine ⟨D, l, kf r.2 4, [], rfl, rfl, SqL.of (by rw [upd_ne hlD]; exact p3), SqL.of upd_same, kf_atoms 4, rfl, _, rfl, ?_⟩
    have hh := kf_head (acts := r.2)
    cases hk : kf r.2 4 with
    | nil =>
      rw [hk] at hh
      have := q _ (p2.upd' hl (o := .lst []))
      rw [hh] at this
      exact iteF this
    | cons v vs =>
      rw [hk] at hh
      have := q _ (p2.upd' hl (o := .lst []))
      rw [hh] at this
      refine iteT ⟨_, rfl, D, _, 0, v, rfl, rfl, SqL.of (by rw [upd_ne hlD, p3, hk]), atI_nat (j := 0) rfl, this⟩
end
end Ls
set_option maxRecDepth 100000
set_option maxHeartbeats 4000000
/-! Rule: ==, action_for -/
namespace Ls
open PySem PySem.Spec PyProof.Rows L2
section
variable {P : Program} {w : World} {K : PySem.W.Frag} {mg : Str → Option Value} {base : Heap}
theorem kit_same (K : PySem.W.Frag) (C : Addr) : PySem.W.kitOne K (.ref C) (.ref C) = some true := by simp [PySem.W.kitOne]
theorem word_ok {z : Str} (h : wordOk z = true) : PyData.strOk z = true := by
  unfold wordOk at h
  simp only [Bool.and_eq_true, decide_eq_true_eq] at h
  have h3 := h.2
  unfold PyData.strOk
  rw [← Array.all_toList, List.all_eq_true]
  intro c hc
  have := List.all_eq_true.mp h3 c hc
  simp only [Bool.and_eq_true, decide_eq_true_eq] at this ⊢
  omega
/-! == -/
def reqR (K : PySem.W.Frag) (a b : Addr) (H : Hp) : Prop := ∃ r, RuAt K H r a ∧ RuAt K H r b ∧ ruOk r = true
theorem sc_Rule_eq : FnScope ["self", "other"] ["self", "other"] (defScope s_Rule_eq) := ⟨rfl, rfl, rfl, by decide +kernel, rfl, by decide +kernel, by decide +kernel⟩
def dRu (r : Ru) : PyData := .tuple [.str r.1, dT r.2]
theorem sh_dRu {r : Ru} (h : ruOk r = true) : SeqAt.shaped (dRu r) = true := by
  unfold ruOk at h
  rw [Bool.and_eq_true] at h
  have h1 := word_ok h.1
  have h2 := shT (acts_atom h.2)
  have h3 := SeqAt.canLay_of_shaped h2
  have h4 : (dT r.2).depth ≤ 1 := by
    unfold dT
    rw [PyData.depth, dep_atoms]
    omega
  show ((dRu r).canLay0 && decide ((dRu r).depth ≤ 64)) = true
  rw [Bool.and_eq_true]
  refine ⟨by simp [dRu, PyData.canLay0, PyData.canLayAll0, h1, h3], decide_eq_true ?_⟩
  simp only [dRu, PyData.depth, PyData.depthAll]
  omega
theorem ok_Rule_eq (T : Txt w K mg) : MF P w K mg base 1 (cRule K) "__eq__" (a_Rule_eq K) (spEq (reqR K)) := by
  obtain ⟨fd, F⟩ := T.d_Rule_eq
  refine ⟨fnr F sc_Rule_eq (F.binds fun _ _ _ _ _ _ us hl => match us, hl with | [_, _], _ => rfl) (by rintro vs H Q E ⟨_, _, rfl, _⟩; rfl) fun cdv A outer s H vs Q E hr h => ?_, T.m_Rule_eq, T.c_Rule⟩
  obtain ⟨a, b, rfl, ⟨r, ha, hb, ho⟩, q⟩ := h
  refine ⟨_, pss_one (ps_ret (pe_and (pcb call_isi T.f_isinstance (pa_cons (pv 1) (pa_cons (pgr T.g_Rule) pa_nil)))
    (pe_one (pe_cmpR (op_eqD hr.units) (pe_tup (pa_cons (pe_fld (pv 0) rfl) (pa_cons (pe_fld (pv 0) rfl) pa_nil))) (pe_tup (pa_cons (pe_fld (pv 1) rfl) (pa_cons (pe_fld (pv 1) rfl) pa_nil))) (nomark _))))), ?_⟩
  obtain ⟨dx, t, hx, ht⟩ := ha
  obtain ⟨dy, u, hy, hu⟩ := hb
  refine ⟨_, rfl, _, .ref (cRule K), _, .ref (cRule K), true, rfl, .own _, T.tyR hy, kit_same K _, true, rfl, iteT ?_⟩
  refine ⟨_, rfl, a, cRule K, dx, _, _, rfl, hx, T.c_Rule, T.n_Rule_asks, rfl, _, rfl, a, cRule K, dx, _, _, rfl, hx, T.c_Rule, T.n_Rule_acts, rfl, by show 2 ≤ sizeLine; decide, fun p hp => ?_⟩
  have e1 : Ext H (upd H p (.tup [.str r.1, .ref t])) := Ext.upd hp
  refine ⟨_, rfl, b, cRule K, dy, _, _, rfl, e1 _ _ hy, T.c_Rule, T.n_Rule_asks, rfl, _, rfl, b, cRule K, dy, _, _, rfl, e1 _ _ hy, T.c_Rule, T.n_Rule_acts, rfl, by show 2 ≤ sizeLine; decide, fun p2 hp2 => ?_⟩
  have e2 := e1.upd' hp2 (o := .tup [.str r.1, .ref u])
  have c := acts_atom (Bool.and_eq_true_iff.mp ho).2
  have np : p ≠ p2 := ne_of_none upd_same hp2
  have d1 : Dp K (upd (upd H p (.tup [.str r.1, .ref t])) p2 (.tup [.str r.1, .ref u])) (.ref p) (dRu r) := .tup (SqT.of (by rw [upd_ne np]; exact upd_same)) (.cons (.str _) (.cons (dpT (SqT.ext ht e2) c) .nil))
  have d2 : Dp K (upd (upd H p (.tup [.str r.1, .ref t])) p2 (.tup [.str r.1, .ref u])) (.ref p2) (dRu r) := .tup (SqT.of upd_same) (.cons (.str _) (.cons (dpT (SqT.ext hu e2) c) .nil))
  refine ⟨_, _, d1, d2, sh_dRu ho, sh_dRu ho, ?_⟩
  rw [SeqAt.eqv_refl _ (SeqAt.canLay_of_shaped (sh_dRu ho))]
  exact q _ e2
/-! action_for -/
def spActFor (K : PySem.W.Frag) : Sp := fun vs H Q _ => ∃ x r z, vs = [.ref x, .str z] ∧ RuAt K H r x ∧ actsOk r.2 = true ∧ z ∈ resS ∧ Q (actFor r.2 z) H
theorem sc_Rule_action_for : FnScope ["self", "result"] ["self", "result"] (defScope s_Rule_action_for) := ⟨rfl, rfl, rfl, by decide +kernel, rfl, by decide +kernel, by decide +kernel⟩
theorem res_at {z : Str} (h : z ∈ resS) : resS[resIx z]? = some z ∧ (∀ m, m < resIx z → resS[m]? ≠ some z) ∧ resIx z < 4 := by
  simp only [resS, List.mem_cons, List.not_mem_nil, or_false] at h
  rcases h with e | e | e | e <;> subst e <;> decide +kernel
theorem ok_Rule_action_for (T : Txt w K mg) : MF P w K mg base 1 (cRule K) "action_for" (a_Rule_action_for K) (spActFor K) := by
  obtain ⟨fd, F⟩ := T.d_Rule_action_for
  refine ⟨fnr F sc_Rule_action_for (F.binds fun _ _ _ _ _ _ us hl => match us, hl with | [_, _], _ => rfl) (by rintro vs H Q E ⟨_, _, _, rfl, _⟩; rfl) fun cdv A outer s H vs Q E hr h => ?_, T.m_Rule_action_for, T.c_Rule⟩
  obtain ⟨x, r, z, rfl, hx, ha, hz, q⟩ := h
  refine ⟨_, pss_one (ps_ret (pe_ix ix_tup (pe_fld (pv 0) rfl) (pe_bm PySem.F.plainAttrs_tuple PySem.F.slot_tuple_index PySem.F.type_tuple_index mt_tup_index (pgr T.g_RESULTS) (pa_cons (pv 1) pa_nil)) (fun _ _ => rfl))), ?_⟩
  obtain ⟨dx, t, hx1, ht⟩ := hx
  obtain ⟨h1, h2, h3⟩ := res_at hz
  have h4 : r.2.length = 4 := by
    have := (Bool.and_eq_true_iff.mp ha).1
    simpa using this
  refine ⟨_, rfl, x, cRule K, dx, _, _, rfl, hx1, T.c_Rule, T.n_Rule_acts, rfl, .inr (.inl ⟨rfl, T.rk_RESULTS⟩), _, rfl, He.ga K "RESULTS", resS, z, resIx z, rfl, rfl, T.results H, h1, h2, ?_⟩
  refine ⟨t, r.2, _, _, rfl, rfl, ht, atI_nat (v := actFor r.2 z) ?_, q⟩
  unfold actFor
  rw [List.getD_eq_getElem?_getD, List.getElem?_eq_getElem (by omega)]
  rfl
end
end Ls
set_option maxRecDepth 100000
set_option maxHeartbeats 4000000
/-! steps_of, Stack's __init__ -/
namespace Ls
open PySem PySem.Spec PyProof.Rows L2
section
variable {X : Cx}
/-- tuples: t + u, t[a:b], by what they hold -/
def rCatQ (K : PySem.W.Frag) : R2 := fun x y H Q => ∃ a b xs ys, x = .ref a ∧ y = .ref b ∧ SqT K H a xs ∧ SqT K H b ys ∧ xs.length + ys.length ≤ 1000 ∧ ∀ H' q, Ext H H' → SqT K H' q (xs ++ ys) → Q (.ref q) H'
theorem op_catQ : OpR X (binaryOp .Add) (rCatQ X.K) := fun pins s σ H x y v u Q I rx ry ⟨a, b, xs, ys, ea, eb, ha, hb, hl, q⟩ =>
  op_catA pins s σ H x y v u Q I rx ry ⟨a, b, xs, ys, ea, eb, ha, hb, Nat.le_trans hl (by decide), fun e => q _ _ Ext.rfl' (by rw [e]; exact hb), fun _ e => q _ _ Ext.rfl' (by rw [e, List.append_nil]; exact ha),
    fun _ _ p hp => q _ _ (Ext.upd hp) (SqT.of upd_same)⟩
def rSlQ (K : PySem.W.Frag) : V → Option Int → Option Int → Hp → VK → Prop := fun x lo hi H Q => ∃ a xs, x = .ref a ∧ SqT K H a xs ∧ ∀ H' q, Ext H H' → SqT K H' q (cutV xs lo hi) → Q (.ref q) H'
end
section
variable {P : Program} {w : World} {K : PySem.W.Frag} {mg : Str → Option Value} {base : Heap}
theorem RusAt.len {H : Hp} : ∀ {rs : List Ru} {as : List Addr}, RusAt K H rs as → rs.length = as.length
  | [], [], _ => rfl
  | _ :: _, _ :: _, h => congrArg (· + 1) (RusAt.len h.2)
  | [], _ :: _, h => h.elim
  | _ :: _, [], h => h.elim
theorem RusAt.app {H : Hp} : ∀ {rs rs' : List Ru} {as as' : List Addr}, RusAt K H rs as → RusAt K H rs' as' → RusAt K H (rs ++ rs') (as ++ as')
  | [], _, [], _, _, h => h
  | _ :: _, _, _ :: _, _, h, h' => ⟨h.1, RusAt.app h.2 h'⟩
  | [], _, _ :: _, _, h, _ => h.elim
  | _ :: _, _, [], _, h, _ => h.elim
theorem RusAt.get {H : Hp} : ∀ {rs : List Ru} {as : List Addr} {i : Nat} {r : Ru}, RusAt K H rs as → rs[i]? = some r → ∃ a, as[i]? = some a ∧ RuAt K H r a
  | [], _, i, r, _, h => by simp at h
  | _ :: _, a :: _, 0, r, h, e => by
    simp only [List.getElem?_cons_zero, Option.some.injEq] at e
    subst e
    exact ⟨a, rfl, h.1⟩
  | _ :: _, _ :: _, i + 1, r, h, e => by
    obtain ⟨b, h1, h2⟩ := RusAt.get h.2 (by simpa using e)
    exact ⟨b, by simpa using h1, h2⟩
  | _ :: _, [], _, _, h, _ => h.elim
theorem AtL.len {H : Hp} : ∀ {es : List Tr} {as : List Addr}, AtL K H es as → es.length = as.length
  | [], [], _ => rfl
  | _ :: _, _ :: _, h => congrArg (· + 1) (AtL.len h.2)
  | [], _ :: _, h => h.elim
  | _ :: _, [], h => h.elim
theorem AtL.get {H : Hp} : ∀ {es : List Tr} {as : List Addr} {i : Nat} {e : Tr}, AtL K H es as → es[i]? = some e → ∃ a, as[i]? = some a ∧ AtT K H e a
  | [], _, i, r, _, h => by simp at h
  | _ :: _, a :: _, 0, r, h, e => by
    simp only [List.getElem?_cons_zero, Option.some.injEq] at e
    subst e
    exact ⟨a, rfl, h.1⟩
  | _ :: _, _ :: _, i + 1, r, h, e => by
    obtain ⟨b, h1, h2⟩ := AtL.get h.2 (by simpa using e)
    exact ⟨b, by simpa using h1, h2⟩
  | _ :: _, [], _, _, h, _ => h.elim
/-- an entry is a stack or a rule -/
def isSt : Tr → Bool
  | .st _ => true
  | .rl _ _ => false
theorem AtT.isi (T : Txt w K mg) {H : Hp} {t : Tr} {a : Addr} (h : AtT K H t a) : ∃ c, TyX K H (.ref a) c ∧ PySem.W.kitOne K c (.ref (cStack K)) = some (isSt t) ∧ (isSt t = false → PySem.W.kitOne K c (.ref (cRule K)) = some true) := by
  cases t with
  | rl m acts =>
    obtain ⟨dx, t, h1, _⟩ := h
    exact ⟨_, T.tyR h1, T.kit_RS, fun _ => kit_same K _⟩
  | st es =>
    obtain ⟨dx, tp, ts, tn, as, rs, h1, _⟩ := h
    exact ⟨_, T.tyS h1, kit_same K _, fun z => by cases z⟩
/-! steps_of -/
def spSteps (K : PySem.W.Frag) : Sp := fun vs H Q _ => ∃ a t, vs = [.ref a] ∧ AtT K H t a ∧ ∀ H' p rs, Ext H H' → SqT K H' p (rs.map V.ref) → RusAt K H' t.steps rs → Q (.ref p) H'
theorem sc_steps_of : FnScope ["entry"] ["entry"] (defScope s_steps_of) := ⟨rfl, rfl, rfl, by decide +kernel, rfl, by decide +kernel, by decide +kernel⟩
theorem ok_steps_of (T : Txt w K mg) : GF P w K mg base 1 "steps_of" (He.ga K "steps_of") (spSteps K) := by
  obtain ⟨fd, F⟩ := T.d_steps_of
  refine gf_of F T.g_steps_of (fnr F sc_steps_of (F.binds fun _ _ _ _ _ _ us hl => match us, hl with | [_], _ => rfl) (by rintro vs H Q E ⟨_, _, rfl, _⟩; rfl) fun cdv A outer s H vs Q E hr h => ?_)
  obtain ⟨a, t, rfl, ha, q⟩ := h
  refine ⟨_, pss_one (ps_ret (pe_ifExp (pt_val (pcb call_isi T.f_isinstance (pa_cons (pv 0) (pa_cons (pgr T.g_Stack) pa_nil)))) (pe_fld (pv 0) rfl) (pe_tup (pa_cons (pv 0) pa_nil)))), ?_⟩
  obtain ⟨c, h1, h2, _⟩ := ha.isi T
  refine ⟨_, rfl, _, .ref (cStack K), _, _, _, rfl, .own _, h1, h2, _, rfl, ?_⟩
  cases t with
  | rl m acts =>
    refine iteF ⟨_, rfl, by show 1 ≤ sizeLine; decide, fun p hp => q _ p [a] (Ext.upd hp) (SqT.of upd_same) ⟨RuAt.fz ha (Fz.of (Ext.upd hp)), trivial⟩⟩
  | st es =>
    obtain ⟨dx, tp, ts, tn, as, rs, k1, k2, k3, k4, k5, _⟩ := ha
    exact iteT ⟨_, rfl, a, cStack K, dx, _, _, rfl, k1, T.c_Stack, T.n_Stack_steps, rfl, q H ts rs Ext.rfl' k4 k5⟩
end
end Ls
set_option maxRecDepth 100000
set_option maxHeartbeats 4000000
/-! Stack's __init__ -/
namespace Ls
open PySem PySem.Spec PyProof.Rows L2
section
variable {P : Program} {w : World} {K : PySem.W.Frag} {mg : Str → Option Value} {base : Heap}
theorem canon_nil : canon [] = [] := canon_of ⟨rfl, List.nodup_nil, fun _ => Iff.rfl⟩
theorem take_succ {α : Type} {l : List α} {i : Nat} {x : α} (h : l[i]? = some x) : l.take (i + 1) = l.take i ++ [x] := by
  rw [List.take_add_one, h]
  rfl
theorem Ok.take {es : List Tr} (h : Ok es) (i : Nat) : Ok (es.take i) := by
  have e : stepsL es = stepsL (es.take i) ++ stepsL (es.drop i) := by rw [← stepsL_append, List.take_append_drop]
  have d : depL es = max (depL (es.take i)) (depL (es.drop i)) := by rw [← depL_append, List.take_append_drop]
  obtain ⟨h1, h2, h3, ⟨ns, h4, h5⟩, h6⟩ := h
  refine ⟨by rw [List.length_take]; omega, by omega, by rw [e, List.length_append] at h3; omega, ⟨ns, h4, fun m hm => h5 m ?_⟩, ?_⟩
  · unfold modsL at hm ⊢
    rw [e, List.map_append]
    exact List.mem_append_left _ hm
  · rw [e, List.all_append, Bool.and_eq_true] at h6
    exact h6.1
theorem Ok.names {es : List Tr} (h : Ok es) {zs : List Str} (c : Canon zs (modsL es)) : zs.length ≤ 6 := by
  obtain ⟨ns, h4, h5⟩ := h.mods
  exact Nat.le_trans (nd_len zs ns c.nd fun x hx => h5 x ((c.mem x).mp hx)) h4
theorem SqT.smx {H H' : Hp} {x C dx a : Addr} {fs : List (Str × V)} {xs : List V} (hx : H x = some (.ins C dx fs)) (s : Sm [x] H H') (h : SqT K H a xs) : SqT K H' a xs := by
  have ne : ∀ {o : HO}, H a = some o → (∀ C dx fs, o ≠ .ins C dx fs) → a ∉ [x] := fun e n z => by
    rw [List.mem_singleton.mp z, hx] at e
    exact n _ _ _ (Option.some.inj e).symm
  rcases h with (h | ⟨o, h⟩) | h
  · exact .inl (.inl (s a _ h (ne h fun _ _ _ z => nomatch z)))
  · exact .inl (.inr ⟨o, s a _ h (ne h fun _ _ _ z => nomatch z)⟩)
  · exact .inr h
theorem RuAt.smx {H H' : Hp} {x C dx a : Addr} {fs : List (Str × V)} {r : Ru} (hx : H x = some (.ins C dx fs)) (hf : fs.length ≠ 2) (s : Sm [x] H H') (h : RuAt K H r a) : RuAt K H' r a := by
  obtain ⟨d, t, h1, h2⟩ := h
  refine ⟨d, t, s a _ h1 fun z => ?_, SqT.smx hx s h2⟩
  rw [List.mem_singleton.mp z, hx] at h1
  have e := Option.some.inj h1
  injection e with _ _ e3
  exact hf (by rw [e3]; rfl)
theorem RusAt.smx {H H' : Hp} {x C dx : Addr} {fs : List (Str × V)} (hx : H x = some (.ins C dx fs)) (hf : fs.length ≠ 2) (s : Sm [x] H H') : ∀ {rs : List Ru} {as : List Addr}, RusAt K H rs as → RusAt K H' rs as
  | [], [], _ => trivial
  | _ :: _, _ :: _, h => ⟨h.1.smx hx hf s, RusAt.smx hx hf s h.2⟩
  | [], _ :: _, h => h.elim
  | _ :: _, [], h => h.elim
/-- entry.depth + 1 if is_stack else 1 -/
theorem depR (T : Txt w K mg) {H : Hp} {e : Tr} {a : Addr} {σ : L2.St} {Q : VK} (h : AtT K H e a) (h3 : σ[3]? = some (some (.ref a))) (h4 : σ[4]? = some (some (.bl (isSt e)))) (q : Q (.int (e.dep : Nat)) H) :
    tIf (tB (tVar 4)) (tOp (rI0 fun i j => V.int (i + j)) (tFld K (tVar 3) "depth") (tC (.int 1))) (tC (.int 1)) σ H Q := by
  refine ⟨_, h4, isSt e, rfl, ?_⟩
  cases e with
  | rl m acts => exact iteF q
  | st es =>
    obtain ⟨dx, tp, ts, tn, as, rs, h1, _⟩ := h
    refine iteT ⟨_, h3, a, cStack K, dx, _, _, rfl, h1, T.c_Stack, T.n_Stack_depth, rfl, _, _, rfl, rfl, ?_⟩
    have e1 : ((depL es : Nat) : Int) + 1 = ((Tr.dep (.st es) : Nat) : Int) := by
      simp only [Tr.dep]
      omega
    show Q (.int (((depL es : Nat) : Int) + 1)) H
    rw [e1]
    exact q
theorem tst {b : Bool} {X Y : Prop} (hb : b = false → Y → X) (hy : Y) : if (!b) = true then X else Y := by
  cases b with
  | false => exact iteT (hb rfl hy)
  | true => exact iteF hy
/-- after the star: the entries stand as a tuple -/
def spStackB (K : PySem.W.Frag) : Sp := fun vs H Q _ => ∃ x p dx as es, vs = [.ref x, .ref p] ∧ H x = some (.ins (cStack K) dx []) ∧ SqT K H p (as.map V.ref) ∧ AtL K H es as ∧ Ok es ∧ ∀ H', Sm [x] H H' → AtT K H' (.st es) x → Q .non H'
def spStackI (K : PySem.W.Frag) : Sp := fun vs H Q _ => ∃ x dx as es, vs = V.ref x :: as.map V.ref ∧ H x = some (.ins (cStack K) dx []) ∧ AtL K H es as ∧ Ok es ∧ ∀ H', Sm [x] H H' → AtT K H' (.st es) x → Q .non H'
theorem sc_Stack_init : FnScope ["self", "entries", "index", "entry", "is_stack", "rule"] ["self", "entries"] (defScope s_Stack_init) := ⟨rfl, rfl, rfl, by decide +kernel, rfl, by decide +kernel, by decide +kernel⟩
/-- the loop's state behind i entries -/
def stW (K : PySem.W.Frag) (H : Hp) (x p dx : Addr) (es : List Tr) (i : Nat) (σ : L2.St) (H1 : Hp) : Prop :=
  (∃ a b c, σ = [some (.ref x), some (.ref p), a, b, c, none]) ∧ Sm [x] H H1 ∧ ∃ ts tn rs, H1 x = some (.ins (cStack K) dx [("parts", .ref p), ("steps", .ref ts), ("names", .ref tn), ("depth", .int (depL (es.take i) : Nat))]) ∧
    SqT K H1 ts (rs.map V.ref) ∧ RusAt K H1 (stepsL (es.take i)) rs ∧ Canon (canon (modsL (es.take i))) (modsL (es.take i)) ∧ SqT K H1 tn ((canon (modsL (es.take i))).map V.str)
theorem run_Stack_init (T : Txt w K mg) : FnR P w K mg base CX0 2 (a_Stack_init K) (spStackI K) := by
  obtain ⟨fd, F⟩ := T.d_Stack_init
  obtain ⟨oc, od, kV, doc, pm, an, cdv, ct, osl, rfl, lk, hcd⟩ := F.ex
  refine FnR.imp (StX.fn_star (ps := ["self"]) (pv := "entries") (k := 1) (sp := spStackB K) lk hcd sc_Stack_init StX.cxUp_none (fun us rest hl => StX.bind_star1 (B := fun l => bindArgs (PySem.W.fnOf "__init__" "Stack.__init__" (defArgs s_Stack_init) (defBody s_Stack_init) (defScope s_Stack_init) Value.none kV doc pm an cdv ct) ⟨l, []⟩) (fun a => rfl) (fun a r rs => rfl) us rest hl) fun A outer s H vs Q E hr h => ?_) fun vs H Q E h => ?_
  · obtain ⟨x, p, dx, as, es, rfl, hx, hp, hes, ok, q⟩ := h
    refine ⟨_, PSs.nox (pss_cons (ps_fld (pv 0) (pv 1) rfl) (pss_cons (ps_fld (pv 0) (pe_tup pa_nil) rfl) (pss_cons (ps_fld (pv 0) (pe_tup pa_nil) rfl) (pss_cons (ps_fld (pv 0) pe_int rfl)
      (pss_one (ps_for PassesOwn.never rfl (pi_enumT T.f_enumerate (pa_cons (pv 1) pa_nil)) (pg_tup rfl (pgs_cons (pg_name (i := 2) sc_Stack_init.nd rfl (.inl rfl)) (pgs_cons (pg_name (i := 3) sc_Stack_init.nd rfl (.inl rfl)) pgs_nil)))
        (pss_cons (ps_set (i := 4) sc_Stack_init.nd rfl (.inl rfl) (pcb call_isi T.f_isinstance (pa_cons (pv 3) (pa_cons (pgr T.g_Stack) pa_nil))))
        (pss_cons (ps_if (PW.pt (pw_or (pt_cmpR op_eq (pv 2) (pgi 12 T.i_MOST_ENTRIES) (nomark _)) (pw_or1 (PW.pt (pw_and (pt_not (pt_val (pv 4))) (pw_and1 (pt_not (pt_val (pcb call_isi T.f_isinstance (pa_cons (pv 3) (pa_cons (pgr T.g_Rule) pa_nil))))))))))) pss_never pss_nil)
        (pss_cons (ps_fld (pv 0) (pe_op op_catQ (pe_fld (pv 0) rfl) (pcall (ok_steps_of T) hr (pa_cons (pv 3) pa_nil))) rfl)
        (pss_cons (ps_fld (pv 0) (pct call_tuple_of T.f_tuple (pa_cons (pe_sset rfl T.f_sorted T.f_set (pe_lc (own := [("rule", 5)]) (g := gName 5) (tt := tYes) (te := tFld K (tVar 5) "asks") rfl sc_Stack_init.nd (pi_tup (pe_fld (pv 0) rfl))
            (blkOk_by (own := [("rule", 5)]) (N := ["self", "entries", "index", "entry", "is_stack", "rule"]) (sc := defScope s_Stack_init) (by decide +kernel))
            (fun _ _ _ _ _ => pg_name (i := 5) sc_Stack_init.nd rfl (Or.inl rfl)) (fun _ _ _ _ _ => pts_nil) (fun _ _ _ _ _ => pe_fld (pv 5) rfl))) pa_nil)) rfl)
        (pss_cons (ps_fld (pv 0) (pcb (call_max2 rfl) T.f_max (pa_cons (pe_fld (pv 0) rfl) (pa_cons (pe_ifExp (pt_val (pv 4)) (pe_op op_add (pe_fld (pv 3) rfl) pe_int) pe_int) pa_nil))) rfl)
        (pss_one (ps_if (PW.pt (pw_or (pt_cmpR op_gt (pe_fld (pv 0) rfl) (pgi 3 T.i_MOST_DEPTH) (nomark _)) (pw_or (pt_cmpR op_gt (pcb call_len_seq T.f_len (pa_cons (pe_fld (pv 0) rfl) pa_nil)) (pgi 12 T.i_MOST_RULES) (nomark _))
          (pw_or1 (pt_cmpR op_gt (pcb call_len_seq T.f_len (pa_cons (pe_fld (pv 0) rfl) pa_nil)) (pgi 6 T.i_MOST_MODULES) (nomark _)))))) pss_never pss_nil))))))))))))), ?_⟩
    have px : ∀ {H1 : Hp}, Sm [x] H H1 → Fz H H1 := fun s => s.fz fun b hb o e => by
      rw [List.mem_singleton.mp hb, hx] at e
      cases e
      simp [Imm]
    refine ⟨_, rfl, _, rfl, x, cStack K, dx, _, rfl, hx, T.c_Stack, T.n_Stack_parts, by simp, ?_⟩
    have s1 : Sm [x] H (upd H x (.ins (cStack K) dx [("parts", .ref p)])) := (Sm.refl _ _).upd (by simp)
    refine ⟨by show 0 ≤ sizeLine; decide, fun t1 ht1 => ?_⟩
    have hA : upd (upd H x (.ins (cStack K) dx [("parts", .ref p)])) t1 (.tup []) x = some (.ins (cStack K) dx [("parts", .ref p)]) := by
      rw [upd_ne (ne_of_none upd_same ht1)]
      exact upd_same
    refine ⟨_, rfl, x, cStack K, dx, _, rfl, hA, T.c_Stack, T.n_Stack_steps, (show 1 < 1000 by decide), ?_⟩
    have s2 := (s1.new ht1 (o := .tup [])).upd (o := .ins (cStack K) dx [("parts", .ref p), ("steps", .ref t1)]) (List.mem_singleton.mpr rfl)
    refine ⟨by show 0 ≤ sizeLine; decide, fun t2 ht2 => ?_⟩
    have hB : upd (upd (upd (upd H x (.ins (cStack K) dx [("parts", .ref p)])) t1 (.tup [])) x (.ins (cStack K) dx [("parts", .ref p), ("steps", .ref t1)])) t2 (.tup []) x = some (.ins (cStack K) dx [("parts", .ref p), ("steps", .ref t1)]) := by
      rw [upd_ne (ne_of_none upd_same ht2)]
      exact upd_same
    refine ⟨_, rfl, x, cStack K, dx, _, rfl, hB, T.c_Stack, T.n_Stack_names, (show 2 < 1000 by decide), ?_⟩
    have s3 := (s2.new ht2 (o := .tup [])).upd (o := .ins (cStack K) dx [("parts", .ref p), ("steps", .ref t1), ("names", .ref t2)]) (List.mem_singleton.mpr rfl)
    refine ⟨_, rfl, x, cStack K, dx, _, rfl, upd_same, T.c_Stack, T.n_Stack_depth, (show 3 < 1000 by decide), ?_⟩
    have s4 := s3.upd (o := .ins (cStack K) dx [("parts", .ref p), ("steps", .ref t1), ("names", .ref t2), ("depth", .int 1)]) (List.mem_singleton.mpr rfl)
    have n1 : t1 ≠ x := (ne_of_none upd_same ht1).symm
    have n2 : t2 ≠ x := (ne_of_none upd_same ht2).symm
    have n12 : t1 ≠ t2 := ne_of_none (by rw [upd_ne n1]; exact upd_same) ht2
    refine ⟨_, rfl, p, as.map V.ref, rfl, SqT.fz hp (px s4), ?_⟩
    have hlen : (as.map V.ref).length = es.length := by rw [List.length_map, hes.len]
    refine for_it walk_enumT (stW K H x p dx es) ⟨⟨_, _, _, rfl⟩, s4, t1, t2, [], upd_same, SqT.of (by rw [upd_ne n1, upd_ne n1, upd_ne n12, upd_ne n1]; exact upd_same), trivial, ?_, ?_⟩ (fun i σ H1 _ hp1 => SqT.fz hp (px hp1.2.1)) (fun i v σ H1 H2 hi hp1 hy => ?_) fun σ H1 hp1 => ?_
    · rw [List.take_zero]
      show Canon (canon []) []
      rw [canon_nil]
      exact ⟨rfl, List.nodup_nil, fun _ => Iff.rfl⟩
    · rw [List.take_zero]
      show SqT K _ t2 ((canon []).map V.str)
      rw [canon_nil]
      exact SqT.of (by rw [upd_ne n2, upd_ne n2]; exact upd_same)
    · obtain ⟨⟨a0, b0, c0, rfl⟩, sm, ts, tn, rs, k1, k2, k3, k4, k5⟩ := hp1
      obtain ⟨T0, vi, ve, rfl, hT, rfl, ei, ee⟩ := hy
      cases ei
      rw [hlen] at hi
      obtain ⟨e, he⟩ : ∃ e, es[i]? = some e := ⟨es[i], List.getElem?_eq_getElem hi⟩
      obtain ⟨a, ha, hat⟩ := hes.get he
      simp only [List.getElem?_map, ha, Option.map_some, Option.some.injEq] at ee
      subst ee
      have sm0 : Sm [x] H (upd H1 T0 (.tup [.int (i : Nat), .ref a])) := sm.new hT
      have xT : x ≠ T0 := ne_of_none k1 hT
      have e0 : Ext H1 (upd H1 T0 (.tup [.int (i : Nat), .ref a])) := Ext.upd hT
      refine ⟨T0, _, rfl, SqT.of upd_same, rfl, _, _, rfl, _, _, rfl, rfl, ?_⟩
      obtain ⟨c, i1, i2, i3⟩ := (hat.fz (px sm0)).isi T
      refine ⟨_, rfl, _, .ref (cStack K), _, _, _, rfl, .own _, i1, i2, ?_⟩
      have hi12 : i < 12 := Nat.lt_of_lt_of_le hi ok.len
      refine ⟨_, rfl, rfl, false, blF (by intro z; simp only [V.int.injEq] at z; omega), iteF ⟨_, rfl, isSt e, rfl, ?_⟩⟩
      refine tst (fun hb y => ⟨_, rfl, _, .ref (cRule K), _, _, true, rfl, .own _, i1, i3 hb, true, rfl, y⟩) (iteF ?_)
      have hk1 := e0 _ _ k1
      refine ⟨_, rfl, x, cStack K, dx, _, _, rfl, hk1, T.c_Stack, T.n_Stack_steps, rfl, _, rfl, a, e, rfl, hat.fz (px sm0), fun H3 p3 rs3 e3 h3 r3 => ?_⟩
      have e03 : Ext H1 H3 := e0.trans e3
      have et := take_succ he
      have es1 : stepsL (es.take (i + 1)) = stepsL (es.take i) ++ e.steps := by
        rw [et, stepsL_append]
        simp [stepsL]
      have okt := ok.take (i + 1)
      have hsl := okt.rules
      have k3' := (k3.fz (Fz.of e03)).app r3
      rw [← es1] at k3'
      have hrl : (rs ++ rs3).length = (stepsL (es.take (i + 1))).length := k3'.len.symm
      refine ⟨ts, p3, _, _, rfl, rfl, SqT.ext k2 e03, h3, ?_, fun H4 q4 e4 h4 => ?_⟩
      · rw [List.length_map, List.length_map]
        rw [List.length_append] at hrl
        omega
      rw [← List.map_append] at h4
      have e04 : Ext H1 H4 := e03.trans e4
      refine ⟨_, rfl, x, cStack K, dx, _, rfl, e04 _ _ k1, T.c_Stack, T.n_Stack_steps, (show 4 < 1000 by decide), ?_⟩
      generalize hH5 : upd H4 x (.ins (cStack K) dx (putF "steps" (.ref q4) [("parts", .ref p), ("steps", .ref ts), ("names", .ref tn), ("depth", .int (depL (es.take i) : Nat))])) = H5
      have sm5 : Sm [x] H H5 := by rw [← hH5]; exact (sm.trans (Sm.of e04)).upd (List.mem_singleton.mpr rfl)
      have hx4 := e04 _ _ k1
      have hx5 : H5 x = some (.ins (cStack K) dx [("parts", .ref p), ("steps", .ref q4), ("names", .ref tn), ("depth", .int (depL (es.take i) : Nat))]) := by rw [← hH5]; exact upd_same
      have s45 : Sm [x] H4 H5 := by rw [← hH5]; exact (Sm.refl _ _).upd (List.mem_singleton.mpr rfl)
      have q5 : SqT K H5 q4 ((rs ++ rs3).map V.ref) := SqT.smx hx4 s45 h4
      have r5 : RusAt K H5 (stepsL (es.take (i + 1))) (rs ++ rs3) := (k3'.fz (Fz.of e4)).smx hx4 (show 4 ≠ 2 by decide) s45
      have ml : (modsL (es.take (i + 1))).length = (rs ++ rs3).length := by unfold modsL; rw [List.length_map, hrl]
      refine ⟨_, rfl, x, cStack K, dx, _, _, rfl, hx5, T.c_Stack, T.n_Stack_steps, rfl, q4, rfl, ⟨_, q5⟩, fun D hD => ?_⟩
      refine lc_it walk_tup (fun j H' => j ≤ (rs ++ rs3).length ∧ Ext H5 H' ∧ H' D = some (.lst (((modsL (es.take (i + 1))).take j).map V.str))) ⟨Nat.zero_le _, Ext.upd hD, upd_same⟩ (fun j H' _ hj => SqT.ext q5 hj.2.1) (fun j v Ha Hb hj hv hy2 => ?_) fun H6 hv => ?_
      · obtain ⟨v1, v2, v3⟩ := hv
        obtain ⟨rfl, hvj⟩ := hy2
        rw [List.length_map] at hj
        obtain ⟨r, hr2⟩ : ∃ r, (stepsL (es.take (i + 1)))[j]? = some r := ⟨_, List.getElem?_eq_getElem (by omega)⟩
        obtain ⟨b, hb1, hb2⟩ := (r5.fz (Fz.of v2)).get hr2
        simp only [List.getElem?_map, hb1, Option.map_some, Option.some.injEq] at hvj
        subst hvj
        obtain ⟨dr, tr, hr3, _⟩ := hb2
        refine ⟨rfl, _, rfl, b, cRule K, dr, _, _, rfl, hr3, T.c_Rule, T.n_Rule_asks, rfl, _, v3, ?_, hj, v2.updD hD, ?_⟩
        · rw [List.length_map, List.length_take]
          exact Nat.lt_of_le_of_lt (Nat.min_le_left _ _) (Nat.lt_of_lt_of_le hj (Nat.le_trans (by omega : (rs ++ rs3).length ≤ 12) (by decide)))
        · have hm : (modsL (es.take (i + 1)))[j]? = some r.1 := by
            unfold modsL
            rw [List.getElem?_map, hr2]
            rfl
          rw [upd_same, take_succ hm, List.map_append]
          rfl
      · obtain ⟨v1, v2, v3⟩ := hv
        rw [List.length_map, ← ml, List.take_length] at v3
        refine ⟨D, modsL (es.take (i + 1)), rfl, .inl (SqL.of v3), by omega, fun zs p6 cz hp6 => ?_⟩
        have ez : canon (modsL (es.take (i + 1))) = zs := canon_of cz
        refine ⟨p6, _, rfl, .inl ⟨SqL.of upd_same, fun l hl => ?_⟩⟩
        have E57 : Ext H5 (upd (upd H6 p6 (.lst (zs.map V.str))) l (.tup (zs.map V.str))) := (v2.upd' hp6).upd' hl
        refine ⟨_, rfl, x, cStack K, dx, _, rfl, E57 _ _ hx5, T.c_Stack, T.n_Stack_names, (show 4 < 1000 by decide), ?_⟩
        generalize hH7 : upd (upd H6 p6 (.lst (zs.map V.str))) l (.tup (zs.map V.str)) = H7 at E57
        have hl7 : SqT K H7 l (zs.map V.str) := by rw [← hH7]; exact SqT.of upd_same
        have hx7 := E57 _ _ hx5
        generalize hH8 : upd H7 x (.ins (cStack K) dx (putF "names" (.ref l) [("parts", .ref p), ("steps", .ref q4), ("names", .ref tn), ("depth", .int (depL (es.take i) : Nat))])) = H8
        have s78 : Sm [x] H7 H8 := by rw [← hH8]; exact (Sm.refl _ _).upd (List.mem_singleton.mpr rfl)
        have sm8 : Sm [x] H H8 := (sm5.trans (Sm.of E57)).trans s78
        have hx8 : H8 x = some (.ins (cStack K) dx [("parts", .ref p), ("steps", .ref q4), ("names", .ref l), ("depth", .int (depL (es.take i) : Nat))]) := by rw [← hH8]; exact upd_same
        have hd : depL (es.take (i + 1)) = max (depL (es.take i)) e.dep := by
          rw [et, depL_append]
          have h1 : 1 ≤ e.dep := by
            cases e with
            | rl m a => simp [Tr.dep]
            | st es' => simp [Tr.dep]
          simp only [depL]
          omega
        refine ⟨_, rfl, x, cStack K, dx, _, _, rfl, hx8, T.c_Stack, T.n_Stack_depth, rfl, depR T (hat.fz (px sm8)) rfl rfl ?_⟩
        have hmx : (if ((e.dep : Nat) : Int) > ((depL (es.take i) : Nat) : Int) then ((e.dep : Nat) : Int) else ((depL (es.take i) : Nat) : Int)) = ((depL (es.take (i + 1)) : Nat) : Int) := by
          rw [hd]
          split <;> omega
        refine ⟨_, _, rfl, ?_⟩
        rw [hmx]
        refine ⟨_, rfl, x, cStack K, dx, _, rfl, hx8, T.c_Stack, T.n_Stack_depth, (show 4 < 1000 by decide), ?_⟩
        generalize hH9 : upd H8 x (.ins (cStack K) dx (putF "depth" (.int (depL (es.take (i + 1)) : Nat)) [("parts", .ref p), ("steps", .ref q4), ("names", .ref l), ("depth", .int (depL (es.take i) : Nat))])) = H9
        have s89 : Sm [x] H8 H9 := by rw [← hH9]; exact (Sm.refl _ _).upd (List.mem_singleton.mpr rfl)
        have hx9 : H9 x = some (.ins (cStack K) dx [("parts", .ref p), ("steps", .ref q4), ("names", .ref l), ("depth", .int (depL (es.take (i + 1)) : Nat))]) := by rw [← hH9]; exact upd_same
        have q9 : SqT K H9 q4 ((rs ++ rs3).map V.ref) := SqT.smx hx8 s89 (SqT.smx hx7 s78 (SqT.ext q5 E57))
        have l9 : SqT K H9 l (zs.map V.str) := SqT.smx hx8 s89 (SqT.smx hx7 s78 hl7)
        have r9 : RusAt K H9 (stepsL (es.take (i + 1))) (rs ++ rs3) := ((r5.fz (Fz.of E57)).smx hx7 (show 4 ≠ 2 by decide) s78).smx hx8 (show 4 ≠ 2 by decide) s89
        have hzl : zs.length ≤ 6 := okt.names cz
        have hdp := okt.dep
        refine ⟨_, rfl, x, cStack K, dx, _, _, rfl, hx9, T.c_Stack, T.n_Stack_depth, rfl, _, _, rfl, rfl, false, blF (by omega), iteF ?_⟩
        refine ⟨_, rfl, x, cStack K, dx, _, _, rfl, hx9, T.c_Stack, T.n_Stack_steps, rfl, _, _, rfl, .inr q9, _, _, rfl, rfl, false, blF (by rw [List.length_map]; omega), iteF ?_⟩
        refine ⟨_, rfl, x, cStack K, dx, _, _, rfl, hx9, T.c_Stack, T.n_Stack_names, rfl, _, _, rfl, .inr l9, _, _, rfl, rfl, false, blF (by rw [List.length_map]; omega), iteF ?_⟩
        refine ⟨⟨_, _, _, rfl⟩, sm8.trans s89, q4, l, rs ++ rs3, hx9, q9, r9, ?_, ?_⟩
        · rw [ez]; exact cz
        · rw [ez]; exact l9
    · obtain ⟨_, sm, ts, tn, rs, k1, k2, k3, k4, k5⟩ := hp1
      rw [hlen, List.take_length] at k1 k3 k4 k5
      exact q H1 sm ⟨dx, p, ts, tn, as, rs, k1, SqT.fz hp (px sm), hes.fz (px sm), k2, k3, k4, k5, ok⟩
  · obtain ⟨x, dx, as, es, rfl, hx, hes, ok, q⟩ := h
    have hl := hes.len
    refine ⟨[V.ref x], as.map V.ref, rfl, rfl, by rw [List.length_map, ← hl]; exact Nat.le_trans ok.len (by decide), fun p hp => ?_⟩
    have e := Ext.upd hp (o := HO.tup (as.map V.ref))
    exact ⟨x, p, dx, as, es, rfl, e _ _ hx, SqT.of upd_same, hes.fz (Fz.of e), ok, fun H' s a => q H' ((Sm.of e).trans s) a⟩
end
end Ls
set_option maxRecDepth 100000
set_option maxHeartbeats 4000000
/-! Stack's methods, firsts_of -/
namespace Ls
open PySem PySem.Spec PyProof.Rows L2
section
variable {X : Cx}
theorem cut_to {xs : List V} {i : Int} (h : 0 ≤ i) : cutV xs none (some i) = xs.take i.toNat := by
  unfold cutV
  obtain ⟨n, rfl⟩ := Int.eq_ofNat_of_zero_le h
  rw [HT.sIx_none, HT.sIx_nat, List.drop_zero, Nat.sub_zero, Int.toNat_natCast, ← List.take_take, List.take_length]
theorem cut_from {xs : List V} {i : Int} (h : 0 ≤ i) : cutV xs (some i) none = xs.drop i.toNat := by
  unfold cutV
  obtain ⟨n, rfl⟩ := Int.eq_ofNat_of_zero_le h
  rw [HT.sIx_none, HT.sIx_nat, Int.toNat_natCast]
  by_cases c : n ≤ xs.length
  · rw [Nat.min_eq_left c, List.take_of_length_le (by rw [List.length_drop]; omega)]
  · rw [Nat.min_eq_right (by omega), List.drop_length, List.drop_of_length_le (by omega), List.take_nil]
theorem sl_tupQ : SlR X (rSlQ X.K) := fun pins s σ H x v vl vu lo hi sl Q I rx hs pl pu ⟨a, xs, ea, ht, q⟩ =>
  sl_tupA pins s σ H x v vl vu lo hi sl Q I rx hs pl pu ⟨a, xs, ea, ht, fun hw => q H a Ext.rfl' (by
    unfold cutV
    rw [hw.1, hw.2, List.drop_zero, Nat.sub_zero, List.take_length]
    exact ht), fun _ p hp => q _ p (Ext.upd hp) (SqT.of upd_same)⟩
end
section
variable {P : Program} {w : World} {K : PySem.W.Frag} {mg : Str → Option Value} {base : Heap}
theorem ok_Stack (T : Txt w K mg) : CF P w K mg base 2 "Stack" (cStack K) (a_Stack_init K) (spStackI K) := ⟨run_Stack_init T, T.mk_Stack, T.g_Stack⟩
/-- what a call Stack(..) leaves -/
theorem mkSt {H : Hp} {as : List Addr} {es : List Tr} {Q : VK} {E : XK} (hes : AtL K H es as) (ok : Ok es) (q : ∀ H' x, Ext H H' → AtT K H' (.st es) x → Q (.ref x) H') :
    ∀ x dx, H x = none → H dx = none → dx ≠ x → spStackI K (V.ref x :: as.map V.ref) (upd (upd H dx (.own x)) x (.ins (cStack K) dx [])) (fun v H2 => v = .non ∧ Q (.ref x) H2) E := by
  intro x dx hx hdx ne
  have e1 : Ext H (upd (upd H dx (.own x)) x (.ins (cStack K) dx [])) := (Ext.upd hdx).upd' (by rw [upd_ne ne.symm]; exact hx)
  refine ⟨x, dx, as, es, rfl, upd_same, hes.fz (Fz.of e1), ok, fun H' s a => ⟨rfl, q H' x (fun b o hb => s b o (e1 b o hb) fun z => ?_) a⟩⟩
  rw [List.mem_singleton.mp z, hx] at hb
  cases hb
theorem mkRu (T : Txt w K mg) {H : Hp} {m : Str} {c : V} {a : Addr} {acts : List V} {Q : VK} {E : XK} (hm : wordOk m = true) (hc : Ctl K H c a acts) (q : ∀ H' x, Ext H H' → RuAt K H' (m, acts) x → Q (.ref x) H') :
    ∀ x dx, H x = none → H dx = none → dx ≠ x → spRuleI K [V.ref x, .str m, c] (upd (upd H dx (.own x)) x (.ins (cRule K) dx [])) (fun v H2 => v = .non ∧ Q (.ref x) H2) E := by
  intro x dx hx hdx ne
  have e1 : Ext H (upd (upd H dx (.own x)) x (.ins (cRule K) dx [])) := (Ext.upd hdx).upd' (by rw [upd_ne ne.symm]; exact hx)
  have hc1 := hc.fz (Fz.of e1)
  refine ⟨x, m, c, a, acts, dx, rfl, hm, hc1, upd_same, fun H' s hx' => ⟨rfl, q H' x (fun b o hb => s b o (e1 b o hb) fun z => ?_) ⟨dx, a, hx', ?_⟩⟩⟩
  · rw [List.mem_singleton.mp z, hx] at hb
    cases hb
  · exact SqT.smx upd_same s (hc1.sq T).1
/-- a field's value -/
def spFld (C : Addr) (f : Str) : Sp := fun vs H Q _ => ∃ x dx fs v, vs = [.ref x] ∧ H x = some (.ins C dx fs) ∧ fs.lookup f = some v ∧ Q v H
theorem sc_Stack_entries : FnScope ["self"] ["self"] (defScope s_Stack_entries) := ⟨rfl, rfl, rfl, by decide +kernel, rfl, by decide +kernel, by decide +kernel⟩
theorem sc_Stack_rules : FnScope ["self"] ["self"] (defScope s_Stack_rules) := ⟨rfl, rfl, rfl, by decide +kernel, rfl, by decide +kernel, by decide +kernel⟩
theorem ok_Stack_entries (T : Txt w K mg) : PF P w K mg base 1 (cStack K) "entries" (He.ma K (cStack K) "entries") (a_Stack_entries K) (spFld (cStack K) "parts") := by
  obtain ⟨fd, F⟩ := T.d_Stack_entries
  refine ⟨fnr F sc_Stack_entries (F.binds fun _ _ _ _ _ _ us hl => match us, hl with | [_], _ => rfl) (by rintro vs H Q E ⟨_, _, _, _, rfl, _⟩; rfl) fun cdv A outer s H vs Q E hr h => ?_, T.p_Stack_entries, T.c_Stack⟩
  obtain ⟨x, dx, fs, v, rfl, hx, hl, q⟩ := h
  exact ⟨_, pss_one (ps_ret (pe_fld (pv 0) rfl)), _, rfl, x, cStack K, dx, _, _, rfl, hx, T.c_Stack, T.n_Stack_parts, hl, q⟩
theorem ok_Stack_rules (T : Txt w K mg) : PF P w K mg base 1 (cStack K) "rules" (He.ma K (cStack K) "rules") (a_Stack_rules K) (spFld (cStack K) "steps") := by
  obtain ⟨fd, F⟩ := T.d_Stack_rules
  refine ⟨fnr F sc_Stack_rules (F.binds fun _ _ _ _ _ _ us hl => match us, hl with | [_], _ => rfl) (by rintro vs H Q E ⟨_, _, _, _, rfl, _⟩; rfl) fun cdv A outer s H vs Q E hr h => ?_, T.p_Stack_rules, T.c_Stack⟩
  obtain ⟨x, dx, fs, v, rfl, hx, hl, q⟩ := h
  exact ⟨_, pss_one (ps_ret (pe_fld (pv 0) rfl)), _, rfl, x, cStack K, dx, _, _, rfl, hx, T.c_Stack, T.n_Stack_steps, hl, q⟩
/-! len, [i], + -/
def spSLen (K : PySem.W.Frag) : Sp := fun vs H Q _ => ∃ x es, vs = [.ref x] ∧ AtT K H (.st es) x ∧ Q (.int (es.length : Nat)) H
theorem sc_Stack_len : FnScope ["self"] ["self"] (defScope s_Stack_len) := ⟨rfl, rfl, rfl, by decide +kernel, rfl, by decide +kernel, by decide +kernel⟩
theorem ok_Stack_len (T : Txt w K mg) : MF P w K mg base 1 (cStack K) "__len__" (a_Stack_len K) (spSLen K) := by
  obtain ⟨fd, F⟩ := T.d_Stack_len
  refine ⟨fnr F sc_Stack_len (F.binds fun _ _ _ _ _ _ us hl => match us, hl with | [_], _ => rfl) (by rintro vs H Q E ⟨_, _, rfl, _⟩; rfl) fun cdv A outer s H vs Q E hr h => ?_, T.m_Stack_len, T.c_Stack⟩
  obtain ⟨x, es, rfl, ⟨dx, tp, ts, tn, as, rs, h1, h2, h3, _⟩, q⟩ := h
  refine ⟨_, pss_one (ps_ret (pcb call_len_seq T.f_len (pa_cons (pe_fld (pv 0) rfl) pa_nil))), _, rfl, x, cStack K, dx, _, _, rfl, h1, T.c_Stack, T.n_Stack_parts, rfl, tp, _, rfl, .inr h2, ?_⟩
  rw [List.length_map, ← h3.len]
  exact q
def spSGet (K : PySem.W.Frag) : Sp := fun vs H Q _ => ∃ x es i e, vs = [.ref x, .int (i : Nat)] ∧ AtT K H (.st es) x ∧ es[i]? = some e ∧ ∀ a, AtT K H e a → Q (.ref a) H
theorem sc_Stack_getitem : FnScope ["self", "index"] ["self", "index"] (defScope s_Stack_getitem) := ⟨rfl, rfl, rfl, by decide +kernel, rfl, by decide +kernel, by decide +kernel⟩
theorem ok_Stack_getitem (T : Txt w K mg) : MF P w K mg base 1 (cStack K) "__getitem__" (a_Stack_getitem K) (spSGet K) := by
  obtain ⟨fd, F⟩ := T.d_Stack_getitem
  refine ⟨fnr F sc_Stack_getitem (F.binds fun _ _ _ _ _ _ us hl => match us, hl with | [_, _], _ => rfl) (by rintro vs H Q E ⟨_, _, _, _, rfl, _⟩; rfl) fun cdv A outer s H vs Q E hr h => ?_, T.m_Stack_getitem, T.c_Stack⟩
  obtain ⟨x, es, i, e, rfl, ⟨dx, tp, ts, tn, as, rs, h1, h2, h3, _⟩, he, q⟩ := h
  obtain ⟨a, ha, hat⟩ := h3.get he
  exact ⟨_, pss_one (ps_ret (pe_ix ix_tup (pe_fld (pv 0) rfl) (pv 1) (fun _ _ => rfl))), _, rfl, x, cStack K, dx, _, _, rfl, h1, T.c_Stack, T.n_Stack_parts, rfl, _, rfl, tp, _, _, _, rfl, rfl, h2,
    atI_nat (v := V.ref a) (by rw [List.getElem?_map, ha]; rfl), q a hat⟩
theorem AtL.app {H : Hp} : ∀ {es es' : List Tr} {as as' : List Addr}, AtL K H es as → AtL K H es' as' → AtL K H (es ++ es') (as ++ as')
  | [], _, [], _, _, h => h
  | _ :: _, _, _ :: _, _, h, h' => ⟨h.1, AtL.app h.2 h'⟩
  | [], _, _ :: _, _, h, _ => h.elim
  | _ :: _, _, [], _, h, _ => h.elim
theorem AtL.take {H : Hp} : ∀ {es : List Tr} {as : List Addr} (i : Nat), AtL K H es as → AtL K H (es.take i) (as.take i)
  | [], [], i, _ => by simp [AtL]
  | _ :: _, _ :: _, 0, _ => by simp [AtL]
  | _ :: _, _ :: _, i + 1, h => by
    simp only [List.take_succ_cons]
    exact ⟨h.1, AtL.take i h.2⟩
  | [], _ :: _, _, h => h.elim
  | _ :: _, [], _, h => h.elim
theorem AtL.drop {H : Hp} : ∀ {es : List Tr} {as : List Addr} (i : Nat), AtL K H es as → AtL K H (es.drop i) (as.drop i)
  | [], [], i, _ => by simp [AtL]
  | _ :: _, _ :: _, 0, h => h
  | _ :: _, _ :: _, i + 1, h => by
    simp only [List.drop_succ_cons]
    exact AtL.drop i h.2
  | [], _ :: _, _, h => h.elim
  | _ :: _, [], _, h => h.elim
def spSAdd (K : PySem.W.Frag) : Sp := fun vs H Q _ => ∃ x y es fs, vs = [.ref x, .ref y] ∧ AtT K H (.st es) x ∧ AtT K H (.st fs) y ∧ Ok (es ++ fs) ∧ ∀ H' z, Ext H H' → AtT K H' (.st (es ++ fs)) z → Q (.ref z) H'
theorem sc_Stack_add : FnScope ["self", "other", "parts"] ["self", "other"] (defScope s_Stack_add) := ⟨rfl, rfl, rfl, by decide +kernel, rfl, by decide +kernel, by decide +kernel⟩
theorem ok_Stack_add (T : Txt w K mg) : MF P w K mg base 4 (cStack K) "__add__" (a_Stack_add K) (spSAdd K) := by
  obtain ⟨fd, F⟩ := T.d_Stack_add
  refine ⟨fnr F sc_Stack_add (F.binds fun _ _ _ _ _ _ us hl => match us, hl with | [_, _], _ => rfl) (by rintro vs H Q E ⟨_, _, _, _, rfl, _⟩; rfl) fun cdv A outer s H vs Q E hr h => ?_, T.m_Stack_add, T.c_Stack⟩
  obtain ⟨x, y, es, fs, rfl, ⟨dx, tp, ts, tn, as, rs, h1, h2, h3, _⟩, ⟨dy, up, us, un, bs, cs, k1, k2, k3, _⟩, ok, q⟩ := h
  refine ⟨_, pss_cons (ps_set (i := 2) sc_Stack_add.nd rfl (.inl rfl) (pe_op op_catQ (pe_fld (pv 0) rfl) (pe_fld (pv 1) rfl))) (pss_one (ps_ret (pmakeS (ok_Stack T) hr (pv 2)))), ?_⟩
  have hl := ok.len
  rw [List.length_append, h3.len, k3.len] at hl
  refine ⟨_, rfl, x, cStack K, dx, _, _, rfl, h1, T.c_Stack, T.n_Stack_parts, rfl, _, rfl, y, cStack K, dy, _, _, rfl, k1, T.c_Stack, T.n_Stack_parts, rfl, tp, up, _, _, rfl, rfl, h2, k2, by rw [List.length_map, List.length_map]; omega, fun H1 p e1 hp => ?_⟩
  rw [← List.map_append] at hp
  exact ⟨_, rfl, p, _, rfl, .inl hp, mkSt ((h3.fz (Fz.of e1)).app (k3.fz (Fz.of e1))) ok fun H2 z e2 hz => q H2 z (e1.trans e2) hz⟩
/-! spliced -/
def spSplice (K : PySem.W.Frag) : Sp := fun vs H Q _ => ∃ (x t : Addr) (es ins : List Tr) (bs : List Addr) (i c : Nat), vs = [.ref x, .int (i : Nat), .int (c : Nat), .ref t] ∧ AtT K H (.st es) x ∧ SqT K H t (bs.map V.ref) ∧ AtL K H ins bs ∧ i + c ≤ es.length ∧
  es.length ≤ 12 ∧ Ok (es.take i ++ ins ++ es.drop (i + c)) ∧ ∀ H' y, Ext H H' → AtT K H' (.st (es.take i ++ ins ++ es.drop (i + c))) y → Q (.ref y) H'
theorem sc_Stack_spliced : FnScope ["self", "index", "count", "entries", "parts"] ["self", "index", "count", "entries"] (defScope s_Stack_spliced) := ⟨rfl, rfl, rfl, by decide +kernel, rfl, by decide +kernel, by decide +kernel⟩
theorem ok_Stack_spliced (T : Txt w K mg) : MF P w K mg base 4 (cStack K) "spliced" (a_Stack_spliced K) (spSplice K) := by
  obtain ⟨fd, F⟩ := T.d_Stack_spliced
  refine ⟨fnr F sc_Stack_spliced (F.binds fun _ _ _ _ _ _ us hl => match us, hl with | [_, _, _, _], _ => rfl) (by rintro vs H Q E ⟨_, _, _, _, _, _, _, rfl, _⟩; rfl) fun cdv A outer s H vs Q E hr h => ?_, T.m_Stack_spliced, T.c_Stack⟩
  obtain ⟨x, t, es, ins, bs, i, c, rfl, ⟨dx, tp, ts, tn, as, rs, h1, h2, h3, _⟩, ht, hbs, hic, hes12, ok, q⟩ := h
  refine ⟨_, (pss_cons (ps_if (PW.pt (pw_or (pt_not (pt_val (pcall (ok_is_number T) (hr.mono (by decide)) (pa_cons (pv 1) (pa_cons pe_int (pa_cons (pcb call_len_seq T.f_len (pa_cons (pe_fld (pv 0) rfl) pa_nil)) pa_nil)))))) (pw_or1 (pt_not (pt_val (pcall (ok_is_number T) (hr.mono (by decide)) (pa_cons (pv 2) (pa_cons pe_int (pa_cons (pe_op op_sub (pcb call_len_seq T.f_len (pa_cons (pe_fld (pv 0) rfl) pa_nil)) (pv 1)) pa_nil))))))))) pss_never pss_nil)
    (pss_cons (ps_set (i := 4) sc_Stack_spliced.nd rfl (.inl rfl) (pe_op op_catQ (pe_op op_catQ (pe_slice sl_tupQ (pe_fld (pv 0) rfl) po_none (po_some (pv 1))) (pv 3)) (pe_slice sl_tupQ (pe_fld (pv 0) rfl) (po_some (pe_op op_add (pv 1) (pv 2))) po_none)))
    (pss_one (ps_ret (pmakeS (ok_Stack T) (hr.mono (by decide)) (pv 4)))))), ?_⟩
  have hla := h3.len
  have hlb := hbs.len
  have hll : (as.map V.ref).length = es.length := by rw [List.length_map, hla]
  refine ⟨_, rfl, _, rfl, x, cStack K, dx, _, _, rfl, h1, T.c_Stack, T.n_Stack_parts, rfl, tp, _, rfl, .inr h2, _, _, _, rfl, .inl ⟨_, rfl, true, ?_, iteF ?_⟩⟩
  · rw [decide_eq_true (by omega), decide_eq_true (by rw [hll]; omega)]
    rfl
  refine ⟨_, rfl, _, rfl, x, cStack K, dx, _, _, rfl, h1, T.c_Stack, T.n_Stack_parts, rfl, tp, _, rfl, .inr h2, _, rfl, _, _, rfl, rfl, _, _, _, rfl, .inl ⟨_, rfl, true, ?_, iteF ?_⟩⟩
  · rw [decide_eq_true (by omega), decide_eq_true (by rw [hll]; omega)]
    rfl
  have hok := ok.len
  simp only [List.length_append, List.length_take, List.length_drop] at hok
  refine ⟨_, rfl, x, cStack K, dx, _, _, rfl, h1, T.c_Stack, T.n_Stack_parts, rfl, _, rfl, _, rfl, tp, _, rfl, h2, fun H1 p1 e1 t1 => ?_⟩
  rw [cut_to (by omega), Int.toNat_natCast, ← List.map_take] at t1
  refine ⟨_, rfl, p1, t, _, _, rfl, rfl, t1, SqT.ext ht e1, by simp only [List.length_map, List.length_take]; omega, fun H2 p2 e2 t2 => ?_⟩
  have e12 := e1.trans e2
  refine ⟨_, rfl, x, cStack K, dx, _, _, rfl, e12 _ _ h1, T.c_Stack, T.n_Stack_parts, rfl, _, rfl, _, rfl, _, _, rfl, rfl, _, rfl, tp, _, rfl, SqT.ext h2 e12, fun H3 p3 e3 t3 => ?_⟩
  rw [cut_from (by omega), ← List.map_drop] at t3
  have ei : (((i : Nat) : Int) + ((c : Nat) : Int)).toNat = i + c := by omega
  rw [ei] at t3
  refine ⟨p2, p3, _, _, rfl, rfl, SqT.ext t2 e3, t3, by simp only [List.length_append, List.length_map, List.length_take, List.length_drop]; omega, fun H4 p4 e4 t4 => ?_⟩
  have e14 := (e12.trans e3).trans e4
  rw [← List.map_append, ← List.map_append] at t4
  exact ⟨_, rfl, p4, _, rfl, .inl t4, mkSt ((((h3.take i).app hbs).app (h3.drop (i + c))).fz (Fz.of e14)) ok fun H5 y e5 hy => q H5 y (e14.trans e5) hy⟩
/-! firsts_of -/
def spFirsts (K : PySem.W.Frag) : Sp := fun vs H Q _ => ∃ (x : Addr) (es : List Tr) (n : Int), vs = [.ref x, .int n] ∧ AtT K H (.st es) x ∧ es.length ≤ 12 ∧ ∀ H' p, Ext H H' → H p = none → H' p = some (.lst ((firstsL n es).map V.int)) → Q (.ref p) H'
theorem sc_firsts_of : FnScope ["stack", "first", "found", "entry"] ["stack", "first"] (defScope s_firsts_of) := ⟨rfl, rfl, rfl, by decide +kernel, rfl, by decide +kernel, by decide +kernel⟩
theorem firstsL_app : ∀ (n : Int) (a : List Tr) (e : Tr), firstsL n (a ++ [e]) = firstsL n a ++ [n + ((stepsL a).length : Nat)]
  | n, [], e => by simp [firstsL, stepsL]
  | n, x :: a, e => by
    simp only [List.cons_append, firstsL, stepsL, List.length_append]
    rw [firstsL_app]
    congr 3
    omega
theorem firstsL_len : ∀ (n : Int) (a : List Tr), (firstsL n a).length = a.length
  | n, [] => rfl
  | n, x :: a => by simp only [firstsL, List.length_cons, firstsL_len]
theorem ok_firsts_of (T : Txt w K mg) : GF P w K mg base 2 "firsts_of" (He.ga K "firsts_of") (spFirsts K) := by
  obtain ⟨fd, F⟩ := T.d_firsts_of
  refine gf_of F T.g_firsts_of (fnr F sc_firsts_of (F.binds fun _ _ _ _ _ _ us hl => match us, hl with | [_, _], _ => rfl) (by rintro vs H Q E ⟨_, _, _, rfl, _⟩; rfl) fun cdv A outer s H vs Q E hr h => ?_)
  obtain ⟨x, es, n, rfl, hx, h12, q⟩ := h
  refine ⟨_, (pss_cons (ps_set (i := 2) sc_firsts_of.nd rfl (.inl rfl) (pe_lst pa_nil))
    (pss_cons (ps_for PassesOwn.never rfl (pi_tup (pe_fld (pv 0) rfl)) (pg_name (i := 3) sc_firsts_of.nd rfl (.inl rfl))
    (pss_cons (ps_expr (pe_bm PySem.F.plainAttrs_list PySem.F.slot_list_append PySem.F.type_list_append mt_append (pv 2) (pa_cons (pv 1) pa_nil)))
    (pss_one (ps_aug (i := 1) sc_firsts_of.nd rfl (.inl rfl) (pcb call_len_seq T.f_len (pa_cons (pcall (ok_steps_of T) (hr.mono (by decide)) (pa_cons (pv 3) pa_nil)) pa_nil)) ip_add))))
    (pss_one (ps_ret (pv 2))))), ?_⟩
  have hx0 := hx
  obtain ⟨dx, tp, ts, tn, as, rs, h1, h2, h3, h4, h5, _⟩ := hx
  refine ⟨by show 0 ≤ sizeLine; decide, fun p hp => ?_⟩
  have e0 : Ext H (upd H p (.lst [])) := Ext.upd hp
  refine ⟨_, rfl, x, cStack K, dx, _, _, rfl, e0 _ _ h1, T.c_Stack, T.n_Stack_parts, rfl, tp, rfl, ⟨_, SqT.ext h2 e0⟩, ?_⟩
  refine for_it walk_tup (fun i σ H1 => (∃ a, σ = [some (.ref x), some (.int (n + ((stepsL (es.take i)).length : Nat))), some (.ref p), a]) ∧ Ext H H1 ∧ H1 p = some (.lst ((firstsL n (es.take i)).map V.int))) ⟨⟨_, by simp [stepsL]; rfl⟩, e0, upd_same⟩ (fun i σ H1 _ hi => SqT.ext h2 hi.2.1) (fun i v σ H1 H2 hi hp1 hy => ?_) fun σ H1 hp1 => ?_
  · obtain ⟨⟨a0, rfl⟩, e1, hl⟩ := hp1
    obtain ⟨rfl, hv⟩ := hy
    rw [List.length_map] at hi
    have hlen := h3.len
    obtain ⟨e, he⟩ : ∃ e, es[i]? = some e := ⟨_, List.getElem?_eq_getElem (by omega)⟩
    obtain ⟨a, ha, hat⟩ := h3.get he
    simp only [List.getElem?_map, ha, Option.map_some, Option.some.injEq] at hv
    subst hv
    have et := take_succ he
    refine ⟨_, rfl, .inl ⟨rfl, _, SqL.of hl⟩, _, rfl, p, _, _, rfl, rfl, hl, ?_, ?_⟩
    · rw [List.length_map, firstsL_len, List.length_take]
      exact Nat.lt_of_le_of_lt (Nat.min_le_right _ _) (Nat.lt_of_le_of_lt h12 (by decide))
    have e2 : Ext H (upd H2 p (.lst ((firstsL n (es.take i)).map V.int ++ [.int (n + ((stepsL (es.take i)).length : Nat))]))) := e1.updD hp
    refine ⟨_, rfl, _, rfl, a, e, rfl, hat.fz (Fz.of e2), fun H3 p3 rs3 e3 h3' r3 => ?_⟩
    refine ⟨p3, _, rfl, .inr h3', _, _, rfl, rfl, ⟨some (.ref a), ?_⟩, e2.trans e3, ?_⟩
    · rw [et, stepsL_append]
      simp only [stepsL, List.append_nil, List.length_append, List.length_map, ← r3.len]
      have e5 : n + ((stepsL (es.take i)).length : Nat) + (e.steps.length : Nat) = n + (((stepsL (es.take i)).length + e.steps.length : Nat) : Int) := by omega
      rw [← e5]
      rfl
    · rw [e3 _ _ upd_same, et, firstsL_app, List.map_append]
      rfl
  · obtain ⟨⟨a0, rfl⟩, e1, hl⟩ := hp1
    rw [List.length_map, ← h3.len, List.take_length] at hl
    exact ⟨_, rfl, q H1 p e1 hp hl⟩
end
end Ls
set_option maxRecDepth 100000
set_option maxHeartbeats 4000000
/-! Stack's == -/
namespace Ls
open PySem PySem.Spec PyProof.Rows L2
section
variable {P : Program} {w : World} {K : PySem.W.Frag} {mg : Str → Option Value} {base : Heap}
def reqS (K : PySem.W.Frag) (n : Nat) (a b : Addr) (H : Hp) : Prop := ∃ es, depL es ≤ n + 1 ∧ AtT K H (.st es) a ∧ AtT K H (.st es) b ∧ (stepsL es).all ruOk = true
theorem reqS.ext {n : Nat} (a b : Addr) (H H' : Hp) (e : Ext H H') (h : reqS K n a b H) : reqS K n a b H' := by
  obtain ⟨es, h1, h2, h3, h4⟩ := h
  exact ⟨es, h1, h2.fz (Fz.of e), h3.fz (Fz.of e), h4⟩
theorem reqR.ext (a b : Addr) (H H' : Hp) (e : Ext H H') (h : reqR K a b H) : reqR K a b H' := by
  obtain ⟨r, h1, h2, h3⟩ := h
  exact ⟨r, h1.fz (Fz.of e), h2.fz (Fz.of e), h3⟩
theorem all_mem {e : Tr} : ∀ {es : List Tr}, e ∈ es → (stepsL es).all ruOk = true → e.steps.all ruOk = true
  | x :: es, h, a => by
    simp only [stepsL, List.all_append, Bool.and_eq_true] at a
    rcases List.mem_cons.mp h with z | z
    · rw [z]; exact a.1
    · exact all_mem z a.2
theorem sc_Stack_eq : FnScope ["self", "other"] ["self", "other"] (defScope s_Stack_eq) := ⟨rfl, rfl, rfl, by decide +kernel, rfl, by decide +kernel, by decide +kernel⟩
theorem key_Stack_eq (T : Txt w K mg) (n k : Nat) (D : Eqv) (hD : ∀ X : Cx, X.prog = P → X.w = w → X.K = K → X.mg = mg → X.base = base → X.calm = true → RcG X k (DTup K D))
    (hP : ∀ (H : Hp) (es : List Tr) (as bs : List Addr), depL es ≤ n + 1 → (stepsL es).all ruOk = true → AtL K H es as → AtL K H es bs → Prs D (as.map V.ref) (bs.map V.ref) H) :
    MF P w K mg base (k + 1) (cStack K) "__eq__" (a_Stack_eq K) (spEq (reqS K n)) := by
  obtain ⟨fd, F⟩ := T.d_Stack_eq
  refine ⟨fnr F sc_Stack_eq (F.binds fun _ _ _ _ _ _ us hl => match us, hl with | [_, _], _ => rfl) (by rintro vs H Q E ⟨_, _, rfl, _⟩; rfl) fun cdv A outer s H vs Q E hr h => ?_, T.m_Stack_eq, T.c_Stack⟩
  obtain ⟨a, b, rfl, ⟨es, hd, ⟨dx, tp, ts, tn, as, rs, h1, h2, h3, _⟩, ⟨dy, up, us, un, bs, cs, k1, k2, k3, _⟩, ho⟩, q⟩ := h
  refine ⟨_, (pss_one (ps_ret (pe_and (pcb call_isi T.f_isinstance (pa_cons (pv 1) (pa_cons (pgr T.g_Stack) pa_nil))) (pe_one (pe_cmpR (op_eqG (hD _ rfl rfl rfl rfl rfl rfl) hr) (pe_fld (pv 0) rfl) (pe_fld (pv 1) rfl) (nomark _)))))), ?_⟩
  refine ⟨_, rfl, _, .ref (cStack K), _, .ref (cStack K), true, rfl, .own _, T.tyS k1, kit_same K _, true, rfl, iteT ?_⟩
  refine ⟨_, rfl, a, cStack K, dx, _, _, rfl, h1, T.c_Stack, T.n_Stack_parts, rfl, _, rfl, b, cStack K, dy, _, _, rfl, k1, T.c_Stack, T.n_Stack_parts, rfl, ⟨tp, up, _, _, rfl, rfl, h2, k2, hP H es as bs hd ho h3 k3⟩, q⟩
theorem prsAt {D : Eqv} {H : Hp} {es : List Tr} {as bs : List Addr} (f : ∀ (i : Nat) (e : Tr) (x y : Addr), es[i]? = some e → AtT K H e x → AtT K H e y → D (.ref x) (.ref y) H) (ha : AtL K H es as) (hb : AtL K H es bs) : Prs D (as.map V.ref) (bs.map V.ref) H := by
  refine ⟨by rw [List.length_map, List.length_map, ← ha.len, ← hb.len], fun i x y hx hy => ?_⟩
  have hi : i < as.length := by simpa using (List.getElem?_eq_some_iff.mp hx).1
  have hla := ha.len
  obtain ⟨e, he⟩ : ∃ e, es[i]? = some e := ⟨_, List.getElem?_eq_getElem (by omega)⟩
  obtain ⟨x', hx', ax⟩ := ha.get he
  obtain ⟨y', hy', ay⟩ := hb.get he
  simp only [List.getElem?_map, hx', hy', Option.map_some, Option.some.injEq] at hx hy
  subst hx hy
  exact f i e _ _ he ax ay
theorem oneR {m : Str} {acts : List V} {x y : Addr} {H : Hp} (ho : ruOk (m, acts) = true) (ax : AtT K H (.rl m acts) x) (ay : AtT K H (.rl m acts) y) : DIns (cRule K) (reqR K) (.ref x) (.ref y) H := by
  obtain ⟨dx, t, h1, h2⟩ := id ax
  obtain ⟨dy, u, k1, k2⟩ := id ay
  exact ⟨x, y, dx, dy, _, _, rfl, rfl, h1, k1, (m, acts), ax, ay, ho⟩
theorem ruAt {es : List Tr} {i : Nat} {m : Str} {acts : List V} (he : es[i]? = some (.rl m acts)) (ho : (stepsL es).all ruOk = true) : ruOk (m, acts) = true := by
  have := all_mem (List.mem_of_getElem? he) ho
  simpa [Tr.steps] using this
theorem rcRule (T : Txt w K mg) (X : Cx) (e1 : X.prog = P) (e2 : X.w = w) (e3 : X.K = K) (e4 : X.mg = mg) (e5 : X.base = base) : RcG X 1 (DIns (cRule K) (reqR K)) := by
  subst e1 e2 e3 e4 e5
  exact rcR_ins (ok_Rule_eq T).run T.m_Rule_eq
theorem dinsRef {C : Addr} {R : Addr → Addr → Hp → Prop} (x y : V) (H : Hp) (d : DIns C R x y H) : ∃ a b, x = .ref a ∧ y = .ref b := by
  obtain ⟨a, b, _, _, _, _, ea, eb, _⟩ := d
  exact ⟨a, b, ea, eb⟩
theorem ok_Stack_eq (T : Txt w K mg) : ∀ n : Nat, MF P w K mg base (3 + 2 * n) (cStack K) "__eq__" (a_Stack_eq K) (spEq (reqS K n))
  | 0 => by
    refine key_Stack_eq T 0 2 (DIns (cRule K) (reqR K)) (fun X e1 e2 e3 e4 e5 hc => ?_) fun H es as bs hd ho ha hb => prsAt (fun i e x y he ax ay => ?_) ha hb
    · have := rcG_tup (X := X) (mon_ins (C := cRule K) reqR.ext) ((rcRule T X e1 e2 e3 e4 e5).eqG dinsRef)
      rw [e3] at this
      exact this
    · cases e with
      | rl m acts => exact oneR (ruAt he ho) ax ay
      | st es' =>
        have h1 := dep_mem (List.mem_of_getElem? he)
        have h2 := depL_pos es'
        simp only [Tr.dep] at h1
        omega
  | n + 1 => by
    have ih := ok_Stack_eq T n
    have eS : ∀ X : Cx, X.prog = P → X.w = w → X.K = K → X.mg = mg → X.base = base → RcG X (3 + 2 * n) (DIns (cStack K) (reqS K n)) := fun X e1 e2 e3 e4 e5 => by
      subst e1 e2 e3 e4 e5
      exact rcR_ins ih.run T.m_Stack_eq
    refine key_Stack_eq T (n + 1) (3 + 2 * n + 1) (fun x y H => DIns (cRule K) (reqR K) x y H ∨ DIns (cStack K) (reqS K n) x y H) (fun X e1 e2 e3 e4 e5 hc => ?_) fun H es as bs hd ho ha hb => prsAt (fun i e x y he ax ay => ?_) ha hb
    · have := rcG_tup (X := X) ((mon_ins (C := cRule K) reqR.ext).or (mon_ins (C := cStack K) reqS.ext)) ((((rcRule T X e1 e2 e3 e4 e5).eqG dinsRef).mono (by omega : 1 ≤ 3 + 2 * n)).or ((eS X e1 e2 e3 e4 e5).eqG dinsRef))
      rw [e3] at this
      exact this
    · cases e with
      | rl m acts => exact .inl (oneR (ruAt he ho) ax ay)
      | st es' =>
        have h1 := dep_mem (List.mem_of_getElem? he)
        simp only [Tr.dep] at h1
        obtain ⟨dx, tp, ts, tn, as', rs, g1, _⟩ := id ax
        obtain ⟨dy, up, us, un, bs', cs, g2, _⟩ := id ay
        have ho' := all_mem (List.mem_of_getElem? he) ho
        exact .inr ⟨x, y, dx, dy, _, _, rfl, rfl, g1, g2, es', by omega, ax, ay, by simpa [Tr.steps] using ho'⟩
end
end Ls
set_option maxRecDepth 100000
set_option maxHeartbeats 4000000
/-! runs: marked -/
namespace Ls
open PySem PySem.Spec PyProof.Rows L2
section
variable {P : Program} {w : World} {K : PySem.W.Frag} {mg : Str → Option Value} {base : Heap}
def mkS : Mk1 → Str
  | .none => "none"
  | .good => "good"
  | .bad => "bad"
def MkV (K : PySem.W.Frag) (H : Hp) (mk : Mk1) (v : V) : Prop := ∃ a x, v = .ref a ∧ SqT K H a [.str (mkS mk), x] ∧ atom x = true ∧ (mk ≠ .bad → x = .non)
theorem MkV.fz {H H' : Hp} {mk : Mk1} {v : V} (h : MkV K H mk v) (e : Fz H H') : MkV K H' mk v := by
  obtain ⟨a, x, h1, h2, h3, h4⟩ := h
  exact ⟨a, x, h1, SqT.fz h2 e, h3, h4⟩
theorem mkS_ok (mk : Mk1) : PyData.strOk (mkS mk) = true := by cases mk <;> decide +kernel
theorem mkS_inj {a b : Mk1} : mkS a = mkS b ↔ a = b := by
  cases a <;> cases b <;> decide +kernel
theorem mk_atoms {mk : Mk1} {x : V} (h : atom x = true) : ([.str (mkS mk), x] : List V).all atom = true := by
  simp only [List.all_cons, List.all_nil, Bool.and_true, h]
  exact mkS_ok mk
theorem mk_eq {mk mb : Mk1} {x y : V} (hb : mb ≠ .bad) (hx : mk ≠ .bad → x = .non) (hy : y = .non) : decide (([.str (mkS mk), x] : List V) = [.str (mkS mb), y]) = decide (mk = mb) := by
  subst hy
  by_cases c : mk = mb
  · subst c
    rw [hx hb]
    simp
  · have h1 : mkS mk ≠ mkS mb := fun z => c (mkS_inj.mp z)
    simp [c, h1]
theorem inV2 (x : V) (a b : Str) : inV x [.str a, .str b] = decide (x = .str a ∨ x = .str b) := by
  cases x with
  | str z =>
    have h : inV (.str z) [.str a, .str b] = ((a == z) || ((b == z) || false)) := rfl
    rw [h, Bool.or_false, Bool.eq_iff_iff]
    simp only [Bool.or_eq_true, beq_iff_eq, decide_eq_true_eq, V.str.injEq]
    exact ⟨fun h => h.imp Eq.symm Eq.symm, fun h => h.imp Eq.symm Eq.symm⟩
  | _ => simp [inV, eqV]
theorem act_flat {x : V} (h : isActB x = true) : flatV x = true := by
  rcases act_cases h with (e | e | e | e | e | e) | ⟨n, e, _⟩ <;> subst e <;> rfl
theorem good_at (T : Txt w K mg) (H : Hp) : MkV K H .good (.ref (He.ga K "GOOD")) := ⟨_, .non, rfl, T.good_ H, rfl, fun _ => rfl⟩
theorem none_at (T : Txt w K mg) (H : Hp) : MkV K H .none (.ref (He.ga K "NONE")) := ⟨_, .non, rfl, T.none_ H, rfl, fun _ => rfl⟩
def spMarked (K : PySem.W.Frag) : Sp := fun vs H Q _ => ∃ (act vm vb : V) (n : Int) (mk mb : Mk1), vs = [act, vm, vb, .int n] ∧ isActB act = true ∧ MkV K H mk vm ∧ MkV K H mb vb ∧ ∀ H' v, Ext H H' → MkV K H' (mkF act mk mb) v → Q v H'
theorem sc_marked : FnScope ["action", "mark", "begin", "number"] ["action", "mark", "begin", "number"] (defScope s_marked) := ⟨rfl, rfl, rfl, by decide +kernel, rfl, by decide +kernel, by decide +kernel⟩
theorem ok_marked (T : Txt w K mg) : GF P w K mg base 1 "marked" (He.ga K "marked") (spMarked K) := by
  obtain ⟨fd, F⟩ := T.d_marked
  refine gf_of F T.g_marked (fnr F sc_marked (F.binds fun _ _ _ _ _ _ us hl => match us, hl with | [_, _, _, _], _ => rfl) (by rintro vs H Q E ⟨_, _, _, _, _, _, rfl, _⟩; rfl) fun cdv A outer s H vs Q E hr h => ?_)
  obtain ⟨act, vm, vb, n, mk, mb, rfl, ha, hm, hb, q⟩ := h
  refine ⟨_, (pss_cons (ps_if (pt_cmpR op_in_seq (pv 0) (pe_tup (pa_cons (pgs "ok" T.t_OK) (pa_cons (pgs "done" T.t_DONE) pa_nil))) (by rfl)) (pss_one (ps_ret (pe_ifExp (pt_cmpR (op_eqT hr.units) (pv 1) (pgr T.g_NONE) (nomark _)) (pgr T.g_GOOD) (pv 1)))) pss_nil)
    (pss_cons (ps_if (pt_cmpR op_in_seq (pv 0) (pe_tup (pa_cons (pgs "bad" T.t_BAD) (pa_cons (pgs "die" T.t_DIE) pa_nil))) (by rfl)) (pss_one (ps_ret (pe_ifExp (pt_cmpR op_eq (pe_ix ix_tup (pv 1) pe_int (fun _ _ => rfl)) (pgs "bad" T.t_BAD) (nomark _)) (pv 1) (pe_tup (pa_cons (pgs "bad" T.t_BAD) (pa_cons (pv 3) pa_nil)))))) pss_nil)
    (pss_one (ps_ret (pe_ifExp (pt_cmpR op_eq (pv 0) (pgs "reset" T.t_RESET) (nomark _)) (pv 2) (pv 1)))))), ?_⟩
  have fa := act_flat ha
  refine ⟨_, rfl, by show 2 ≤ sizeLine; decide, fun p hp => ?_⟩
  have e1 : Ext H (upd H p (.tup [.str "ok", .str "done"])) := Ext.upd hp
  refine ⟨p, _, rfl, .inr (SqT.of upd_same), fa, rfl, _, rfl, ?_⟩
  by_cases c1 : act = .str "ok" ∨ act = .str "done"
  · have ei : inV act [.str "ok", .str "done"] = true := by rw [inV2, decide_eq_true c1]
    have ef : ∀ m, mkF act mk mb = m ↔ (if mk = .none then Mk1.good else mk) = m := fun m => by unfold mkF; rw [if_pos c1]
    show if (if false = true then !inV act [.str "ok", .str "done"] else inV act [.str "ok", .str "done"]) = true then _ else _
    rw [if_neg Bool.false_ne_true, ei]
    refine iteT ?_
    obtain ⟨a, x, rfl, k1, k2, k3⟩ := hm.fz (Fz.of e1)
    refine ⟨_, rfl, a, _, _, _, rfl, rfl, k1, T.none_ _, mk_atoms k2, by decide +kernel, _, rfl, ?_⟩
    show if decide (([.str (mkS mk), x] : List V) = [.str (mkS .none), .non]) = true then _ else _
    rw [mk_eq (by simp) k3 rfl]
    by_cases c2 : mk = .none
    · rw [decide_eq_true c2]
      refine iteT (q _ _ e1 ?_)
      rw [(ef _).mpr rfl, if_pos c2]
      exact good_at T _
    · rw [decide_eq_false c2]
      refine iteF ⟨_, rfl, q _ _ e1 ?_⟩
      rw [(ef _).mpr rfl, if_neg c2]
      exact ⟨a, x, rfl, k1, k2, k3⟩
  · have ei : inV act [.str "ok", .str "done"] = false := by rw [inV2, decide_eq_false c1]
    show if (if false = true then !inV act [.str "ok", .str "done"] else inV act [.str "ok", .str "done"]) = true then _ else _
    rw [if_neg Bool.false_ne_true, ei]
    refine iteF ?_
    refine ⟨_, rfl, by show 2 ≤ sizeLine; decide, fun p2 hp2 => ?_⟩
    have e2 := e1.upd' hp2 (o := .tup [.str "bad", .str "die"])
    refine ⟨p2, _, rfl, .inr (SqT.of upd_same), fa, rfl, _, rfl, ?_⟩
    by_cases c2 : act = .str "bad" ∨ act = .str "die"
    · have ei : inV act [.str "bad", .str "die"] = true := by rw [inV2, decide_eq_true c2]
      have ef : mkF act mk mb = .bad := by unfold mkF; rw [if_neg c1, if_pos c2]
      show if (if false = true then !inV act [.str "bad", .str "die"] else inV act [.str "bad", .str "die"]) = true then _ else _
      rw [if_neg Bool.false_ne_true, ei]
      refine iteT ?_
      obtain ⟨a, x, rfl, k1, k2, k3⟩ := hm.fz (Fz.of e2)
      refine ⟨_, rfl, a, _, 0, _, rfl, rfl, k1, atI_nat (j := 0) rfl, rfl, _, rfl, ?_⟩
      show if decide (V.str (mkS mk) = V.str "bad") = true then _ else _
      by_cases c3 : mk = .bad
      · subst c3
        refine iteT ⟨_, rfl, q _ _ e2 ?_⟩
        rw [ef]
        exact ⟨a, x, rfl, k1, k2, k3⟩
      · have h1 : ¬ (V.str (mkS mk) = V.str "bad") := fun z => c3 (mkS_inj.mp (V.str.inj z))
        rw [decide_eq_false h1]
        refine iteF ⟨_, rfl, by show 2 ≤ sizeLine; decide, fun p3 hp3 => q _ _ (e2.upd' hp3) ?_⟩
        rw [ef]
        exact ⟨p3, .int n, rfl, SqT.of upd_same, rfl, fun z => absurd rfl z⟩
    · have ei : inV act [.str "bad", .str "die"] = false := by rw [inV2, decide_eq_false c2]
      show if (if false = true then !inV act [.str "bad", .str "die"] else inV act [.str "bad", .str "die"]) = true then _ else _
      rw [if_neg Bool.false_ne_true, ei]
      refine iteF ⟨_, rfl, ?_⟩
      have hs : scal act (.str "reset") = true := by
        rcases act_cases ha with (e | e | e | e | e | e) | ⟨n, e, _⟩ <;> subst e <;> rfl
      refine ⟨hs, _, rfl, ?_⟩
      by_cases c3 : act = .str "reset"
      · rw [decide_eq_true c3]
        refine iteT ⟨_, rfl, q _ _ e2 ?_⟩
        have ef : mkF act mk mb = mb := by unfold mkF; rw [if_neg c1, if_neg c2, if_pos c3]
        rw [ef]
        exact hb.fz (Fz.of e2)
      · rw [decide_eq_false c3]
        refine iteF ⟨_, rfl, q _ _ e2 ?_⟩
        have ef : mkF act mk mb = mk := by unfold mkF; rw [if_neg c1, if_neg c2, if_neg c3]
        rw [ef]
        exact hm.fz (Fz.of e2)
end
end Ls
set_option maxRecDepth 100000
set_option maxHeartbeats 4000000
/-! runs: Run -/
namespace Ls
open PySem PySem.Spec PyProof.Rows L2
theorem AtT.ok {K : PySem.W.Frag} {H : Hp} {es : List Tr} {x : Addr} (h : AtT K H (.st es) x) : Ok es := by
  obtain ⟨dx, tp, ts, tn, as, rs, h1, h2, h3, h4, h5, h6, h7, h8⟩ := h
  exact h8
theorem endL_skip (ans : Str → Str) (begin : Mk1) : ∀ (es : List Tr) (k : Nat) (mk : Mk1), endL ans begin es k mk = endL ans begin (es.drop k) 0 mk
  | [], k, mk => by simp [endL]
  | e :: es, 0, mk => rfl
  | e :: es, k + 1, mk => by
    rw [endL, List.drop_succ_cons]
    exact endL_skip ans begin es k mk
theorem steps_drop (es : List Tr) {i j : Nat} (h : i ≤ j) : (stepsL (es.drop j)).length ≤ (stepsL (es.drop i)).length := by
  have e : es.drop j = (es.drop i).drop (j - i) := by rw [List.drop_drop]; congr 1; omega
  have e2 : stepsL (es.drop i) = stepsL ((es.drop i).take (j - i)) ++ stepsL ((es.drop i).drop (j - i)) := by rw [← stepsL_append, List.take_append_drop]
  rw [e, e2, List.length_append]
  omega
/-- the answers stand in the dict at d -/
def AnsAt (H : Hp) (d : Addr) (ans : Str → Str) (ms : List Str) : Prop := ∃ kvs, H d = some (.dK kvs) ∧ ∀ m ∈ ms, valV kvs (.inr m) = some (.str (ans m)) ∧ ans m ∈ resS
theorem AnsAt.ext {H H' : Hp} {d : Addr} {ans : Str → Str} {ms : List Str} (h : AnsAt H d ans ms) (e : H' d = H d) : AnsAt H' d ans ms := by
  obtain ⟨kvs, h1, h2⟩ := h
  exact ⟨kvs, e.trans h1, h2⟩
theorem actFor_ok {acts : List V} {z : Str} (h : actsOk acts = true) (hz : z ∈ resS) : isActB (actFor acts z) = true := by
  obtain ⟨_, _, h3⟩ := res_at hz
  have h1 := (Bool.and_eq_true_iff.mp h).1
  have h2 := (Bool.and_eq_true_iff.mp h).2
  have h4 : acts.length = 4 := by simpa using h1
  have hx : acts[resIx z]? = some (actFor acts z) := by
    unfold actFor
    rw [List.getD_eq_getElem?_getD, List.getElem?_eq_getElem (by omega)]
    rfl
  exact List.all_eq_true.mp h2 _ (List.mem_of_getElem? hx)
theorem act_scal {x : V} {z : Str} (h : isActB x = true) : scal x (.str z) = true := by
  rcases act_cases h with (e | e | e | e | e | e) | ⟨n, e, _⟩ <;> subst e <;> rfl
/-- how far an action jumps -/
def jmp : V → Nat
  | .int n => n.toNat
  | _ => 0
theorem endL_rl (ans : Str → Str) (begin mk : Mk1) (m : Str) (acts : List V) (es : List Tr) : endL ans begin (.rl m acts :: es) 0 mk =
    if actFor acts (ans m) = .str "die" ∨ (actFor acts (ans m) = .str "done" ∧ mkF (actFor acts (ans m)) mk begin = .good) then mkF (actFor acts (ans m)) mk begin
    else endL ans begin (es.drop (jmp (actFor acts (ans m)))) 0 (mkF (actFor acts (ans m)) mk begin) := by
  rw [endL, ← endL_skip]
  rfl
section
variable {P : Program} {w : World} {K : PySem.W.Frag} {mg : Str → Option Value} {base : Heap}
def spEnded (K : PySem.W.Frag) (n : Nat) : Sp := fun vs H Q _ => ∃ (r st dr d l : Addr) (first : Int) (vm : V) (mk : Mk1) (es : List Tr) (ans : Str → Str) (xs : List V), vs = [.ref r, .ref st, .int first, vm] ∧
  H r = some (.ins (cRun K) dr [("told", .ref d), ("asked_rules", .ref l)]) ∧ AnsAt H d ans (modsL es) ∧ H l = some (.lst xs) ∧ xs.length + (stepsL es).length ≤ 100 ∧ AtT K H (.st es) st ∧ depL es ≤ n + 1 ∧ MkV K H mk vm ∧
  ∀ H' v ys, Sm [l] H H' → H' l = some (.lst ys) → ys.length ≤ xs.length + (stepsL es).length → MkV K H' (endL ans mk es 0 mk) v → Q v H'
theorem sc_Run_ended : FnScope ["self", "stack", "first", "mark", "begin", "index", "firsts", "entry", "number", "action"] ["self", "stack", "first", "mark"] (defScope s_Run_ended) := ⟨rfl, rfl, rfl, by decide +kernel, rfl, by decide +kernel, by decide +kernel⟩
theorem key_Run_ended (T : Txt w K mg) (n k : Nat) (hk : 2 ≤ k) (G : ∃ spR, MF P w K mg base k (cRun K) "ended" (a_Run_ended K) spR ∧ ∀ vs H Q E, spEnded K (n - 1) vs H Q E → 0 < n → spR vs H Q E) : MF P w K mg base (k + 1) (cRun K) "ended" (a_Run_ended K) (spEnded K n) := by
  obtain ⟨spR, GR, hR⟩ := G
  obtain ⟨fd, F⟩ := T.d_Run_ended
  refine ⟨fnr F sc_Run_ended (F.binds fun _ _ _ _ _ _ us hl => match us, hl with | [_, _, _, _], _ => rfl) (by rintro vs H Q E ⟨_, _, _, _, _, _, _, _, _, _, _, rfl, _⟩; rfl) fun cdv A outer s H vs Q E hr h => ?_, T.m_Run_ended, T.c_Run⟩
  obtain ⟨r, st, dr, d, l, first, vm, mk, es, ans, xs, rfl, hr1, had, hx, hxs, hst, hn, hm, q⟩ := h
  refine ⟨_, (pss_cons (ps_par (i := 4) (j := 5) (by rfl) sc_Run_ended.nd rfl rfl (by decide) rfl rfl (pa_cons (pv 3) (pa_cons pe_int pa_nil)) (by rfl))
    (pss_cons (ps_set (i := 6) sc_Run_ended.nd rfl (.inl rfl) (pcall (ok_firsts_of T) (hr.mono (by first | decide | omega)) (pa_cons (pv 1) (pa_cons (pv 2) pa_nil))))
    (pss_cons (ps_while PassesOwn.never (pt_cmpR op_lt (pv 5) (pcb call_len_seq T.f_len (pa_cons (pe_fld (pv 1) rfl) pa_nil)) (nomark _))
    (pss_cons (ps_par (i := 7) (j := 8) (by rfl) sc_Run_ended.nd rfl rfl (by decide) rfl rfl (pa_cons (pe_ix ix_tup (pe_fld (pv 1) rfl) (pv 5) (fun _ _ => rfl)) (pa_cons (pe_ix ix_list (pv 6) (pv 5) (fun _ _ => rfl)) pa_nil)) (by rfl))
    (pss_cons (ps_aug (i := 5) sc_Run_ended.nd rfl (.inl rfl) pe_int ip_add)
    (pss_cons (ps_if (pt_val (pcb call_isi T.f_isinstance (pa_cons (pv 7) (pa_cons (pgr T.g_Stack) pa_nil)))) (pss_cons (ps_set (i := 3) sc_Run_ended.nd rfl (.inl rfl) (pmeth (pv 0) GR (hr.mono (by first | decide | omega)) (pa_cons (pv 7) (pa_cons (pv 8) (pa_cons (pv 3) pa_nil)))))
    (pss_one ps_continue)) pss_nil)
    (pss_cons (ps_expr (pe_bm PySem.F.plainAttrs_list PySem.F.slot_list_append PySem.F.type_list_append mt_append (pe_fld (pv 0) rfl) (pa_cons (pv 8) pa_nil)))
    (pss_cons (ps_set (i := 9) sc_Run_ended.nd rfl (.inl rfl) (pmeth (pv 7) (ok_Rule_action_for T) (hr.mono (by first | decide | omega)) (pa_cons (pe_dget (hu_of hr) (pe_fld (pv 0) rfl) (pe_fld (pv 7) rfl) (fun _ _ => rfl)) pa_nil)))
    (pss_cons (ps_set (i := 3) sc_Run_ended.nd rfl (.inl rfl) (pcall (ok_marked T) (hr.mono (by first | decide | omega)) (pa_cons (pv 9) (pa_cons (pv 3) (pa_cons (pv 4) (pa_cons (pv 8) pa_nil))))))
    (pss_cons (ps_if (PW.pt (pw_or (pt_cmpR op_eq (pv 9) (pgs "die" T.t_DIE) (nomark _)) (pw_or1 (PW.pt (pw_and (pt_cmpR op_eq (pv 9) (pgs "done" T.t_DONE) (nomark _)) (pw_and1 (pt_cmpR (op_eqT hr.units) (pv 3) (pgr T.g_GOOD) (nomark _)))))))) (pss_one (ps_ret (pv 3))) pss_nil)
    (pss_one (ps_if (pt_val (pcb call_isi T.f_isinstance (pa_cons (pv 9) (pa_cons (pty "int" T.f_int) pa_nil)))) (pss_one (ps_aug (i := 5) sc_Run_ended.nd rfl (.inl rfl) (pv 9) ip_add)) pss_nil))))))))))
    (pss_one (ps_ret (pv 3)))))), ?_⟩
  have hlr : l ≠ r := ne_of hx hr1 (by intro z; cases z)
  obtain ⟨kvs, hd, hans⟩ := had
  have hld : l ≠ d := ne_of hx hd (by intro z; cases z)
  have fzl : ∀ {H1 : Hp}, Sm [l] H H1 → Fz H H1 := fun s => s.fz fun b hb o e => by
    rw [List.mem_singleton.mp hb, hx] at e
    cases e
    rfl
  have hok := hst.ok
  refine ⟨_, rfl, _, _, rfl, ?_⟩
  refine ⟨_, rfl, _, rfl, st, es, first, rfl, hst, hok.len, fun H1 p1 e1 n1 hp1 => ?_⟩
  have hlp : l ≠ p1 := ne_of_none hx n1
  let W : Nat → L2.St → Hp → Prop := fun m σ H2 => ∃ (i : Nat) (mk' : Mk1) (v' e0 n0 a0 : Option V) (vm' : V) (ys : List V), m = es.length - i ∧
    σ = [some (.ref r), some (.ref st), some (.int first), some vm', some vm, some (.int (i : Nat)), some (.ref p1), e0, n0, a0] ∧ Sm [l] H H2 ∧ H2 l = some (.lst ys) ∧
    ys.length + (stepsL (es.drop i)).length ≤ xs.length + (stepsL es).length ∧ H2 p1 = some (.lst ((firstsL first es).map V.int)) ∧ MkV K H2 mk' vm' ∧ endL ans mk (es.drop i) 0 mk' = endL ans mk es 0 mk
  refine ⟨W, ⟨_, 0, mk, none, none, none, none, vm, xs, rfl, rfl, Sm.of e1, e1 _ _ hx, by simp, hp1, hm.fz (Fz.of e1), rfl⟩, ?_⟩
  rintro m σ H2 ⟨i, mk', v', e0, n0, a0, vm', ys, rfl, rfl, sm, hy, hyl, hp2, hm2, hend⟩
  have hst2 := hst.fz (fzl sm)
  obtain ⟨dx, tp, ts, tn, as, rs, k1, k2, k3, k4, k5, _⟩ := id hst2
  have hla := k3.len
  refine ⟨_, rfl, _, rfl, st, cStack K, dx, _, _, rfl, k1, T.c_Stack, T.n_Stack_parts, rfl, tp, _, rfl, .inr k2, _, _, rfl, rfl, _, rfl, ?_⟩
  have hlen2 : ((as.map V.ref).length : Int) = ((es.length : Nat) : Int) := by rw [List.length_map, hla]
  by_cases hi : i < es.length
  · rw [decide_eq_true (by rw [hlen2]; omega)]
    refine iteT ⟨fun σ' H' => ∃ m', m' < es.length - i ∧ W m' σ' H', fun _ _ z => z, ?_⟩
    obtain ⟨e, he⟩ : ∃ e, es[i]? = some e := ⟨_, List.getElem?_eq_getElem hi⟩
    obtain ⟨a, ha, hat⟩ := k3.get he
    obtain ⟨f, hf⟩ : ∃ f, (firstsL first es)[i]? = some f := ⟨_, List.getElem?_eq_getElem (by rw [firstsL_len]; exact hi)⟩
    refine ⟨_, rfl, st, cStack K, dx, _, _, rfl, k1, T.c_Stack, T.n_Stack_parts, rfl, _, rfl, tp, _, _, _, rfl, rfl, k2, atI_nat (v := V.ref a) (by rw [List.getElem?_map, ha]; rfl), ?_⟩
    refine ⟨_, rfl, _, rfl, p1, _, _, _, rfl, rfl, SqL.of hp2, atI_nat (v := V.int f) (by rw [List.getElem?_map, hf]; rfl), _, _, rfl, ?_⟩
    refine ⟨_, rfl, _, _, rfl, rfl, ?_⟩
    have hdr : es.drop i = e :: es.drop (i + 1) := by
      rw [List.drop_eq_getElem_cons hi]
      congr 1
      rw [List.getElem?_eq_getElem hi] at he
      exact Option.some.inj he
    rw [hdr] at hend hyl
    obtain ⟨c, i1, i2, i3⟩ := hat.isi T
    refine ⟨_, rfl, _, .ref (cStack K), _, _, _, rfl, .own _, i1, i2, _, rfl, ?_⟩
    have hmem := List.mem_of_getElem? he
    cases e with
    | st es' =>
      refine iteT ?_
      have hdm := dep_mem hmem
      have hdp := depL_pos es'
      simp only [Tr.dep] at hdm
      have hms : ∀ x ∈ modsL es', x ∈ modsL es := fun x hx2 => by
        unfold modsL at hx2 ⊢
        obtain ⟨rr, hrr, rfl⟩ := List.mem_map.mp hx2
        refine List.mem_map.mpr ⟨rr, ?_, rfl⟩
        rw [← List.take_append_drop i es, stepsL_append, hdr]
        simp only [stepsL, Tr.steps, List.mem_append]
        exact .inr (.inl hrr)
      simp only [stepsL, Tr.steps, List.length_append] at hyl
      have hr2 : H2 r = some (.ins (cRun K) dr [("told", .ref d), ("asked_rules", .ref l)]) := sm _ _ hr1 (by simpa using hlr.symm)
      have hd2 : H2 d = some (.dK kvs) := sm _ _ hd (by simpa using hld.symm)
      refine ⟨_, rfl, r, dr, _, rfl, hr2, rfl, _, rfl, _, rfl, _, rfl, ?_⟩
      refine hR _ _ _ _ ⟨r, a, dr, d, l, f, vm', mk', es', ans, ys, rfl, hr2, ⟨kvs, hd2, fun x hx2 => hans x (hms x hx2)⟩, hy, by omega, hat, by omega, hm2, fun H3 v ys3 s3 hl3 hyl3 hm3 => ?_⟩ (by omega)
      have n2 : H2 p1 ≠ none := by rw [hp2]; intro z; cases z
      have hp13 : p1 ≠ l := hlp.symm
      refine ⟨es.length - (i + 1), by omega, i + 1, _, some (.ref a), some (.ref a), some (.int f), a0, v, ys3, rfl, rfl, sm.trans s3, hl3, by omega, s3 _ _ hp2 (by simpa using hp13), hm3, ?_⟩
      rw [endL] at hend
      exact hend
    | rl mm acts =>
      refine iteF ?_
      simp only [stepsL, Tr.steps, List.length_append, List.length_cons, List.length_nil] at hyl
      have hr2 : H2 r = some (.ins (cRun K) dr [("told", .ref d), ("asked_rules", .ref l)]) := sm _ _ hr1 (by simpa using hlr.symm)
      have hmm : mm ∈ modsL es := by
        unfold modsL
        refine List.mem_map.mpr ⟨(mm, acts), ?_, rfl⟩
        rw [← List.take_append_drop i es, stepsL_append, hdr]
        simp only [stepsL, Tr.steps, List.mem_append, List.cons_append, List.nil_append, List.mem_cons, true_or, or_true]
      have hru : ruOk (mm, acts) = true := ruAt he hok.rus
      have hacts : actsOk acts = true := (Bool.and_eq_true_iff.mp hru).2
      refine ⟨_, rfl, r, cRun K, dr, _, _, rfl, hr2, T.c_Run, T.n_Run_asked_rules, rfl, .inl ⟨rfl, _, SqL.of hy⟩, _, rfl, l, _, _, rfl, rfl, hy, Nat.lt_of_le_of_lt (by omega : ys.length ≤ 1000) (by decide), ?_⟩
      generalize hH3 : upd H2 l (.lst (ys ++ [.int f])) = H3
      have s3 : Sm [l] H2 H3 := by rw [← hH3]; exact (Sm.refl _ _).upd (List.mem_singleton.mpr rfl)
      have hl3 : H3 l = some (.lst (ys ++ [.int f])) := by rw [← hH3]; exact upd_same
      have sm3 := sm.trans s3
      have fz3 : Fz H2 H3 := s3.fz fun b hb o e => by
        rw [List.mem_singleton.mp hb, hy] at e
        cases e
        rfl
      have hr3 : H3 r = some (.ins (cRun K) dr [("told", .ref d), ("asked_rules", .ref l)]) := s3 _ _ hr2 (by simpa using hlr.symm)
      have hd3 : H3 d = some (.dK kvs) := sm3 _ _ hd (by simpa using hld.symm)
      have hat3 : RuAt K H3 (mm, acts) a := (show RuAt K H2 (mm, acts) a from hat).fz fz3
      obtain ⟨dy, ta, g1, g2⟩ := id hat3
      have hw : ∀ x : V, (x = .str mm → valV kvs (.inr mm) = some (.str (ans mm))) := fun x _ => (hans mm hmm).1
      refine ⟨_, rfl, a, dy, _, rfl, g1, rfl, ?_⟩
      refine ⟨_, rfl, r, cRun K, dr, _, _, rfl, hr3, T.c_Run, T.n_Run_told, rfl, _, rfl, a, cRule K, dy, _, _, rfl, g1, T.c_Rule, T.n_Rule_asks, rfl, d, .str (ans mm), rfl, ?_, ?_⟩
      · have := DGet.k (k := Sum.inr mm) hd3
        rw [(hans mm hmm).1] at this
        exact this
      refine ⟨a, (mm, acts), ans mm, rfl, hat3, hacts, (hans mm hmm).2, ?_⟩
      have hact := actFor_ok hacts (hans mm hmm).2
      rw [endL_rl] at hend
      generalize actFor acts (ans mm) = act at hact hend ⊢
      refine ⟨_, rfl, _, rfl, _, rfl, _, rfl, act, vm', vm, f, mk', mk, rfl, hact, hm2.fz fz3, hm.fz (fzl sm3), fun H4 v4 e4 hm4 => ?_⟩
      have sm4 : Sm [l] H H4 := sm3.trans (Sm.of e4)
      have hl4 := e4 _ _ hl3
      have hyl4 : (ys ++ [V.int f]).length + (stepsL (es.drop (i + 1))).length ≤ xs.length + (stepsL es).length := by
        rw [List.length_append, List.length_singleton]
        omega
      have ret : mkF act mk' mk = endL ans mk es 0 mk → Q v4 H4 := fun z => q H4 v4 _ sm4 hl4 (by omega) (by rw [← z]; exact hm4)
      have next : ∀ (a1 : Option V) (j : Nat), j = jmp act → endL ans mk ((es.drop (i + 1)).drop j) 0 (mkF act mk' mk) = endL ans mk es 0 mk →
          ∃ m', m' < es.length - i ∧ W m' [some (.ref r), some (.ref st), some (.int first), some v4, some vm, some (.int (((i + 1 + j : Nat)) : Int)), some (.ref p1), some (.ref a), some (.int f), some act] H4 := fun a1 j ej ez => by
        refine ⟨es.length - (i + 1 + j), by omega, i + 1 + j, _, none, _, _, _, v4, _, rfl, rfl, sm4, hl4, Nat.le_trans (Nat.add_le_add_left (steps_drop es (by omega)) _) hyl4, e4 _ _ (s3 _ _ hp2 (by simpa using hlp.symm)), hm4, ?_⟩
        rw [List.drop_drop] at ez
        exact ez
      refine ⟨_, rfl, act_scal hact, _, rfl, ?_⟩
      by_cases c1 : act = .str "die"
      · rw [decide_eq_true c1]
        refine iteT (iteT ⟨_, rfl, ret ?_⟩)
        rw [if_pos (.inl c1)] at hend
        exact hend
      · rw [decide_eq_false c1]
        refine iteF ⟨_, rfl, act_scal hact, _, rfl, ?_⟩
        have hkind : (∃ z, act = .str z) ∨ ∃ n : Int, act = .int n ∧ 1 ≤ n := by
          rcases act_cases hact with (e | e | e | e | e | e) | ⟨n, e, h1, _⟩
          all_goals first | exact .inl ⟨_, e⟩ | exact .inr ⟨n, e, h1⟩
        by_cases c2 : act = .str "done"
        · rw [decide_eq_true c2]
          obtain ⟨av, xv, rfl, w2, w3, w4⟩ := id hm4
          refine iteT ⟨_, rfl, av, _, _, _, rfl, rfl, w2, T.good_ _, mk_atoms w3, by decide +kernel, _, rfl, ?_⟩
          show if decide (([.str (mkS (mkF act mk' mk)), xv] : List V) = [.str (mkS .good), .non]) = true then _ else _
          rw [show decide (([.str (mkS (mkF act mk' mk)), xv] : List V) = [.str (mkS .good), .non]) = decide (mkF act mk' mk = .good) from mk_eq (by simp) w4 rfl]
          by_cases c3 : mkF act mk' mk = .good
          · rw [decide_eq_true c3]
            refine iteT ⟨_, rfl, ret ?_⟩
            rw [if_pos (.inr ⟨c2, c3⟩)] at hend
            exact hend
          · rw [decide_eq_false c3]
            rw [if_neg (fun z => z.elim c1 fun y => c3 y.2)] at hend
            refine iteF ?_
            rcases hkind with ⟨z, rfl⟩ | ⟨n, rfl, h1⟩
            · exact ⟨_, rfl, _, .ty "int", _, _, false, rfl, .ty "int", .base (.str z), kit_ty (by decide +kernel), false, rfl, iteF (next none 0 rfl hend)⟩
            · exact absurd c2 (by intro z; cases z)
        · rw [decide_eq_false c2]
          rw [if_neg (fun z => z.elim c1 fun y => c2 y.1)] at hend
          refine iteF (iteF ?_)
          rcases hkind with ⟨z, rfl⟩ | ⟨n, rfl, h1⟩
          · exact ⟨_, rfl, _, .ty "int", _, _, false, rfl, .ty "int", .base (.str z), kit_ty (by decide +kernel), false, rfl, iteF (next none 0 rfl hend)⟩
          · refine ⟨_, rfl, _, .ty "int", _, _, true, rfl, .ty "int", .base (.int n), kit_ty (by decide +kernel), true, rfl, iteT ⟨_, rfl, _, rfl, _, _, rfl, rfl, ?_⟩⟩
            have := next none n.toNat rfl hend
            have e5 : ((i + 1 + n.toNat : Nat) : Int) = (i : Nat) + 1 + n := by omega
            rw [e5] at this
            exact this
  · rw [decide_eq_false (by rw [hlen2]; omega)]
    refine iteF ⟨_, rfl, q H2 vm' ys sm hy (by omega) ?_⟩
    rw [List.drop_of_length_le (by omega)] at hend
    rw [← hend]
    simp only [endL]
    exact hm2
end
end Ls
set_option maxRecDepth 100000
set_option maxHeartbeats 4000000
/-! Run's __init__, outcome -/
namespace Ls
open PySem PySem.Spec PyProof.Rows L2
section
variable {P : Program} {w : World} {K : PySem.W.Frag} {mg : Str → Option Value} {base : Heap}
theorem ok_Run_ended (T : Txt w K mg) : ∀ n : Nat, MF P w K mg base (3 + n) (cRun K) "ended" (a_Run_ended K) (spEnded K n)
  | 0 => key_Run_ended T 0 2 (by decide) ⟨fun _ _ _ _ => False, ⟨fun _ _ _ _ _ _ _ _ _ _ _ h => h.elim, T.m_Run_ended, T.c_Run⟩, fun _ _ _ _ _ z => absurd z (Nat.lt_irrefl _)⟩
  | n + 1 => key_Run_ended T (n + 1) (3 + n) (by omega) ⟨spEnded K n, ok_Run_ended T n, fun _ _ _ _ h _ => h⟩
def spRunI (K : PySem.W.Frag) (n : Nat) : Sp := fun vs H Q _ => ∃ (x st d dx : Addr) (es : List Tr) (ans : Str → Str), vs = [.ref x, .ref st, .ref d] ∧ H x = some (.ins (cRun K) dx []) ∧ AtT K H (.st es) st ∧ depL es ≤ n + 1 ∧ AnsAt H d ans (modsL es) ∧
  ∀ H' l v, Sm [x] H H' → H' x = some (.ins (cRun K) dx [("told", .ref d), ("asked_rules", .ref l), ("mark", v)]) → MkV K H' (endL ans .none es 0 .none) v → Q .non H'
theorem sc_Run_init : FnScope ["self", "stack", "results"] ["self", "stack", "results"] (defScope s_Run_init) := ⟨rfl, rfl, rfl, by decide +kernel, rfl, by decide +kernel, by decide +kernel⟩
theorem ok_Run (T : Txt w K mg) (n : Nat) : CF P w K mg base (4 + n) "Run" (cRun K) (a_Run_init K) (spRunI K n) := by
  obtain ⟨fd, F⟩ := T.d_Run_init
  rw [show 4 + n = 3 + n + 1 by omega]
  refine ⟨fnr F sc_Run_init (F.binds fun _ _ _ _ _ _ us hl => match us, hl with | [_, _, _], _ => rfl) (by rintro vs H Q E ⟨_, _, _, _, _, _, rfl, _⟩; rfl) fun cdv A outer s H vs Q E hr h => ?_, T.mk_Run, T.g_Run⟩
  obtain ⟨x, st, d, dx, es, ans, rfl, hx, hst, hn, ha, q⟩ := h
  refine ⟨_, (pss_cons (ps_fld (pv 0) (pv 2) rfl)
    (pss_cons (ps_fld (pv 0) (pe_lst pa_nil) rfl)
    (pss_one (ps_fld (pv 0) (pmeth (pv 0) (ok_Run_ended T n) (hr.mono (by first | decide | omega)) (pa_cons (pv 1) (pa_cons pe_int (pa_cons (pgr T.g_NONE) pa_nil)))) rfl)))), ?_⟩
  refine ⟨_, rfl, _, rfl, x, cRun K, dx, _, rfl, hx, T.c_Run, T.n_Run_told, by simp, ?_⟩
  have s1 : Sm [x] H (upd H x (.ins (cRun K) dx [("told", .ref d)])) := (Sm.refl _ _).upd (List.mem_singleton.mpr rfl)
  refine ⟨by show 0 ≤ sizeLine; decide, fun l hl => ?_⟩
  have xl : x ≠ l := ne_of_none upd_same hl
  have h2 : upd (upd H x (.ins (cRun K) dx [("told", .ref d)])) l (.lst []) x = some (.ins (cRun K) dx [("told", .ref d)]) := by
    rw [upd_ne xl]
    exact upd_same
  refine ⟨_, rfl, x, cRun K, dx, _, rfl, h2, T.c_Run, T.n_Run_asked_rules, (show 1 < 1000 by decide), ?_⟩
  generalize hH3 : upd (upd (upd H x (.ins (cRun K) dx (putF "told" (.ref d) []))) l (.lst [])) x (.ins (cRun K) dx (putF "asked_rules" (.ref l) [("told", .ref d)])) = H3
  have s3 : Sm [x] H H3 := by rw [← hH3]; exact (s1.new hl).upd (List.mem_singleton.mpr rfl)
  have hx3 : H3 x = some (.ins (cRun K) dx [("told", .ref d), ("asked_rules", .ref l)]) := by rw [← hH3]; exact upd_same
  have hl3 : H3 l = some (.lst []) := by rw [← hH3, upd_ne xl.symm]; exact upd_same
  have fz3 : Fz H H3 := s3.fz fun b hb o e => by
    rw [List.mem_singleton.mp hb, hx] at e
    cases e
    simp [Imm]
  have hst3 := hst.fz fz3
  obtain ⟨kvs, hd, hans⟩ := ha
  have xd : d ≠ x := ne_of hd hx (by intro z; cases z)
  have hd3 : H3 d = some (.dK kvs) := s3 _ _ hd (by simpa using xd)
  refine ⟨_, rfl, x, dx, _, rfl, hx3, rfl, _, rfl, x, st, dx, d, l, 0, _, .none, es, ans, [], rfl, hx3, ⟨kvs, hd3, hans⟩, hl3, ?_, hst3, hn, none_at T _, fun H4 v ys s4 hl4 _ hm4 => ?_⟩
  · have := hst.ok.rules
    simp only [List.length_nil]
    omega
  have hx4 := s4 _ _ hx3 (by simpa using xl)
  refine ⟨_, rfl, x, cRun K, dx, _, rfl, hx4, T.c_Run, T.n_Run_mark, (show 2 < 1000 by decide), ?_⟩
  have hln : H l = none := by
    have z := hl
    rw [upd_ne xl.symm] at z
    exact z
  have s5 : Sm [x] H H4 := fun b o e nb => s4 b o (s3 b o e nb) fun z => by
    rw [List.mem_singleton.mp z, hln] at e
    cases e
  refine q _ l v (s5.upd (List.mem_singleton.mpr rfl)) upd_same ?_
  obtain ⟨av, xv, ev, w2, w3, w4⟩ := hm4
  exact ⟨av, xv, ev, SqT.smx hx4 ((Sm.refl _ _).upd (List.mem_singleton.mpr rfl)) w2, w3, w4⟩
def spOutcome (K : PySem.W.Frag) : Sp := fun vs H Q _ => ∃ (x dx : Addr) (a b v : V) (mk : Mk1), vs = [.ref x] ∧ H x = some (.ins (cRun K) dx [("told", a), ("asked_rules", b), ("mark", v)]) ∧ MkV K H mk v ∧ Q (.str (if mk = .good then "in" else "out")) H
theorem sc_Run_outcome : FnScope ["self"] ["self"] (defScope s_Run_outcome) := ⟨rfl, rfl, rfl, by decide +kernel, rfl, by decide +kernel, by decide +kernel⟩
theorem ok_Run_outcome (T : Txt w K mg) : MF P w K mg base 1 (cRun K) "outcome" (a_Run_outcome K) (spOutcome K) := by
  obtain ⟨fd, F⟩ := T.d_Run_outcome
  refine ⟨fnr F sc_Run_outcome (F.binds fun _ _ _ _ _ _ us hl => match us, hl with | [_], _ => rfl) (by rintro vs H Q E ⟨_, _, _, _, _, _, rfl, _⟩; rfl) fun cdv A outer s H vs Q E hr h => ?_, T.m_Run_outcome, T.c_Run⟩
  obtain ⟨x, dx, a, b, v, mk, rfl, hx, ⟨av, xv, rfl, w2, w3, w4⟩, q⟩ := h
  refine ⟨_, (pss_one (ps_ret (pe_ifExp (pt_cmpR (op_eqT hr.units) (pe_fld (pv 0) rfl) (pgr T.g_GOOD) (nomark _)) (pgs "in" T.t_IN) (pgs "out" T.t_OUT)))), ?_⟩
  refine ⟨_, rfl, x, cRun K, dx, _, _, rfl, hx, T.c_Run, T.n_Run_mark, rfl, av, _, _, _, rfl, rfl, w2, T.good_ _, mk_atoms w3, by decide +kernel, _, rfl, ?_⟩
  show if decide (([.str (mkS mk), xv] : List V) = [.str (mkS .good), .non]) = true then _ else _
  rw [show decide (([.str (mkS mk), xv] : List V) = [.str (mkS .good), .non]) = decide (mk = .good) from mk_eq (by simp) w4 rfl]
  by_cases c : mk = .good
  · rw [decide_eq_true c]
    rw [if_pos c] at q
    exact iteT q
  · rw [decide_eq_false c]
    rw [if_neg c] at q
    exact iteF q
end
end Ls
set_option maxRecDepth 100000
set_option maxHeartbeats 4000000
/-! answers: all_answers -/
namespace Ls
open PySem PySem.Spec PyProof.Rows L2
section
variable {X : Cx} {tg : Expr}
/-- a walk over a list or a tuple -/
def iSeq (K : PySem.W.Frag) (tl : TE) : TI := fun σ H R => tl σ H fun x H1 => ∃ a, x = .ref a ∧ (((∃ xs, SqL K H1 a xs) ∧ R (Itl K a) H1) ∨ ((∃ xs, SqT K H1 a xs) ∧ R (Itt K a) H1))
theorem pi_seq {l : Expr} {tl : TE} (hl : PE X l tl) : PI X tg l (iSeq X.K tl) := by
  refine ⟨fun pins s σ H R I h => ?_⟩
  refine thn (hl.run pins s σ H _ I h) fun v s1 ⟨x, H1, I1, r1, q1⟩ => ?_
  obtain ⟨a, e, q⟩ := q1
  subst e
  cases r1
  have fp : ∀ b ∈ [s1.heap.objs.size], FpOk X pins H1 b := fun b hb => by
    have e : b = s1.heap.objs.size := by simpa using hb
    subst e
    exact I1.fpOk (Nat.le_refl _) (I1.hok.fresh (Nat.le_refl _))
  rcases q with ⟨⟨xs, hq⟩, q⟩ | ⟨⟨xs, hq⟩, q⟩
  · obtain ⟨its, rv, p, hz⟩ := I1.list hq
    refine wpAny_pyIter_list p.isList ?_
    exact ⟨s1.heap.objs.size, [s1.heap.objs.size], _, _, H1, rfl, I1.kept (t' := s1.toks) fun b o e => Heap.get?_push_of_some _ e, turn_list a _, ⟨_, Heap.get?_push_size _ rfl, rfl, rfl⟩, fp, q⟩
  · obtain ⟨its, rv, p, hz⟩ := I1.tuple hq
    refine wpAny_pyIter_tuple (show s1.heap.IsTuple a its.toArray from p) ?_
    exact ⟨s1.heap.objs.size, [s1.heap.objs.size], _, _, H1, rfl, I1.kept (t' := s1.toks) fun b o e => Heap.get?_push_of_some _ e, turn_tuple a _, ⟨_, Heap.get?_push_size _ rfl, rfl, rfl⟩, fp, q⟩
end
section
variable {J : It} {n : Nat} {G : Hp → Prop} {Y : Nat → Hp → V → Hp → Prop}
/-- a clause of a comprehension: any step -/
theorem lc_st (w : Walk J n G Y) {H1 : Hp} {Qd : Hp → Prop} {B : (Hp → Prop) → V → Hp → Prop} (Pv : Nat → Hp → Prop) (h0 : Pv 0 H1) (hG : ∀ i H, i ≤ n → Pv i H → G H)
    (hs : ∀ i x H H', i < n → Pv i H → Y i H x H' → B (Pv (i + 1)) x H') (hd : ∀ H, Pv n H → Qd H) :
    ∃ W : Nat → Nat → Hp → Prop, (∃ m, W 0 m H1) ∧ ∀ i m H, W i m H →
      (J.stop i H ∧ Qd H) ∨ (J.go i H ∧ ∃ Nx : Hp → Prop, (∀ H', Nx H' → ∃ m', m' < m ∧ W (i + 1) m' H') ∧ ∀ x H', J.yld i H x H' → B Nx x H') := by
  refine ⟨fun i m H => m = n - i ∧ i ≤ n ∧ Pv i H, ⟨n, by simp, Nat.zero_le _, h0⟩, ?_⟩
  rintro i m H ⟨rfl, hi, p⟩
  have q := hG i H hi p
  by_cases hlt : i < n
  · exact .inr ⟨w.goes i H hlt q, Pv (i + 1), fun H' p' => ⟨n - (i + 1), by omega, rfl, hlt, p'⟩, fun x H' y => hs i x H H' hlt p (w.yields i H x H' hlt q y)⟩
  · have e : i = n := by omega
    subst e
    exact .inl ⟨w.stops H q, hd H p⟩
end
/-! ### the answers -/
def asgV (g : Asg) : List (Key × V) := g.map fun p => (Sum.inr p.1, .str p.2)
def AsgsAt (H : Hp) : List Asg → List Addr → Prop
  | [], [] => True
  | g :: gs, d :: ds => H d = some (.dK (asgV g)) ∧ AsgsAt H gs ds
  | _, _ => False
theorem AsgsAt.ext {H H' : Hp} (e : Ext H H') : ∀ {gs : List Asg} {ds : List Addr}, AsgsAt H gs ds → AsgsAt H' gs ds
  | [], [], _ => trivial
  | _ :: _, _ :: _, h => ⟨e _ _ h.1, AsgsAt.ext e h.2⟩
  | [], _ :: _, h => h.elim
  | _ :: _, [], h => h.elim
theorem AsgsAt.len {H : Hp} : ∀ {gs : List Asg} {ds : List Addr}, AsgsAt H gs ds → gs.length = ds.length
  | [], [], _ => rfl
  | _ :: _, _ :: _, h => congrArg (· + 1) (AsgsAt.len h.2)
  | [], _ :: _, h => h.elim
  | _ :: _, [], h => h.elim
theorem AsgsAt.app {H : Hp} : ∀ {gs gs' : List Asg} {ds ds' : List Addr}, AsgsAt H gs ds → AsgsAt H gs' ds' → AsgsAt H (gs ++ gs') (ds ++ ds')
  | [], _, [], _, _, h => h
  | _ :: _, _, _ :: _, _, h, h' => ⟨h.1, AsgsAt.app h.2 h'⟩
  | [], _, _ :: _, _, h, _ => h.elim
  | _ :: _, _, [], _, h, _ => h.elim
theorem AsgsAt.get {H : Hp} : ∀ {gs : List Asg} {ds : List Addr} {i : Nat} {g : Asg}, AsgsAt H gs ds → gs[i]? = some g → ∃ d, ds[i]? = some d ∧ H d = some (.dK (asgV g))
  | [], _, i, r, _, h => by simp at h
  | _ :: _, a :: _, 0, r, h, e => by
    simp only [List.getElem?_cons_zero, Option.some.injEq] at e
    subst e
    exact ⟨a, rfl, h.1⟩
  | _ :: _, _ :: _, i + 1, r, h, e => by
    obtain ⟨b, h1, h2⟩ := AsgsAt.get h.2 (by simpa using e)
    exact ⟨b, by simpa using h1, h2⟩
  | _ :: _, [], _, _, h, _ => h.elim
/-- an answer to each name, in their order -/
def GoodA (ns : List Str) (g : Asg) : Prop := g.map (·.1) = ns ∧ ∀ p ∈ g, p.2 ∈ resS
theorem allAns_snoc (ns : List Str) (n : Str) : allAns (ns ++ [n]) = stepA n (allAns ns) := by
  unfold allAns
  rw [List.foldl_append]
  rfl
theorem stepA_len (n : Str) : ∀ gs : List Asg, (stepA n gs).length = 4 * gs.length
  | [] => rfl
  | g :: gs => by
    have := stepA_len n gs
    unfold stepA at this ⊢
    rw [List.flatMap_cons, List.length_append, this, List.length_map, List.length_cons]
    have : resS.length = 4 := rfl
    omega
theorem rev_ind {M : List Str → Prop} (h0 : M []) (h1 : ∀ ns n, M ns → M (ns ++ [n])) (ns : List Str) : M ns := by
  have h : ∀ l : List Str, M l.reverse := fun l => by
    induction l with
    | nil => exact h0
    | cons a l ih =>
      rw [List.reverse_cons]
      exact h1 _ _ ih
  have := h ns.reverse
  rwa [List.reverse_reverse] at this
theorem allAns_len (ns : List Str) : (allAns ns).length = 4 ^ ns.length := by
  refine rev_ind (M := fun ns => (allAns ns).length = 4 ^ ns.length) rfl (fun ns n ih => ?_) ns
  rw [allAns_snoc, stepA_len, ih, List.length_append, List.length_singleton, Nat.pow_succ, Nat.mul_comm]
theorem allAns_good (ns : List Str) : ∀ g ∈ allAns ns, GoodA ns g := by
  refine rev_ind (M := fun ns => ∀ g ∈ allAns ns, GoodA ns g) ?_ (fun ns n ih => ?_) ns
  · intro g hg
    have e : g = [] := by simpa [allAns] using hg
    subst e
    exact ⟨rfl, fun p hp => by simp at hp⟩
  · intro g hg
    rw [allAns_snoc] at hg
    unfold stepA at hg
    obtain ⟨g0, h0, h1⟩ := List.mem_flatMap.mp hg
    obtain ⟨r, hr, rfl⟩ := List.mem_map.mp h1
    obtain ⟨e1, e2⟩ := ih g0 h0
    refine ⟨by rw [List.map_append, e1]; rfl, fun p hp => ?_⟩
    rcases List.mem_append.mp hp with z | z
    · exact e2 p z
    · rw [List.mem_singleton.mp z]
      exact hr
/-- g's dict with one answer more -/
theorem asg_merge {g : Asg} {ns : List Str} {n : Str} {r : Str} (hg : GoodA ns g) (hn : n ∉ ns) : mergeK (asgV g) [(Sum.inr n, .str r)] = asgV (g ++ [(n, r)]) := by
  unfold mergeK
  rw [List.foldl_cons, List.foldl_nil]
  unfold putK
  have h : ((asgV g).any fun kv => decide (kv.1 = (Sum.inr n : Key))) = false := by
    rw [List.any_eq_false]
    intro kv hkv
    obtain ⟨p, hp, rfl⟩ := List.mem_map.mp hkv
    have h1 : p.1 ∈ ns := by
      rw [← hg.1]
      exact List.mem_map.mpr ⟨p, hp, rfl⟩
    simp only [decide_eq_true_eq, Sum.inr.injEq]
    exact fun e => hn (e ▸ h1)
  rw [if_neg (by rw [h]; exact Bool.false_ne_true)]
  unfold asgV
  rw [List.map_append]
  rfl
theorem asg_get {g : Asg} {ns : List Str} {m : Str} (hg : GoodA ns g) (hm : m ∈ ns) : valV (asgV g) (Sum.inr m : Key) = some (.str (ansF g m)) ∧ ansF g m ∈ resS := by
  obtain ⟨h1, h2⟩ := hg
  subst h1
  have key : ∀ g : Asg, (∀ p ∈ g, p.2 ∈ resS) → m ∈ g.map (·.1) → valV (asgV g) (Sum.inr m : Key) = some (.str (ansF g m)) ∧ ansF g m ∈ resS := fun g => by
    induction g with
    | nil => intro _ h; simp at h
    | cons p g ih =>
      intro hr hm
      by_cases c : p.1 = m
      · have e1 : ansF (p :: g) m = p.2 := by
          unfold ansF
          rw [List.find?_cons_of_pos (by simpa using c)]
          rfl
        rw [e1]
        exact ⟨valV_pos (by show Sum.inr p.1 = Sum.inr m; rw [c]), hr p List.mem_cons_self⟩
      · have e1 : ansF (p :: g) m = ansF g m := by
          unfold ansF
          rw [List.find?_cons_of_neg (by simpa using c)]
        rw [e1]
        have hm' : m ∈ g.map (·.1) := by
          rcases List.mem_cons.mp hm with z | z
          · exact absurd z.symm c
          · exact z
        obtain ⟨i1, i2⟩ := ih (fun q hq => hr q (List.mem_cons_of_mem _ hq)) hm'
        refine ⟨?_, i2⟩
        rw [← i1]
        exact valV_neg (by simpa using c)
  exact key g h2 hm
theorem AsgsAt.lst {H : Hp} {D : Addr} {l l' : List V} (hD : H D = some (.lst l)) : ∀ {gs : List Asg} {ds : List Addr}, AsgsAt H gs ds → AsgsAt (upd H D (.lst l')) gs ds
  | [], [], _ => trivial
  | _ :: _, d :: _, h => ⟨by rw [upd_ne (ne_of h.1 hD (by intro z; cases z))]; exact h.1, AsgsAt.lst hD h.2⟩
  | [], _ :: _, h => h.elim
  | _ :: _, [], h => h.elim
theorem stepA_app (n : Str) (a b : List Asg) : stepA n (a ++ b) = stepA n a ++ stepA n b := by
  unfold stepA
  rw [List.flatMap_append]
section
variable {P : Program} {w : World} {K : PySem.W.Frag} {mg : Str → Option Value} {base : Heap}
def spAllAns (K : PySem.W.Frag) : Sp := fun vs H Q _ => ∃ (a : Addr) (ns : List Str), vs = [.ref a] ∧ (SqL K H a (ns.map V.str) ∨ SqT K H a (ns.map V.str)) ∧ ns.Nodup ∧ ns.length ≤ 6 ∧
  ∀ H' p ds, Ext H H' → H p = none → H' p = some (.lst (ds.map V.ref)) → AsgsAt H' (allAns ns) ds → Q (.ref p) H'
theorem sc_all_answers : FnScope ["modules", "found", "name", "answers", "result"] ["modules"] (defScope s_all_answers) := ⟨rfl, rfl, rfl, by decide +kernel, rfl, by decide +kernel, by decide +kernel⟩
theorem ok_all_answers (T : Txt w K mg) : GF P w K mg base 1 "all_answers" (He.ga K "all_answers") (spAllAns K) := by
  obtain ⟨fd, F⟩ := T.d_all_answers
  refine gf_of F T.g_all_answers (fnr F sc_all_answers (F.binds fun _ _ _ _ _ _ us hl => match us, hl with | [_], _ => rfl) (by rintro vs H Q E ⟨_, _, rfl, _⟩; rfl) fun cdv A outer s H vs Q E hr h => ?_)
  obtain ⟨a, ns, rfl, hns, nd, h6, q⟩ := h
  refine ⟨_, (pss_cons (ps_set (i := 1) sc_all_answers.nd rfl (.inl rfl) (pe_lst (pa_cons pe_dnewK pa_nil)))
    (pss_cons (ps_for PassesOwn.never rfl (pi_seq (pv 0)) (pg_name (i := 2) sc_all_answers.nd rfl (.inr rfl))
    (pss_one (ps_setLc2 (i := 1) (own := [("answers", 3), ("result", 4)]) (vs1 := [4]) (g := gName 3) (tt := tYes) (g1 := gName 4) (tt1 := tYes) (te := tOp rOrD (tVar 3) (tDisp [(tVar 2, tVar 4)])) (wi1 := iTup K (tC (.ref (He.ga K "RESULTS")))) rfl sc_all_answers.nd rfl rfl (sw_true rfl rfl rfl (by decide +kernel)) (pi_list (pv 1)) (blkOk_by (own := [("answers", 3), ("result", 4)]) (N := ["modules", "found", "name", "answers", "result"]) (sc := defScope s_all_answers) (by decide +kernel)) (by decide) (fun _ _ _ _ _ => pg_name (i := 3) sc_all_answers.nd rfl (Or.inl rfl)) (fun _ _ _ _ _ => pts_nil) (fun _ _ _ _ _ => (pi_tup (pgr T.g_RESULTS))) (fun _ _ _ _ _ => pg_name (i := 4) sc_all_answers.nd rfl (Or.inl rfl)) (fun _ _ _ _ _ => pts_nil) (fun _ _ _ _ _ => (pe_op op_orD (pv 3) (pe_disp (pps_cons (pv 2) (pv 4) pps_nil) (by rfl) (by rfl) (fun z => by cases z) (by decide)))))))
    (pss_one (ps_ret (pv 1))))), ?_⟩
  refine fun d0 hd0 => ⟨by show 1 ≤ sizeLine; decide, fun l hl => ?_⟩
  have e1 : Ext H (upd H d0 (.dK [])) := Ext.upd hd0
  have e2 := e1.upd' hl (o := .lst [.ref d0])
  have hln : H l = none := by
    cases z : H l with
    | none => rfl
    | some o => rw [e1 _ _ z] at hl; cases hl
  rcases hns with hns | hns
  · refine ⟨_, rfl, a, rfl, .inl ⟨⟨_, SqL.ext hns e2⟩, ?_⟩⟩
    refine for_it walk_list (fun i σ H1 => ∃ b p ds, σ = [some (.ref a), some (.ref p), b, none, none] ∧ Ext H H1 ∧ H p = none ∧ H1 p = some (.lst (ds.map V.ref)) ∧ AsgsAt H1 (allAns (ns.take i)) ds)
      ⟨none, l, [d0], rfl, e2, hln, upd_same, ⟨by rw [upd_ne (ne_of_none upd_same hl)]; exact upd_same, trivial⟩⟩ (fun i σ H1 _ hp1 => by obtain ⟨_, _, _, _, e, _⟩ := hp1; exact SqL.ext hns e) (fun i x σ H1 H2 hi hp1 hy => ?_) fun σ H1 hp1 => ?_
    · obtain ⟨b, p, ds, rfl, e1, hpn, hp, has⟩ := hp1
      obtain ⟨rfl, hx⟩ := hy
      rw [List.length_map] at hi
      obtain ⟨n, hn⟩ : ∃ n, ns[i]? = some n := ⟨_, List.getElem?_eq_getElem hi⟩
      simp only [List.getElem?_map, hn, Option.map_some, Option.some.injEq] at hx
      subst hx
      have et := take_succ hn
      have hnn : n ∉ ns.take i := fun z => by
        have h2 : (ns.take (i + 1)).Nodup := List.Nodup.sublist (List.take_sublist _ _) nd
        rw [et] at h2
        exact (List.nodup_append.mp h2).2.2 n z n (List.mem_singleton.mpr rfl) rfl
      have hlen : (allAns (ns.take i)).length ≤ 4096 := by
        rw [allAns_len, List.length_take]
        exact Nat.le_trans (Nat.pow_le_pow_right (by decide) (by omega : min i ns.length ≤ 6)) (by decide)
      have hlen2 : (allAns (ns.take (i + 1))).length ≤ 4096 := by
        rw [allAns_len, List.length_take]
        exact Nat.le_trans (Nat.pow_le_pow_right (by decide) (by omega : min (i + 1) ns.length ≤ 6)) (by decide)
      have hgood := allAns_good (ns.take i)
      have hdl := has.len
      refine ⟨_, rfl, p, rfl, ⟨_, SqL.of hp⟩, fun D hD => ?_⟩
      have hpD : p ≠ D := ne_of_none hp hD
      refine lc_st walk_list (fun j H' => Ext H2 H' ∧ ∃ ds', H' D = some (.lst (ds'.map V.ref)) ∧ AsgsAt H' (stepA n ((allAns (ns.take i)).take j)) ds') ⟨Ext.upd hD, [], upd_same, trivial⟩ (fun j H' _ hj => SqL.ext (SqL.of hp) hj.1) (fun j v Ha Hb hj hv hy2 => ?_) fun H6 hv => ?_
      · obtain ⟨v1, ds', v2, v3⟩ := hv
        obtain ⟨rfl, hvj⟩ := hy2
        rw [List.length_map] at hj
        obtain ⟨g, hg⟩ : ∃ g, (allAns (ns.take i))[j]? = some g := ⟨_, List.getElem?_eq_getElem (by omega)⟩
        obtain ⟨d, hd1, hd2⟩ := (has.ext v1).get hg
        simp only [List.getElem?_map, hd1, Option.map_some, Option.some.injEq] at hvj
        subst hvj
        have hgg := hgood g (List.mem_of_getElem? hg)
        refine ⟨rfl, He.ga K "RESULTS", rfl, ⟨_, T.results _⟩, ?_⟩
        refine lc_st (walk_tup (xs := resS.map V.str)) (fun k H' => Ext H2 H' ∧ ∃ ds', H' D = some (.lst (ds'.map V.ref)) ∧ AsgsAt H' (stepA n ((allAns (ns.take i)).take j) ++ (resS.take k).map fun r => g ++ [(n, r)]) ds') ⟨v1, ds', v2, by simpa using v3⟩ (fun k H' _ hk => T.results _) (fun k v Hc Hd hk hw hy3 => ?_) fun H7 hw => ?_
        · obtain ⟨w1, ds2, w2, w3⟩ := hw
          obtain ⟨rfl, hvk⟩ := hy3
          obtain ⟨r, hr2⟩ : ∃ r, resS[k]? = some r := ⟨_, List.getElem?_eq_getElem (by simpa using hk)⟩
          simp only [List.getElem?_map, hr2, Option.map_some, Option.some.injEq] at hvk
          subst hvk
          obtain ⟨d', hd1', hd3⟩ := (has.ext w1).get hg
          rw [hd1] at hd1'
          cases hd1'
          refine ⟨rfl, _, rfl, fun pd hpd => ⟨_, rfl, _, rfl, upd_same, [(Sum.inr n, .str r)], rfl, (show 1 ≤ 15 by decide), ?_⟩⟩
          have e5 : Ext Hd (upd (upd Hd pd (.dK [])) pd (.dK (mergeK [] [(Sum.inr n, .str r)]))) := fun b o hb => by
            have hne : b ≠ pd := fun z => by rw [z, hpd] at hb; cases hb
            rw [upd_ne hne, upd_ne hne]
            exact hb
          refine ⟨d, pd, asgV g, [(Sum.inr n, .str r)], rfl, rfl, e5 _ _ hd3, upd_same, ?_, fun p2 hp2 => ?_⟩
          · unfold asgV
            have h5 : g.length ≤ 6 := by
              have h6' : (g.map (·.1)).length = (ns.take i).length := by rw [hgg.1]
              rw [List.length_map, List.length_take] at h6'
              omega
            rw [List.length_map]
            exact Nat.le_trans (by simp; omega : g.length + 1 ≤ 7) (by decide)
          have e6 := e5.upd' hp2 (o := .dK (mergeK (asgV g) [(Sum.inr n, .str r)]))
          have eD := e6 _ _ w2
          have hdl2 := w3.len
          refine ⟨ds2.map V.ref, eD, ?_, (w1.trans e6).updD hD, ds2 ++ [p2], by rw [upd_same, List.map_append]; rfl, ?_⟩
          · rw [List.length_map, ← hdl2, List.length_append, stepA_len, List.length_map, List.length_take, List.length_take]
            have hrl : resS.length = 4 := rfl
            exact Nat.lt_of_le_of_lt (by omega : _ ≤ 16388) (by decide)
          · rw [take_succ hr2, List.map_append, ← List.append_assoc]
            refine AsgsAt.lst eD ((w3.ext e6).app ⟨?_, trivial⟩)
            rw [upd_same, asg_merge hgg hnn]
        · obtain ⟨w1, ds2, w2, w3⟩ := hw
          refine ⟨w1, ds2, w2, ?_⟩
          rw [take_succ hg, stepA_app]
          have e7 : stepA n [g] = (resS.take (resS.map V.str).length).map fun r => g ++ [(n, r)] := by
            rw [List.length_map, List.take_length]
            unfold stepA
            simp
          rw [e7]
          exact w3
      · obtain ⟨v1, ds', v2, v3⟩ := hv
        rw [List.length_map, ← hdl, List.take_length, ← allAns_snoc, ← et] at v3
        have hDn : H D = none := by
          cases z : H D with
          | none => rfl
          | some o => rw [e1 _ _ z] at hD; cases hD
        exact ⟨some (.str n), D, ds', rfl, e1.trans v1, hDn, v2, v3⟩
    · obtain ⟨b, p, ds, rfl, e1, hpn, hp, has⟩ := hp1
      rw [List.length_map, List.take_length] at has
      exact ⟨_, rfl, q H1 p ds e1 hpn hp has⟩
  · refine ⟨_, rfl, a, rfl, .inr ⟨⟨_, SqT.ext hns e2⟩, ?_⟩⟩
    refine for_it walk_tup (fun i σ H1 => ∃ b p ds, σ = [some (.ref a), some (.ref p), b, none, none] ∧ Ext H H1 ∧ H p = none ∧ H1 p = some (.lst (ds.map V.ref)) ∧ AsgsAt H1 (allAns (ns.take i)) ds)
      ⟨none, l, [d0], rfl, e2, hln, upd_same, ⟨by rw [upd_ne (ne_of_none upd_same hl)]; exact upd_same, trivial⟩⟩ (fun i σ H1 _ hp1 => by obtain ⟨_, _, _, _, e, _⟩ := hp1; exact SqT.ext hns e) (fun i x σ H1 H2 hi hp1 hy => ?_) fun σ H1 hp1 => ?_
    · obtain ⟨b, p, ds, rfl, e1, hpn, hp, has⟩ := hp1
      obtain ⟨rfl, hx⟩ := hy
      rw [List.length_map] at hi
      obtain ⟨n, hn⟩ : ∃ n, ns[i]? = some n := ⟨_, List.getElem?_eq_getElem hi⟩
      simp only [List.getElem?_map, hn, Option.map_some, Option.some.injEq] at hx
      subst hx
      have et := take_succ hn
      have hnn : n ∉ ns.take i := fun z => by
        have h2 : (ns.take (i + 1)).Nodup := List.Nodup.sublist (List.take_sublist _ _) nd
        rw [et] at h2
        exact (List.nodup_append.mp h2).2.2 n z n (List.mem_singleton.mpr rfl) rfl
      have hlen : (allAns (ns.take i)).length ≤ 4096 := by
        rw [allAns_len, List.length_take]
        exact Nat.le_trans (Nat.pow_le_pow_right (by decide) (by omega : min i ns.length ≤ 6)) (by decide)
      have hlen2 : (allAns (ns.take (i + 1))).length ≤ 4096 := by
        rw [allAns_len, List.length_take]
        exact Nat.le_trans (Nat.pow_le_pow_right (by decide) (by omega : min (i + 1) ns.length ≤ 6)) (by decide)
      have hgood := allAns_good (ns.take i)
      have hdl := has.len
      refine ⟨_, rfl, p, rfl, ⟨_, SqL.of hp⟩, fun D hD => ?_⟩
      have hpD : p ≠ D := ne_of_none hp hD
      refine lc_st walk_list (fun j H' => Ext H2 H' ∧ ∃ ds', H' D = some (.lst (ds'.map V.ref)) ∧ AsgsAt H' (stepA n ((allAns (ns.take i)).take j)) ds') ⟨Ext.upd hD, [], upd_same, trivial⟩ (fun j H' _ hj => SqL.ext (SqL.of hp) hj.1) (fun j v Ha Hb hj hv hy2 => ?_) fun H6 hv => ?_
      · obtain ⟨v1, ds', v2, v3⟩ := hv
        obtain ⟨rfl, hvj⟩ := hy2
        rw [List.length_map] at hj
        obtain ⟨g, hg⟩ : ∃ g, (allAns (ns.take i))[j]? = some g := ⟨_, List.getElem?_eq_getElem (by omega)⟩
        obtain ⟨d, hd1, hd2⟩ := (has.ext v1).get hg
        simp only [List.getElem?_map, hd1, Option.map_some, Option.some.injEq] at hvj
        subst hvj
        have hgg := hgood g (List.mem_of_getElem? hg)
        refine ⟨rfl, He.ga K "RESULTS", rfl, ⟨_, T.results _⟩, ?_⟩
        refine lc_st (walk_tup (xs := resS.map V.str)) (fun k H' => Ext H2 H' ∧ ∃ ds', H' D = some (.lst (ds'.map V.ref)) ∧ AsgsAt H' (stepA n ((allAns (ns.take i)).take j) ++ (resS.take k).map fun r => g ++ [(n, r)]) ds') ⟨v1, ds', v2, by simpa using v3⟩ (fun k H' _ hk => T.results _) (fun k v Hc Hd hk hw hy3 => ?_) fun H7 hw => ?_
        · obtain ⟨w1, ds2, w2, w3⟩ := hw
          obtain ⟨rfl, hvk⟩ := hy3
          obtain ⟨r, hr2⟩ : ∃ r, resS[k]? = some r := ⟨_, List.getElem?_eq_getElem (by simpa using hk)⟩
          simp only [List.getElem?_map, hr2, Option.map_some, Option.some.injEq] at hvk
          subst hvk
          obtain ⟨d', hd1', hd3⟩ := (has.ext w1).get hg
          rw [hd1] at hd1'
          cases hd1'
          refine ⟨rfl, _, rfl, fun pd hpd => ⟨_, rfl, _, rfl, upd_same, [(Sum.inr n, .str r)], rfl, (show 1 ≤ 15 by decide), ?_⟩⟩
          have e5 : Ext Hd (upd (upd Hd pd (.dK [])) pd (.dK (mergeK [] [(Sum.inr n, .str r)]))) := fun b o hb => by
            have hne : b ≠ pd := fun z => by rw [z, hpd] at hb; cases hb
            rw [upd_ne hne, upd_ne hne]
            exact hb
          refine ⟨d, pd, asgV g, [(Sum.inr n, .str r)], rfl, rfl, e5 _ _ hd3, upd_same, ?_, fun p2 hp2 => ?_⟩
          · unfold asgV
            have h5 : g.length ≤ 6 := by
              have h6' : (g.map (·.1)).length = (ns.take i).length := by rw [hgg.1]
              rw [List.length_map, List.length_take] at h6'
              omega
            rw [List.length_map]
            exact Nat.le_trans (by simp; omega : g.length + 1 ≤ 7) (by decide)
          have e6 := e5.upd' hp2 (o := .dK (mergeK (asgV g) [(Sum.inr n, .str r)]))
          have eD := e6 _ _ w2
          have hdl2 := w3.len
          refine ⟨ds2.map V.ref, eD, ?_, (w1.trans e6).updD hD, ds2 ++ [p2], by rw [upd_same, List.map_append]; rfl, ?_⟩
          · rw [List.length_map, ← hdl2, List.length_append, stepA_len, List.length_map, List.length_take, List.length_take]
            have hrl : resS.length = 4 := rfl
            exact Nat.lt_of_le_of_lt (by omega : _ ≤ 16388) (by decide)
          · rw [take_succ hr2, List.map_append, ← List.append_assoc]
            refine AsgsAt.lst eD ((w3.ext e6).app ⟨?_, trivial⟩)
            rw [upd_same, asg_merge hgg hnn]
        · obtain ⟨w1, ds2, w2, w3⟩ := hw
          refine ⟨w1, ds2, w2, ?_⟩
          rw [take_succ hg, stepA_app]
          have e7 : stepA n [g] = (resS.take (resS.map V.str).length).map fun r => g ++ [(n, r)] := by
            rw [List.length_map, List.take_length]
            unfold stepA
            simp
          rw [e7]
          exact w3
      · obtain ⟨v1, ds', v2, v3⟩ := hv
        rw [List.length_map, ← hdl, List.take_length, ← allAns_snoc, ← et] at v3
        have hDn : H D = none := by
          cases z : H D with
          | none => rfl
          | some o => rw [e1 _ _ z] at hD; cases hD
        exact ⟨some (.str n), D, ds', rfl, e1.trans v1, hDn, v2, v3⟩
    · obtain ⟨b, p, ds, rfl, e1, hpn, hp, has⟩ := hp1
      rw [List.length_map, List.take_length] at has
      exact ⟨_, rfl, q H1 p ds e1 hpn hp has⟩
end
end Ls
set_option maxRecDepth 100000
set_option maxHeartbeats 4000000
/-! outcomes, both_outcomes, first_difference, alike -/
namespace Ls
open PySem PySem.Spec PyProof.Rows L2
section
variable {P : Program} {w : World} {K : PySem.W.Frag} {mg : Str → Option Value} {base : Heap}
theorem mkRun {n : Nat} {H : Hp} {st d x dx : Addr} {es : List Tr} {ans : Str → Str} {Q : VK} {E : XK} (hst : AtT K H (.st es) st) (hn : depL es ≤ n + 1) (ha : AnsAt H d ans (modsL es)) (hx : H x = none) (hdx : H dx = none) (ne : dx ≠ x)
    (q : ∀ H' a b v, Ext H H' → H' x = some (.ins (cRun K) dx [("told", a), ("asked_rules", b), ("mark", v)]) → MkV K H' (endL ans .none es 0 .none) v → Q .non H') :
    spRunI K n [V.ref x, .ref st, .ref d] (upd (upd H dx (.own x)) x (.ins (cRun K) dx [])) Q E := by
  have e1 : Ext H (upd (upd H dx (.own x)) x (.ins (cRun K) dx [])) := (Ext.upd hdx).upd' (by rw [upd_ne ne.symm]; exact hx)
  obtain ⟨kvs, hd, hans⟩ := ha
  refine ⟨x, st, d, dx, es, ans, rfl, upd_same, hst.fz (Fz.of e1), hn, ⟨kvs, e1 _ _ hd, hans⟩, fun H' l v s hx' hm => q H' _ _ v (fun b o hb => s b o (e1 b o hb) fun z => ?_) hx' hm⟩
  rw [List.mem_singleton.mp z, hx] at hb
  cases hb
theorem mkSt' {H : Hp} {x dx : Addr} {as : List Addr} {es : List Tr} {Q : VK} {E : XK} (hes : AtL K H es as) (ok : Ok es) (hx : H x = none) (hdx : H dx = none) (ne : dx ≠ x) (q : ∀ H', Ext H H' → AtT K H' (.st es) x → Q .non H') :
    spStackI K (V.ref x :: as.map V.ref) (upd (upd H dx (.own x)) x (.ins (cStack K) dx [])) Q E := by
  have e1 : Ext H (upd (upd H dx (.own x)) x (.ins (cStack K) dx [])) := (Ext.upd hdx).upd' (by rw [upd_ne ne.symm]; exact hx)
  refine ⟨x, dx, as, es, rfl, upd_same, hes.fz (Fz.of e1), ok, fun H' s a => q H' (fun b o hb => s b o (e1 b o hb) fun z => ?_) a⟩
  rw [List.mem_singleton.mp z, hx] at hb
  cases hb
theorem mkRu' (T : Txt w K mg) {H : Hp} {x dx : Addr} {m : Str} {c : V} {a : Addr} {acts : List V} {Q : VK} {E : XK} (hm : wordOk m = true) (hc : Ctl K H c a acts) (hx : H x = none) (hdx : H dx = none) (ne : dx ≠ x) (q : ∀ H', Ext H H' → RuAt K H' (m, acts) x → Q .non H') :
    spRuleI K [V.ref x, .str m, c] (upd (upd H dx (.own x)) x (.ins (cRule K) dx [])) Q E := by
  have e1 : Ext H (upd (upd H dx (.own x)) x (.ins (cRule K) dx [])) := (Ext.upd hdx).upd' (by rw [upd_ne ne.symm]; exact hx)
  have hc1 := hc.fz (Fz.of e1)
  refine ⟨x, m, c, a, acts, dx, rfl, hm, hc1, upd_same, fun H' s hx' => q H' (fun b o hb => s b o (e1 b o hb) fun z => ?_) ⟨dx, a, hx', ?_⟩⟩
  · rw [List.mem_singleton.mp z, hx] at hb
    cases hb
  · exact SqT.smx upd_same s (hc1.sq T).1
theorem ansAt {H : Hp} {d : Addr} {g : Asg} {ns ms : List Str} (hd : H d = some (.dK (asgV g))) (hg : GoodA ns g) (h : ∀ m ∈ ms, m ∈ ns) : AnsAt H d (ansF g) ms := ⟨_, hd, fun m hm => asg_get hg (h m hm)⟩
theorem AtT.names {H : Hp} {es : List Tr} {x : Addr} (h : AtT K H (.st es) x) : Canon (canon (modsL es)) (modsL es) := by
  obtain ⟨dx, tp, ts, tn, as, rs, h1, h2, h3, h4, h5, h6, h7, h8⟩ := h
  exact h6
/-! outcomes -/
def spOutcomes (K : PySem.W.Frag) : Sp := fun vs H Q _ => ∃ (st : Addr) (es : List Tr), vs = [.ref st] ∧ AtT K H (.st es) st ∧ ∀ H' p, Ext H H' → Q (.ref p) H'
theorem sc_outcomes : FnScope ["stack", "answers"] ["stack"] (defScope s_outcomes) := ⟨rfl, rfl, rfl, by decide +kernel, rfl, by decide +kernel, by decide +kernel⟩
theorem ok_outcomes (T : Txt w K mg) : GF P w K mg base 8 "outcomes" (He.ga K "outcomes") (spOutcomes K) := by
  obtain ⟨fd, F⟩ := T.d_outcomes
  refine gf_of F T.g_outcomes (fnr F sc_outcomes (F.binds fun _ _ _ _ _ _ us hl => match us, hl with | [_], _ => rfl) (by rintro vs H Q E ⟨_, _, rfl, _⟩; rfl) fun cdv A outer s H vs Q E hr h => ?_)
  obtain ⟨st, es, rfl, hst, q⟩ := h
  refine ⟨_, (pss_one (ps_ret (pe_lc (own := [("answers", 1)]) (g := gName 1) (tt := tYes) (te := tTup (tCons (tVar 1) (tCons (tMethR (cRun K) "outcome" (spOutcome K) E0 (StX.tMakeR (cRun K) (spRunI K 2) E0 (tCons (tVar 0) (tCons (tVar 1) tNil))) tNil) tNil))) rfl sc_outcomes.nd (pi_list (pcall (ok_all_answers T) (hr.mono (by first | decide | omega)) (pa_cons (pe_fld (pv 0) rfl) pa_nil))) (blkOk_by (own := [("answers", 1)]) (N := ["stack", "answers"]) (sc := defScope s_outcomes) (by decide +kernel)) (fun _ _ _ _ _ => pg_name (i := 1) sc_outcomes.nd rfl (Or.inl rfl)) (fun _ _ _ _ _ => pts_nil) (fun _ _ _ _ _ => (pe_tup (pa_cons (pv 1) (pa_cons (pmeth0 (pmake (ok_Run T 2) (hr.mono (by first | decide | omega)) (pa_cons (pv 0) (pa_cons (pv 1) pa_nil))) (ok_Run_outcome T) (hr.mono (by first | decide | omega))) pa_nil))))))), ?_⟩
  obtain ⟨dx, tp, ts, tn, as, rs, h1, h2, h3, h4, h5, h6, h7, ok⟩ := id hst
  have hnl : (canon (modsL es)).length ≤ 6 := ok.names h6
  have hdep := ok.dep
  refine ⟨_, rfl, st, cStack K, dx, _, _, rfl, h1, T.c_Stack, T.n_Stack_names, rfl, tn, canon (modsL es), rfl, .inr h7, h6.nd, hnl, fun H1 p ds e1 pn hp has => ?_⟩
  refine ⟨p, rfl, ⟨_, SqL.of hp⟩, fun D hD => ?_⟩
  have hlen : (allAns (canon (modsL es))).length ≤ 4096 := by
    rw [allAns_len]
    exact Nat.le_trans (Nat.pow_le_pow_right (by decide) hnl) (by decide)
  have hdl := has.len
  refine lc_it walk_list (fun j H' => Ext H1 H' ∧ ∃ l, H' D = some (.lst l) ∧ l.length = j) ⟨Ext.upd hD, [], upd_same, rfl⟩ (fun j H' _ hj => SqL.ext (SqL.of hp) hj.1) (fun j v Ha Hb hj hv hy2 => ?_) fun H6 hv => ?_
  · obtain ⟨v1, l, v2, v3⟩ := hv
    obtain ⟨rfl, hvj⟩ := hy2
    rw [List.length_map] at hj
    obtain ⟨g, hg⟩ : ∃ g, (allAns (canon (modsL es)))[j]? = some g := ⟨_, List.getElem?_eq_getElem (by omega)⟩
    obtain ⟨d, hd1, hd2⟩ := (has.ext v1).get hg
    simp only [List.getElem?_map, hd1, Option.map_some, Option.some.injEq] at hvj
    subst hvj
    have hgg := allAns_good _ g (List.mem_of_getElem? hg)
    have e2 := e1.trans v1
    refine ⟨rfl, _, rfl, _, rfl, _, rfl, ?_⟩
    refine fun x dx2 n1 n2 n3 => mkRun (hst.fz (Fz.of e2)) hdep (ansAt hd2 hgg fun m hm => (h6.mem m).mpr hm) n1 n2 n3 fun H3 a b v e3 hx3 hm3 => ?_
    refine ⟨rfl, x, dx2, _, rfl, hx3, rfl, x, dx2, a, b, v, _, rfl, hx3, hm3, by show 2 ≤ sizeLine; decide, fun t ht => ?_⟩
    have e4 := e3.upd' ht (o := .tup [.ref d, .str (if endL (ansF g) .none es 0 .none = .good then "in" else "out")])
    have hD4 := e4 _ _ v2
    exact ⟨l, hD4, Nat.lt_of_lt_of_le (by omega : l.length < 5000) (by decide), (v1.trans e4).updD hD, _, upd_same, by rw [List.length_append, v3]; rfl⟩
  · obtain ⟨v1, l, v2, v3⟩ := hv
    exact q H6 D (e1.trans v1)
/-! both_outcomes -/
def RowsAt (H : Hp) : List (Asg × Str × Str) → List Addr → Prop
  | [], [] => True
  | r :: rs, t :: ts => (∃ d, H t = some (.tup [.ref d, .str r.2.1, .str r.2.2])) ∧ RowsAt H rs ts
  | _, _ => False
theorem RowsAt.ext {H H' : Hp} (e : Ext H H') : ∀ {gs : List (Asg × Str × Str)} {ds : List Addr}, RowsAt H gs ds → RowsAt H' gs ds
  | [], [], _ => trivial
  | _ :: _, _ :: _, h => ⟨let ⟨d, z⟩ := h.1; ⟨d, e _ _ z⟩, RowsAt.ext e h.2⟩
  | [], _ :: _, h => h.elim
  | _ :: _, [], h => h.elim
theorem RowsAt.lst {H : Hp} {D : Addr} {l l' : List V} (hD : H D = some (.lst l)) : ∀ {gs : List (Asg × Str × Str)} {ds : List Addr}, RowsAt H gs ds → RowsAt (upd H D (.lst l')) gs ds
  | [], [], _ => trivial
  | _ :: _, t :: _, h => ⟨let ⟨d, z⟩ := h.1; ⟨d, by rw [upd_ne (ne_of z hD (by intro z; cases z))]; exact z⟩, RowsAt.lst hD h.2⟩
  | [], _ :: _, h => h.elim
  | _ :: _, [], h => h.elim
theorem RowsAt.app {H : Hp} : ∀ {gs gs' : List (Asg × Str × Str)} {ds ds' : List Addr}, RowsAt H gs ds → RowsAt H gs' ds' → RowsAt H (gs ++ gs') (ds ++ ds')
  | [], _, [], _, _, h => h
  | _ :: _, _, _ :: _, _, h, h' => ⟨h.1, RowsAt.app h.2 h'⟩
  | [], _, _ :: _, _, h, _ => h.elim
  | _ :: _, _, [], _, h, _ => h.elim
theorem RowsAt.len {H : Hp} : ∀ {gs : List (Asg × Str × Str)} {ds : List Addr}, RowsAt H gs ds → gs.length = ds.length
  | [], [], _ => rfl
  | _ :: _, _ :: _, h => congrArg (· + 1) (RowsAt.len h.2)
  | [], _ :: _, h => h.elim
  | _ :: _, [], h => h.elim
theorem RowsAt.get {H : Hp} : ∀ {gs : List (Asg × Str × Str)} {ds : List Addr} {i : Nat} {g : Asg × Str × Str}, RowsAt H gs ds → gs[i]? = some g → ∃ t d, ds[i]? = some t ∧ H t = some (.tup [.ref d, .str g.2.1, .str g.2.2])
  | [], _, i, r, _, h => by simp at h
  | _ :: _, a :: _, 0, r, h, e => by
    simp only [List.getElem?_cons_zero, Option.some.injEq] at e
    subst e
    obtain ⟨d, z⟩ := h.1
    exact ⟨a, d, rfl, z⟩
  | _ :: _, _ :: _, i + 1, r, h, e => by
    obtain ⟨b, d, h1, h2⟩ := RowsAt.get h.2 (by simpa using e)
    exact ⟨b, d, by simpa using h1, h2⟩
  | _ :: _, [], _, _, h, _ => h.elim
/-- the names of both are few -/
def Few (a b : List Tr) : Prop := ∃ ns : List Str, ns.length ≤ 6 ∧ ∀ m ∈ modsL a ++ modsL b, m ∈ ns
def spBoth (K : PySem.W.Frag) : Sp := fun vs H Q _ => ∃ (x y : Addr) (a b : List Tr), vs = [.ref x, .ref y] ∧ AtT K H (.st a) x ∧ AtT K H (.st b) y ∧ Few a b ∧
  ∀ H' p ts, Ext H H' → H' p = some (.lst (ts.map V.ref)) → RowsAt H' (bothL a b) ts → (bothL a b).length ≤ 4096 → Q (.ref p) H'
theorem sc_both_outcomes : FnScope ["one", "other", "names", "answers"] ["one", "other"] (defScope s_both_outcomes) := ⟨rfl, rfl, rfl, by decide +kernel, rfl, by decide +kernel, by decide +kernel⟩
theorem ok_both_outcomes (T : Txt w K mg) : GF P w K mg base 8 "both_outcomes" (He.ga K "both_outcomes") (spBoth K) := by
  obtain ⟨fd, F⟩ := T.d_both_outcomes
  refine gf_of F T.g_both_outcomes (fnr F sc_both_outcomes (F.binds fun _ _ _ _ _ _ us hl => match us, hl with | [_, _], _ => rfl) (by rintro vs H Q E ⟨_, _, _, _, rfl, _⟩; rfl) fun cdv A outer s H vs Q E hr h => ?_)
  obtain ⟨x, y, es, fs, rfl, hx, hy, ⟨ns0, hn6, hns⟩, q⟩ := h
  refine ⟨_, (pss_cons (ps_set (i := 2) sc_both_outcomes.nd rfl (.inl rfl) (pe_sset rfl T.f_sorted T.f_set (pe_op op_catQ (pe_fld (pv 0) rfl) (pe_fld (pv 1) rfl))))
    (pss_cons (ps_if (pt_cmpR op_gt (pcb call_len_seq T.f_len (pa_cons (pv 2) pa_nil)) (pgi 6 T.i_MOST_MODULES) (nomark _)) pss_never pss_nil)
    (pss_one (ps_ret (pe_lc (own := [("answers", 3)]) (g := gName 3) (tt := tYes) (te := tTup (tCons (tVar 3) (tCons (tMethR (cRun K) "outcome" (spOutcome K) E0 (StX.tMakeR (cRun K) (spRunI K 2) E0 (tCons (tVar 0) (tCons (tVar 3) tNil))) tNil) (tCons (tMethR (cRun K) "outcome" (spOutcome K) E0 (StX.tMakeR (cRun K) (spRunI K 2) E0 (tCons (tVar 1) (tCons (tVar 3) tNil))) tNil) tNil)))) rfl sc_both_outcomes.nd (pi_list (pcall (ok_all_answers T) (hr.mono (by first | decide | omega)) (pa_cons (pv 2) pa_nil))) (blkOk_by (own := [("answers", 3)]) (N := ["one", "other", "names", "answers"]) (sc := defScope s_both_outcomes) (by decide +kernel)) (fun _ _ _ _ _ => pg_name (i := 3) sc_both_outcomes.nd rfl (Or.inl rfl)) (fun _ _ _ _ _ => pts_nil) (fun _ _ _ _ _ => (pe_tup (pa_cons (pv 3) (pa_cons (pmeth0 (pmake (ok_Run T 2) (hr.mono (by first | decide | omega)) (pa_cons (pv 0) (pa_cons (pv 3) pa_nil))) (ok_Run_outcome T) (hr.mono (by first | decide | omega))) (pa_cons (pmeth0 (pmake (ok_Run T 2) (hr.mono (by first | decide | omega)) (pa_cons (pv 1) (pa_cons (pv 3) pa_nil))) (ok_Run_outcome T) (hr.mono (by first | decide | omega))) pa_nil)))))))))), ?_⟩
  obtain ⟨dx, tp, ts, tn, as, rs, h1, h2, h3, h4, h5, h6, h7, ok⟩ := id hx
  obtain ⟨dy, up, us, un, bs, cs, k1, k2, k3, k4, k5, k6, k7, okf⟩ := id hy
  have hda := ok.dep
  have hdb := okf.dep
  have la := ok.names h6
  have lb := okf.names k6
  refine ⟨_, rfl, x, cStack K, dx, _, _, rfl, h1, T.c_Stack, T.n_Stack_names, rfl, _, rfl, y, cStack K, dy, _, _, rfl, k1, T.c_Stack, T.n_Stack_names, rfl, tn, un, _, _, rfl, rfl, h7, k7, by rw [List.length_map, List.length_map]; omega, fun H1 p1 e1 hp1 => ?_⟩
  rw [← List.map_append] at hp1
  refine ⟨p1, _, rfl, .inr hp1, by rw [List.length_append]; omega, fun zs p2 cz hp2 => ?_⟩
  have hmem : ∀ m, m ∈ canon (modsL es) ++ canon (modsL fs) ↔ m ∈ modsL es ++ modsL fs := fun m => by
    rw [List.mem_append, List.mem_append, h6.mem, k6.mem]
  have ez : bothN es fs = zs := (canon_congr fun m => (hmem m).symm).trans (canon_of cz)
  have hz6 : zs.length ≤ 6 := Nat.le_trans (nd_len zs ns0 cz.nd fun m hm => hns m ((hmem m).mp ((cz.mem m).mp hm))) hn6
  have e2 := e1.upd' hp2 (o := .lst (zs.map V.str))
  refine ⟨_, rfl, p2, _, rfl, .inl (SqL.of upd_same), _, _, rfl, rfl, false, blF (by rw [List.length_map]; omega), iteF ?_⟩
  refine ⟨_, rfl, p2, zs, rfl, .inl (SqL.of upd_same), cz.nd, hz6, fun H3 p3 ds e3 pn3 hp3 has => ?_⟩
  refine ⟨p3, rfl, ⟨_, SqL.of hp3⟩, fun D hD => ?_⟩
  have hlen : (allAns zs).length ≤ 4096 := by
    rw [allAns_len]
    exact Nat.le_trans (Nat.pow_le_pow_right (by decide) hz6) (by decide)
  have hdl := has.len
  have e03 := e2.trans e3
  refine lc_it walk_list (fun j H' => Ext H3 H' ∧ ∃ ts, H' D = some (.lst (ts.map V.ref)) ∧ RowsAt H' ((bothL es fs).take j) ts) ⟨Ext.upd hD, [], upd_same, trivial⟩ (fun j H' _ hj => SqL.ext (SqL.of hp3) hj.1) (fun j v Ha Hb hj hv hy2 => ?_) fun H6 hv => ?_
  · obtain ⟨v1, ts2, v2, v3⟩ := hv
    obtain ⟨rfl, hvj⟩ := hy2
    rw [List.length_map] at hj
    obtain ⟨g, hg⟩ : ∃ g, (allAns zs)[j]? = some g := ⟨_, List.getElem?_eq_getElem (by omega)⟩
    obtain ⟨d, hd1, hd2⟩ := (has.ext v1).get hg
    simp only [List.getElem?_map, hd1, Option.map_some, Option.some.injEq] at hvj
    subst hvj
    have hgg := allAns_good _ g (List.mem_of_getElem? hg)
    have e4 := e03.trans v1
    have ma : ∀ m ∈ modsL es, m ∈ zs := fun m hm => (cz.mem m).mpr ((hmem m).mpr (List.mem_append_left _ hm))
    have mb : ∀ m ∈ modsL fs, m ∈ zs := fun m hm => (cz.mem m).mpr ((hmem m).mpr (List.mem_append_right _ hm))
    refine ⟨rfl, _, rfl, _, rfl, _, rfl, ?_⟩
    refine fun x1 dx1 n1 n2 n3 => mkRun (hx.fz (Fz.of e4)) hda (ansAt hd2 hgg ma) n1 n2 n3 fun H7 a b v e7 hx7 hm7 => ?_
    refine ⟨rfl, x1, dx1, _, rfl, hx7, rfl, x1, dx1, a, b, v, _, rfl, hx7, hm7, _, rfl, _, rfl, ?_⟩
    refine fun x2 dx2 n1 n2 n3 => mkRun (hy.fz (Fz.of (e4.trans e7))) hdb (ansAt (e7 _ _ hd2) hgg mb) n1 n2 n3 fun H8 a b v e8 hx8 hm8 => ?_
    refine ⟨rfl, x2, dx2, _, rfl, hx8, rfl, x2, dx2, a, b, v, _, rfl, hx8, hm8, by show 3 ≤ sizeLine; decide, fun t ht => ?_⟩
    have e9 := (e7.trans e8).upd' ht (o := .tup [.ref d, .str (outL (ansF g) es), .str (outL (ansF g) fs)])
    have hD4 := e9 _ _ v2
    have hl3 := v3.len
    have hb2 : (bothL es fs)[j]? = some (g, outL (ansF g) es, outL (ansF g) fs) := by
      unfold bothL
      rw [ez, List.getElem?_map, hg]
      rfl
    refine ⟨ts2.map V.ref, hD4, ?_, (v1.trans e9).updD hD, ts2 ++ [t], by rw [upd_same, List.map_append]; rfl, ?_⟩
    · rw [List.length_map, ← hl3, List.length_take]
      exact Nat.lt_of_lt_of_le (by omega : _ < 5000) (by decide)
    · rw [take_succ hb2]
      exact RowsAt.lst hD4 ((v3.ext e9).app ⟨⟨d, upd_same⟩, trivial⟩)
  · obtain ⟨v1, ts2, v2, v3⟩ := hv
    have hbl : (bothL es fs).length = (allAns zs).length := by
      unfold bothL
      rw [ez, List.length_map]
    rw [List.length_map, ← hdl, ← hbl, List.take_length] at v3
    exact q H6 D ts2 (e03.trans v1) v2 v3 (by omega)
end
end Ls
set_option maxRecDepth 100000
set_option maxHeartbeats 4000000
/-! first_difference, alike, is_operation, copied, with_control -/
namespace Ls
open PySem PySem.Spec PyProof.Rows L2
theorem told_zero {a b : List Tr} : told a b = 0 ↔ ∀ r ∈ bothL a b, r.2.1 = r.2.2 := by
  unfold told
  rw [List.length_eq_zero_iff, List.filter_eq_nil_iff]
  refine ⟨fun h r hr => ?_, fun h r hr => ?_⟩
  · have := h r hr
    simpa using this
  · simpa using h r hr
section
variable {P : Program} {w : World} {K : PySem.W.Frag} {mg : Str → Option Value} {base : Heap}
def spFirst (K : PySem.W.Frag) : Sp := fun vs H Q _ => ∃ (x y : Addr) (a b : List Tr), vs = [.ref x, .ref y] ∧ AtT K H (.st a) x ∧ AtT K H (.st b) y ∧ Few a b ∧
  (told a b = 0 → ∀ H', Ext H H' → Q .non H') ∧ (told a b ≠ 0 → ∀ H' p, Ext H H' → Q (.ref p) H')
theorem sc_first_difference : FnScope ["one", "other", "answers", "here", "there"] ["one", "other"] (defScope s_first_difference) := ⟨rfl, rfl, rfl, by decide +kernel, rfl, by decide +kernel, by decide +kernel⟩
theorem ok_first_difference (T : Txt w K mg) : GF P w K mg base 9 "first_difference" (He.ga K "first_difference") (spFirst K) := by
  obtain ⟨fd, F⟩ := T.d_first_difference
  refine gf_of F T.g_first_difference (fnr F sc_first_difference (F.binds fun _ _ _ _ _ _ us hl => match us, hl with | [_, _], _ => rfl) (by rintro vs H Q E ⟨_, _, _, _, rfl, _⟩; rfl) fun cdv A outer s H vs Q E hr h => ?_)
  obtain ⟨x, y, es, fs, rfl, hx, hy, few, q0, q1⟩ := h
  refine ⟨_, (pss_cons (ps_for PassesOwn.never rfl (pi_list (pcall (ok_both_outcomes T) (hr.mono (by first | decide | omega)) (pa_cons (pv 0) (pa_cons (pv 1) pa_nil)))) (pg_tup rfl (pgs_cons (pg_name (i := 2) sc_first_difference.nd rfl (.inl rfl)) (pgs_cons (pg_name (i := 3) sc_first_difference.nd rfl (.inl rfl)) (pgs_cons (pg_name (i := 4) sc_first_difference.nd rfl (.inl rfl)) pgs_nil))))
    (pss_one (ps_if (pt_cmpR op_ne (pv 3) (pv 4) (nomark _)) (pss_one (ps_ret (pe_tup (pa_cons (pv 2) (pa_cons (pv 3) pa_nil))))) pss_nil)))
    (pss_one (ps_ret pe_non))), ?_⟩
  refine ⟨_, rfl, _, rfl, x, y, es, fs, rfl, hx, hy, few, fun H1 p ts e1 hp hr hl => ?_⟩
  have htl := hr.len
  refine ⟨p, rfl, ⟨_, SqL.of hp⟩, ?_⟩
  refine for_it walk_list (fun i σ H2 => (∃ a b c, σ = [some (.ref x), some (.ref y), a, b, c]) ∧ Ext H1 H2 ∧ ∀ r ∈ (bothL es fs).take i, r.2.1 = r.2.2) ⟨⟨none, none, none, rfl⟩, Ext.rfl', fun r hr => by simp at hr⟩ (fun i σ H2 _ hi => SqL.ext (SqL.of hp) hi.2.1) (fun i v σ H2 H3 hi hp1 hy2 => ?_) fun σ H2 hp1 => ?_
  · obtain ⟨⟨a, b, c, rfl⟩, e2, hall⟩ := hp1
    obtain ⟨rfl, hvi⟩ := hy2
    rw [List.length_map] at hi
    obtain ⟨r, hr2⟩ : ∃ r, (bothL es fs)[i]? = some r := ⟨_, List.getElem?_eq_getElem (by omega)⟩
    obtain ⟨t, d, ht1, ht2⟩ := (hr.ext e2).get hr2
    simp only [List.getElem?_map, ht1, Option.map_some, Option.some.injEq] at hvi
    subst hvi
    refine ⟨t, _, rfl, SqT.of ht2, rfl, _, _, rfl, _, _, rfl, _, _, rfl, rfl, ?_⟩
    refine ⟨_, rfl, _, rfl, rfl, _, rfl, ?_⟩
    by_cases c : r.2.1 = r.2.2
    · rw [decide_eq_true (by rw [c])]
      refine iteF ⟨⟨_, _, _, rfl⟩, e2, fun r' hr' => ?_⟩
      rw [take_succ hr2] at hr'
      rcases List.mem_append.mp hr' with z | z
      · exact hall r' z
      · rw [List.mem_singleton.mp z]
        exact c
    · rw [decide_eq_false (by intro z; exact c (V.str.inj z))]
      refine iteT ⟨_, rfl, _, rfl, by show 2 ≤ sizeLine; decide, fun p2 hp2 => q1 (fun z => c ?_) _ p2 ((e1.trans e2).upd' hp2)⟩
      exact told_zero.mp z r (List.mem_of_getElem? hr2)
  · obtain ⟨⟨a, b, c, rfl⟩, e2, hall⟩ := hp1
    rw [List.length_map, ← htl, List.take_length] at hall
    exact q0 (told_zero.mpr hall) H2 (e1.trans e2)
def spAlike (K : PySem.W.Frag) : Sp := fun vs H Q _ => ∃ (x y : Addr) (a b : List Tr), vs = [.ref x, .ref y] ∧ AtT K H (.st a) x ∧ AtT K H (.st b) y ∧ Few a b ∧ ∀ H', Ext H H' → Q (.bl (decide (told a b = 0))) H'
theorem sc_alike : FnScope ["one", "other"] ["one", "other"] (defScope s_alike) := ⟨rfl, rfl, rfl, by decide +kernel, rfl, by decide +kernel, by decide +kernel⟩
theorem ok_alike (T : Txt w K mg) : GF P w K mg base 10 "alike" (He.ga K "alike") (spAlike K) := by
  obtain ⟨fd, F⟩ := T.d_alike
  refine gf_of F T.g_alike (fnr F sc_alike (F.binds fun _ _ _ _ _ _ us hl => match us, hl with | [_, _], _ => rfl) (by rintro vs H Q E ⟨_, _, _, _, rfl, _⟩; rfl) fun cdv A outer s H vs Q E hr h => ?_)
  obtain ⟨x, y, es, fs, rfl, hx, hy, few, q⟩ := h
  refine ⟨_, (pss_one (ps_ret (pe_cmpR op_isN (pcall (ok_first_difference T) (hr.mono (by first | decide | omega)) (pa_cons (pv 0) (pa_cons (pv 1) pa_nil))) pe_non (nomark _)))), ?_⟩
  refine ⟨_, rfl, _, rfl, x, y, es, fs, rfl, hx, hy, few, fun z H' e => ⟨rfl, ?_⟩, fun z H' p e => ⟨rfl, ?_⟩⟩
  · have := q H' e
    rw [decide_eq_true z] at this
    exact this
  · have := q H' e
    rw [decide_eq_false z] at this
    exact this
/-! copied -/
def spCopied : Sp := fun vs H Q _ => ∃ (a : Addr) (z : Str) (r : List V), vs = [.ref a] ∧ H a = some (.tup (.str z :: r)) ∧ z ≠ "promise" ∧ Q (.ref a) H
theorem sc_copied : FnScope ["operation"] ["operation"] (defScope s_copied) := ⟨rfl, rfl, rfl, by decide +kernel, rfl, by decide +kernel, by decide +kernel⟩
theorem ok_copied (T : Txt w K mg) : GF P w K mg base 1 "copied" (He.ga K "copied") spCopied := by
  obtain ⟨fd, F⟩ := T.d_copied
  refine gf_of F T.g_copied (fnr F sc_copied (F.binds fun _ _ _ _ _ _ us hl => match us, hl with | [_], _ => rfl) (by rintro vs H Q E ⟨_, _, _, rfl, _⟩; rfl) fun cdv A outer s H vs Q E hr h => ?_)
  obtain ⟨a, z, r, rfl, ha, hz, q⟩ := h
  refine ⟨_, (pss_cons (ps_if (pt_cmpR op_ne (pe_ix ix_tup (pv 0) pe_int (fun _ _ => rfl)) pe_str (nomark _)) (pss_one (ps_ret (pv 0))) pss_nil)
    (pss_one ps_never)), ?_⟩
  refine ⟨_, rfl, a, _, 0, _, rfl, rfl, SqT.of ha, atI_nat (j := 0) rfl, rfl, _, rfl, ?_⟩
  rw [decide_eq_false (by intro c; exact hz (V.str.inj c))]
  exact iteT ⟨_, rfl, q⟩
end
end Ls
set_option maxRecDepth 100000
set_option maxHeartbeats 4000000
/-! t == (), xs != ys of the same objects -/
namespace Ls
open PySem PySem.Spec PyProof.Rows L2
section
variable {X : Cx}
def rEqE (K : PySem.W.Frag) : R2 := fun x y H Q => ∃ a b xs, x = .ref a ∧ y = .ref b ∧ SqT K H a xs ∧ SqT K H b [] ∧ xs ≠ [] ∧ Q (.bl false) H
theorem op_eqE (hu : X.A.units < cLine) : OpR X (compareOp .Eq) (rEqE X.K) := by
  intro pins s σ H x y v u Q I rx ry h
  obtain ⟨a, b, xs, rfl, rfl, ha, hb, hx, q⟩ := h
  cases rx
  cases ry
  obtain ⟨its, r1, p1, _⟩ := I.tuple ha
  obtain ⟨its2, r2, p2, _⟩ := I.tuple hb
  cases r2
  have hl := r1.length
  have h0 : xs.length ≠ 0 := fun z => hx (List.length_eq_zero_iff.mp z)
  have key := SeqAt.RcAt.tuples (A := X.A) (e := fun _ => true) p1 p2 hu (fun j h1 h2 => by simp at h2)
  have e1 : ((List.range (min its.toArray.size ([] : List Value).toArray.size)).all (fun _ => true) && its.toArray.size == ([] : List Value).toArray.size) = false := by
    simp only [List.size_toArray, List.length_nil, Nat.min_zero, List.range_zero, List.all_nil, Bool.true_and]
    exact beq_eq_false_iff_ne.mpr (by omega)
  rw [e1] at key
  exact key X.prog X.w _ _ ⟨.bl false, H, I, rfl, q⟩
theorem refs_val : ∀ {as : List Addr} {us : List Value}, Vals (as.map V.ref) us → us = as.map Value.ref
  | [], _, .nil => rfl
  | _ :: _, _, .cons r t => by
    cases r
    rw [refs_val t]
    rfl
def rNeSame (K : PySem.W.Frag) : R2 := fun x y H Q => ∃ (a b : Addr) (xs : List Addr), x = .ref a ∧ y = .ref b ∧ SqL K H a (xs.map V.ref) ∧ SqL K H b (xs.map V.ref) ∧ Q (.bl false) H
theorem op_neSame (hu : X.A.units < cLine) : OpR X (compareOp .NotEq) (rNeSame X.K) := by
  intro pins s σ H x y v u Q I rx ry h
  obtain ⟨a, b, xs, rfl, rfl, ha, hb, q⟩ := h
  cases rx
  cases ry
  obtain ⟨its, r1, p1, _⟩ := I.list ha
  obtain ⟨its2, r2, p2, _⟩ := I.list hb
  have e1 := refs_val r1
  have e2 := refs_val r2
  subst e1 e2
  have key := SeqAt.RcNeAt.lists (A := X.A) (e := fun _ => true) p1.isList p2.isList rfl hu (fun j h1 h2 => SeqAt.EqAt.same _)
  have e3 : (!(List.range (xs.map Value.ref).toArray.size).all fun _ => true) = false := by
    rw [List.all_eq_true.mpr (fun _ _ => rfl)]
    rfl
  rw [e3] at key
  exact key X.prog X.w _ _ ⟨.bl false, H, I, rfl, q⟩
end
end Ls
set_option maxRecDepth 100000
set_option maxHeartbeats 4000000
/-! is_operation, with_control -/
namespace Ls
open PySem PySem.Spec PyProof.Rows L2
section
variable {P : Program} {w : World} {K : PySem.W.Frag} {mg : Str → Option Value} {base : Heap}
/-- words of operations and how long they are -/
def opSz (z : Str) (n : Nat) : Prop := lk sizeKV z = some (.int (n : Nat))
def spIsOp (K : PySem.W.Frag) : Sp := fun vs H Q _ => ∃ (a : Addr) (z : Str) (r : List V), vs = [.ref a] ∧ H a = some (.tup (.str z :: r)) ∧ opSz z (r.length + 1) ∧ ∀ H', Ext H H' → Q (.bl true) H'
theorem sc_is_operation : FnScope ["value"] ["value"] (defScope s_is_operation) := ⟨rfl, rfl, rfl, by decide +kernel, rfl, by decide +kernel, by decide +kernel⟩
theorem ok_is_operation (T : Txt w K mg) : GF P w K mg base 1 "is_operation" (He.ga K "is_operation") (spIsOp K) := by
  obtain ⟨fd, F⟩ := T.d_is_operation
  refine gf_of F T.g_is_operation (fnr F sc_is_operation (F.binds fun _ _ _ _ _ _ us hl => match us, hl with | [_], _ => rfl) (by rintro vs H Q E ⟨_, _, _, rfl, _⟩; rfl) fun cdv A outer s H vs Q E hr h => ?_)
  obtain ⟨a, z, r, rfl, ha, hz, q⟩ := h
  refine ⟨_, (pss_cons (ps_if (PW.pt (pw_or (pt_not (pt_val (pcb call_isi T.f_isinstance (pa_cons (pv 0) (pa_cons (pty "tuple" T.f_tuple) pa_nil))))) (pw_or (pt_cmpR (op_eqE hr.units0) (pv 0) (pe_tup pa_nil) (nomark _)) (pw_or1 (pt_not (pt_val (pcb call_isi T.f_isinstance (pa_cons (pe_ix ix_tup (pv 0) pe_int (fun _ _ => rfl)) (pa_cons (pty "str" T.f_str) pa_nil))))))))) (pss_one (ps_ret pe_bl)) pss_nil)
    (pss_one (ps_ret (pe_cmpR op_eq (pe_getKD T.sizes (pgr T.g_SIZES) (pe_ix ix_tup (pv 0) pe_int (fun _ _ => rfl)) pe_int) (pcb call_len_seq T.f_len (pa_cons (pv 0) pa_nil)) (nomark _))))), ?_⟩
  have e0 : SqT K H a (.str z :: r) := SqT.of ha
  refine ⟨_, rfl, _, .ty "tuple", _, _, true, rfl, .ty "tuple", tyTup e0, kit_ty (by decide +kernel), true, rfl, iteF ?_⟩
  refine ⟨_, rfl, by show 0 ≤ sizeLine; decide, fun p hp => ?_⟩
  have e1 : Ext H (upd H p (.tup [])) := Ext.upd hp
  refine ⟨a, p, _, rfl, rfl, e0.ext e1, SqT.of upd_same, by simp, false, rfl, iteF ?_⟩
  refine ⟨_, rfl, a, _, 0, _, rfl, rfl, e0.ext e1, atI_nat (j := 0) rfl, _, .ty "str", _, _, true, rfl, .ty "str", .base (.str z), kit_ty (by decide +kernel), true, rfl, iteF ?_⟩
  refine ⟨rfl, _, rfl, a, _, 0, _, rfl, rfl, e0.ext e1, atI_nat (j := 0) rfl, z, rfl, ?_⟩
  unfold opSz at hz
  rw [hz]
  refine ⟨_, rfl, a, _, rfl, .inr (e0.ext e1), rfl, ?_⟩
  have := q _ e1
  show Q (.bl (decide (V.int ((r.length + 1 : Nat) : Int) = V.int (((V.str z :: r).length : Nat) : Int)))) _
  rw [decide_eq_true (by rfl)]
  exact this
end
end Ls
set_option maxRecDepth 100000
set_option maxHeartbeats 4000000
/-! with_control -/
namespace Ls
open PySem PySem.Spec PyProof.Rows L2
mutual
theorem turnT_steps (number : Int) (acts : List V) : ∀ (b : Int) (t : Tr), (turnT number acts b t).steps.map (·.1) = t.steps.map (·.1)
  | b, .rl m a => by
    simp only [turnT]
    split <;> simp [Tr.steps]
  | b, .st es => by
    simp only [turnT, Tr.steps]
    exact turnL_steps number acts b es
theorem turnL_steps (number : Int) (acts : List V) : ∀ (b : Int) (es : List Tr), (stepsL (turnL number acts b es)).map (·.1) = (stepsL es).map (·.1)
  | b, [] => by simp [turnL]
  | b, e :: es => by
    simp only [turnL, stepsL, List.map_append]
    rw [turnT_steps number acts b e, turnL_steps number acts _ es]
end
mutual
theorem turnT_dep (number : Int) (acts : List V) : ∀ (b : Int) (t : Tr), (turnT number acts b t).dep = t.dep
  | b, .rl m a => by
    simp only [turnT]
    split <;> simp [Tr.dep]
  | b, .st es => by
    simp only [turnT, Tr.dep]
    rw [turnL_dep number acts b es]
theorem turnL_dep (number : Int) (acts : List V) : ∀ (b : Int) (es : List Tr), depL (turnL number acts b es) = depL es
  | b, [] => by simp [turnL]
  | b, e :: es => by
    simp only [turnL, depL]
    rw [turnT_dep number acts b e, turnL_dep number acts _ es]
end
mutual
theorem turnT_ru (number : Int) (acts : List V) (ha : actsOk acts = true) : ∀ (b : Int) (t : Tr), t.steps.all ruOk = true → (turnT number acts b t).steps.all ruOk = true
  | b, .rl m a, h => by
    simp only [turnT]
    split
    · simp only [Tr.steps, List.all_cons, List.all_nil, Bool.and_true] at h ⊢
      unfold ruOk at h ⊢
      rw [Bool.and_eq_true] at h ⊢
      exact ⟨h.1, ha⟩
    · exact h
  | b, .st es, h => by
    simp only [turnT, Tr.steps] at h ⊢
    exact turnL_ru number acts ha b es h
theorem turnL_ru (number : Int) (acts : List V) (ha : actsOk acts = true) : ∀ (b : Int) (es : List Tr), (stepsL es).all ruOk = true → (stepsL (turnL number acts b es)).all ruOk = true
  | b, [], _ => by simp [turnL, stepsL]
  | b, e :: es, h => by
    simp only [turnL, stepsL, List.all_append, Bool.and_eq_true] at h ⊢
    exact ⟨turnT_ru number acts ha b e h.1, turnL_ru number acts ha _ es h.2⟩
end
theorem turnL_len (number : Int) (acts : List V) : ∀ (b : Int) (es : List Tr), (turnL number acts b es).length = es.length
  | b, [] => by simp [turnL]
  | b, e :: es => by
    simp only [turnL, List.length_cons]
    rw [turnL_len number acts _ es]
theorem Ok.turn {es : List Tr} (h : Ok es) {number b : Int} {acts : List V} (ha : actsOk acts = true) : Ok (turnL number acts b es) := by
  have e1 := turnL_steps number acts b es
  have e2 : (stepsL (turnL number acts b es)).length = (stepsL es).length := by
    have := congrArg List.length e1
    simpa using this
  obtain ⟨h1, h2, h3, ⟨ns, h4, h5⟩, h6⟩ := h
  refine ⟨by rw [turnL_len]; exact h1, by rw [turnL_dep]; exact h2, by rw [e2]; exact h3, ⟨ns, h4, fun m hm => h5 m ?_⟩, turnL_ru number acts ha b es h6⟩
  unfold modsL at hm ⊢
  rw [e1] at hm
  exact hm
theorem turnL_get (number : Int) (acts : List V) : ∀ (b : Int) (es : List Tr) (i : Nat) (e : Tr) (f : Int), es[i]? = some e → (firstsL b es)[i]? = some f → (turnL number acts b es)[i]? = some (turnT number acts f e)
  | b, [], i, e, f, h, _ => by simp at h
  | b, x :: es, 0, e, f, h, g => by
    simp only [List.getElem?_cons_zero, Option.some.injEq, firstsL] at h g
    subst h g
    simp [turnL]
  | b, x :: es, i + 1, e, f, h, g => by
    simp only [List.getElem?_cons_succ, firstsL] at h g
    simp only [turnL, List.getElem?_cons_succ]
    exact turnL_get number acts _ es i e f h g
theorem SqL.smx {K : PySem.W.Frag} {H H' : Hp} {a p : Addr} {xs : List V} (s : Sm [p] H H') (h : H a = some (.lst xs)) (hn : a ≠ p) : H' a = some (.lst xs) := s a _ h (by simpa using hn)
section
variable {P : Program} {w : World} {K : PySem.W.Frag} {mg : Str → Option Value} {base : Heap}
def spWith (K : PySem.W.Frag) (n : Nat) : Sp := fun vs H Q _ => ∃ (st a : Addr) (first number : Int) (c : V) (es : List Tr) (acts : List V), vs = [.ref st, .int first, .int number, c] ∧ AtT K H (.st es) st ∧ depL es ≤ n + 1 ∧ Ctl K H c a acts ∧
  ∀ H' y, Ext H H' → AtT K H' (.st (turnL number acts first es)) y → Q (.ref y) H'
theorem sc_with_control : FnScope ["stack", "first", "number", "control", "parts", "entry", "begin"] ["stack", "first", "number", "control"] (defScope s_with_control) := ⟨rfl, rfl, rfl, by decide +kernel, rfl, by decide +kernel, by decide +kernel⟩
theorem key_with (T : Txt w K mg) (n k : Nat) (hk : 5 ≤ k) (G : ∃ spR, GF P w K mg base k "with_control" (He.ga K "with_control") spR ∧ ∀ vs H Q E, spWith K (n - 1) vs H Q E → 0 < n → spR vs H Q E) : GF P w K mg base (k + 1) "with_control" (He.ga K "with_control") (spWith K n) := by
  obtain ⟨spR, GR, hR⟩ := G
  obtain ⟨fd, F⟩ := T.d_with_control
  refine gf_of F T.g_with_control (fnr F sc_with_control (F.binds fun _ _ _ _ _ _ us hl => match us, hl with | [_, _, _, _], _ => rfl) (by rintro vs H Q E ⟨_, _, _, _, _, _, _, rfl, _⟩; rfl) fun cdv A outer s H vs Q E hr h => ?_)
  obtain ⟨st, a, first, number, c, es, acts, rfl, hst, hn, hc, q⟩ := h
  refine ⟨_, (pss_cons (ps_set (i := 4) sc_with_control.nd rfl (.inl rfl) (pe_lst pa_nil))
    (pss_cons (ps_for PassesOwn.never rfl (pi_zipX T.f_zip (pa_cons (pprop (pv 0) (ok_Stack_entries T) (hr.mono (by first | decide | omega))) (pa_cons (pcall (ok_firsts_of T) (hr.mono (by first | decide | omega)) (pa_cons (pv 0) (pa_cons (pv 1) pa_nil))) pa_nil))) (pg_tup rfl (pgs_cons (pg_name (i := 5) sc_with_control.nd rfl (.inl rfl)) (pgs_cons (pg_name (i := 6) sc_with_control.nd rfl (.inl rfl)) pgs_nil)))
    (pss_one (ps_if (pt_val (pcb call_isi T.f_isinstance (pa_cons (pv 5) (pa_cons (pgr T.g_Stack) pa_nil)))) (pss_one (ps_expr (pe_bm PySem.F.plainAttrs_list PySem.F.slot_list_append PySem.F.type_list_append mt_append (pv 4) (pa_cons (pcall GR (hr.mono (by first | decide | omega)) (pa_cons (pv 5) (pa_cons (pv 6) (pa_cons (pv 2) (pa_cons (pv 3) pa_nil))))) pa_nil)))) (pss_one (ps_expr (pe_bm PySem.F.plainAttrs_list PySem.F.slot_list_append PySem.F.type_list_append mt_append (pv 4) (pa_cons (pe_ifExp (pt_cmpR op_eq (pv 6) (pv 2) (nomark _)) (pmake (ok_Rule T) (hr.mono (by first | decide | omega)) (pa_cons (pprop (pv 5) (ok_Rule_module T) (hr.mono (by first | decide | omega))) (pa_cons (pv 3) pa_nil))) (pv 5)) pa_nil)))))))
    (pss_one (ps_ret (pmakeS (ok_Stack T) (hr.mono (by first | decide | omega)) (pv 4)))))), ?_⟩
  have hok := hst.ok
  refine ⟨by show 0 ≤ sizeLine; decide, fun p hp => ?_⟩
  have e1 : Ext H (upd H p (.lst [])) := Ext.upd hp
  generalize hH1 : upd H p (.lst []) = H1 at e1 ⊢
  have hp1 : H1 p = some (.lst []) := by rw [← hH1]; exact upd_same
  have hst1 := hst.fz (Fz.of e1)
  obtain ⟨dx, tp, ts, tn, as, rs, k1, k2, k3, k4, k5, _⟩ := id hst1
  have hla := k3.len
  refine ⟨_, rfl, st, dx, _, rfl, k1, st, dx, _, _, rfl, k1, rfl, _, rfl, _, rfl, st, es, first, rfl, hst1, hok.len, fun H2 pf e2 pn hpf => ?_⟩
  have hp2 := e2 _ _ hp1
  have hpp : pf ≠ p := fun z => by rw [z, hp1] at pn; cases pn
  refine ⟨tp, pf, _, _, rfl, k2.ext e2, SqL.of hpf, ?_⟩
  have hlen : (as.map V.ref).length = ((firstsL first es).map V.int).length := by rw [List.length_map, List.length_map, firstsL_len, hla]
  have fzp : ∀ {Hx : Hp}, Sm [p] H2 Hx → Fz H2 Hx := fun s => s.fz fun b hb o e => by
    rw [List.mem_singleton.mp hb, hp2] at e
    cases e
    rfl
  have hc2 := hc.fz (Fz.of (e1.trans e2))
  have hst2 := hst1.fz (Fz.of e2)
  have ha2 := (hc2.sq T).2
  refine for_it (walk_zipX hlen) (fun i σ Hx => (∃ e0 b0, σ = [some (.ref st), some (.int first), some (.int number), some c, some (.ref p), e0, b0]) ∧ Sm [p] H2 Hx ∧ ∃ bs, Hx p = some (.lst (bs.map V.ref)) ∧ AtL K Hx ((turnL number acts first es).take i) bs)
    ⟨⟨none, none, rfl⟩, Sm.refl _ _, [], hp2, trivial⟩ (fun i σ Hx _ hi => ⟨SqT.fz (k2.ext e2) (fzp hi.2.1), SqL.of (hi.2.1 _ _ hpf (by simpa using hpp))⟩) (fun i v σ Hx Hy hi hp3 hy => ?_) fun σ Hx hp3 => ?_
  · obtain ⟨⟨e0, b0, rfl⟩, sm, bs, hb, hat⟩ := hp3
    obtain ⟨T0, v1, v2, rfl, hT, rfl, g1, g2⟩ := hy
    rw [List.length_map] at hi
    obtain ⟨e, he⟩ : ∃ e, es[i]? = some e := ⟨_, List.getElem?_eq_getElem (by omega)⟩
    obtain ⟨f, hf⟩ : ∃ f, (firstsL first es)[i]? = some f := ⟨_, List.getElem?_eq_getElem (by rw [firstsL_len]; omega)⟩
    obtain ⟨ae, hae, haet⟩ := (k3.fz (Fz.of e2)).get he
    simp only [List.getElem?_map, hae, hf, Option.map_some, Option.some.injEq] at g1 g2
    subst g1 g2
    have hpT : p ≠ T0 := ne_of_none hb hT
    have smT : Sm [p] H2 (upd Hx T0 (.tup [.ref ae, .int f])) := sm.new hT
    have eT : Ext Hx (upd Hx T0 (.tup [.ref ae, .int f])) := Ext.upd hT
    have hbT := eT _ _ hb
    refine ⟨T0, _, rfl, SqT.of upd_same, rfl, _, _, rfl, _, _, rfl, rfl, ?_⟩
    have haeT := haet.fz (fzp smT)
    obtain ⟨cc, i1, i2, i3⟩ := haeT.isi T
    have hbl := hat.len
    have hblen : bs.length < 5000 := by
      have := hok.len
      rw [List.length_take, turnL_len] at hbl
      omega
    have hget := turnL_get number acts first es i e f he hf
    have hemem := List.mem_of_getElem? he
    have fin : ∀ (Hz : Hp) (z : Addr), Ext (upd Hx T0 (.tup [.ref ae, .int f])) Hz → AtT K Hz (turnT number acts f e) z →
        Hz p = some (.lst (bs.map V.ref)) ∧ (bs.map V.ref).length < sizeLine ∧ ((∃ e0 b0, [some (V.ref st), some (.int first), some (.int number), some c, some (.ref p), some (.ref ae), some (.int f)] = [some (.ref st), some (.int first), some (.int number), some c, some (.ref p), e0, b0]) ∧
          Sm [p] H2 (upd Hz p (.lst (bs.map V.ref ++ [.ref z]))) ∧ ∃ bs', upd Hz p (.lst (bs.map V.ref ++ [.ref z])) p = some (.lst (bs'.map V.ref)) ∧ AtL K (upd Hz p (.lst (bs.map V.ref ++ [.ref z]))) ((turnL number acts first es).take (i + 1)) bs') := fun Hz z eZ hz => by
      have hpz := eZ _ _ hbT
      have fzu : Fz Hz (upd Hz p (.lst (bs.map V.ref ++ [.ref z]))) := ((Sm.refl [p] Hz).upd (List.mem_singleton.mpr rfl)).fz fun b hb2 o e2' => by
        rw [List.mem_singleton.mp hb2, hpz] at e2'
        cases e2'
        rfl
      refine ⟨hpz, by rw [List.length_map]; exact Nat.lt_of_lt_of_le hblen (by decide), ⟨_, _, rfl⟩, (smT.trans (Sm.of eZ)).upd (List.mem_singleton.mpr rfl), bs ++ [z], by rw [upd_same, List.map_append]; rfl, ?_⟩
      rw [take_succ hget]
      exact ((hat.fz (Fz.of (eT.trans eZ))).fz fzu).app ⟨hz.fz fzu, trivial⟩
    refine ⟨_, rfl, _, .ref (cStack K), _, _, _, rfl, .own _, i1, i2, _, rfl, ?_⟩
    cases e with
    | st es' =>
      have hdm := dep_mem hemem
      have hdp := depL_pos es'
      simp only [Tr.dep] at hdm
      refine iteT ⟨_, rfl, .inl ⟨rfl, _, SqL.of hbT⟩, _, rfl, _, rfl, _, rfl, _, rfl, ?_⟩
      refine hR _ _ _ _ ⟨ae, a, f, number, c, es', acts, rfl, haeT, by omega, hc2.fz (fzp smT), fun H4 y e4 hy => ?_⟩ (by omega)
      have hz : AtT K H4 (turnT number acts f (.st es')) y := by
        simp only [turnT]
        exact hy
      obtain ⟨f1, f2, f3⟩ := fin H4 y e4 hz
      exact ⟨p, _, _, rfl, rfl, f1, f2, f3⟩
    | rl m old =>
      refine iteF ⟨_, rfl, .inl ⟨rfl, _, SqL.of hbT⟩, ?_⟩
      have hru := ruAt he hok.rus
      refine ⟨_, rfl, _, rfl, rfl, _, rfl, ?_⟩
      by_cases cf : f = number
      · rw [decide_eq_true (by rw [cf])]
        obtain ⟨dy, ta, r1, r2⟩ := id haeT
        refine iteT ⟨_, rfl, ae, dy, _, rfl, r1, ae, (m, old), rfl, haeT, _, rfl, ?_⟩
        refine fun x1 dx1 n1 n2 n3 => mkRu' T (Bool.and_eq_true_iff.mp hru).1 (hc2.fz (fzp smT)) n1 n2 n3 fun H4 e4 hy => ?_
        have hz : AtT K H4 (turnT number acts f (.rl m old)) x1 := by
          simp only [turnT, if_pos cf]
          exact hy
        obtain ⟨f1, f2, f3⟩ := fin H4 x1 e4 hz
        exact ⟨rfl, p, _, _, rfl, rfl, f1, f2, f3⟩
      · rw [decide_eq_false (by intro z; exact cf (V.int.inj z))]
        have hz : AtT K (upd Hx T0 (.tup [.ref ae, .int f])) (turnT number acts f (.rl m old)) ae := by
          simp only [turnT, if_neg cf]
          exact haeT
        obtain ⟨f1, f2, f3⟩ := fin _ ae Ext.rfl' hz
        exact iteF ⟨_, rfl, p, _, _, rfl, rfl, f1, f2, f3⟩
  · obtain ⟨⟨e0, b0, rfl⟩, sm, bs, hb, hat⟩ := hp3
    have hl2 : (as.map V.ref).length = (turnL number acts first es).length := by rw [List.length_map, turnL_len, hla]
    rw [hl2, List.take_length] at hat
    refine ⟨_, rfl, p, _, rfl, .inr (SqL.of hb), fun x1 dx1 n1 n2 n3 => mkSt' hat (hok.turn ha2) n1 n2 n3 fun H4 e4 hy => ⟨rfl, q H4 x1 (fun b o hb' => e4 b o (sm b o (e2 b o (e1 b o hb')) fun z => ?_)) hy⟩⟩
    rw [List.mem_singleton.mp z, hp] at hb'
    cases hb'
theorem ok_with_control (T : Txt w K mg) : ∀ n : Nat, GF P w K mg base (6 + n) "with_control" (He.ga K "with_control") (spWith K n)
  | 0 => key_with T 0 5 (by decide) ⟨fun _ _ _ _ => False, ⟨fun _ _ _ _ _ _ _ _ _ _ _ h => h.elim, by obtain ⟨fd, F⟩ := T.d_with_control; exact F.kp, T.g_with_control⟩, fun _ _ _ _ _ z => absurd z (Nat.lt_irrefl _)⟩
  | n + 1 => key_with T (n + 1) (6 + n) (by omega) ⟨spWith K n, ok_with_control T n, fun _ _ _ _ h _ => h⟩
end
end Ls
set_option maxRecDepth 100000
set_option maxHeartbeats 4000000
/-! State -/
namespace Ls
open PySem PySem.Spec PyProof.Rows L2
section
variable {P : Program} {w : World} {K : PySem.W.Frag} {mg : Str → Option Value} {base : Heap}
/-- the state at a -/
def StAt (K : PySem.W.Frag) (H : Hp) (a dx : Addr) (p v n pa un : V) : Prop := dx ≠ a ∧ ∃ vs, SlX.Slt H a (cState K) dx vs ∧ vs[2]? = some (some p) ∧ vs[4]? = some (some v) ∧ vs[0]? = some (some n) ∧ vs[1]? = some (some pa) ∧ vs[3]? = some (some un)
theorem StAt.sm {H H' : Hp} {l : List Addr} {a dx : Addr} {p v n pa un : V} (h : StAt K H a dx p v n pa un) (s : Sm l H H') (ha : a ∉ l) (hd : dx ∉ l) : StAt K H' a dx p v n pa un := by
  obtain ⟨h0, vs, h1, h2⟩ := h
  refine ⟨h0, vs, ?_, h2⟩
  rcases h1 with ⟨e, z⟩ | ⟨e1, e2⟩
  · exact .inl ⟨s _ _ e ha, z⟩
  · exact .inr ⟨s _ _ e1 ha, s _ _ e2 hd⟩
theorem StAt.ext {H H' : Hp} {a dx : Addr} {p v n pa un : V} (h : StAt K H a dx p v n pa un) (e : Ext H H') : StAt K H' a dx p v n pa un := h.sm (l := []) (Sm.of e) (by simp) (by simp)
theorem slH_sm {H : Hp} {a C dx : Addr} {vs : List (Option V)} : Sm [a, dx] H (SlX.slH H a C dx vs) := fun b o e n => by
  simp only [List.mem_cons, List.not_mem_nil, or_false, not_or] at n
  rw [SlX.slH_ne n.1 n.2]
  exact e
/-! __init__ -/
def spStI (K : PySem.W.Frag) : Sp := fun vs H Q _ => ∃ (x k dx : Addr) (p v n pa un : V), vs = [.ref x, .ref k, pa, un] ∧ H x = some (.ins (cState K) dx []) ∧ dx ≠ x ∧ SqT K H k [p, v, n] ∧ ∀ H', Sm [x, dx] H H' → StAt K H' x dx p v n pa un → Q .non H'
theorem sc_State_init : FnScope ["self", "kept", "past", "undone"] ["self", "kept", "past", "undone"] (defScope s_State_init) := ⟨rfl, rfl, rfl, by decide +kernel, rfl, by decide +kernel, by decide +kernel⟩
theorem ok_State (T : Txt w K mg) : CF P w K mg base 1 "State" (cState K) (a_State_init K) (spStI K) := by
  obtain ⟨fd, F⟩ := T.d_State_init
  refine ⟨fnr F sc_State_init (F.binds fun _ _ _ _ _ _ us hl => match us, hl with | [_, _, _, _], _ => rfl) (by rintro vs H Q E ⟨_, _, _, _, _, _, _, _, rfl, _⟩; rfl) fun cdv A outer s H vs Q E hr h => ?_, T.mk_State, T.g_State⟩
  obtain ⟨x, k, dx, p, v, n, pa, un, rfl, hx, hd, hk, q⟩ := h
  refine ⟨_, (pss_cons (ps_asg (pv 1) (pg_tup rfl (pgs_cons (pgSl (pv 0)) (pgs_cons (pgSl (pv 0)) (pgs_cons (pgSl (pv 0)) pgs_nil)))))
    (pss_cons (SlX.ps_sl (pv 0) (pv 2))
    (pss_one (SlX.ps_sl (pv 0) (pv 3))))), ?_⟩
  refine ⟨_, rfl, k, _, rfl, hk, rfl, _, _, rfl, _, rfl, x, cState K, dx, _, _, _, rfl, .inl ⟨hx, rfl⟩, T.sc_State, T.sl_present, ?_⟩
  refine ⟨_, _, rfl, _, rfl, x, cState K, dx, _, _, _, rfl, SlX.slH_slt hd, T.sc_State, T.sl_vows, ?_⟩
  refine ⟨_, _, rfl, _, rfl, x, cState K, dx, _, _, _, rfl, SlX.slH_slt hd, T.sc_State, T.sl_noted, rfl, ?_⟩
  refine ⟨_, rfl, _, rfl, x, cState K, dx, _, _, _, rfl, SlX.slH_slt hd, T.sc_State, T.sl_past, ?_⟩
  refine ⟨_, rfl, _, rfl, x, cState K, dx, _, _, _, rfl, SlX.slH_slt hd, T.sc_State, T.sl_undone, ?_⟩
  refine q _ ((((slH_sm.trans slH_sm).trans slH_sm).trans slH_sm).trans slH_sm) ⟨hd, _, SlX.slH_slt hd, rfl, rfl, rfl, rfl, rfl⟩
/-! kept -/
def spKept (K : PySem.W.Frag) : Sp := fun vs H Q _ => ∃ (a dx : Addr) (p v n pa un : V), vs = [.ref a] ∧ StAt K H a dx p v n pa un ∧ ∀ H' k, Ext H H' → H k = none → H' k = some (.tup [p, v, n]) → Q (.ref k) H'
theorem sc_State_kept : FnScope ["self"] ["self"] (defScope s_State_kept) := ⟨rfl, rfl, rfl, by decide +kernel, rfl, by decide +kernel, by decide +kernel⟩
theorem ok_State_kept (T : Txt w K mg) : FnR P w K mg base CX0 1 (a_State_kept K) (spKept K) := by
  obtain ⟨fd, F⟩ := T.d_State_kept
  refine fnr F sc_State_kept (F.binds fun _ _ _ _ _ _ us hl => match us, hl with | [_], _ => rfl) (by rintro vs H Q E ⟨_, _, _, _, _, _, _, rfl, _⟩; rfl) fun cdv A outer s H vs Q E hr h => ?_
  obtain ⟨a, dx, p, v, n, pa, un, rfl, ⟨hd, vs, h1, h2, h3, h4, h5, h6⟩, q⟩ := h
  refine ⟨_, (pss_one (ps_ret (pe_tup (pa_cons (SlX.pe_sl (pv 0)) (pa_cons (SlX.pe_sl (pv 0)) (pa_cons (SlX.pe_sl (pv 0)) pa_nil)))))), ?_⟩
  exact ⟨_, rfl, a, cState K, dx, _, vs, _, _, rfl, h1, T.sc_State, T.sl_present, h2, _, rfl, a, cState K, dx, _, vs, _, _, rfl, h1, T.sc_State, T.sl_vows, h3,
    _, rfl, a, cState K, dx, _, vs, _, _, rfl, h1, T.sc_State, T.sl_noted, h4, by show 3 ≤ sizeLine; decide, fun k hk => q _ k (Ext.upd hk) hk upd_same⟩
end
end Ls
set_option maxRecDepth 100000
set_option maxHeartbeats 4000000
/-! State: copied, go_on -/
namespace Ls
open PySem PySem.Spec PyProof.Rows L2
section
variable {P : Program} {w : World} {K : PySem.W.Frag} {mg : Str → Option Value} {base : Heap}
theorem StAt.at2 {H : Hp} {a dx : Addr} {p v n pa un : V} (h : StAt K H a dx p v n pa un) : ∃ vs, H a = some (SlX.SlO a (cState K) dx vs) ∧ H dx = some (.xd []) := by
  obtain ⟨h0, vs, h1, h2, _⟩ := h
  rcases h1 with ⟨e, z⟩ | ⟨e1, e2⟩
  · rw [z] at h2
    cases h2
  · exact ⟨vs, e1, e2⟩
theorem StAt.smfz {H H' : Hp} {a dx : Addr} {p v n pa un : V} (h : StAt K H a dx p v n pa un) (s : Sm [a, dx] H H') : Fz H H' := by
  obtain ⟨vs, e1, e2⟩ := h.at2
  refine s.fz fun b hb o e => ?_
  simp only [List.mem_cons, List.not_mem_nil, or_false] at hb
  rcases hb with z | z
  · rw [z, e1] at e
    cases e
    rfl
  · rw [z, e2] at e
    cases e
    rfl
/-- the past: what was done, beside what stood before -/
def EntAt (K : PySem.W.Frag) (H : Hp) (op x : V) : Prop := ∃ t y, x = .ref t ∧ SqT K H t [op, y]
def Ents (K : PySem.W.Frag) (H : Hp) : List V → List V → Prop
  | [], [] => True
  | o :: os, x :: xs => EntAt K H o x ∧ Ents K H os xs
  | _, _ => False
theorem EntAt.fz {H H' : Hp} {o x : V} (h : EntAt K H o x) (e : Fz H H') : EntAt K H' o x := by
  obtain ⟨t, y, h1, h2⟩ := h
  exact ⟨t, y, h1, SqT.fz h2 e⟩
theorem Ents.fz {H H' : Hp} (e : Fz H H') : ∀ {os xs : List V}, Ents K H os xs → Ents K H' os xs
  | [], [], _ => trivial
  | _ :: _, _ :: _, h => ⟨h.1.fz e, Ents.fz e h.2⟩
  | [], _ :: _, h => h.elim
  | _ :: _, [], h => h.elim
theorem Ents.len {H : Hp} : ∀ {os xs : List V}, Ents K H os xs → os.length = xs.length
  | [], [], _ => rfl
  | _ :: _, _ :: _, h => by simp [Ents.len h.2]
  | [], _ :: _, h => h.elim
  | _ :: _, [], h => h.elim
theorem Ents.app {H : Hp} {os' xs' : List V} (h' : Ents K H os' xs') : ∀ {os xs : List V}, Ents K H os xs → Ents K H (os ++ os') (xs ++ xs')
  | [], [], _ => h'
  | _ :: _, _ :: _, h => ⟨h.1, Ents.app h' h.2⟩
  | [], _ :: _, h => h.elim
  | _ :: _, [], h => h.elim
theorem Ents.get {H : Hp} : ∀ {os xs : List V} {i : Nat} {o : V}, Ents K H os xs → os[i]? = some o → ∃ x, xs[i]? = some x ∧ EntAt K H o x
  | [], [], _, _, _, h => by simp at h
  | o :: os, x :: xs, 0, _, h, e => by
    simp only [List.getElem?_cons_zero, Option.some.injEq] at e
    subst e
    exact ⟨x, rfl, h.1⟩
  | o :: os, x :: xs, i + 1, _, h, e => by
    simp only [List.getElem?_cons_succ] at e ⊢
    exact Ents.get h.2 e
  | [], _ :: _, _, _, h, _ => h.elim
  | _ :: _, [], _, _, h, _ => h.elim
def PastAt (K : PySem.W.Frag) (H : Hp) (pa : V) (ops : List V) : Prop := ∃ pp xs, pa = .ref pp ∧ SqT K H pp xs ∧ Ents K H ops xs
theorem PastAt.fz {H H' : Hp} {pa : V} {ops : List V} (h : PastAt K H pa ops) (e : Fz H H') : PastAt K H' pa ops := by
  obtain ⟨pp, xs, h1, h2, h3⟩ := h
  exact ⟨pp, xs, h1, SqT.fz h2 e, h3.fz e⟩
/-! copied -/
def spCopySt (K : PySem.W.Frag) : Sp := fun vs H Q _ => ∃ (a dx : Addr) (p v n pa un : V), vs = [.ref a] ∧ StAt K H a dx p v n pa un ∧ ∀ H' b db, Ext H H' → H b = none → H db = none → StAt K H' b db p v n pa un → Q (.ref b) H'
theorem sc_State_copied : FnScope ["self"] ["self"] (defScope s_State_copied) := ⟨rfl, rfl, rfl, by decide +kernel, rfl, by decide +kernel, by decide +kernel⟩
theorem ok_State_copied (T : Txt w K mg) : FnR P w K mg base CX0 3 (a_State_copied K) (spCopySt K) := by
  obtain ⟨fd, F⟩ := T.d_State_copied
  refine fnr F sc_State_copied (F.binds fun _ _ _ _ _ _ us hl => match us, hl with | [_], _ => rfl) (by rintro vs H Q E ⟨_, _, _, _, _, _, _, rfl, _⟩; rfl) fun cdv A outer s H vs Q E hr h => ?_
  obtain ⟨a, dx, p, v, n, pa, un, rfl, hS, q⟩ := h
  obtain ⟨hd, vs, h1, h2, h3, h4, h5, h6⟩ := id hS
  refine ⟨_, (pss_one (ps_ret (pmake (ok_State T) (hr.mono (by first | decide | omega)) (pa_cons (SlX.pe_methSl0 (pv 0) T.sc_State T.m_State_kept (ok_State_kept T) (hr.mono (by first | decide | omega)) pass0) (pa_cons (SlX.pe_sl (pv 0)) (pa_cons (SlX.pe_sl (pv 0)) pa_nil)))))), ?_⟩
  refine ⟨_, rfl, a, dx, vs, rfl, h1, a, dx, p, v, n, pa, un, rfl, hS, fun H1 k e1 hk hk1 => ?_⟩
  obtain ⟨_, vs', h1, h2, h3, h4, h5, h6⟩ := hS.ext e1
  refine ⟨_, rfl, a, cState K, dx, _, vs', _, _, rfl, h1, T.sc_State, T.sl_past, h5, _, rfl, a, cState K, dx, _, vs', _, _, rfl, h1, T.sc_State, T.sl_undone, h6, ?_⟩
  refine fun x dx2 n1 n2 n3 => ?_
  have e2 : Ext H1 (upd (upd H1 dx2 (.own x)) x (.ins (cState K) dx2 [])) := (Ext.upd n2).trans (Ext.upd (by rw [upd_ne (Ne.symm n3)]; exact n1))
  refine ⟨x, k, dx2, p, v, n, pa, un, rfl, upd_same, n3, .inl (.inl (e2 _ _ hk1)), fun H' sm hH' => ⟨rfl, q H' x dx2 (fun b o hb => ?_) ?_ ?_ hH'⟩⟩
  · have hb1 := e1 b o hb
    have hb2 := e2 b o hb1
    refine sm b o hb2 ?_
    simp only [List.mem_cons, List.not_mem_nil, or_false, not_or]
    exact ⟨fun z => (by rw [z, n1] at hb1; cases hb1), fun z => (by rw [z, n2] at hb1; cases hb1)⟩
  · cases hx : H x with
    | none => rfl
    | some o => exact absurd (e1 x o hx) (by rw [n1]; exact fun z => nomatch z)
  · cases hx : H dx2 with
    | none => rfl
    | some o => exact absurd (e1 dx2 o hx) (by rw [n2]; exact fun z => nomatch z)
/-! go_on -/
def spGoOn (K : PySem.W.Frag) : Sp := fun vs H Q _ => ∃ (a dx k : Addr) (op p v n pa un p' v' n' : V) (ops : List V), vs = [.ref a, op, .ref k] ∧ StAt K H a dx p v n pa un ∧ SqT K H k [p', v', n'] ∧ PastAt K H pa ops ∧ ops.length < 100 ∧
  ∀ H' pa' un', Sm [a, dx] H H' → StAt K H' a dx p' v' n' pa' un' → PastAt K H' pa' (ops ++ [op]) → Q .non H'
theorem sc_State_go_on : FnScope ["self", "operation", "kept"] ["self", "operation", "kept"] (defScope s_State_go_on) := ⟨rfl, rfl, rfl, by decide +kernel, rfl, by decide +kernel, by decide +kernel⟩
theorem ok_State_go_on (T : Txt w K mg) : FnR P w K mg base CX0 2 (a_State_go_on K) (spGoOn K) := by
  obtain ⟨fd, F⟩ := T.d_State_go_on
  refine fnr F sc_State_go_on (F.binds fun _ _ _ _ _ _ us hl => match us, hl with | [_, _, _], _ => rfl) (by rintro vs H Q E ⟨_, _, _, _, _, _, _, _, _, _, _, _, _, rfl, _⟩; rfl) fun cdv A outer s H vs Q E hr h => ?_
  obtain ⟨a, dx, k, op, p, v, n, pa, un, p', v', n', ops, rfl, hS, hk, ⟨pp, xs, rfl, hp, hE⟩, hops, q⟩ := h
  obtain ⟨hd, vs, h1, h2, h3, h4, h5, h6⟩ := id hS
  refine ⟨_, (pss_cons (SlX.ps_sl (pv 0) (pe_tup (StX.pa_star (SlX.pe_sl (pv 0)) (pa_cons (pe_tup (pa_cons (pv 1) (pa_cons (SlX.pe_methSl0 (pv 0) T.sc_State T.m_State_kept (ok_State_kept T) (hr.mono (by first | decide | omega)) pass0) pa_nil))) pa_nil))))
    (pss_cons (SlX.ps_sl (pv 0) (pe_tup pa_nil))
    (pss_one (ps_asg (pv 2) (pg_tup rfl (pgs_cons (pgSl (pv 0)) (pgs_cons (pgSl (pv 0)) (pgs_cons (pgSl (pv 0)) pgs_nil)))))))), ?_⟩
  refine ⟨_, rfl, a, cState K, dx, _, vs, _, _, rfl, h1, T.sc_State, T.sl_past, h5, pp, xs, rfl, .inl hp, ?_⟩
  refine ⟨_, rfl, _, rfl, a, dx, vs, rfl, h1, a, dx, p, v, n, _, un, rfl, hS, fun H1 kk e1 hkn hk1 => ?_⟩
  refine ⟨by show 2 ≤ sizeLine; decide, fun t ht => ?_⟩
  have hxl := hE.len
  have hle : (xs ++ [V.ref t]).length ≤ sizeLine := by
    rw [List.length_append]
    exact Nat.le_trans (by simp only [List.length_cons, List.length_nil]; omega : xs.length + [V.ref t].length ≤ 101) (by decide)
  refine ⟨hle, fun t2 ht2 => ?_⟩
  have e2 : Ext H1 (upd H1 t (.tup [op, .ref kk])) := Ext.upd ht
  have e3 : Ext (upd H1 t (.tup [op, .ref kk])) (upd (upd H1 t (.tup [op, .ref kk])) t2 (.tup (xs ++ [V.ref t]))) := Ext.upd ht2
  generalize hH3 : upd (upd H1 t (.tup [op, .ref kk])) t2 (.tup (xs ++ [V.ref t])) = H3 at e3 ⊢
  have ht3 := e3 _ _ (upd_same (H := H1) (a := t) (o := .tup [op, .ref kk]))
  have ht23 : H3 t2 = some (.tup (xs ++ [V.ref t])) := by rw [← hH3]; exact upd_same
  have e03 : Ext H H3 := e1.trans (e2.trans e3)
  have hS3 := hS.ext e03
  obtain ⟨_, vs3, g1, g2, g3, g4, g5, g6⟩ := id hS3
  refine ⟨_, rfl, a, cState K, dx, _, vs3, _, rfl, g1, T.sc_State, T.sl_past, ?_⟩
  refine ⟨by show 0 ≤ sizeLine; decide, fun u hu => ?_⟩
  have hA := SlX.slH_slt (H := H3) (a := a) (C := cState K) (dx := dx) (vs := SlX.putS 1 (.ref t2) vs3) hd
  generalize hH4 : SlX.slH H3 a (cState K) dx (SlX.putS 1 (.ref t2) vs3) = H4 at hA hu ⊢
  have s34 : Sm [a, dx] H3 H4 := by rw [← hH4]; exact slH_sm
  have e45 : Ext H4 (upd H4 u (.tup [])) := Ext.upd hu
  have hA5 : SlX.Slt (upd H4 u (.tup [])) a (cState K) dx (SlX.putS 1 (.ref t2) vs3) := by
    rcases hA with ⟨z1, z2⟩ | ⟨z1, z2⟩
    · exact .inl ⟨e45 _ _ z1, z2⟩
    · exact .inr ⟨e45 _ _ z1, e45 _ _ z2⟩
  have s35 : Sm [a, dx] H3 (upd H4 u (.tup [])) := s34.trans (Sm.of e45)
  generalize upd H4 u (.tup []) = H5 at hA5 s35 ⊢
  refine ⟨_, rfl, a, cState K, dx, _, _, _, rfl, hA5, T.sc_State, T.sl_undone, ?_⟩
  have fz3 := hS3.smfz s35
  refine ⟨_, rfl, k, _, rfl, SqT.fz hk ((Fz.of e03).trans (hS3.smfz (s35.trans slH_sm))), rfl, ?_⟩
  refine ⟨_, _, rfl, _, rfl, a, cState K, dx, _, _, _, rfl, SlX.slH_slt hd, T.sc_State, T.sl_present, ?_⟩
  refine ⟨_, _, rfl, _, rfl, a, cState K, dx, _, _, _, rfl, SlX.slH_slt hd, T.sc_State, T.sl_vows, ?_⟩
  refine ⟨_, _, rfl, _, rfl, a, cState K, dx, _, _, _, rfl, SlX.slH_slt hd, T.sc_State, T.sl_noted, rfl, ?_⟩
  have sm := (((s35.trans (slH_sm (C := cState K) (vs := SlX.putS 3 (.ref u) (SlX.putS 1 (.ref t2) vs3)))).trans (slH_sm (C := cState K) (vs := SlX.putS 2 p' (SlX.putS 3 (.ref u) (SlX.putS 1 (.ref t2) vs3))))).trans
    (slH_sm (C := cState K) (vs := SlX.putS 4 v' (SlX.putS 2 p' (SlX.putS 3 (.ref u) (SlX.putS 1 (.ref t2) vs3)))))).trans (slH_sm (C := cState K) (vs := SlX.putS 0 n' (SlX.putS 4 v' (SlX.putS 2 p' (SlX.putS 3 (.ref u) (SlX.putS 1 (.ref t2) vs3))))))
  have fzz := hS3.smfz sm
  refine q _ (.ref t2) (.ref u) ((Sm.of e03).trans sm) ⟨hd, _, SlX.slH_slt hd, ?_, ?_, ?_, ?_, ?_⟩ ⟨t2, _, rfl, .inl (.inl (fzz _ _ rfl ht23)), Ents.app (os' := [op]) (xs' := [.ref t]) ⟨⟨t, _, rfl, .inl (.inl (fzz _ _ rfl ht3))⟩, trivial⟩ (hE.fz ((Fz.of e03).trans fzz))⟩
  · exact (SlX.putS_ne (by decide)).mpr ((SlX.putS_ne (by decide)).mpr (SlX.putS_get _ _ _))
  · exact (SlX.putS_ne (by decide)).mpr (SlX.putS_get _ _ _)
  · exact SlX.putS_get _ _ _
  · exact (SlX.putS_ne (by decide)).mpr ((SlX.putS_ne (by decide)).mpr ((SlX.putS_ne (by decide)).mpr ((SlX.putS_ne (by decide)).mpr (SlX.putS_get _ _ _))))
  · exact (SlX.putS_ne (by decide)).mpr ((SlX.putS_ne (by decide)).mpr ((SlX.putS_ne (by decide)).mpr (SlX.putS_get _ _ _)))
end
end Ls
set_option maxRecDepth 100000
set_option maxHeartbeats 4000000
/-! Register: __init__, stack, enter, edit -/
namespace Ls
open PySem PySem.Spec PyProof.Rows L2
theorem _root_.L2.Ext.none {H H' : Hp} {a : Addr} (e : Ext H H') (h : H' a = none) : H a = none := by
  cases hx : H a with
  | none => rfl
  | some o =>
    rw [e a o hx] at h
    cases h
theorem Sm.drop2 {H H' : Hp} {a b : Addr} (s : Sm [a, b] H H') (h1 : H a = none) (h2 : H b = none) : Sm [] H H' := (s.drop h1).drop h2
section
variable {P : Program} {w : World} {K : PySem.W.Frag} {mg : Str → Option Value} {base : Heap}
/-- a state of a desk: its stack, nothing promised, what was done -/
def StO (K : PySem.W.Frag) (H : Hp) (s ds : Addr) (es : List Tr) (ops : List V) : Prop := ∃ pr v n pa un, StAt K H s ds (.ref pr) (.ref v) n pa un ∧ AtT K H (.st es) pr ∧ SqT K H v [] ∧ PastAt K H pa ops
def RegF (K : PySem.W.Frag) (H : Hp) (r dr s : Addr) : Prop := H r = some (.ins (cRegister K) dr [("state", .ref s)])
/-- a desk -/
def RegAt (K : PySem.W.Frag) (H : Hp) (r dr s ds : Addr) (es : List Tr) (ops : List V) : Prop := RegF K H r dr s ∧ StO K H s ds es ops
theorem StO.sm {H H' : Hp} {l : List Addr} {s ds : Addr} {es : List Tr} {ops : List V} (h : StO K H s ds es ops) (m : Sm l H H') (fz : Fz H H') (h1 : s ∉ l) (h2 : ds ∉ l) : StO K H' s ds es ops := by
  obtain ⟨pr, v, n, pa, un, a, b, c, d⟩ := h
  exact ⟨pr, v, n, pa, un, a.sm m h1 h2, b.fz fz, SqT.fz c fz, d.fz fz⟩
theorem StO.ext {H H' : Hp} {s ds : Addr} {es : List Tr} {ops : List V} (h : StO K H s ds es ops) (e : Ext H H') : StO K H' s ds es ops := h.sm (l := []) (Sm.of e) (Fz.of e) (by simp) (by simp)
theorem RegAt.ext {H H' : Hp} {r dr s ds : Addr} {es : List Tr} {ops : List V} (h : RegAt K H r dr s ds es ops) (e : Ext H H') : RegAt K H' r dr s ds es ops := ⟨e _ _ h.1, h.2.ext e⟩
theorem StO.ne_ins {H : Hp} {s ds r C dr : Addr} {fs : List (Str × V)} {es : List Tr} {ops : List V} (h : StO K H s ds es ops) (hr : H r = some (.ins C dr fs)) : r ∉ [s, ds] := by
  obtain ⟨pr, v, n, pa, un, a, _⟩ := h
  obtain ⟨vs, e1, e2⟩ := a.at2
  simp only [List.mem_cons, List.not_mem_nil, or_false, not_or]
  exact ⟨fun z => (by rw [z, e1] at hr; cases hr), fun z => (by rw [z, e2] at hr; cases hr)⟩
theorem StO.ne_lst {H : Hp} {s ds r : Addr} {xs : List V} {es : List Tr} {ops : List V} (h : StO K H s ds es ops) (hr : H r = some (.lst xs)) : r ∉ [s, ds] := by
  obtain ⟨pr, v, n, pa, un, a, _⟩ := h
  obtain ⟨vs, e1, e2⟩ := a.at2
  simp only [List.mem_cons, List.not_mem_nil, or_false, not_or]
  exact ⟨fun z => (by rw [z, e1] at hr; cases hr), fun z => (by rw [z, e2] at hr; cases hr)⟩
theorem StO.smfz {H H' : Hp} {s ds : Addr} {es : List Tr} {ops : List V} (h : StO K H s ds es ops) (m : Sm [s, ds] H H') : Fz H H' := by
  obtain ⟨pr, v, n, pa, un, a, _⟩ := h
  exact a.smfz m
theorem RowsAt.fz {H H' : Hp} (e : Fz H H') : ∀ {gs : List (Asg × Str × Str)} {ds : List Addr}, RowsAt H gs ds → RowsAt H' gs ds
  | [], [], _ => trivial
  | _ :: _, _ :: _, h => ⟨let ⟨d, z⟩ := h.1; ⟨d, e _ _ rfl z⟩, RowsAt.fz e h.2⟩
  | [], _ :: _, h => h.elim
  | _ :: _, [], h => h.elim
/-! __init__ -/
def spRegI (K : PySem.W.Frag) : Sp := fun vs H Q _ => ∃ (x st dx : Addr) (es : List Tr), vs = [.ref x, .ref st] ∧ H x = some (.ins (cRegister K) dx []) ∧ AtT K H (.st es) st ∧
  ∀ H' s ds, Sm [x] H H' → H s = none → H ds = none → RegAt K H' x dx s ds es [] → Q .non H'
theorem sc_Register_init : FnScope ["self", "stack"] ["self", "stack"] (defScope s_Register_init) := ⟨rfl, rfl, rfl, by decide +kernel, rfl, by decide +kernel, by decide +kernel⟩
theorem ok_Register (T : Txt w K mg) : CF P w K mg base 3 "Register" (cRegister K) (a_Register_init K) (spRegI K) := by
  obtain ⟨fd, F⟩ := T.d_Register_init
  refine ⟨fnr F sc_Register_init (F.binds fun _ _ _ _ _ _ us hl => match us, hl with | [_, _], _ => rfl) (by rintro vs H Q E ⟨_, _, _, _, rfl, _⟩; rfl) fun cdv A outer s H vs Q E hr h => ?_, T.mk_Register, T.g_Register⟩
  obtain ⟨x, st, dx, es, rfl, hx, hst, q⟩ := h
  refine ⟨_, (pss_one (ps_fld (pv 0) (pmake (ok_State T) (hr.mono (by first | decide | omega)) (pa_cons (pe_tup (pa_cons (pv 1) (pa_cons (pe_tup pa_nil) (pa_cons pe_dnewK pa_nil)))) (pa_cons (pe_tup pa_nil) (pa_cons (pe_tup pa_nil) pa_nil)))) rfl)), ?_⟩
  refine ⟨_, rfl, by show 0 ≤ sizeLine; decide, fun t1 h1 d h2 => ⟨by show 3 ≤ sizeLine; decide, fun t2 h3 => ⟨by show 0 ≤ sizeLine; decide, fun t3 h4 => ⟨by show 0 ≤ sizeLine; decide, fun t4 h5 => fun s ds n1 n2 n3 => ?_⟩⟩⟩⟩
  have e1 := Ext.upd (H := H) h1 (o := .tup [])
  have e2 := e1.upd' h2 (o := .dK [])
  have e3 := e2.upd' h3 (o := .tup [.ref st, .ref t1, .ref d])
  have e4 := e3.upd' h4 (o := .tup [])
  have e5 := e4.upd' h5 (o := .tup [])
  generalize hH5 : upd (upd (upd (upd (upd H t1 (.tup [])) d (.dK [])) t2 (.tup [.ref st, .ref t1, .ref d])) t3 (.tup [])) t4 (.tup []) = H5 at e5 n1 n2 ⊢
  have k1 : H5 t1 = some (.tup []) := by
    rw [← hH5]
    exact ((((Ext.rfl'.upd' h2).upd' h3).upd' h4).upd' h5) _ _ upd_same
  have k2 : H5 t2 = some (.tup [.ref st, .ref t1, .ref d]) := by
    rw [← hH5]
    exact ((Ext.rfl'.upd' h4).upd' h5) _ _ upd_same
  have k3 : H5 t3 = some (.tup []) := by
    rw [← hH5]
    exact (Ext.rfl'.upd' h5) _ _ upd_same
  have e6 : Ext H5 (upd (upd H5 ds (.own s)) s (.ins (cState K) ds [])) := (Ext.upd n2).trans (Ext.upd (by rw [upd_ne (Ne.symm n3)]; exact n1))
  refine ⟨s, t2, ds, _, _, _, _, _, rfl, upd_same, n3, .inl (.inl (e6 _ _ k2)), fun H' sm hS => ⟨rfl, ?_⟩⟩
  have sm5 : Sm [] H5 H' := ((Sm.of (l := [s, ds]) e6).trans sm).drop2 n1 n2
  have ex := e5.trans sm5.ext
  have ex5 := sm5.ext
  refine ⟨_, rfl, x, cRegister K, dx, _, rfl, ex _ _ hx, T.c_Register, T.n_Register_state, by simp, ?_⟩
  have xs : x ∉ [s, ds] := by
    obtain ⟨vs, z1, z2⟩ := hS.at2
    have hx' := ex _ _ hx
    simp only [List.mem_cons, List.not_mem_nil, or_false, not_or]
    exact ⟨fun z => (by rw [z, z1] at hx'; cases hx'), fun z => (by rw [z, z2] at hx'; cases hx')⟩
  simp only [List.mem_cons, List.not_mem_nil, or_false, not_or] at xs
  have sx : Sm [x] H' (upd H' x (.ins (cRegister K) dx [("state", .ref s)])) := (Sm.refl _ _).upd (List.mem_singleton.mpr rfl)
  have fx : Fz H' (upd H' x (.ins (cRegister K) dx [("state", .ref s)])) := sx.fz fun b hb o e => by
    rw [List.mem_singleton.mp hb, ex _ _ hx] at e
    cases e
    simp [Imm]
  refine q _ s ds ((Sm.of ex).trans sx) (e5.none n1) (e5.none n2) ⟨upd_same, ?_⟩
  refine StO.sm (l := [x]) (H := H') ⟨st, t1, _, _, _, hS, hst.fz (Fz.of ex), .inl (.inl (ex5 _ _ k1)), t3, [], rfl, .inl (.inl (ex5 _ _ k3)), trivial⟩ sx fx ?_ ?_
  · simpa using Ne.symm xs.1
  · simpa using Ne.symm xs.2
/-! stack -/
def spRStack (K : PySem.W.Frag) : Sp := fun vs H Q _ => ∃ (r dr s ds : Addr) (es : List Tr) (ops : List V), vs = [.ref r] ∧ RegAt K H r dr s ds es ops ∧ ∀ pr, AtT K H (.st es) pr → Q (.ref pr) H
theorem sc_Register_stack : FnScope ["self"] ["self"] (defScope s_Register_stack) := ⟨rfl, rfl, rfl, by decide +kernel, rfl, by decide +kernel, by decide +kernel⟩
theorem ok_Register_stack (T : Txt w K mg) : MF P w K mg base 1 (cRegister K) "stack" (a_Register_stack K) (spRStack K) := by
  obtain ⟨fd, F⟩ := T.d_Register_stack
  refine ⟨fnr F sc_Register_stack (F.binds fun _ _ _ _ _ _ us hl => match us, hl with | [_], _ => rfl) (by rintro vs H Q E ⟨_, _, _, _, _, _, rfl, _⟩; rfl) fun cdv A outer s H vs Q E hr h => ?_, T.m_Register_stack, T.c_Register⟩
  obtain ⟨r, dr, s, ds, es, ops, rfl, ⟨hr1, pr, v, n, pa, un, hS, hA, hv, hp⟩, q⟩ := h
  refine ⟨_, (pss_one (ps_ret (SlX.pe_sl (pe_fld (pv 0) rfl)))), ?_⟩
  obtain ⟨hd, vs, h1, h2, h3, h4, h5, h6⟩ := hS
  exact ⟨_, rfl, r, cRegister K, dr, _, _, rfl, hr1, T.c_Register, T.n_Register_state, rfl, s, cState K, ds, _, vs, _, _, rfl, h1, T.sc_State, T.sl_present, h2, q pr hA⟩
/-! enter -/
def spEnter (K : PySem.W.Frag) : Sp := fun vs H Q _ => ∃ (r dr s ds pr' v' : Addr) (op n' : V) (es es' : List Tr) (ops : List V), vs = [.ref r, op, .ref pr', .ref v', n'] ∧ RegAt K H r dr s ds es ops ∧ AtT K H (.st es') pr' ∧ SqT K H v' [] ∧ ops.length < 100 ∧
  ∀ H', Sm [s, ds] H H' → RegAt K H' r dr s ds es' (ops ++ [op]) → Q .non H'
theorem sc_Register_enter : FnScope ["self", "operation", "present", "vows", "noted", "rows", "index", "known", "word", "here", "name", "result"] ["self", "operation", "present", "vows", "noted"] (defScope s_Register_enter) := ⟨rfl, rfl, rfl, by decide +kernel, rfl, by decide +kernel, by decide +kernel⟩
theorem ok_Register_enter (T : Txt w K mg) : MF P w K mg base 9 (cRegister K) "enter" (a_Register_enter K) (spEnter K) := by
  obtain ⟨fd, F⟩ := T.d_Register_enter
  refine ⟨fnr F sc_Register_enter (F.binds fun _ _ _ _ _ _ us hl => match us, hl with | [_, _, _, _, _], _ => rfl) (by rintro vs H Q E ⟨_, _, _, _, _, _, _, _, _, _, _, rfl, _⟩; rfl) fun cdv A outer s H vs Q E hr h => ?_, T.m_Register_enter, T.c_Register⟩
  obtain ⟨r, dr, s, ds, pr', v', op, n', es, es', ops, rfl, hR, hA, hv, hl, q⟩ := h
  refine ⟨_, (pss_cons (ps_set (i := 5) sc_Register_enter.nd rfl (.inl rfl) (pcall (ok_outcomes T) (hr.mono (by first | decide | omega)) (pa_cons (pv 2) pa_nil)))
    (pss_cons (ps_for PassesOwn.never rfl (pi_enumT T.f_enumerate (pa_cons (pv 3) pa_nil)) (pg_tup rfl (pgs_cons (pg_name (i := 6) sc_Register_enter.nd rfl (.inl rfl)) (pgs_cons (pg_tup rfl (pgs_cons (pg_name (i := 7) sc_Register_enter.nd rfl (.inl rfl)) (pgs_cons (pg_name (i := 8) sc_Register_enter.nd rfl (.inl rfl)) pgs_nil))) pgs_nil))) pss_never)
    (pss_one (ps_expr (SlX.pe_methSl (pe_fld (pv 0) rfl) T.sc_State T.m_State_go_on (ok_State_go_on T) (hr.mono (by first | decide | omega)) pass0 (pa_cons (pv 1) (pa_cons (pe_tup (pa_cons (pv 2) (pa_cons (pv 3) (pa_cons (pv 4) pa_nil)))) pa_nil))))))), ?_⟩
  refine ⟨_, rfl, pr', es', rfl, hA, fun H1 p1 e1 => ?_⟩
  refine ⟨_, rfl, v', [], rfl, SqT.ext hv e1, ?_⟩
  refine for_it walk_enumT (fun i σ H2 => σ = [some (.ref r), some op, some (.ref pr'), some (.ref v'), some n', some (.ref p1), none, none, none, none, none, none] ∧ H2 = H1) ⟨rfl, rfl⟩ (fun i σ H2 _ hi => by rw [hi.2]; exact SqT.ext hv e1) (fun i v σ H2 H3 hi => absurd hi (by simp)) fun σ H2 hp1 => ?_
  obtain ⟨rfl, rfl⟩ := hp1
  have hR1 := hR.ext e1
  obtain ⟨f1, pr, v, n, pa, un, hS, _, _, hP⟩ := id hR1
  obtain ⟨hd, vs, h1, h2, h3, h4, h5, h6⟩ := id hS
  refine ⟨_, rfl, r, cRegister K, dr, _, _, rfl, f1, T.c_Register, T.n_Register_state, rfl, s, ds, vs, rfl, h1, _, rfl, _, rfl, _, rfl, _, rfl, by show 3 ≤ sizeLine; decide, fun t ht => ?_⟩
  have e2 : Ext H2 (upd H2 t (.tup [.ref pr', .ref v', n'])) := Ext.upd ht
  refine ⟨s, ds, t, op, _, _, _, pa, un, .ref pr', .ref v', n', ops, rfl, hS.ext e2, .inl (.inl upd_same), hP.fz (Fz.of e2), hl, fun H4 pa' un' sm hS4 hP4 => ?_⟩
  have e02 := e1.trans e2
  have fz4 := (hS.ext e2).smfz sm
  refine q H4 ((Sm.of e02).trans sm) ⟨sm _ _ (e2 _ _ f1) ((hR1.2.ext e2).ne_ins (e2 _ _ f1)), pr', v', n', pa', un', hS4, (hA.fz (Fz.of e02)).fz fz4, SqT.fz (SqT.ext hv e02) fz4, hP4⟩
/-! edit -/
def spEdit (K : PySem.W.Frag) : Sp := fun vs H Q _ => ∃ (r dr s ds pr' : Addr) (op : V) (es es' : List Tr) (ops : List V), vs = [.ref r, op, .ref pr'] ∧ RegAt K H r dr s ds es ops ∧ AtT K H (.st es') pr' ∧ Few es es' ∧ ops.length < 100 ∧
  ∀ H', Sm [s, ds] H H' → RegAt K H' r dr s ds es' (ops ++ [op]) → Q (.int (told es es' : Nat)) H'
theorem sc_Register_edit : FnScope ["self", "operation", "later", "rows", "answers", "here", "there"] ["self", "operation", "later"] (defScope s_Register_edit) := ⟨rfl, rfl, rfl, by decide +kernel, rfl, by decide +kernel, by decide +kernel⟩
theorem ok_Register_edit (T : Txt w K mg) : MF P w K mg base 10 (cRegister K) "edit" (a_Register_edit K) (spEdit K) := by
  obtain ⟨fd, F⟩ := T.d_Register_edit
  refine ⟨fnr F sc_Register_edit (F.binds fun _ _ _ _ _ _ us hl => match us, hl with | [_, _, _], _ => rfl) (by rintro vs H Q E ⟨_, _, _, _, _, _, _, _, _, rfl, _⟩; rfl) fun cdv A outer s H vs Q E hr h => ?_, T.m_Register_edit, T.c_Register⟩
  obtain ⟨r, dr, s, ds, pr', op, es, es', ops, rfl, hR, hA, few, hl, q⟩ := h
  refine ⟨_, (pss_cons (ps_set (i := 3) sc_Register_edit.nd rfl (.inl rfl) (pcall (ok_both_outcomes T) (hr.mono (by first | decide | omega)) (pa_cons (SlX.pe_sl (pe_fld (pv 0) rfl)) (pa_cons (pv 2) pa_nil))))
    (pss_cons (ps_expr (pmeth (pv 0) (ok_Register_enter T) (hr.mono (by first | decide | omega)) (pa_cons (pv 1) (pa_cons (pv 2) (pa_cons (SlX.pe_sl (pe_fld (pv 0) rfl)) (pa_cons (SlX.pe_sl (pe_fld (pv 0) rfl)) pa_nil))))))
    (pss_one (ps_ret (pcb call_len_seq T.f_len (pa_cons (pe_lc (own := [("answers", 4), ("here", 5), ("there", 6)]) (g := gTup K 3 (gCons (gName 4) (gCons (gName 5) (gCons (gName 6) gNil)))) (tt := tTest (tOp rNe (tVar 5) (tVar 6))) (te := tVar 4) rfl sc_Register_edit.nd (pi_list (pv 3)) (blkOk_by (own := [("answers", 4), ("here", 5), ("there", 6)]) (N := ["self", "operation", "later", "rows", "answers", "here", "there"]) (sc := defScope s_Register_edit) (by decide +kernel)) (fun _ _ _ _ _ => pg_tup rfl (pgs_cons (pg_name (i := 4) sc_Register_edit.nd rfl (Or.inl rfl)) (pgs_cons (pg_name (i := 5) sc_Register_edit.nd rfl (Or.inl rfl)) (pgs_cons (pg_name (i := 6) sc_Register_edit.nd rfl (Or.inl rfl)) pgs_nil)))) (fun _ _ _ _ _ => pts_one (pt_cmpR op_ne (pv 5) (pv 6) (nomark _))) (fun _ _ _ _ _ => (pv 4))) pa_nil)))))), ?_⟩
  obtain ⟨f1, pr, v, n, pa, un, hS, hpr, hv, hP⟩ := id hR
  obtain ⟨hd, vs, h1, h2, h3, h4, h5, h6⟩ := id hS
  refine ⟨_, rfl, r, cRegister K, dr, _, _, rfl, f1, T.c_Register, T.n_Register_state, rfl, s, cState K, ds, _, vs, _, _, rfl, h1, T.sc_State, T.sl_present, h2, _, rfl, pr, pr', es, es', rfl, hpr, hA, few, fun H1 p ts e1 hp hr1 hlen => ?_⟩
  have hR1 := hR.ext e1
  obtain ⟨g1, pr1, v1, n1, pa1, un1, kS, kpr, kv, kP⟩ := id hR1
  obtain ⟨kd, ws, k1, k2, k3, k4, k5, k6⟩ := id kS
  refine ⟨_, rfl, r, dr, _, rfl, g1, rfl, _, rfl, _, rfl, _, rfl, r, cRegister K, dr, _, _, rfl, g1, T.c_Register, T.n_Register_state, rfl, s, cState K, ds, _, ws, _, _, rfl, k1, T.sc_State, T.sl_vows, k3,
    _, rfl, r, cRegister K, dr, _, _, rfl, g1, T.c_Register, T.n_Register_state, rfl, s, cState K, ds, _, ws, _, _, rfl, k1, T.sc_State, T.sl_noted, k4, ?_⟩
  refine ⟨r, dr, s, ds, pr', v1, op, n1, es, es', ops, rfl, hR1, hA.fz (Fz.of e1), kv, hl, fun H2 sm hR2 => ?_⟩
  have fz2 := hR1.2.smfz sm
  have hp2 := sm _ _ hp (hR1.2.ne_lst hp)
  have hrow := hr1.fz fz2
  have htl := hrow.len
  refine ⟨_, rfl, p, rfl, ⟨_, SqL.of hp2⟩, fun D hD => ?_⟩
  refine lc_it walk_list (fun j H' => Ext H2 H' ∧ ∃ l, H' D = some (.lst l) ∧ l.length = (((bothL es es').take j).filter fun r => decide (r.2.1 ≠ r.2.2)).length) ⟨Ext.upd hD, [], upd_same, rfl⟩ (fun j H' _ hj => SqL.ext (SqL.of hp2) hj.1) (fun j v Ha Hb hj hv hy2 => ?_) fun H6 hv => ?_
  · obtain ⟨e3, l, hl1, hl2⟩ := hv
    obtain ⟨rfl, hvj⟩ := hy2
    rw [List.length_map] at hj
    obtain ⟨g, hg⟩ : ∃ g, (bothL es es')[j]? = some g := ⟨_, List.getElem?_eq_getElem (by omega)⟩
    obtain ⟨t, d, ht1, ht2⟩ := (hrow.ext e3).get hg
    simp only [List.getElem?_map, ht1, Option.map_some, Option.some.injEq] at hvj
    subst hvj
    refine ⟨t, _, rfl, SqT.of ht2, rfl, _, _, rfl, _, _, rfl, _, _, rfl, rfl, rfl, ?_⟩
    refine ⟨_, rfl, _, rfl, rfl, _, rfl, ?_⟩
    have hlen2 : l.length < 5000 := by
      rw [hl2]
      refine Nat.lt_of_le_of_lt (List.length_filter_le _ _) ?_
      rw [List.length_take]
      omega
    by_cases c : g.2.1 = g.2.2
    · rw [decide_eq_true (by rw [c])]
      refine iteF ⟨e3, l, hl1, ?_⟩
      rw [take_succ hg, List.filter_append, hl2]
      simp [c]
    · rw [decide_eq_false (by intro z; exact c (V.str.inj z))]
      refine iteT ⟨_, rfl, l, hl1, Nat.lt_of_lt_of_le hlen2 (by decide), e3.updD hD, _, upd_same, ?_⟩
      rw [take_succ hg, List.filter_append, List.length_append, List.length_append, hl2]
      simp [c]
  · obtain ⟨e3, l, hl1, hl2⟩ := hv
    rw [List.length_map, ← htl, List.take_length] at hl2
    refine ⟨D, l, rfl, .inl (SqL.of hl1), ?_⟩
    have e4 : l.length = told es es' := hl2
    rw [e4]
    exact q H6 ((Sm.of e1).trans (sm.trans (Sm.of e3))) (hR2.ext e3)
end
end Ls
set_option maxRecDepth 100000
set_option maxHeartbeats 4000000
/-! Register: need_entries, put, take, swap, turn, execute -/
namespace Ls
open PySem PySem.Spec PyProof.Rows L2
section
variable {P : Program} {w : World} {K : PySem.W.Frag} {mg : Str → Option Value} {base : Heap}
def spNeed (K : PySem.W.Frag) : Sp := fun vs H Q _ => ∃ (r dr s ds : Addr) (es : List Tr) (ops : List V) (i c : Nat), vs = [.ref r, .int (i : Nat), .int (c : Nat)] ∧ RegAt K H r dr s ds es ops ∧ es.length ≤ 12 ∧ i + c ≤ es.length ∧ Q .non H
theorem sc_Register_need_entries : FnScope ["self", "index", "count"] ["self", "index", "count"] (defScope s_Register_need_entries) := ⟨rfl, rfl, rfl, by decide +kernel, rfl, by decide +kernel, by decide +kernel⟩
theorem ok_Register_need (T : Txt w K mg) : MF P w K mg base 4 (cRegister K) "need_entries" (a_Register_need_entries K) (spNeed K) := by
  obtain ⟨fd, F⟩ := T.d_Register_need_entries
  refine ⟨fnr F sc_Register_need_entries (F.binds fun _ _ _ _ _ _ us hl => match us, hl with | [_, _, _], _ => rfl) (by rintro vs H Q E ⟨_, _, _, _, _, _, _, _, rfl, _⟩; rfl) fun cdv A outer s H vs Q E hr h => ?_, T.m_Register_need_entries, T.c_Register⟩
  obtain ⟨r, dr, s, ds, es, ops, i, c, rfl, hR, h12, hi, q⟩ := h
  refine ⟨_, (pss_one (ps_if (pt_not (pt_val (pcall (ok_is_number T) (hr.mono (by first | decide | omega)) (pa_cons (pv 1) (pa_cons pe_int (pa_cons (pe_op op_sub (pcb (call_lenO (ok_Stack_len T) (hr.mono (by first | decide | omega))) T.f_len (pa_cons (SlX.pe_sl (pe_fld (pv 0) rfl)) pa_nil)) (pv 2)) pa_nil)))))) pss_never pss_nil)), ?_⟩
  obtain ⟨f1, pr, v, n, pa, un, hS, hpr, hv, hP⟩ := id hR
  obtain ⟨hd, vs, h1, h2, h3, h4, h5, h6⟩ := id hS
  obtain ⟨dx, tp, ts, tn, as, rs, g1, _⟩ := id hpr
  refine ⟨_, rfl, _, rfl, r, cRegister K, dr, _, _, rfl, f1, T.c_Register, T.n_Register_state, rfl, s, cState K, ds, _, vs, _, _, rfl, h1, T.sc_State, T.sl_present, h2, pr, dx, _, rfl, g1, pr, es, rfl, hpr, es.length, rfl, by omega, ?_⟩
  refine ⟨_, rfl, _, _, rfl, rfl, _, _, _, rfl, .inl ⟨_, rfl, true, ?_, iteF q⟩⟩
  rw [decide_eq_true (by omega), decide_eq_true (by omega)]
  rfl
def splice (es : List Tr) (i : Nat) (ins : List Tr) (c : Nat) : List Tr := es.take i ++ ins ++ es.drop (i + c)
/-! what an operation does -/
def DoOp (K : PySem.W.Frag) (H : Hp) (c : List V) (es es' : List Tr) : Prop :=
  (∃ (i : Nat) (a : Addr) (e : Tr), c = [.str "put", .int (i : Nat), .ref a] ∧ AtT K H e a ∧ i ≤ es.length ∧ es' = splice es i [e] 0) ∨
  (∃ (i : Nat), c = [.str "take", .int (i : Nat)] ∧ i + 1 ≤ es.length ∧ es' = splice es i [] 1) ∨
  (∃ (i : Nat) (x y : Tr), c = [.str "swap", .int (i : Nat)] ∧ es[i]? = some x ∧ es[i + 1]? = some y ∧ es' = splice es i [y, x] 2) ∨
  (∃ (n : Nat) (ctl : V) (a : Addr) (acts : List V), c = [.str "turn", .int (n : Nat), ctl] ∧ Ctl K H ctl a acts ∧ n < (stepsL es).length ∧ es' = turnL n acts 0 es)
/-- what each of the four is told, and leaves -/
def opQ (K : PySem.W.Frag) (H : Hp) (r dr s ds : Addr) (es es' : List Tr) (ops : List V) (c : List V) (Q : VK) : Prop := RegAt K H r dr s ds es ops ∧ Ok es' ∧ Few es es' ∧ ops.length < 100 ∧
  ∀ H' t, Sm [s, ds] H H' → RegAt K H' r dr s ds es' (ops ++ [.ref t]) → H' t = some (.tup c) → Q (.int (told es es' : Nat)) H'
def spPut (K : PySem.W.Frag) : Sp := fun vs H Q _ => ∃ (r dr s ds a : Addr) (es : List Tr) (ops : List V) (i : Nat) (e : Tr), vs = [.ref r, .int (i : Nat), .ref a] ∧ AtT K H e a ∧ i ≤ es.length ∧ opQ K H r dr s ds es (splice es i [e] 0) ops [.str "put", .int (i : Nat), .ref a] Q
theorem sc_Register_put : FnScope ["self", "index", "entry"] ["self", "index", "entry"] (defScope s_Register_put) := ⟨rfl, rfl, rfl, by decide +kernel, rfl, by decide +kernel, by decide +kernel⟩
theorem ok_Register_put (T : Txt w K mg) : MF P w K mg base 11 (cRegister K) "put" (a_Register_put K) (spPut K) := by
  obtain ⟨fd, F⟩ := T.d_Register_put
  refine ⟨fnr F sc_Register_put (F.binds fun _ _ _ _ _ _ us hl => match us, hl with | [_, _, _], _ => rfl) (by rintro vs H Q E ⟨_, _, _, _, _, _, _, _, _, rfl, _⟩; rfl) fun cdv A outer s H vs Q E hr h => ?_, T.m_Register_put, T.c_Register⟩
  obtain ⟨r, dr, s, ds, a, es, ops, i, e, rfl, ha, hi, hR, ok', few, hl, q⟩ := h
  refine ⟨_, (pss_one (ps_ret (pmeth (pv 0) (ok_Register_edit T) (hr.mono (by first | decide | omega)) (pa_cons (pe_tup (pa_cons pe_str (pa_cons (pv 1) (pa_cons (pv 2) pa_nil)))) (pa_cons (pmeth (SlX.pe_sl (pe_fld (pv 0) rfl)) (ok_Stack_spliced T) (hr.mono (by first | decide | omega)) (pa_cons (pv 1) (pa_cons pe_int (pa_cons (pe_tup (pa_cons (pv 2) pa_nil)) pa_nil)))) pa_nil))))), ?_⟩
  refine ⟨_, rfl, r, dr, _, rfl, hR.1, rfl, _, rfl, _, rfl, by show 3 ≤ sizeLine; decide, fun t ht => ?_⟩
  have e1 : Ext H (upd H t (.tup [.str "put", .int (i : Nat), .ref a])) := Ext.upd ht
  have ht1 : upd H t (.tup [.str "put", .int (i : Nat), .ref a]) t = some (.tup [.str "put", .int (i : Nat), .ref a]) := upd_same
  generalize upd H t (.tup [.str "put", .int (i : Nat), .ref a]) = H1 at e1 ht1 ⊢
  have hR1 := hR.ext e1
  obtain ⟨f1, pr, v, n, pa, un, hS, hpr, hv, hP⟩ := id hR1
  obtain ⟨hd, vs, h1, h2, h3, h4, h5, h6⟩ := id hS
  obtain ⟨dx, tp, ts, tn, as, rs, g1, _⟩ := id hpr
  refine ⟨_, rfl, r, cRegister K, dr, _, _, rfl, f1, T.c_Register, T.n_Register_state, rfl, s, cState K, ds, _, vs, _, _, rfl, h1, T.sc_State, T.sl_present, h2, pr, dx, _, rfl, g1, rfl, _, rfl, _, rfl, by show 1 ≤ sizeLine; decide, fun t2 ht2 => ?_⟩
  have e2 : Ext H1 (upd H1 t2 (.tup [.ref a])) := Ext.upd ht2
  refine ⟨pr, t2, es, [e], [a], i, 0, rfl, hpr.fz (Fz.of e2), .inl (.inl upd_same), ⟨ha.fz (Fz.of (e1.trans e2)), trivial⟩, by omega, hpr.ok.len, ok', fun H3 y e3 hy => ?_⟩
  have e13 := e2.trans e3
  refine ⟨r, dr, s, ds, y, .ref t, es, _, ops, rfl, hR1.ext e13, hy, few, hl, fun H4 sm hR4 => ?_⟩
  have e03 := e1.trans e13
  exact q H4 t ((Sm.of e03).trans sm) hR4 ((hR1.ext e13).2.smfz sm _ _ rfl (e13 _ _ ht1))
def spTake (K : PySem.W.Frag) : Sp := fun vs H Q _ => ∃ (r dr s ds : Addr) (es : List Tr) (ops : List V) (i : Nat), vs = [.ref r, .int (i : Nat)] ∧ i + 1 ≤ es.length ∧ opQ K H r dr s ds es (splice es i [] 1) ops [.str "take", .int (i : Nat)] Q
theorem sc_Register_take : FnScope ["self", "index"] ["self", "index"] (defScope s_Register_take) := ⟨rfl, rfl, rfl, by decide +kernel, rfl, by decide +kernel, by decide +kernel⟩
theorem ok_Register_take (T : Txt w K mg) : MF P w K mg base 11 (cRegister K) "take" (a_Register_take K) (spTake K) := by
  obtain ⟨fd, F⟩ := T.d_Register_take
  refine ⟨fnr F sc_Register_take (F.binds fun _ _ _ _ _ _ us hl => match us, hl with | [_, _], _ => rfl) (by rintro vs H Q E ⟨_, _, _, _, _, _, _, rfl, _⟩; rfl) fun cdv A outer s H vs Q E hr h => ?_, T.m_Register_take, T.c_Register⟩
  obtain ⟨r, dr, s, ds, es, ops, i, rfl, hi, hR, ok', few, hl, q⟩ := h
  refine ⟨_, (pss_cons (ps_expr (pmeth (pv 0) (ok_Register_need T) (hr.mono (by first | decide | omega)) (pa_cons (pv 1) (pa_cons pe_int pa_nil))))
    (pss_one (ps_ret (pmeth (pv 0) (ok_Register_edit T) (hr.mono (by first | decide | omega)) (pa_cons (pe_tup (pa_cons pe_str (pa_cons (pv 1) pa_nil))) (pa_cons (pmeth (SlX.pe_sl (pe_fld (pv 0) rfl)) (ok_Stack_spliced T) (hr.mono (by first | decide | omega)) (pa_cons (pv 1) (pa_cons pe_int (pa_cons (pe_tup pa_nil) pa_nil)))) pa_nil)))))), ?_⟩
  have hes12 : es.length ≤ 12 := by
    obtain ⟨_, _, _, _, _, _, _, hpr, _⟩ := hR
    exact hpr.ok.len
  refine ⟨_, rfl, r, dr, _, rfl, hR.1, rfl, _, rfl, r, dr, s, ds, es, ops, i, 1, rfl, hR, hes12, hi, ?_⟩
  refine ⟨_, rfl, r, dr, _, rfl, hR.1, rfl, _, rfl, by show 2 ≤ sizeLine; decide, fun t ht => ?_⟩
  have e1 : Ext H (upd H t (.tup [.str "take", .int (i : Nat)])) := Ext.upd ht
  have ht1 : upd H t (.tup [.str "take", .int (i : Nat)]) t = some (.tup [.str "take", .int (i : Nat)]) := upd_same
  generalize upd H t (.tup [.str "take", .int (i : Nat)]) = H1 at e1 ht1 ⊢
  have hR1 := hR.ext e1
  obtain ⟨f1, pr, v, n, pa, un, hS, hpr, hv, hP⟩ := id hR1
  obtain ⟨hd, vs, h1, h2, h3, h4, h5, h6⟩ := id hS
  obtain ⟨dx, tp, ts, tn, as, rs, g1, _⟩ := id hpr
  refine ⟨_, rfl, r, cRegister K, dr, _, _, rfl, f1, T.c_Register, T.n_Register_state, rfl, s, cState K, ds, _, vs, _, _, rfl, h1, T.sc_State, T.sl_present, h2, pr, dx, _, rfl, g1, rfl, _, rfl, by show 0 ≤ sizeLine; decide, fun t2 ht2 => ?_⟩
  have e2 : Ext H1 (upd H1 t2 (.tup [])) := Ext.upd ht2
  refine ⟨pr, t2, es, [], [], i, 1, rfl, hpr.fz (Fz.of e2), .inl (.inl upd_same), trivial, by omega, hpr.ok.len, ok', fun H3 y e3 hy => ?_⟩
  have e13 := e2.trans e3
  refine ⟨r, dr, s, ds, y, .ref t, es, _, ops, rfl, hR1.ext e13, hy, few, hl, fun H4 sm hR4 => ?_⟩
  have e03 := e1.trans e13
  exact q H4 t ((Sm.of e03).trans sm) hR4 ((hR1.ext e13).2.smfz sm _ _ rfl (e13 _ _ ht1))
def spSwap (K : PySem.W.Frag) : Sp := fun vs H Q _ => ∃ (r dr s ds : Addr) (es : List Tr) (ops : List V) (i : Nat) (x y : Tr), vs = [.ref r, .int (i : Nat)] ∧ es[i]? = some x ∧ es[i + 1]? = some y ∧ opQ K H r dr s ds es (splice es i [y, x] 2) ops [.str "swap", .int (i : Nat)] Q
theorem sc_Register_swap : FnScope ["self", "index", "present"] ["self", "index"] (defScope s_Register_swap) := ⟨rfl, rfl, rfl, by decide +kernel, rfl, by decide +kernel, by decide +kernel⟩
theorem ok_Register_swap (T : Txt w K mg) : MF P w K mg base 11 (cRegister K) "swap" (a_Register_swap K) (spSwap K) := by
  obtain ⟨fd, F⟩ := T.d_Register_swap
  refine ⟨fnr F sc_Register_swap (F.binds fun _ _ _ _ _ _ us hl => match us, hl with | [_, _], _ => rfl) (by rintro vs H Q E ⟨_, _, _, _, _, _, _, _, _, rfl, _⟩; rfl) fun cdv A outer s H vs Q E hr h => ?_, T.m_Register_swap, T.c_Register⟩
  obtain ⟨r, dr, s, ds, es, ops, i, x, y, rfl, hx, hy, hR, ok', few, hl, q⟩ := h
  refine ⟨_, (pss_cons (ps_expr (pmeth (pv 0) (ok_Register_need T) (hr.mono (by first | decide | omega)) (pa_cons (pv 1) (pa_cons pe_int pa_nil))))
    (pss_cons (ps_set (i := 2) sc_Register_swap.nd rfl (.inl rfl) (SlX.pe_sl (pe_fld (pv 0) rfl)))
    (pss_one (ps_ret (pmeth (pv 0) (ok_Register_edit T) (hr.mono (by first | decide | omega)) (pa_cons (pe_tup (pa_cons pe_str (pa_cons (pv 1) pa_nil))) (pa_cons (pmeth (pv 2) (ok_Stack_spliced T) (hr.mono (by first | decide | omega)) (pa_cons (pv 1) (pa_cons pe_int (pa_cons (pe_tup (pa_cons (pixO (ok_Stack_getitem T) T.fn_getitem (hr.mono (by first | decide | omega)) (pv 2) (pe_op op_add (pv 1) pe_int)) (pa_cons (pixO (ok_Stack_getitem T) T.fn_getitem (hr.mono (by first | decide | omega)) (pv 2) (pv 1)) pa_nil))) pa_nil)))) pa_nil))))))), ?_⟩
  have hes12 : es.length ≤ 12 := by
    obtain ⟨_, _, _, _, _, _, _, hpr, _⟩ := hR
    exact hpr.ok.len
  have hi2 : i + 2 ≤ es.length := (List.getElem?_eq_some_iff.mp hy).1
  refine ⟨_, rfl, r, dr, _, rfl, hR.1, rfl, _, rfl, r, dr, s, ds, es, ops, i, 2, rfl, hR, hes12, hi2, ?_⟩
  obtain ⟨f0, pr, v, n, pa, un, hS0, hpr0, hv0, hP0⟩ := id hR
  obtain ⟨_, vs0, h1, h2, _⟩ := id hS0
  obtain ⟨dx, tp, ts, tn, as, rs, g0, _⟩ := id hpr0
  refine ⟨_, rfl, r, cRegister K, dr, _, _, rfl, f0, T.c_Register, T.n_Register_state, rfl, s, cState K, ds, _, vs0, _, _, rfl, h1, T.sc_State, T.sl_present, h2, ?_⟩
  refine ⟨_, rfl, r, dr, _, rfl, hR.1, rfl, _, rfl, by show 2 ≤ sizeLine; decide, fun t ht => ?_⟩
  have e1 : Ext H (upd H t (.tup [.str "swap", .int (i : Nat)])) := Ext.upd ht
  have ht1 : upd H t (.tup [.str "swap", .int (i : Nat)]) t = some (.tup [.str "swap", .int (i : Nat)]) := upd_same
  generalize upd H t (.tup [.str "swap", .int (i : Nat)]) = H1 at e1 ht1 ⊢
  have hR1 := hR.ext e1
  have hpr := hpr0.fz (Fz.of e1)
  have g1 := e1 _ _ g0
  refine ⟨_, rfl, pr, dx, _, rfl, g1, rfl, _, rfl, _, rfl, _, rfl, _, _, rfl, rfl, pr, dx, _, rfl, g1, pr, es, i + 1, y, rfl, hpr, hy, fun ay hay => ?_⟩
  refine ⟨_, rfl, _, rfl, pr, dx, _, rfl, g1, pr, es, i, x, rfl, hpr, hx, fun ax hax => ?_⟩
  refine ⟨by show 2 ≤ sizeLine; decide, fun t2 ht2 => ?_⟩
  have e2 : Ext H1 (upd H1 t2 (.tup [.ref ay, .ref ax])) := Ext.upd ht2
  refine ⟨pr, t2, es, [y, x], [ay, ax], i, 2, rfl, hpr.fz (Fz.of e2), .inl (.inl upd_same), ⟨hay.fz (Fz.of e2), hax.fz (Fz.of e2), trivial⟩, by omega, hpr.ok.len, ok', fun H3 z e3 hz => ?_⟩
  have e13 := e2.trans e3
  refine ⟨r, dr, s, ds, z, .ref t, es, _, ops, rfl, hR1.ext e13, hz, few, hl, fun H4 sm hR4 => ?_⟩
  have e03 := e1.trans e13
  exact q H4 t ((Sm.of e03).trans sm) hR4 ((hR1.ext e13).2.smfz sm _ _ rfl (e13 _ _ ht1))
end
end Ls
set_option maxRecDepth 100000
set_option maxHeartbeats 4000000
/-! Register: turn, execute -/
namespace Ls
open PySem PySem.Spec PyProof.Rows L2
section
variable {P : Program} {w : World} {K : PySem.W.Frag} {mg : Str → Option Value} {base : Heap}
def spTurn (K : PySem.W.Frag) : Sp := fun vs H Q _ => ∃ (r dr s ds a : Addr) (es : List Tr) (ops : List V) (n : Nat) (c : V) (acts : List V), vs = [.ref r, .int (n : Nat), c] ∧ Ctl K H c a acts ∧ n < (stepsL es).length ∧ opQ K H r dr s ds es (turnL n acts 0 es) ops [.str "turn", .int (n : Nat), c] Q
theorem sc_Register_turn : FnScope ["self", "number", "control", "present"] ["self", "number", "control"] (defScope s_Register_turn) := ⟨rfl, rfl, rfl, by decide +kernel, rfl, by decide +kernel, by decide +kernel⟩
theorem ok_Register_turn (T : Txt w K mg) : MF P w K mg base 11 (cRegister K) "turn" (a_Register_turn K) (spTurn K) := by
  obtain ⟨fd, F⟩ := T.d_Register_turn
  refine ⟨fnr F sc_Register_turn (F.binds fun _ _ _ _ _ _ us hl => match us, hl with | [_, _, _], _ => rfl) (by rintro vs H Q E ⟨_, _, _, _, _, _, _, _, _, _, rfl, _⟩; rfl) fun cdv A outer s H vs Q E hr h => ?_, T.m_Register_turn, T.c_Register⟩
  obtain ⟨r, dr, s, ds, a, es, ops, n, c, acts, rfl, hc, hn, hR, ok', few, hl, q⟩ := h
  refine ⟨_, (pss_cons (ps_set (i := 3) sc_Register_turn.nd rfl (.inl rfl) (SlX.pe_sl (pe_fld (pv 0) rfl)))
    (pss_cons (ps_if (pt_not (pt_val (pcall (ok_is_number T) (hr.mono (by first | decide | omega)) (pa_cons (pv 1) (pa_cons pe_int (pa_cons (pe_op op_sub (pcb call_len_seq T.f_len (pa_cons (pprop (pv 3) (ok_Stack_rules T) (hr.mono (by first | decide | omega))) pa_nil)) pe_int) pa_nil)))))) pss_never pss_nil)
    (pss_one (ps_ret (pmeth (pv 0) (ok_Register_edit T) (hr.mono (by first | decide | omega)) (pa_cons (pe_tup (pa_cons pe_str (pa_cons (pv 1) (pa_cons (pv 2) pa_nil)))) (pa_cons (pcall (ok_with_control T 2) (hr.mono (by first | decide | omega)) (pa_cons (pv 3) (pa_cons pe_int (pa_cons (pv 1) (pa_cons (pv 2) pa_nil))))) pa_nil))))))), ?_⟩
  obtain ⟨f0, pr, v, nn, pa, un, hS0, hpr0, hv0, hP0⟩ := id hR
  obtain ⟨_, vs0, h1, h2, _⟩ := id hS0
  obtain ⟨dx, tp, ts, tn, as, rs, g0, g2, g3, g4, g5, _⟩ := id hpr0
  refine ⟨_, rfl, r, cRegister K, dr, _, _, rfl, f0, T.c_Register, T.n_Register_state, rfl, s, cState K, ds, _, vs0, _, _, rfl, h1, T.sc_State, T.sl_present, h2, ?_⟩
  refine ⟨_, rfl, _, rfl, pr, dx, _, rfl, g0, pr, dx, _, _, rfl, g0, rfl, ts, _, rfl, .inr g4, _, _, rfl, rfl, _, _, _, rfl, .inl ⟨_, rfl, true, ?_, iteF ?_⟩⟩
  · have := g5.len
    rw [decide_eq_true (by omega), decide_eq_true (by rw [List.length_map]; omega)]
    rfl
  refine ⟨_, rfl, r, dr, _, rfl, hR.1, rfl, _, rfl, _, rfl, by show 3 ≤ sizeLine; decide, fun t ht => ?_⟩
  have e1 : Ext H (upd H t (.tup [.str "turn", .int (n : Nat), c])) := Ext.upd ht
  have ht1 : upd H t (.tup [.str "turn", .int (n : Nat), c]) t = some (.tup [.str "turn", .int (n : Nat), c]) := upd_same
  generalize upd H t (.tup [.str "turn", .int (n : Nat), c]) = H1 at e1 ht1 ⊢
  have hR1 := hR.ext e1
  have hpr := hpr0.fz (Fz.of e1)
  refine ⟨_, rfl, _, rfl, _, rfl, pr, a, 0, n, c, es, acts, rfl, hpr, hpr.ok.dep, hc.fz (Fz.of e1), fun H3 y e3 hy => ?_⟩
  refine ⟨r, dr, s, ds, y, .ref t, es, _, ops, rfl, hR1.ext e3, hy, few, hl, fun H4 sm hR4 => ?_⟩
  have e03 := e1.trans e3
  exact q H4 t ((Sm.of e03).trans sm) hR4 ((hR1.ext e3).2.smfz sm _ _ rfl (e3 _ _ ht1))
/-! execute -/
def spExec (K : PySem.W.Frag) : Sp := fun vs H Q _ => ∃ (r dr s ds t : Addr) (es es' : List Tr) (ops : List V) (c : List V), vs = [.ref r, .ref t] ∧ H t = some (.tup c) ∧ DoOp K H c es es' ∧ opQ K H r dr s ds es es' ops c Q
theorem sc_Register_execute : FnScope ["self", "operation", "word", "rest"] ["self", "operation"] (defScope s_Register_execute) := ⟨rfl, rfl, rfl, by decide +kernel, rfl, by decide +kernel, by decide +kernel⟩
theorem ok_Register_execute (T : Txt w K mg) : MF P w K mg base 12 (cRegister K) "execute" (a_Register_execute K) (spExec K) := by
  obtain ⟨fd, F⟩ := T.d_Register_execute
  refine ⟨fnr F sc_Register_execute (F.binds fun _ _ _ _ _ _ us hl => match us, hl with | [_, _], _ => rfl) (by rintro vs H Q E ⟨_, _, _, _, _, _, _, _, _, rfl, _⟩; rfl) fun cdv A outer s H vs Q E hr h => ?_, T.m_Register_execute, T.c_Register⟩
  obtain ⟨r, dr, s, ds, t, es, es', ops, c, rfl, ht, hdo, hR, ok', few, hl, q⟩ := h
  refine ⟨_, (pss_cons (ps_par (i := 2) (j := 3) (by rfl) sc_Register_execute.nd rfl rfl (by decide) rfl rfl (pa_cons (pe_ix ix_tup (pv 1) pe_int (fun _ _ => rfl)) (pa_cons (pe_slice sl_tupQ (pv 1) (po_some pe_int) po_none) pa_nil)) (by rfl))
    (pss_cons (ps_if (pt_cmpR op_eq (pv 2) pe_str (nomark _)) (pss_one (ps_ret (pmeth (pv 0) (ok_Register_put T) (hr.mono (by first | decide | omega)) (pa_cons (pe_ix ix_tup (pv 3) pe_int (fun _ _ => rfl)) (pa_cons (pe_ix ix_tup (pv 3) pe_int (fun _ _ => rfl)) pa_nil))))) pss_nil)
    (pss_cons (ps_if (pt_cmpR op_eq (pv 2) pe_str (nomark _)) (pss_one (ps_ret (pmeth (pv 0) (ok_Register_take T) (hr.mono (by first | decide | omega)) (pa_cons (pe_ix ix_tup (pv 3) pe_int (fun _ _ => rfl)) pa_nil)))) pss_nil)
    (pss_cons (ps_if (pt_cmpR op_eq (pv 2) pe_str (nomark _)) (pss_one (ps_ret (pmeth (pv 0) (ok_Register_swap T) (hr.mono (by first | decide | omega)) (pa_cons (pe_ix ix_tup (pv 3) pe_int (fun _ _ => rfl)) pa_nil)))) pss_nil)
    (pss_cons (ps_if (pt_cmpR op_eq (pv 2) pe_str (nomark _)) (pss_one (ps_ret (pmeth (pv 0) (ok_Register_turn T) (hr.mono (by first | decide | omega)) (pa_cons (pe_ix ix_tup (pv 3) pe_int (fun _ _ => rfl)) (pa_cons (pe_ix ix_tup (pv 3) pe_int (fun _ _ => rfl)) pa_nil))))) pss_nil)
    (pss_cons (ps_if (pt_cmpR op_eq (pv 2) pe_str (nomark _)) (pss_one ps_never) pss_nil)
    (pss_cons (ps_if (pt_cmpR op_eq (pv 2) pe_str (nomark _)) (pss_one ps_never) pss_nil)
    (pss_cons (ps_if (pt_cmpR op_eq (pv 2) pe_str (nomark _)) (pss_one ps_never) pss_nil)
    (pss_one ps_never))))))))), ?_⟩
  rcases hdo with ⟨i, a, e, rfl, ha, hi, rfl⟩ | ⟨i, rfl, hi, rfl⟩ | ⟨i, x, y, rfl, hx, hy, rfl⟩ | ⟨n, ctl, a, acts, rfl, hc, hn, rfl⟩
  · refine ⟨_, rfl, t, _, 0, _, rfl, rfl, SqT.of ht, atI_nat (j := 0) rfl, _, rfl, _, rfl, t, _, rfl, SqT.of ht, fun H1 p1 e1 t1 => ?_⟩
    rw [cut_from (by decide)] at t1
    have hR1 := hR.ext e1
    refine ⟨_, _, rfl, _, rfl, rfl, _, rfl, ?_⟩
    rw [decide_eq_true rfl]
    exact iteT ⟨_, rfl, r, dr, _, rfl, hR1.1, rfl, _, rfl, p1, _, 0, _, rfl, rfl, t1, atI_nat (j := 0) rfl, _, rfl, p1, _, 1, _, rfl, rfl, t1, atI_nat (j := 1) rfl, r, dr, s, ds, a, es, ops, i, e, rfl, ha.fz (Fz.of e1), hi, hR1, ok', few, hl, fun H2 t2 sm hR2 ht2 => q H2 t2 ((Sm.of e1).trans sm) hR2 ht2⟩
  · refine ⟨_, rfl, t, _, 0, _, rfl, rfl, SqT.of ht, atI_nat (j := 0) rfl, _, rfl, _, rfl, t, _, rfl, SqT.of ht, fun H1 p1 e1 t1 => ?_⟩
    rw [cut_from (by decide)] at t1
    have hR1 := hR.ext e1
    refine ⟨_, _, rfl, _, rfl, rfl, _, rfl, ?_⟩
    rw [decide_eq_false (by intro z; exact absurd (V.str.inj z) (by decide))]
    refine iteF ⟨_, rfl, rfl, _, rfl, ?_⟩
    rw [decide_eq_true rfl]
    exact iteT ⟨_, rfl, r, dr, _, rfl, hR1.1, rfl, _, rfl, p1, _, 0, _, rfl, rfl, t1, atI_nat (j := 0) rfl, r, dr, s, ds, es, ops, i, rfl, hi, hR1, ok', few, hl, fun H2 t2 sm hR2 ht2 => q H2 t2 ((Sm.of e1).trans sm) hR2 ht2⟩
  · refine ⟨_, rfl, t, _, 0, _, rfl, rfl, SqT.of ht, atI_nat (j := 0) rfl, _, rfl, _, rfl, t, _, rfl, SqT.of ht, fun H1 p1 e1 t1 => ?_⟩
    rw [cut_from (by decide)] at t1
    have hR1 := hR.ext e1
    refine ⟨_, _, rfl, _, rfl, rfl, _, rfl, ?_⟩
    rw [decide_eq_false (by intro z; exact absurd (V.str.inj z) (by decide))]
    refine iteF ⟨_, rfl, rfl, _, rfl, ?_⟩
    rw [decide_eq_false (by intro z; exact absurd (V.str.inj z) (by decide))]
    refine iteF ⟨_, rfl, rfl, _, rfl, ?_⟩
    rw [decide_eq_true rfl]
    exact iteT ⟨_, rfl, r, dr, _, rfl, hR1.1, rfl, _, rfl, p1, _, 0, _, rfl, rfl, t1, atI_nat (j := 0) rfl, r, dr, s, ds, es, ops, i, x, y, rfl, hx, hy, hR1, ok', few, hl, fun H2 t2 sm hR2 ht2 => q H2 t2 ((Sm.of e1).trans sm) hR2 ht2⟩
  · refine ⟨_, rfl, t, _, 0, _, rfl, rfl, SqT.of ht, atI_nat (j := 0) rfl, _, rfl, _, rfl, t, _, rfl, SqT.of ht, fun H1 p1 e1 t1 => ?_⟩
    rw [cut_from (by decide)] at t1
    have hR1 := hR.ext e1
    refine ⟨_, _, rfl, _, rfl, rfl, _, rfl, ?_⟩
    rw [decide_eq_false (by intro z; exact absurd (V.str.inj z) (by decide))]
    refine iteF ⟨_, rfl, rfl, _, rfl, ?_⟩
    rw [decide_eq_false (by intro z; exact absurd (V.str.inj z) (by decide))]
    refine iteF ⟨_, rfl, rfl, _, rfl, ?_⟩
    rw [decide_eq_false (by intro z; exact absurd (V.str.inj z) (by decide))]
    refine iteF ⟨_, rfl, rfl, _, rfl, ?_⟩
    rw [decide_eq_true rfl]
    exact iteT ⟨_, rfl, r, dr, _, rfl, hR1.1, rfl, _, rfl, p1, _, 0, _, rfl, rfl, t1, atI_nat (j := 0) rfl, _, rfl, p1, _, 1, _, rfl, rfl, t1, atI_nat (j := 1) rfl, r, dr, s, ds, a, es, ops, n, ctl, acts, rfl, hc.fz (Fz.of e1), hn, hR1, ok', few, hl, fun H2 t2 sm hR2 ht2 => q H2 t2 ((Sm.of e1).trans sm) hR2 ht2⟩
end
end Ls
set_option maxRecDepth 100000
set_option maxHeartbeats 4000000
/-! Trial -/
namespace Ls
open PySem PySem.Spec PyProof.Rows L2
section
variable {P : Program} {w : World} {K : PySem.W.Frag} {mg : Str → Option Value} {base : Heap}
def TrAt (K : PySem.W.Frag) (H : Hp) (x dx r b f c : Addr) : Prop := H x = some (.ins (cTrial K) dx [("tested_desk", .ref r), ("base", .ref b), ("fresh", .ref f), ("chosen", .ref c)])
def spTrI (K : PySem.W.Frag) : Sp := fun vs H Q _ => ∃ (x r dx dr s : Addr), vs = [.ref x, .ref r] ∧ H x = some (.ins (cTrial K) dx []) ∧ RegF K H r dr s ∧ r ≠ x ∧ ∀ H', Sm [x] H H' → TrAt K H' x dx r s s s → Q .non H'
theorem sc_Trial_init : FnScope ["self", "desk"] ["self", "desk"] (defScope s_Trial_init) := ⟨rfl, rfl, rfl, by decide +kernel, rfl, by decide +kernel, by decide +kernel⟩
theorem ok_Trial (T : Txt w K mg) : CF P w K mg base 1 "Trial" (cTrial K) (a_Trial_init K) (spTrI K) := by
  obtain ⟨fd, F⟩ := T.d_Trial_init
  refine ⟨fnr F sc_Trial_init (F.binds fun _ _ _ _ _ _ us hl => match us, hl with | [_, _], _ => rfl) (by rintro vs H Q E ⟨_, _, _, _, _, rfl, _⟩; rfl) fun cdv A outer s H vs Q E hr h => ?_, T.mk_Trial, T.g_Trial⟩
  obtain ⟨x, r, dx, dr, s, rfl, hx, hr1, hne, q⟩ := h
  refine ⟨_, (pss_cons (ps_fld (pv 0) (pv 1) rfl)
    (pss_cons (ps_fld (pv 0) (pe_fld (pv 1) rfl) rfl)
    (pss_cons (ps_fld (pv 0) (pe_fld (pv 1) rfl) rfl)
    (pss_one (ps_fld (pv 0) (pe_fld (pv 1) rfl) rfl))))), ?_⟩
  refine ⟨_, rfl, _, rfl, x, cTrial K, dx, _, rfl, hx, T.c_Trial, T.n_Trial_tested_desk, by simp, ?_⟩
  have k1 : ∀ o, RegF K (upd H x o) r dr s := fun o => by
    unfold RegF
    rw [upd_ne hne]
    exact hr1
  refine ⟨_, rfl, r, cRegister K, dr, _, _, rfl, k1 _, T.c_Register, T.n_Register_state, rfl, _, rfl, x, cTrial K, dx, _, rfl, upd_same, T.c_Trial, T.n_Trial_base, (show 1 < 1000 by decide), ?_⟩
  have k2 : ∀ o o', RegF K (upd (upd H x o) x o') r dr s := fun o o' => by
    unfold RegF
    rw [upd_ne hne]
    exact k1 o
  refine ⟨_, rfl, r, cRegister K, dr, _, _, rfl, k2 _ _, T.c_Register, T.n_Register_state, rfl, _, rfl, x, cTrial K, dx, _, rfl, upd_same, T.c_Trial, T.n_Trial_fresh, (show 2 < 1000 by decide), ?_⟩
  have k3 : ∀ o o' o'', RegF K (upd (upd (upd H x o) x o') x o'') r dr s := fun o o' o'' => by
    unfold RegF
    rw [upd_ne hne]
    exact k2 o o'
  refine ⟨_, rfl, r, cRegister K, dr, _, _, rfl, k3 _ _ _, T.c_Register, T.n_Register_state, rfl, _, rfl, x, cTrial K, dx, _, rfl, upd_same, T.c_Trial, T.n_Trial_chosen, (show 3 < 1000 by decide), ?_⟩
  exact q _ (((((Sm.refl _ _).upd (List.mem_singleton.mpr rfl)).upd (List.mem_singleton.mpr rfl)).upd (List.mem_singleton.mpr rfl)).upd (List.mem_singleton.mpr rfl)) upd_same
def spHold (K : PySem.W.Frag) : Sp := fun vs H Q _ => ∃ (x dx r b f c : Addr), vs = [.ref x] ∧ TrAt K H x dx r b f c ∧ ∀ H', Sm [x] H H' → TrAt K H' x dx r b f f → Q .non H'
theorem sc_Trial_hold : FnScope ["self"] ["self"] (defScope s_Trial_hold) := ⟨rfl, rfl, rfl, by decide +kernel, rfl, by decide +kernel, by decide +kernel⟩
theorem ok_Trial_hold (T : Txt w K mg) : MF P w K mg base 1 (cTrial K) "hold" (a_Trial_hold K) (spHold K) := by
  obtain ⟨fd, F⟩ := T.d_Trial_hold
  refine ⟨fnr F sc_Trial_hold (F.binds fun _ _ _ _ _ _ us hl => match us, hl with | [_], _ => rfl) (by rintro vs H Q E ⟨_, _, _, _, _, _, rfl, _⟩; rfl) fun cdv A outer s H vs Q E hr h => ?_, T.m_Trial_hold, T.c_Trial⟩
  obtain ⟨x, dx, r, b, f, c, rfl, hx, q⟩ := h
  refine ⟨_, (pss_one (ps_fld (pv 0) (pe_fld (pv 0) rfl) rfl)), ?_⟩
  exact ⟨_, rfl, x, cTrial K, dx, _, _, rfl, hx, T.c_Trial, T.n_Trial_fresh, rfl, _, rfl, x, cTrial K, dx, _, rfl, hx, T.c_Trial, T.n_Trial_chosen, (show 4 < 1000 by decide), q _ ((Sm.refl _ _).upd (List.mem_singleton.mpr rfl)) upd_same⟩
/-! __enter__: the desk stands on a fresh copy -/
def spTEnter (K : PySem.W.Frag) : Sp := fun vs H Q _ => ∃ (x dx r dr s ds c f : Addr) (es : List Tr) (ops : List V), vs = [.ref x] ∧ TrAt K H x dx r s f c ∧ r ≠ x ∧ RegAt K H r dr s ds es ops ∧
  ∀ H' f' df' c', Sm [x, r] H H' → H f' = none → H df' = none → TrAt K H' x dx r s f' c' → RegAt K H' r dr f' df' es ops → Q (.ref x) H'
theorem sc_Trial_enter : FnScope ["self"] ["self"] (defScope s_Trial_enter) := ⟨rfl, rfl, rfl, by decide +kernel, rfl, by decide +kernel, by decide +kernel⟩
theorem ok_Trial_enter (T : Txt w K mg) : MF P w K mg base 4 (cTrial K) "__enter__" (a_Trial_enter K) (spTEnter K) := by
  obtain ⟨fd, F⟩ := T.d_Trial_enter
  refine ⟨fnr F sc_Trial_enter (F.binds fun _ _ _ _ _ _ us hl => match us, hl with | [_], _ => rfl) (by rintro vs H Q E ⟨_, _, _, _, _, _, _, _, _, _, rfl, _⟩; rfl) fun cdv A outer s H vs Q E hr h => ?_, T.m_Trial_enter, T.c_Trial⟩
  obtain ⟨x, dx, r, dr, s, ds, c, f, es, ops, rfl, hx, hne, hR, q⟩ := h
  refine ⟨_, (pss_cons (ps_fld (pv 0) (pe_fld (pe_fld (pv 0) rfl) rfl) rfl)
    (pss_cons (ps_fld (pv 0) (SlX.pe_methSl0 (pe_fld (pv 0) rfl) T.sc_State T.m_State_copied (ok_State_copied T) (hr.mono (by first | decide | omega)) pass0) rfl)
    (pss_cons (ps_fld (pv 0) (SlX.pe_methSl0 (pe_fld (pv 0) rfl) T.sc_State T.m_State_copied (ok_State_copied T) (hr.mono (by first | decide | omega)) pass0) rfl)
    (pss_cons (ps_fld (pe_fld (pv 0) rfl) (pe_fld (pv 0) rfl) rfl)
    (pss_one (ps_ret (pv 0))))))), ?_⟩
  have xs := hR.2.ne_ins hx
  simp only [List.mem_cons, List.not_mem_nil, or_false, not_or] at xs
  refine ⟨_, rfl, x, cTrial K, dx, _, _, rfl, hx, T.c_Trial, T.n_Trial_tested_desk, rfl, r, cRegister K, dr, _, _, rfl, hR.1, T.c_Register, T.n_Register_state, rfl, _, rfl, x, cTrial K, dx, _, rfl, hx, T.c_Trial, T.n_Trial_base, (show 4 < 1000 by decide), ?_⟩
  generalize hH1 : upd H x (.ins (cTrial K) dx (putF "base" (.ref s) [("tested_desk", .ref r), ("base", .ref s), ("fresh", .ref f), ("chosen", .ref c)])) = H1
  have hx1 : TrAt K H1 x dx r s f c := by rw [← hH1]; exact upd_same
  have s1 : Sm [x] H H1 := by rw [← hH1]; exact (Sm.refl _ _).upd (List.mem_singleton.mpr rfl)
  have fzx : ∀ {Ha Hb : Hp} {fs : List (Str × V)}, Ha x = some (.ins (cTrial K) dx fs) → fs.length = 4 → fs.map (·.1) = (["tested_desk", "base", "fresh", "chosen"] : List Str) → Sm [x] Ha Hb → Fz Ha Hb := fun h _ h2 s => s.fz fun b hb o e => by
    rw [List.mem_singleton.mp hb, h] at e
    cases e
    simp only [Imm, h2]
    decide
  have hR1 : RegAt K H1 r dr s ds es ops := ⟨s1 _ _ hR.1 (by simpa using hne), hR.2.sm s1 (fzx hx rfl rfl s1) (by simpa using Ne.symm xs.1) (by simpa using Ne.symm xs.2)⟩
  obtain ⟨pr, v, n, pa, un, hS, hpr, hv, hP⟩ := id hR1.2
  obtain ⟨hd, vs, h1, _⟩ := id hS
  refine ⟨_, rfl, x, cTrial K, dx, _, _, rfl, hx1, T.c_Trial, T.n_Trial_base, rfl, s, ds, vs, rfl, h1, s, ds, _, _, _, _, _, rfl, hS, fun H2 c1 dc1 e2 _ _ hc1 => ?_⟩
  have hx2 := e2 _ _ hx1
  refine ⟨_, rfl, x, cTrial K, dx, _, rfl, hx2, T.c_Trial, T.n_Trial_chosen, (show 4 < 1000 by decide), ?_⟩
  generalize hH3 : upd H2 x (.ins (cTrial K) dx (putF "chosen" (.ref c1) [("tested_desk", .ref r), ("base", .ref s), ("fresh", .ref f), ("chosen", .ref c)])) = H3
  have hx3 : TrAt K H3 x dx r s f c1 := by rw [← hH3]; exact upd_same
  have s3 : Sm [x] H2 H3 := by rw [← hH3]; exact (Sm.refl _ _).upd (List.mem_singleton.mpr rfl)
  have s13 : Sm [x] H1 H3 := (Sm.of e2).trans s3
  have hR3 : RegAt K H3 r dr s ds es ops := ⟨s13 _ _ hR1.1 (by simpa using hne), hR1.2.sm s13 (fzx hx1 rfl rfl s13) (by simpa using Ne.symm xs.1) (by simpa using Ne.symm xs.2)⟩
  obtain ⟨pr, v, n, pa, un, hS, hpr, hv, hP⟩ := id hR3.2
  obtain ⟨hd, vs, h1, _⟩ := id hS
  refine ⟨_, rfl, x, cTrial K, dx, _, _, rfl, hx3, T.c_Trial, T.n_Trial_base, rfl, s, ds, vs, rfl, h1, s, ds, _, _, _, _, _, rfl, hS, fun H4 f1 df1 e4 nf ndf hf1 => ?_⟩
  have hx4 := e4 _ _ hx3
  refine ⟨_, rfl, x, cTrial K, dx, _, rfl, hx4, T.c_Trial, T.n_Trial_fresh, (show 4 < 1000 by decide), ?_⟩
  have xf : x ≠ f1 := fun z => by rw [← z] at nf; rw [show H3 x = _ from hx3] at nf; cases nf
  have xdf : x ≠ df1 := fun z => by rw [← z] at ndf; rw [show H3 x = _ from hx3] at ndf; cases ndf
  have rf : r ≠ f1 := fun z => by rw [← z] at nf; rw [show H3 r = _ from hR3.1] at nf; cases nf
  have rdf : r ≠ df1 := fun z => by rw [← z] at ndf; rw [show H3 r = _ from hR3.1] at ndf; cases ndf
  generalize hH5 : upd H4 x (.ins (cTrial K) dx (putF "fresh" (.ref f1) [("tested_desk", .ref r), ("base", .ref s), ("fresh", .ref f), ("chosen", .ref c1)])) = H5
  have hx5 : TrAt K H5 x dx r s f1 c1 := by rw [← hH5]; exact upd_same
  have s5 : Sm [x] H4 H5 := by rw [← hH5]; exact (Sm.refl _ _).upd (List.mem_singleton.mpr rfl)
  have s35 : Sm [x] H3 H5 := (Sm.of e4).trans s5
  have hr5 : RegF K H5 r dr s := s35 _ _ hR3.1 (by simpa using hne)
  refine ⟨_, rfl, x, cTrial K, dx, _, _, rfl, hx5, T.c_Trial, T.n_Trial_fresh, rfl, _, rfl, x, cTrial K, dx, _, _, rfl, hx5, T.c_Trial, T.n_Trial_tested_desk, rfl, r, cRegister K, dr, _, rfl, hr5, T.c_Register, T.n_Register_state, (show 1 < 1000 by decide), ?_⟩
  generalize hH6 : upd H5 r (.ins (cRegister K) dr (putF "state" (.ref f1) [("state", .ref s)])) = H6
  have s6 : Sm [r] H5 H6 := by rw [← hH6]; exact (Sm.refl _ _).upd (List.mem_singleton.mpr rfl)
  have fz6 : Fz H5 H6 := s6.fz fun b hb o e => by
    rw [List.mem_singleton.mp hb, hr5] at e
    cases e
    simp [Imm]
  have fz05 : Fz H3 H5 := fzx hx3 rfl rfl s35
  have hx6 : TrAt K H6 x dx r s f1 c1 := s6 _ _ hx5 (by simpa using Ne.symm hne)
  have xr : ∀ {b : Addr}, b ∈ [x] → b ∈ [x, r] := fun h => List.mem_cons.mpr (.inl (List.mem_singleton.mp h))
  have rr : ∀ {b : Addr}, b ∈ [r] → b ∈ [x, r] := fun h => List.mem_cons.mpr (.inr h)
  have hRf : RegAt K H6 r dr f1 df1 es ops := ⟨by rw [← hH6]; exact upd_same, pr, v, n, pa, un, (hf1.sm s5 (by simpa using Ne.symm xf) (by simpa using Ne.symm xdf)).sm s6 (by simpa using Ne.symm rf) (by simpa using Ne.symm rdf),
    (hpr.fz fz05).fz fz6, SqT.fz (SqT.fz hv fz05) fz6, (hP.fz fz05).fz fz6⟩
  have s03 : Sm [x] H H3 := s1.trans s13
  refine ⟨_, rfl, q H6 f1 df1 c1 (((s03.trans s35).mono fun _ => xr).trans (s6.mono fun _ => rr)) ?_ ?_ hx6 hRf⟩
  · cases hz : H f1 with
    | none => rfl
    | some o => exact absurd (s03 _ _ hz (by simpa using Ne.symm xf)) (by rw [nf]; exact fun z => nomatch z)
  · cases hz : H df1 with
    | none => rfl
    | some o => exact absurd (s03 _ _ hz (by simpa using Ne.symm xdf)) (by rw [ndf]; exact fun z => nomatch z)
/-! __exit__: what was chosen goes over into the base -/
def spTExit (K : PySem.W.Frag) : Sp := fun vs H Q _ => ∃ (x dx r dr b db c dc f g : Addr) (p v n pa un p' v' n' pa' un' e1 e2 e3 : V), vs = [.ref x, e1, e2, e3] ∧ TrAt K H x dx r b f c ∧ RegF K H r dr g ∧ StAt K H b db p v n pa un ∧ StAt K H c dc p' v' n' pa' un' ∧ b ≠ c ∧ b ≠ dc ∧ db ≠ c ∧ db ≠ dc ∧
  ∀ H', Sm [r, b, db] H H' → RegF K H' r dr b → StAt K H' b db p' v' n' pa' un' → Q .non H'
theorem sc_Trial_exit : FnScope ["self", "kind", "error", "trace"] ["self", "kind", "error", "trace"] (defScope s_Trial_exit) := ⟨rfl, rfl, rfl, by decide +kernel, rfl, by decide +kernel, by decide +kernel⟩
theorem ok_Trial_exit (T : Txt w K mg) : MF P w K mg base 1 (cTrial K) "__exit__" (a_Trial_exit K) (spTExit K) := by
  obtain ⟨fd, F⟩ := T.d_Trial_exit
  refine ⟨fnr F sc_Trial_exit (F.binds fun _ _ _ _ _ _ us hl => match us, hl with | [_, _, _, _], _ => rfl) (by rintro vs H Q E ⟨_, _, _, _, _, _, _, _, _, _, _, _, _, _, _, _, _, _, _, _, _, _, _, rfl, _⟩; rfl) fun cdv A outer s H vs Q E hr h => ?_, T.m_Trial_exit, T.c_Trial⟩
  obtain ⟨x, dx, r, dr, b, db, c, dc, f, g, p, v, n, pa, un, p', v', n', pa', un', e1, e2, e3, rfl, hx, hr1, hb, hc, n1, n2, n3, n4, q⟩ := h
  refine ⟨_, (pss_cons (SlX.ps_sl (pe_fld (pv 0) rfl) (SlX.pe_sl (pe_fld (pv 0) rfl)))
    (pss_cons (SlX.ps_sl (pe_fld (pv 0) rfl) (SlX.pe_sl (pe_fld (pv 0) rfl)))
    (pss_cons (SlX.ps_sl (pe_fld (pv 0) rfl) (SlX.pe_sl (pe_fld (pv 0) rfl)))
    (pss_cons (SlX.ps_sl (pe_fld (pv 0) rfl) (SlX.pe_sl (pe_fld (pv 0) rfl)))
    (pss_cons (SlX.ps_sl (pe_fld (pv 0) rfl) (SlX.pe_sl (pe_fld (pv 0) rfl)))
    (pss_one (ps_fld (pe_fld (pv 0) rfl) (pe_fld (pv 0) rfl) rfl))))))), ?_⟩
  obtain ⟨hd, vs, b1, b2, b3, b4, b5, b6⟩ := id hb
  obtain ⟨hdc, ws, c1, c2, c3, c4, c5, c6⟩ := id hc
  have nm : ∀ {H0 : Hp} {y C dy : Addr} {fs : List (Str × V)}, H0 = H → H0 y = some (.ins C dy fs) → y ≠ b ∧ y ≠ db := fun h0 h => by
    obtain ⟨us, z1, z2⟩ := hb.at2
    rw [h0] at h
    exact ⟨fun z => (by rw [z, z1] at h; cases h), fun z => (by rw [z, z2] at h; cases h)⟩
  have mx := nm rfl hx
  have mr := nm rfl hr1
  have keep : ∀ {H' : Hp}, Sm [b, db] H H' → TrAt K H' x dx r b f c ∧ RegF K H' r dr g ∧ SlX.Slt H' c (cState K) dc ws := fun s => by
    refine ⟨s _ _ hx (by simpa using mx), s _ _ hr1 (by simpa using mr), ?_⟩
    rcases c1 with ⟨z1, z2⟩ | ⟨z1, z2⟩
    · exact .inl ⟨s _ _ z1 (by simpa using ⟨Ne.symm n1, Ne.symm n3⟩), z2⟩
    · exact .inr ⟨s _ _ z1 (by simpa using ⟨Ne.symm n1, Ne.symm n3⟩), s _ _ z2 (by simpa using ⟨Ne.symm n2, Ne.symm n4⟩)⟩
  refine ⟨_, rfl, x, cTrial K, dx, _, _, rfl, hx, T.c_Trial, T.n_Trial_chosen, rfl, c, cState K, dc, _, ws, _, _, rfl, c1, T.sc_State, T.sl_present, c2, _, rfl, x, cTrial K, dx, _, _, rfl, hx, T.c_Trial, T.n_Trial_base, rfl, b, cState K, db, _, vs, _, rfl, b1, T.sc_State, T.sl_present, ?_⟩
  have s1 : Sm [b, db] H (SlX.slH H b (cState K) db (SlX.putS 2 p' vs)) := slH_sm
  have t1 : SlX.Slt (SlX.slH H b (cState K) db (SlX.putS 2 p' vs)) b (cState K) db (SlX.putS 2 p' vs) := SlX.slH_slt hd
  generalize SlX.slH H b (cState K) db (SlX.putS 2 p' vs) = H1 at s1 t1 ⊢
  obtain ⟨kx, kr, kc⟩ := keep s1
  refine ⟨_, rfl, x, cTrial K, dx, _, _, rfl, kx, T.c_Trial, T.n_Trial_chosen, rfl, c, cState K, dc, _, ws, _, _, rfl, kc, T.sc_State, T.sl_vows, c3, _, rfl, x, cTrial K, dx, _, _, rfl, kx, T.c_Trial, T.n_Trial_base, rfl, b, cState K, db, _, _, _, rfl, t1, T.sc_State, T.sl_vows, ?_⟩
  have s2 := s1.trans (slH_sm (a := b) (C := cState K) (dx := db) (vs := SlX.putS 4 v' (SlX.putS 2 p' vs)))
  have t2 : SlX.Slt (SlX.slH H1 b (cState K) db (SlX.putS 4 v' (SlX.putS 2 p' vs))) b (cState K) db (SlX.putS 4 v' (SlX.putS 2 p' vs)) := SlX.slH_slt hd
  generalize SlX.slH H1 b (cState K) db (SlX.putS 4 v' (SlX.putS 2 p' vs)) = H2 at s2 t2 ⊢
  obtain ⟨kx, kr, kc⟩ := keep s2
  refine ⟨_, rfl, x, cTrial K, dx, _, _, rfl, kx, T.c_Trial, T.n_Trial_chosen, rfl, c, cState K, dc, _, ws, _, _, rfl, kc, T.sc_State, T.sl_noted, c4, _, rfl, x, cTrial K, dx, _, _, rfl, kx, T.c_Trial, T.n_Trial_base, rfl, b, cState K, db, _, _, _, rfl, t2, T.sc_State, T.sl_noted, ?_⟩
  have s3 := s2.trans (slH_sm (a := b) (C := cState K) (dx := db) (vs := SlX.putS 0 n' (SlX.putS 4 v' (SlX.putS 2 p' vs))))
  have t3 : SlX.Slt (SlX.slH H2 b (cState K) db (SlX.putS 0 n' (SlX.putS 4 v' (SlX.putS 2 p' vs)))) b (cState K) db (SlX.putS 0 n' (SlX.putS 4 v' (SlX.putS 2 p' vs))) := SlX.slH_slt hd
  generalize SlX.slH H2 b (cState K) db (SlX.putS 0 n' (SlX.putS 4 v' (SlX.putS 2 p' vs))) = H3 at s3 t3 ⊢
  obtain ⟨kx, kr, kc⟩ := keep s3
  refine ⟨_, rfl, x, cTrial K, dx, _, _, rfl, kx, T.c_Trial, T.n_Trial_chosen, rfl, c, cState K, dc, _, ws, _, _, rfl, kc, T.sc_State, T.sl_past, c5, _, rfl, x, cTrial K, dx, _, _, rfl, kx, T.c_Trial, T.n_Trial_base, rfl, b, cState K, db, _, _, _, rfl, t3, T.sc_State, T.sl_past, ?_⟩
  have s4 := s3.trans (slH_sm (a := b) (C := cState K) (dx := db) (vs := SlX.putS 1 pa' (SlX.putS 0 n' (SlX.putS 4 v' (SlX.putS 2 p' vs)))))
  have t4 : SlX.Slt (SlX.slH H3 b (cState K) db (SlX.putS 1 pa' (SlX.putS 0 n' (SlX.putS 4 v' (SlX.putS 2 p' vs))))) b (cState K) db (SlX.putS 1 pa' (SlX.putS 0 n' (SlX.putS 4 v' (SlX.putS 2 p' vs)))) := SlX.slH_slt hd
  generalize SlX.slH H3 b (cState K) db (SlX.putS 1 pa' (SlX.putS 0 n' (SlX.putS 4 v' (SlX.putS 2 p' vs)))) = H4 at s4 t4 ⊢
  obtain ⟨kx, kr, kc⟩ := keep s4
  refine ⟨_, rfl, x, cTrial K, dx, _, _, rfl, kx, T.c_Trial, T.n_Trial_chosen, rfl, c, cState K, dc, _, ws, _, _, rfl, kc, T.sc_State, T.sl_undone, c6, _, rfl, x, cTrial K, dx, _, _, rfl, kx, T.c_Trial, T.n_Trial_base, rfl, b, cState K, db, _, _, _, rfl, t4, T.sc_State, T.sl_undone, ?_⟩
  have s5 := s4.trans (slH_sm (a := b) (C := cState K) (dx := db) (vs := SlX.putS 3 un' (SlX.putS 1 pa' (SlX.putS 0 n' (SlX.putS 4 v' (SlX.putS 2 p' vs))))))
  have t5 : SlX.Slt (SlX.slH H4 b (cState K) db (SlX.putS 3 un' (SlX.putS 1 pa' (SlX.putS 0 n' (SlX.putS 4 v' (SlX.putS 2 p' vs)))))) b (cState K) db (SlX.putS 3 un' (SlX.putS 1 pa' (SlX.putS 0 n' (SlX.putS 4 v' (SlX.putS 2 p' vs))))) := SlX.slH_slt hd
  generalize SlX.slH H4 b (cState K) db (SlX.putS 3 un' (SlX.putS 1 pa' (SlX.putS 0 n' (SlX.putS 4 v' (SlX.putS 2 p' vs))))) = H5 at s5 t5 ⊢
  obtain ⟨kx, kr, kc⟩ := keep s5
  have hS : StAt K H5 b db p' v' n' pa' un' := by
    refine ⟨hd, _, t5, ?_, ?_, ?_, ?_, ?_⟩
    · exact (SlX.putS_ne (by decide)).mpr ((SlX.putS_ne (by decide)).mpr ((SlX.putS_ne (by decide)).mpr ((SlX.putS_ne (by decide)).mpr (SlX.putS_get _ _ _))))
    · exact (SlX.putS_ne (by decide)).mpr ((SlX.putS_ne (by decide)).mpr ((SlX.putS_ne (by decide)).mpr (SlX.putS_get _ _ _)))
    · exact (SlX.putS_ne (by decide)).mpr ((SlX.putS_ne (by decide)).mpr (SlX.putS_get _ _ _))
    · exact (SlX.putS_ne (by decide)).mpr (SlX.putS_get _ _ _)
    · exact SlX.putS_get _ _ _
  refine ⟨_, rfl, x, cTrial K, dx, _, _, rfl, kx, T.c_Trial, T.n_Trial_base, rfl, _, rfl, x, cTrial K, dx, _, _, rfl, kx, T.c_Trial, T.n_Trial_tested_desk, rfl, r, cRegister K, dr, _, rfl, kr, T.c_Register, T.n_Register_state, (show 1 < 1000 by decide), ?_⟩
  refine q _ ((s5.mono fun z h => List.mem_cons_of_mem _ h).upd (List.mem_cons.mpr (.inl rfl))) upd_same (hS.sm (l := [r]) ((Sm.refl _ _).upd (List.mem_singleton.mpr rfl)) ?_ ?_)
  · simpa using Ne.symm mr.1
  · simpa using Ne.symm mr.2
end
end Ls
set_option maxRecDepth 100000
set_option maxHeartbeats 4000000
/-! apply_all -/
namespace Ls
open PySem PySem.Spec PyProof.Rows L2
section
variable {P : Program} {w : World} {K : PySem.W.Frag} {mg : Str → Option Value} {base : Heap}
theorem imm_tr {C dx : Addr} {x y z u : V} : Imm (.ins C dx [("tested_desk", x), ("base", y), ("fresh", z), ("chosen", u)]) = false := by
  simp only [Imm, List.map_cons, List.map_nil]
  decide
def OpsAt (H : Hp) : List Addr → List (List V) → Prop
  | [], [] => True
  | t :: ts, c :: cs => H t = some (.tup c) ∧ OpsAt H ts cs
  | _, _ => False
theorem OpsAt.fz {H H' : Hp} (e : Fz H H') : ∀ {ts : List Addr} {cs : List (List V)}, OpsAt H ts cs → OpsAt H' ts cs
  | [], [], _ => trivial
  | _ :: _, _ :: _, h => ⟨e _ _ rfl h.1, OpsAt.fz e h.2⟩
  | [], _ :: _, h => h.elim
  | _ :: _, [], h => h.elim
theorem OpsAt.len {H : Hp} : ∀ {ts : List Addr} {cs : List (List V)}, OpsAt H ts cs → ts.length = cs.length
  | [], [], _ => rfl
  | _ :: _, _ :: _, h => congrArg (· + 1) (OpsAt.len h.2)
  | [], _ :: _, h => h.elim
  | _ :: _, [], h => h.elim
theorem OpsAt.app {H : Hp} {ts' : List Addr} {cs' : List (List V)} (h' : OpsAt H ts' cs') : ∀ {ts : List Addr} {cs : List (List V)}, OpsAt H ts cs → OpsAt H (ts ++ ts') (cs ++ cs')
  | [], [], _ => h'
  | _ :: _, _ :: _, h => ⟨h.1, OpsAt.app h' h.2⟩
  | [], _ :: _, h => h.elim
  | _ :: _, [], h => h.elim
theorem OpsAt.get {H : Hp} : ∀ {ts : List Addr} {cs : List (List V)} {i : Nat} {c : List V}, OpsAt H ts cs → cs[i]? = some c → ∃ t, ts[i]? = some t ∧ H t = some (.tup c)
  | [], [], _, _, _, h => by simp at h
  | t :: ts, c :: cs, 0, _, h, e => by
    simp only [List.getElem?_cons_zero, Option.some.injEq] at e
    subst e
    exact ⟨t, rfl, h.1⟩
  | t :: ts, c :: cs, i + 1, _, h, e => by
    simp only [List.getElem?_cons_succ] at e ⊢
    exact OpsAt.get h.2 e
  | [], _ :: _, _, _, h, _ => h.elim
  | _ :: _, [], _, _, h, _ => h.elim
def Chain (K : PySem.W.Frag) (H : Hp) : List Tr → List (List V) → List (List Tr) → Prop
  | _, [], [] => True
  | es, c :: cs, e :: r => DoOp K H c es e ∧ Ok e ∧ Few es e ∧ Chain K H e cs r
  | _, _, _ => False
def endE : List Tr → List (List Tr) → List Tr
  | es, [] => es
  | _, e :: r => endE e r
noncomputable def toldL : List Tr → List (List Tr) → List V
  | _, [] => []
  | es, e :: r => .int (told es e : Nat) :: toldL e r
theorem DoOp.fz {H H' : Hp} {c : List V} {es es' : List Tr} (h : DoOp K H c es es') (e : Fz H H') : DoOp K H' c es es' := by
  rcases h with ⟨i, a, x, h1, h2, h3⟩ | h | h | ⟨n, ctl, a, acts, h1, h2, h3⟩
  · exact .inl ⟨i, a, x, h1, h2.fz e, h3⟩
  · exact .inr (.inl h)
  · exact .inr (.inr (.inl h))
  · exact .inr (.inr (.inr ⟨n, ctl, a, acts, h1, h2.fz e, h3⟩))
theorem Chain.fz {H H' : Hp} (e : Fz H H') : ∀ {es : List Tr} {cs : List (List V)} {r : List (List Tr)}, Chain K H es cs r → Chain K H' es cs r
  | _, [], [], _ => trivial
  | _, _ :: _, _ :: _, h => ⟨h.1.fz e, h.2.1, h.2.2.1, Chain.fz e h.2.2.2⟩
  | _, [], _ :: _, h => h.elim
  | _, _ :: _, [], h => h.elim
theorem Chain.len {H : Hp} : ∀ {es : List Tr} {cs : List (List V)} {r : List (List Tr)}, Chain K H es cs r → cs.length = r.length
  | _, [], [], _ => rfl
  | _, _ :: _, _ :: _, h => congrArg (· + 1) (Chain.len h.2.2.2)
  | _, [], _ :: _, h => h.elim
  | _, _ :: _, [], h => h.elim
theorem Chain.get {H : Hp} : ∀ {es : List Tr} {cs : List (List V)} {r : List (List Tr)} {j : Nat} {c : List V}, Chain K H es cs r → cs[j]? = some c → ∃ e, r[j]? = some e ∧ DoOp K H c (endE es (r.take j)) e ∧ Ok e ∧ Few (endE es (r.take j)) e
  | _, [], [], _, _, _, h => by simp at h
  | es, c :: cs, e :: r, 0, _, h, g => by
    simp only [List.getElem?_cons_zero, Option.some.injEq] at g
    subst g
    exact ⟨e, rfl, h.1, h.2.1, h.2.2.1⟩
  | es, c :: cs, e :: r, j + 1, _, h, g => by
    simp only [List.getElem?_cons_succ, List.take_succ_cons, endE] at g ⊢
    exact Chain.get h.2.2.2 g
  | _, [], _ :: _, _, _, h, _ => h.elim
  | _, _ :: _, [], _, _, h, _ => h.elim
theorem endE_succ : ∀ {es : List Tr} {r : List (List Tr)} {j : Nat} {e : List Tr}, r[j]? = some e → endE es (r.take (j + 1)) = e
  | _, [], _, _, h => by simp at h
  | _, x :: r, 0, e, h => by
    simp only [List.getElem?_cons_zero, Option.some.injEq] at h
    subst h
    simp [endE]
  | _, x :: r, j + 1, e, h => by
    simp only [List.getElem?_cons_succ] at h
    simp only [List.take_succ_cons, endE]
    exact endE_succ h
theorem toldL_succ : ∀ {es : List Tr} {r : List (List Tr)} {j : Nat} {e : List Tr}, r[j]? = some e → toldL es (r.take (j + 1)) = toldL es (r.take j) ++ [V.int (told (endE es (r.take j)) e : Nat)]
  | _, [], _, _, h => by simp at h
  | _, x :: r, 0, e, h => by
    simp only [List.getElem?_cons_zero, Option.some.injEq] at h
    subst h
    simp [toldL, endE]
  | _, x :: r, j + 1, e, h => by
    simp only [List.getElem?_cons_succ] at h
    simp only [List.take_succ_cons, toldL, endE, List.cons_append]
    rw [toldL_succ h]
theorem toldL_len : ∀ {es : List Tr} {r : List (List Tr)}, (toldL es r).length = r.length
  | _, [] => rfl
  | _, _ :: _ => congrArg (· + 1) toldL_len
theorem DoOp.op {H : Hp} {c : List V} {es es' : List Tr} (h : DoOp K H c es es') : ∃ (z : Str) (r : List V), c = .str z :: r ∧ opSz z (r.length + 1) ∧ z ≠ "promise" := by
  rcases h with ⟨i, a, x, rfl, h2, h3⟩ | ⟨i, rfl, h⟩ | ⟨i, x, y, rfl, h⟩ | ⟨n, ctl, a, acts, rfl, h2, h3⟩
  · exact ⟨_, _, rfl, rfl, by decide⟩
  · exact ⟨_, _, rfl, rfl, by decide⟩
  · exact ⟨_, _, rfl, rfl, by decide⟩
  · exact ⟨_, _, rfl, rfl, by decide⟩
theorem mkTr' {H : Hp} {x dx r dr s : Addr} {Q : VK} {E : XK} (hx : H x = none) (hdx : H dx = none) (ne : dx ≠ x) (hr : RegF K H r dr s) (q : ∀ H', Ext H H' → TrAt K H' x dx r s s s → Q .non H') :
    spTrI K [.ref x, .ref r] (upd (upd H dx (.own x)) x (.ins (cTrial K) dx [])) Q E := by
  have e1 : Ext H (upd (upd H dx (.own x)) x (.ins (cTrial K) dx [])) := (Ext.upd hdx).trans (Ext.upd (by rw [upd_ne (Ne.symm ne)]; exact hx))
  have hne : r ≠ x := fun z => by rw [← z] at hx; rw [show H r = _ from hr] at hx; cases hx
  exact ⟨x, r, dx, dr, s, rfl, upd_same, e1 _ _ hr, hne, fun H' sm h => q H' (fun b o hb => sm b o (e1 b o hb) (fun z => by rw [List.mem_singleton.mp z, hx] at hb; cases hb)) h⟩
def spApply (K : PySem.W.Frag) : Sp := fun vs H Q _ => ∃ (r dr s ds p : Addr) (es : List Tr) (ts0 us : List Addr) (cs : List (List V)) (ess : List (List Tr)), vs = [.ref r, .ref p] ∧ RegAt K H r dr s ds es (ts0.map V.ref) ∧ H p = some (.lst (us.map V.ref)) ∧ OpsAt H us cs ∧ Chain K H es cs ess ∧ ts0.length + cs.length ≤ 20 ∧
  ∀ H' q ts, Sm [r, s, ds] H H' → RegAt K H' r dr s ds (endE es ess) ((ts0 ++ ts).map V.ref) → OpsAt H' ts cs → H' q = some (.lst (toldL es ess)) → H q = none → Q (.ref q) H'
theorem sc_Register_apply_all : FnScope ["self", "operations", "index", "operation", "trial", "found"] ["self", "operations"] (defScope s_Register_apply_all) := ⟨rfl, rfl, rfl, by decide +kernel, rfl, by decide +kernel, by decide +kernel⟩
theorem ok_Register_apply_all (T : Txt w K mg) : MF P w K mg base 13 (cRegister K) "apply_all" (a_Register_apply_all K) (spApply K) := by
  obtain ⟨fd, F⟩ := T.d_Register_apply_all
  refine ⟨fnr F sc_Register_apply_all (F.binds fun _ _ _ _ _ _ us hl => match us, hl with | [_, _], _ => rfl) (by rintro vs H Q E ⟨_, _, _, _, _, _, _, _, _, _, rfl, _⟩; rfl) fun cdv A outer s H vs Q E hr h => ?_, T.m_Register_apply_all, T.c_Register⟩
  obtain ⟨r, dr, s, ds, p, es, ts0, us, cs, ess, rfl, hR, hp, hus, hch, hlen, q⟩ := h
  refine ⟨_, (pss_cons (ps_for PassesOwn.never rfl (pi_enum (by rfl) T.f_enumerate (pa_cons (pv 1) pa_nil)) (pg_tup rfl (pgs_cons (pg_name (i := 2) sc_Register_apply_all.nd rfl (.inl rfl)) (pgs_cons (pg_name (i := 3) sc_Register_apply_all.nd rfl (.inl rfl)) pgs_nil)))
    (pss_one (ps_if (pt_not (pt_val (pcall (ok_is_operation T) (hr.mono (by first | decide | omega)) (pa_cons (pv 3) pa_nil)))) pss_never pss_nil)))
    (pss_cons (pwith (i := 4) (pmake (ok_Trial T) (hr.mono (by first | decide | omega)) (pa_cons (pv 0) pa_nil)) (ok_Trial_enter T) (ok_Trial_exit T) (hr.mono (by first | decide | omega)) (hr.mono (by first | decide | omega)) sc_Register_apply_all.nd rfl (.inl rfl) (pss_cons (ps_setLc (i := 5) (own := [("operation", 3)]) (g := gName 3) (tt := tYes) (te := tMethR (cRegister K) "execute" (spExec K) E0 (tVar 0) (tCons (tVar 3) tNil)) rfl sc_Register_apply_all.nd rfl rfl (sw_true rfl rfl rfl (by decide +kernel)) (pi_list (pv 1)) (blkOk_by (own := [("operation", 3)]) (N := ["self", "operations", "index", "operation", "trial", "found"]) (sc := defScope s_Register_apply_all) (by decide +kernel)) (fun _ _ _ _ _ => pg_name (i := 3) sc_Register_apply_all.nd rfl (Or.inl rfl)) (fun _ _ _ _ _ => pts_nil) (fun _ _ _ _ _ => (pmeth (pv 0) (ok_Register_execute T) (hr.mono (by first | decide | omega)) (pa_cons (pv 3) pa_nil))))
    (pss_one (ps_expr (pmeth0 (pv 4) (ok_Trial_hold T) (hr.mono (by first | decide | omega)))))) (fun _ _ z => z))
    (pss_one (ps_ret (pv 5))))), ?_⟩
  have hul := hus.len
  refine ⟨_, rfl, p, _, rfl, SqL.of hp, ?_⟩
  refine for_it walk_enum (fun i σ H2 => (∃ a b, σ = [some (.ref r), some (.ref p), a, b, none, none]) ∧ Ext H H2) ⟨⟨none, none, rfl⟩, Ext.rfl'⟩ (fun i σ H2 _ hi => SqL.of (hi.2 _ _ hp)) (fun i v σ H2 H3 hi hp1 hy => ?_) fun σ H2 hp1 => ?_
  · obtain ⟨⟨a, b, rfl⟩, e2⟩ := hp1
    obtain ⟨T0, vi, ve, rfl, hT, rfl, ei, ee⟩ := hy
    cases ei
    rw [List.length_map] at hi
    obtain ⟨c, hc⟩ : ∃ c, cs[i]? = some c := ⟨_, List.getElem?_eq_getElem (by omega)⟩
    obtain ⟨t, ht, htc⟩ := hus.get hc
    simp only [List.getElem?_map, ht, Option.map_some, Option.some.injEq] at ee
    subst ee
    obtain ⟨e, _, hdo, _⟩ := hch.get hc
    obtain ⟨z, rr, rfl, hz, _⟩ := hdo.op
    have eT := e2.upd' hT (o := .tup [.int (i : Nat), .ref t])
    refine ⟨T0, _, rfl, SqT.of upd_same, rfl, _, _, rfl, _, _, rfl, rfl, ?_⟩
    exact ⟨_, rfl, t, z, rr, rfl, eT _ _ htc, hz, fun H4 e4 => ⟨true, rfl, iteF ⟨⟨_, _, rfl⟩, eT.trans e4⟩⟩⟩
  · obtain ⟨⟨a, b, rfl⟩, e2⟩ := hp1
    have hR2 := hR.ext e2
    refine ⟨_, rfl, fun x dx n1 n2 n3 => mkTr' n1 n2 n3 hR2.1 fun H3 e3 hx3 => ⟨rfl, x, dx, _, rfl, hx3, ?_⟩⟩
    have hR3 := hR2.ext e3
    have e03 := e2.trans e3
    have rx : r ≠ x := fun z => by
      have := hR2.1
      rw [z] at this
      rw [show H2 x = _ from this] at n1
      cases n1
    refine ⟨x, dx, r, dr, s, ds, s, s, es, _, rfl, hx3, rx, hR3, fun H4 f df c sm4 nf ndf hx4 hR4 => ?_⟩
    have hxs := hR.2
    have f2 : Fz H2 H3 := Fz.of e3
    have fxr : Fz H3 H4 := sm4.fz fun b hb o e => by
      simp only [List.mem_cons, List.not_mem_nil, or_false] at hb
      rcases hb with z | z
      · rw [z, show H3 x = _ from hx3] at e
        cases e
        exact imm_tr
      · rw [z, show H3 r = _ from hR3.1] at e
        cases e
        simp [Imm]
    have f04 : Fz H H4 := (Fz.of e03).trans fxr
    have hp4 : H4 p = some (.lst (us.map V.ref)) := sm4 _ _ (e03 _ _ hp) (by
      simp only [List.mem_cons, List.not_mem_nil, or_false, not_or]
      refine ⟨fun z => ?_, fun z => ?_⟩
      · rw [z] at hp
        rw [e2 _ _ hp] at n1
        cases n1
      · rw [z, show H r = _ from hR.1] at hp
        cases hp)
    refine ⟨_, rfl, p, rfl, ⟨_, SqL.of hp4⟩, fun D hD => ?_⟩
    have xff : x ∉ [f, df] := hR4.2.ne_ins hx4
    have rff : r ∉ [f, df] := hR4.2.ne_ins hR4.1
    have pff : p ∉ [f, df] := hR4.2.ne_lst hp4
    have xD : x ≠ D := fun z => by rw [← z, show H4 x = _ from hx4] at hD; cases hD
    have rD : r ≠ D := fun z => by rw [← z, show H4 r = _ from hR4.1] at hD; cases hD
    have pD : p ≠ D := fun z => by rw [← z, hp4] at hD; cases hD
    have fD : f ≠ D ∧ df ≠ D := by
      obtain ⟨pr, v, n, pa, un, hS, _⟩ := hR4.2
      obtain ⟨vs, z1, z2⟩ := hS.at2
      exact ⟨fun z => (by rw [← z, z1] at hD; cases hD), fun z => (by rw [← z, z2] at hD; cases hD)⟩
    have frm : ∀ {H' : Hp}, Sm [D, f, df] H4 H' → TrAt K H' x dx r s f c ∧ RegF K H' r dr f ∧ H' p = some (.lst (us.map V.ref)) ∧ Fz H4 H' := fun sm => by
      refine ⟨sm _ _ hx4 ?_, sm _ _ hR4.1 ?_, sm _ _ hp4 ?_, hR4.2.smfz (sm.drop hD)⟩
      · simpa using ⟨xD, by simpa using xff⟩
      · simpa using ⟨rD, by simpa using rff⟩
      · simpa using ⟨pD, by simpa using pff⟩
    have hchl := hch.len
    refine lc_it walk_list (fun j H' => Sm [D, f, df] H4 H' ∧ ∃ ts, RegAt K H' r dr f df (endE es (ess.take j)) ((ts0 ++ ts).map V.ref) ∧ OpsAt H' ts (cs.take j) ∧ H' D = some (.lst (toldL es (ess.take j)))) ?_ (fun j H' _ hj => SqL.of (frm hj.1).2.2.1) (fun j v Ha Hb hj hv hy2 => ?_) fun H6 hv => ?_
    · refine ⟨(Sm.refl _ _).new hD, [], ?_, trivial, upd_same⟩
      rw [List.append_nil]
      exact hR4.ext (Ext.upd hD)
    · obtain ⟨sm, ts, hRj, hts, hDj⟩ := hv
      obtain ⟨rfl, hvj⟩ := hy2
      rw [List.length_map] at hj
      obtain ⟨cc, hcc⟩ : ∃ c, cs[j]? = some c := ⟨_, List.getElem?_eq_getElem (by omega)⟩
      obtain ⟨t, ht, htc⟩ := hus.get hcc
      simp only [List.getElem?_map, ht, Option.map_some, Option.some.injEq] at hvj
      subst hvj
      obtain ⟨e, he, hdo, hok, hfew⟩ := hch.get hcc
      have f0a := f04.trans (frm sm).2.2.2
      have htl := hts.len
      rw [List.length_take] at htl
      refine ⟨rfl, _, rfl, r, dr, _, rfl, hRj.1, rfl, _, rfl, r, dr, f, df, t, _, _, _, cc, rfl, f0a _ _ rfl htc, hdo.fz f0a, hRj, hok, hfew, ?_, fun H7 t7 sm7 hR7 ht7 => ?_⟩
      · rw [List.length_map, List.length_append]
        omega
      have hD7 := sm7 _ _ hDj (hRj.2.ne_lst hDj)
      have f7 := hRj.2.smfz sm7
      have sD : Sm [D] H7 (upd H7 D (.lst (toldL es (ess.take j) ++ [V.int (told (endE es (ess.take j)) e : Nat)]))) := (Sm.refl _ _).upd (List.mem_singleton.mpr rfl)
      have fD7 : Fz H7 (upd H7 D (.lst (toldL es (ess.take j) ++ [V.int (told (endE es (ess.take j)) e : Nat)]))) := sD.fz fun b hb o e => by
        rw [List.mem_singleton.mp hb, hD7] at e
        cases e
        rfl
      refine ⟨_, hD7, ?_, (sm.trans (sm7.mono fun b hb => List.mem_cons_of_mem _ hb)).upd (List.mem_cons.mpr (.inl rfl)), ts ++ [t7], ⟨sD _ _ hR7.1 (by simpa using rD), ?_⟩, ?_, ?_⟩
      · rw [toldL_len, List.length_take]
        exact Nat.lt_of_lt_of_le (by omega : min j ess.length < 50) (by decide)
      · rw [endE_succ he, ← List.append_assoc, List.map_append]
        exact hR7.2.sm sD fD7 (by simpa using fD.1) (by simpa using fD.2)
      · rw [take_succ hcc]
        exact OpsAt.app (ts' := [t7]) (cs' := [cc]) ⟨fD7 _ _ rfl ht7, trivial⟩ ((hts.fz f7).fz fD7)
      · rw [upd_same, toldL_succ he]
    · obtain ⟨sm, ts, hRj, hts, hDj⟩ := hv
      rw [List.length_map, hul, List.take_length] at hts
      rw [List.length_map, hul, hchl, List.take_length] at hRj hDj
      obtain ⟨kx, kr, kp, kf⟩ := frm sm
      refine ⟨_, rfl, x, dx, _, rfl, kx, rfl, x, dx, r, s, f, c, rfl, kx, fun H7 sm7 hx7 => ?_⟩
      have f7 : Fz H6 H7 := sm7.fz fun b hb o e => by
        rw [List.mem_singleton.mp hb, show H6 x = _ from kx] at e
        cases e
        exact imm_tr
      simp only [List.mem_cons, List.not_mem_nil, or_false, not_or] at xff rff pff
      have hRf := hRj.2.sm sm7 f7 (by simpa using Ne.symm xff.1) (by simpa using Ne.symm xff.2)
      have hr7 : RegF K H7 r dr f := sm7 _ _ kr (by simpa using rx)
      have sall : Sm [x, r, D, f, df] H H7 := by
        refine (((Sm.of e03).trans (sm4.mono ?_)).trans (sm.mono ?_)).trans (sm7.mono ?_)
        · intro b hb
          simp only [List.mem_cons, List.not_mem_nil, or_false] at hb ⊢
          rcases hb with z | z <;> simp [z]
        · intro b hb
          simp only [List.mem_cons, List.not_mem_nil, or_false] at hb ⊢
          rcases hb with z | z | z <;> simp [z]
        · intro b hb
          simp only [List.mem_cons, List.not_mem_nil, or_false] at hb ⊢
          simp [hb]
      have nx : H x = none := e2.none n1
      have nf0 : H f = none := e03.none nf
      have ndf0 : H df = none := e03.none ndf
      have nD0 : H D = none := by
        cases hz : H D with
        | none => rfl
        | some o =>
          refine absurd (sm4 _ _ (e03 _ _ hz) ?_) (by rw [hD]; exact fun z => nomatch z)
          simpa using ⟨Ne.symm xD, Ne.symm rD⟩
      obtain ⟨pr, v, n, pa, un, hS, hpr, hv, hP⟩ := id hR.2
      obtain ⟨vs0, z1, z2⟩ := hS.at2
      have sne : s ∉ [x, r, D, f, df] ∧ ds ∉ [x, r, D, f, df] := by
        have hrH := hR.1
        simp only [List.mem_cons, List.not_mem_nil, or_false, not_or]
        refine ⟨⟨fun z => ?_, fun z => ?_, fun z => ?_, fun z => ?_, fun z => ?_⟩, ⟨fun z => ?_, fun z => ?_, fun z => ?_, fun z => ?_, fun z => ?_⟩⟩
        · rw [z, nx] at z1; cases z1
        · rw [z, show H r = _ from hrH] at z1; cases z1
        · rw [z, nD0] at z1; cases z1
        · rw [z, nf0] at z1; cases z1
        · rw [z, ndf0] at z1; cases z1
        · rw [z, nx] at z2; cases z2
        · rw [z, show H r = _ from hrH] at z2; cases z2
        · rw [z, nD0] at z2; cases z2
        · rw [z, nf0] at z2; cases z2
        · rw [z, ndf0] at z2; cases z2
      have hS7 := hS.sm sall sne.1 sne.2
      obtain ⟨pr', v', n', pa', un', hS', hpr', hv', hP'⟩ := id hRf
      simp only [List.mem_cons, List.not_mem_nil, or_false, not_or] at sne
      refine ⟨x, dx, r, dr, s, ds, f, df, f, f, _, _, _, _, _, _, _, _, _, _, _, _, _, rfl, hx7, hr7, hS7, hS', sne.1.2.2.2.1, sne.1.2.2.2.2, sne.2.2.2.2.1, sne.2.2.2.2.2, fun H8 sm8 hr8 hS8 => ?_⟩
      have f8 : Fz H7 H8 := by
        obtain ⟨vs7, y1, y2⟩ := hS7.at2
        refine sm8.fz fun b hb o e => ?_
        simp only [List.mem_cons, List.not_mem_nil, or_false] at hb
        rcases hb with z | z | z
        · rw [z, show H7 r = _ from hr7] at e
          cases e
          simp [Imm]
        · rw [z, y1] at e
          cases e
          rfl
        · rw [z, y2] at e
          cases e
          rfl
      have hD7 : H7 D = some (.lst (toldL es ess)) := sm7 _ _ hDj (by simpa using Ne.symm xD)
      have sfin : Sm [x, D, f, df, r, s, ds] H H8 := by
        refine (sall.mono ?_).trans (sm8.mono ?_)
        · intro b hb
          simp only [List.mem_cons, List.not_mem_nil, or_false] at hb ⊢
          rcases hb with z | z | z | z | z <;> simp [z]
        · intro b hb
          simp only [List.mem_cons, List.not_mem_nil, or_false] at hb ⊢
          rcases hb with z | z | z <;> simp [z]
      refine ⟨_, rfl, q H8 D ts ((((sfin.drop nx).drop nD0).drop nf0).drop ndf0) ⟨hr8, pr', v', n', pa', un', hS8, hpr'.fz f8, SqT.fz hv' f8, hP'.fz f8⟩ ((hts.fz f7).fz f8) (sm8 _ _ hD7 ?_) nD0⟩
      have sD1 := hS7.at2
      obtain ⟨vs7, y1, y2⟩ := sD1
      simp only [List.mem_cons, List.not_mem_nil, or_false, not_or]
      exact ⟨Ne.symm rD, fun z => (by rw [z, y1] at hD7; cases hD7), fun z => (by rw [z, y2] at hD7; cases hD7)⟩
end
end Ls
set_option maxRecDepth 100000
set_option maxHeartbeats 4000000
/-! history, replay -/
namespace Ls
open PySem PySem.Spec PyProof.Rows L2
section
variable {P : Program} {w : World} {K : PySem.W.Frag} {mg : Str → Option Value} {base : Heap}
def spHist (K : PySem.W.Frag) : Sp := fun vs H Q _ => ∃ (r dr s ds : Addr) (es : List Tr) (ts : List Addr) (cs : List (List V)), vs = [.ref r] ∧ RegAt K H r dr s ds es (ts.map V.ref) ∧ OpsAt H ts cs ∧ (∀ c ∈ cs, ∃ (z : Str) (rr : List V), c = .str z :: rr ∧ z ≠ "promise") ∧ ts.length ≤ 20 ∧
  ∀ H' q, Ext H H' → H' q = some (.lst (ts.map V.ref)) → Q (.ref q) H'
theorem sc_Register_history : FnScope ["self", "operation", "ahead"] ["self"] (defScope s_Register_history) := ⟨rfl, rfl, rfl, by decide +kernel, rfl, by decide +kernel, by decide +kernel⟩
theorem ok_Register_history (T : Txt w K mg) : PF P w K mg base 2 (cRegister K) "history" (He.ma K (cRegister K) "history") (a_Register_history K) (spHist K) := by
  obtain ⟨fd, F⟩ := T.d_Register_history
  refine ⟨fnr F sc_Register_history (F.binds fun _ _ _ _ _ _ us hl => match us, hl with | [_], _ => rfl) (by rintro vs H Q E ⟨_, _, _, _, _, _, _, rfl, _⟩; rfl) fun cdv A outer s H vs Q E hr h => ?_, T.p_Register_history, T.c_Register⟩
  obtain ⟨r, dr, s, ds, es, ts, cs, rfl, hR, hts, hcs, hl, q⟩ := h
  refine ⟨_, (pss_one (ps_ret (pe_lc (own := [("operation", 1), ("ahead", 2)]) (g := gTup K 2 (gCons (gName 1) (gCons (gName 2) gNil))) (tt := tYes) (te := tC0 spCopied (tCons (tVar 1) tNil)) rfl sc_Register_history.nd (pi_tup (SlX.pe_sl (pe_fld (pv 0) rfl))) (blkOk_by (own := [("operation", 1), ("ahead", 2)]) (N := ["self", "operation", "ahead"]) (sc := defScope s_Register_history) (by decide +kernel)) (fun _ _ _ _ _ => pg_tup rfl (pgs_cons (pg_name (i := 1) sc_Register_history.nd rfl (Or.inl rfl)) (pgs_cons (pg_name (i := 2) sc_Register_history.nd rfl (Or.inl rfl)) pgs_nil))) (fun _ _ _ _ _ => pts_nil) (fun _ _ _ _ _ => (pcall (ok_copied T) (hr.mono (by first | decide | omega)) (pa_cons (pv 1) pa_nil)))))), ?_⟩
  obtain ⟨f1, pr, v, n, pa, un, hS, hpr, hv, ⟨pp, xs, rfl, hpp, hE⟩⟩ := id hR
  obtain ⟨hd, vs, h1, h2, h3, h4, h5, h6⟩ := id hS
  have htl := hts.len
  have hxl := hE.len
  rw [List.length_map] at hxl
  refine ⟨_, rfl, r, cRegister K, dr, _, _, rfl, f1, T.c_Register, T.n_Register_state, rfl, s, cState K, ds, _, vs, _, _, rfl, h1, T.sc_State, T.sl_past, h5, pp, rfl, ⟨_, hpp⟩, fun D hD => ?_⟩
  refine lc_it walk_tup (fun j H' => Ext H H' ∧ H' D = some (.lst ((ts.take j).map V.ref))) ⟨Ext.upd hD, upd_same⟩ (fun j H' _ hj => SqT.ext hpp hj.1) (fun j v Ha Hb hj hv hy2 => ?_) fun H6 hv => ?_
  · obtain ⟨e1, hDj⟩ := hv
    obtain ⟨rfl, hvj⟩ := hy2
    obtain ⟨t, ht⟩ : ∃ t, ts[j]? = some t := ⟨_, List.getElem?_eq_getElem (by omega)⟩
    obtain ⟨c, hc⟩ : ∃ c, cs[j]? = some c := ⟨_, List.getElem?_eq_getElem (by omega)⟩
    obtain ⟨x, hx, t2, y, rfl, hen⟩ := hE.get (i := j) (o := .ref t) (by rw [List.getElem?_map, ht]; rfl)
    rw [hx] at hvj
    cases hvj
    obtain ⟨t', ht', htc⟩ := hts.get hc
    rw [ht] at ht'
    cases ht'
    obtain ⟨z, rr, rfl, hz⟩ := hcs c (List.mem_of_getElem? hc)
    refine ⟨t2, _, rfl, SqT.ext hen e1, rfl, _, _, rfl, _, _, rfl, rfl, rfl, _, rfl, t, z, rr, rfl, e1 _ _ htc, hz, _, hDj, ?_, e1.updD hD, ?_⟩
    · rw [List.length_map, List.length_take]
      exact Nat.lt_of_lt_of_le (by omega : min j ts.length < 50) (by decide)
    · rw [upd_same, take_succ ht, List.map_append]
      rfl
  · obtain ⟨e1, hDj⟩ := hv
    rw [← hxl, List.take_length] at hDj
    exact q H6 D e1 hDj
/-! replay -/
theorem mkReg' {H : Hp} {x dx st : Addr} {es : List Tr} {Q : VK} {E : XK} (hx : H x = none) (hdx : H dx = none) (ne : dx ≠ x) (hst : AtT K H (.st es) st) (q : ∀ H' s ds, Ext H H' → H s = none → H ds = none → RegAt K H' x dx s ds es [] → Q .non H') :
    spRegI K [.ref x, .ref st] (upd (upd H dx (.own x)) x (.ins (cRegister K) dx [])) Q E := by
  have e1 : Ext H (upd (upd H dx (.own x)) x (.ins (cRegister K) dx [])) := (Ext.upd hdx).trans (Ext.upd (by rw [upd_ne (Ne.symm ne)]; exact hx))
  exact ⟨x, st, dx, es, rfl, upd_same, hst.fz (Fz.of e1), fun H' s ds sm n1 n2 h => q H' s ds (fun b o hb => sm b o (e1 b o hb) (fun z => by rw [List.mem_singleton.mp z, hx] at hb; cases hb)) (e1.none n1) (e1.none n2) h⟩
def spReplay (K : PySem.W.Frag) : Sp := fun vs H Q _ => ∃ (st p : Addr) (es : List Tr) (us : List Addr) (cs : List (List V)) (ess : List (List Tr)), vs = [.ref (cRegister K), .ref st, .ref p] ∧ AtT K H (.st es) st ∧ H p = some (.lst (us.map V.ref)) ∧ OpsAt H us cs ∧ Chain K H es cs ess ∧ cs.length ≤ 20 ∧
  ∀ H' x dx s ds ops, Ext H H' → H x = none → RegAt K H' x dx s ds (endE es ess) ops → Q (.ref x) H'
theorem sc_Register_replay : FnScope ["cls", "stack", "operations", "desk"] ["cls", "stack", "operations"] (defScope s_Register_replay) := ⟨rfl, rfl, rfl, by decide +kernel, rfl, by decide +kernel, by decide +kernel⟩
theorem ok_Register_replay (T : Txt w K mg) : FnR P w K mg base CX0 14 (a_Register_replay K) (spReplay K) := by
  obtain ⟨fd, F⟩ := T.d_Register_replay
  refine fnr F sc_Register_replay (F.binds fun _ _ _ _ _ _ us hl => match us, hl with | [_, _, _], _ => rfl) (by rintro vs H Q E ⟨_, _, _, _, _, _, rfl, _⟩; rfl) fun cdv A outer s H vs Q E hr h => ?_
  obtain ⟨st, p, es, us, cs, ess, rfl, hst, hp, hus, hch, hl, q⟩ := h
  refine ⟨_, (pss_cons (ps_set (i := 3) sc_Register_replay.nd rfl (.inl rfl) (pmakeL (i := 0) T.mk_Register (ok_Register T).run (hr.mono (by decide)) (pa_cons (pv 1) pa_nil)))
    (pss_cons (ps_expr (pmeth (pv 3) (ok_Register_apply_all T) (hr.mono (by first | decide | omega)) (pa_cons (pv 2) pa_nil)))
    (pss_one (ps_ret (pv 3))))), ?_⟩
  refine ⟨rfl, _, rfl, fun x dx n1 n2 n3 => mkReg' n1 n2 n3 hst fun H1 s ds e1 n4 n5 hR => ⟨rfl, ?_⟩⟩
  refine ⟨_, rfl, x, dx, _, rfl, hR.1, rfl, _, rfl, x, dx, s, ds, p, es, [], us, cs, ess, rfl, hR, e1 _ _ hp, hus.fz (Fz.of e1), hch.fz (Fz.of e1), by simpa using hl, fun H2 qq ts sm hR2 _ _ _ => ?_⟩
  refine ⟨_, rfl, q H2 x dx s ds _ (fun b o hb => sm b o (e1 b o hb) ?_) n1 hR2⟩
  simp only [List.mem_cons, List.not_mem_nil, or_false, not_or]
  exact ⟨fun z => (by rw [z, n1] at hb; cases hb), fun z => (by rw [z, n4] at hb; cases hb), fun z => (by rw [z, n5] at hb; cases hb)⟩
end
end Ls
set_option maxRecDepth 100000
set_option maxHeartbeats 4000000
/-! codec: checksum, action_item, rule_items -/
namespace Ls
open PySem PySem.Spec PyProof.Rows L2
section
variable {P : Program} {w : World} {K : PySem.W.Frag} {mg : Str → Option Value} {base : Heap}
def ckF (ns : List Int) : Int := ns.foldl (fun f v => (9 * f + v) % 251) 5
theorem ckF_rng (ns : List Int) : 0 ≤ ckF ns ∧ ckF ns < 251 := by
  unfold ckF
  suffices ∀ (ns : List Int) (a : Int), 0 ≤ a ∧ a < 251 → 0 ≤ ns.foldl (fun f v => (9 * f + v) % 251) a ∧ ns.foldl (fun f v => (9 * f + v) % 251) a < 251 from this ns 5 (by omega)
  intro ns
  induction ns with
  | nil => intro a h; exact h
  | cons n ns ih => intro a h; exact ih _ (show 0 ≤ (9 * a + n) % 251 ∧ (9 * a + n) % 251 < 251 by omega)
theorem ckF_app (ns : List Int) (n : Int) : ckF (ns ++ [n]) = (9 * ckF ns + n) % 251 := by
  unfold ckF
  rw [List.foldl_append]
  rfl
def spCheck (K : PySem.W.Frag) : Sp := fun vs H Q _ => ∃ (p : Addr) (ns : List Int), vs = [.ref p] ∧ SqL K H p (ns.map V.int) ∧ Q (.int (ckF ns)) H
theorem sc_checksum : FnScope ["values", "found", "value"] ["values"] (defScope s_checksum) := ⟨rfl, rfl, rfl, by decide +kernel, rfl, by decide +kernel, by decide +kernel⟩
theorem ok_checksum (T : Txt w K mg) : GF P w K mg base 1 "checksum" (He.ga K "checksum") (spCheck K) := by
  obtain ⟨fd, F⟩ := T.d_checksum
  refine gf_of F T.g_checksum (fnr F sc_checksum (F.binds fun _ _ _ _ _ _ us hl => match us, hl with | [_], _ => rfl) (by rintro vs H Q E ⟨_, _, rfl, _⟩; rfl) fun cdv A outer s H vs Q E hr h => ?_)
  obtain ⟨p, ns, rfl, hp, q⟩ := h
  refine ⟨_, (pss_cons (ps_set (i := 1) sc_checksum.nd rfl (.inl rfl) (pgi 5 T.i_CHECK_START))
    (pss_cons (ps_for PassesOwn.never rfl (pi_list (pv 0)) (pg_name (i := 2) sc_checksum.nd rfl (.inl rfl))
    (pss_one (ps_set (i := 1) sc_checksum.nd rfl (.inl rfl) (pe_op op_mod (pct call_int1 T.f_int (pa_cons (pe_op op_add (pe_op op_mul (pgi 9 T.i_CHECK_TIMES) (pv 1)) (pv 2)) pa_nil)) (pgi 251 T.i_CHECK_REST)))))
    (pss_one (ps_ret (pv 1))))), ?_⟩
  refine ⟨_, rfl, p, rfl, ⟨_, hp⟩, ?_⟩
  refine for_it walk_list (fun i σ H2 => (∃ a, σ = [some (.ref p), some (.int (ckF (ns.take i))), a]) ∧ H2 = H) ⟨⟨none, rfl⟩, rfl⟩ (fun i σ H2 _ hi => by rw [hi.2]; exact hp) (fun i v σ H2 H3 hi hp1 hy => ?_) fun σ H2 hp1 => ?_
  · obtain ⟨⟨a, rfl⟩, rfl⟩ := hp1
    obtain ⟨rfl, hv⟩ := hy
    rw [List.length_map] at hi
    obtain ⟨n, hn⟩ : ∃ n, ns[i]? = some n := ⟨_, List.getElem?_eq_getElem hi⟩
    simp only [List.getElem?_map, hn, Option.map_some, Option.some.injEq] at hv
    subst hv
    have hr2 := ckF_rng (ns.take i)
    refine ⟨_, rfl, _, _, rfl, rfl, .inl (by omega), _, rfl, _, _, rfl, rfl, .inl ⟨_, rfl, _, _, rfl, rfl, (by decide : (0 : Int) < 251), ?_⟩⟩
    rw [take_succ hn, ckF_app]
    exact ⟨⟨_, rfl⟩, rfl⟩
  · obtain ⟨⟨a, rfl⟩, rfl⟩ := hp1
    rw [List.length_map, List.take_length] at *
    exact ⟨_, rfl, q⟩
/-! action_item -/
def itemA (v : V) : Int := match v with
  | .str z => (actS.idxOf z : Nat)
  | .int n => 5 + n
  | _ => 0
theorem act_at {x : V} (h : x = .str "ok" ∨ x = .str "bad" ∨ x = .str "die" ∨ x = .str "done" ∨ x = .str "ignore" ∨ x = .str "reset") : ∃ (z : Str) (i : Nat), x = .str z ∧ actS[i]? = some z ∧ (∀ m, m < i → actS[m]? ≠ some z) ∧ itemA x = (i : Int) := by
  rcases h with e | e | e | e | e | e <;> subst e
  · exact ⟨_, 0, rfl, by decide +kernel, by decide +kernel, by decide +kernel⟩
  · exact ⟨_, 1, rfl, by decide +kernel, by decide +kernel, by decide +kernel⟩
  · exact ⟨_, 2, rfl, by decide +kernel, by decide +kernel, by decide +kernel⟩
  · exact ⟨_, 3, rfl, by decide +kernel, by decide +kernel, by decide +kernel⟩
  · exact ⟨_, 4, rfl, by decide +kernel, by decide +kernel, by decide +kernel⟩
  · exact ⟨_, 5, rfl, by decide +kernel, by decide +kernel, by decide +kernel⟩
def spItemA : Sp := fun vs H Q _ => ∃ x : V, vs = [x] ∧ isActB x = true ∧ Q (.int (itemA x)) H
theorem sc_action_item : FnScope ["action"] ["action"] (defScope s_action_item) := ⟨rfl, rfl, rfl, by decide +kernel, rfl, by decide +kernel, by decide +kernel⟩
theorem ok_action_item (T : Txt w K mg) : GF P w K mg base 1 "action_item" (He.ga K "action_item") spItemA := by
  obtain ⟨fd, F⟩ := T.d_action_item
  refine gf_of F T.g_action_item (fnr F sc_action_item (F.binds fun _ _ _ _ _ _ us hl => match us, hl with | [_], _ => rfl) (by rintro vs H Q E ⟨_, rfl, _⟩; rfl) fun cdv A outer s H vs Q E hr h => ?_)
  obtain ⟨x, rfl, hx, q⟩ := h
  refine ⟨_, (pss_one (ps_ret (pe_ifExp (pt_cmpR op_in_seq (pv 0) (pgr T.g_ACTIONS) (by rfl)) (pe_bm PySem.F.plainAttrs_tuple PySem.F.slot_tuple_index PySem.F.type_tuple_index mt_tup_index (pgr T.g_ACTIONS) (pa_cons (pv 0) pa_nil)) (pe_op op_add (pe_op op_sub (pcb call_len_seq T.f_len (pa_cons (pgr T.g_ACTIONS) pa_nil)) pe_int) (pv 0))))), ?_⟩
  rcases act_cases hx with e | ⟨n, rfl, h1, h2⟩
  · obtain ⟨a1, z, rfl⟩ := act_in e
    refine ⟨_, rfl, _, _, rfl, .inr (T.actions H), rfl, by decide +kernel, true, ?_, iteT ?_⟩
    · show V.bl (inV (.str z) actV) = V.bl true
      rw [a1]
    · obtain ⟨z', i, e', k1, k2, k3⟩ := act_at e
      cases e'
      rw [k3] at q
      exact ⟨.inr (.inl ⟨rfl, T.rk_ACTIONS⟩), _, rfl, He.ga K "ACTIONS", actS, z, i, rfl, rfl, T.actions H, k1, k2, q⟩
  · refine ⟨_, rfl, _, _, rfl, .inr (T.actions H), rfl, by decide +kernel, false, ?_, iteF ?_⟩
    · show V.bl (inV (.int n) actV) = V.bl false
      rfl
    · refine ⟨_, _, rfl, .inr (T.actions H), _, _, rfl, rfl, _, rfl, _, _, rfl, rfl, ?_⟩
      exact q
end
end Ls
set_option maxRecDepth 100000
set_option maxHeartbeats 4000000
/-! codec: rule_items -/
namespace Ls
open PySem PySem.Spec PyProof.Rows L2
section
variable {P : Program} {w : World} {K : PySem.W.Frag} {mg : Str → Option Value} {base : Heap}
def letN (z : Str) : List Int := z.cps.toList.map fun (c : Nat) => ((c : Int) - 96)
def kindIx (acts : List V) : Option Nat := kindTab.findIdx? fun p => decide (p.2 = acts)
def ruI (r : Ru) : List Int := ((letN r.1).length : Int) :: (letN r.1 ++ match kindIx r.2 with
  | some i => [(i : Int)]
  | none => 4 :: r.2.map itemA)
theorem kind_cases (acts : List V) : (∃ i p, kindTab[i]? = some p ∧ acts = p.2 ∧ kindV acts = .str p.1 ∧ kindIx acts = some i) ∨ (kindV acts = .non ∧ kindIx acts = none ∧ ∀ p ∈ kindTab, p.2 ≠ acts) := by
  by_cases h0 : acts = [.str "ok", .str "bad", .str "ignore", .str "bad"]
  · subst h0
    exact .inl ⟨0, _, rfl, by decide +kernel, by decide +kernel, by decide +kernel⟩
  by_cases h1 : acts = [.str "ok", .str "die", .str "ignore", .str "die"]
  · subst h1
    exact .inl ⟨1, _, rfl, by decide +kernel, by decide +kernel, by decide +kernel⟩
  by_cases h2 : acts = [.str "done", .str "ignore", .str "ignore", .str "ignore"]
  · subst h2
    exact .inl ⟨2, _, rfl, by decide +kernel, by decide +kernel, by decide +kernel⟩
  by_cases h3 : acts = [.str "ok", .str "ignore", .str "ignore", .str "ignore"]
  · subst h3
    exact .inl ⟨3, _, rfl, by decide +kernel, by decide +kernel, by decide +kernel⟩
  · refine .inr ?_
    have hn : ∀ p ∈ kindTab, p.2 ≠ acts := by
      intro p hp
      simp only [kindTab, List.mem_cons, List.not_mem_nil, or_false] at hp
      rcases hp with e | e | e | e <;> subst e
      · exact Ne.symm h0
      · exact Ne.symm h1
      · exact Ne.symm h2
      · exact Ne.symm h3
    refine ⟨?_, ?_, hn⟩
    · unfold kindV kindOf
      rw [List.find?_eq_none.mpr fun p hp => by simpa using hn p hp]
      rfl
    · unfold kindIx
      rw [List.findIdx?_eq_none_iff]
      intro p hp
      simpa using hn p hp
def rSIx : V → List V → Hp → VK → Prop := fun x xs H Q => ∃ a b i rest, x = .str a ∧ xs = [.str b] ∧ Builtin.Str.occurrences a b 0 a.length 1 = i :: rest ∧ Q (.int (i : Nat)) H
theorem let_at {c : Nat} (h1 : 97 ≤ c) (h2 : c ≤ 122) : ∃ rest, Builtin.Str.occurrences (Str.ofString "abcdefghijklmnopqrstuvwxyz") ⟨#[c]⟩ 0 (Str.ofString "abcdefghijklmnopqrstuvwxyz").length 1 = (c - 97) :: rest := by
  have h : ∀ k : Fin 26, (Builtin.Str.occurrences (Str.ofString "abcdefghijklmnopqrstuvwxyz") ⟨#[97 + k.val]⟩ 0 (Str.ofString "abcdefghijklmnopqrstuvwxyz").length 1).head? = some k.val := by decide +kernel
  have h' := h ⟨c - 97, by omega⟩
  simp only [show 97 + (c - 97) = c by omega] at h'
  cases e : Builtin.Str.occurrences (Str.ofString "abcdefghijklmnopqrstuvwxyz") ⟨#[c]⟩ 0 (Str.ofString "abcdefghijklmnopqrstuvwxyz").length 1 with
  | nil => rw [e] at h'; cases h'
  | cons a r =>
    rw [e] at h'
    simp only [List.head?_cons, Option.some.injEq] at h'
    exact ⟨r, by rw [h']⟩
def kN : List V := [.str "required", .str "requisite", .str "sufficient", .str "optional"]
theorem kN_at {i : Nat} {p : Str × List V} (h : kindTab[i]? = some p) : kN[i]? = some (.str p.1) ∧ eqV (.str p.1) (.str p.1) = true ∧ (∀ (m : Nat) (z : V), m < i → kN[m]? = some z → eqV z (.str p.1) = false) ∧ i < 4 := by
  match i, h with
  | 0, h => cases h; exact ⟨rfl, by decide +kernel, fun m z hm => absurd hm (Nat.not_lt_zero _), by decide⟩
  | 1, h =>
    cases h
    refine ⟨rfl, by decide +kernel, fun m z hm hz => ?_, by decide⟩
    match m, hm, hz with
    | 0, _, hz => cases hz; decide +kernel
  | 2, h =>
    cases h
    refine ⟨rfl, by decide +kernel, fun m z hm hz => ?_, by decide⟩
    match m, hm, hz with
    | 0, _, hz => cases hz; decide +kernel
    | 1, _, hz => cases hz; decide +kernel
  | 3, h =>
    cases h
    refine ⟨rfl, by decide +kernel, fun m z hm hz => ?_, by decide⟩
    match m, hm, hz with
    | 0, _, hz => cases hz; decide +kernel
    | 1, _, hz => cases hz; decide +kernel
    | 2, _, hz => cases hz; decide +kernel
def spRuItems (K : PySem.W.Frag) : Sp := fun vs H Q _ => ∃ (x : Addr) (r : Ru), vs = [.ref x] ∧ RuAt K H r x ∧ ruOk r = true ∧ ∀ H' p, Ext H H' → H p = none → H' p = some (.lst ((ruI r).map V.int)) → Q (.ref p) H'
theorem sc_rule_items : FnScope ["rule", "letters", "letter", "action"] ["rule"] (defScope s_rule_items) := ⟨rfl, rfl, rfl, by decide +kernel, rfl, by decide +kernel, by decide +kernel⟩
theorem ok_rule_items (T : Txt w K mg) : GF P w K mg base 3 "rule_items" (He.ga K "rule_items") (spRuItems K) := by
  obtain ⟨fd, F⟩ := T.d_rule_items
  refine gf_of F T.g_rule_items (fnr F sc_rule_items (F.binds fun _ _ _ _ _ _ us hl => match us, hl with | [_], _ => rfl) (by rintro vs H Q E ⟨_, _, rfl, _⟩; rfl) fun cdv A outer s H vs Q E hr h => ?_)
  obtain ⟨x, r, rfl, hx, hok, q⟩ := h
  refine ⟨_, (pss_cons (ps_setLc (i := 1) (own := [("letter", 2)]) (g := gName 2) (tt := tYes) (te := tOp (rI0 fun i j => .int (i + j)) (tBM K "str" rSIx (tC (.str "abcdefghijklmnopqrstuvwxyz")) (tCons (tVar 2) tNil)) (tC (.int 1))) rfl sc_rule_items.nd rfl rfl (sw_true rfl rfl rfl (by decide +kernel)) (pi_str (pprop (pv 0) (ok_Rule_module T) (hr.mono (by first | decide | omega)))) (blkOk_by (own := [("letter", 2)]) (N := ["rule", "letters", "letter", "action"]) (sc := defScope s_rule_items) (by decide +kernel)) (fun _ _ _ _ _ => pg_name (i := 2) sc_rule_items.nd rfl (Or.inl rfl)) (fun _ _ _ _ _ => pts_nil) (fun _ _ _ _ _ => (pe_op op_add (pe_bm PySem.F.plainAttrs_str PySem.F.slot_str_index PySem.F.type_str_index mt_sindex (pgs "abcdefghijklmnopqrstuvwxyz" T.t_LETTERS) (pa_cons (pv 2) pa_nil)) pe_int)))
    (pss_cons (ps_if (pt_cmpR op_notN (pprop (pv 0) (ok_Rule_kind T) (hr.mono (by first | decide | omega))) pe_non (nomark _)) (pss_one (ps_ret (pe_lst (pa_cons (pcb call_len_seq T.f_len (pa_cons (pv 1) pa_nil)) (StX.pa_star (pv 1) (pa_cons (pe_bm PySem.F.plainAttrs_list PySem.F.slot_list_index PySem.F.type_list_index mt_index (pct (call_listKD T.kinds rfl (show (kindKV K).length < 1000 by show 4 < 1000; decide)) T.f_list (pa_cons (pgr T.g_KINDS) pa_nil)) (pa_cons (pprop (pv 0) (ok_Rule_kind T) (hr.mono (by decide))) pa_nil)) pa_nil)))))) pss_nil)
    (pss_one (ps_ret (pe_lst (pa_cons (pcb call_len_seq T.f_len (pa_cons (pv 1) pa_nil)) (StX.pa_star (pv 1) (pa_cons (pcb (call_lenKD T.kinds (show (kindKV K).length < 1000 by show 4 < 1000; decide)) T.f_len (pa_cons (pgr T.g_KINDS) pa_nil)) (StX.pa_star (pe_lc (own := [("action", 3)]) (g := gName 3) (tt := tYes) (te := tC0 spItemA (tCons (tVar 3) tNil)) rfl sc_rule_items.nd (pi_tup (pprop (pv 0) (ok_Rule_control T) (hr.mono (by first | decide | omega)))) (blkOk_by (own := [("action", 3)]) (N := ["rule", "letters", "letter", "action"]) (sc := defScope s_rule_items) (by decide +kernel)) (fun _ _ _ _ _ => pg_name (i := 3) sc_rule_items.nd rfl (Or.inl rfl)) (fun _ _ _ _ _ => pts_nil) (fun _ _ _ _ _ => (pcall (ok_action_item T) (hr.mono (by first | decide | omega)) (pa_cons (pv 3) pa_nil)))) pa_nil))))))))), ?_⟩
  obtain ⟨hw, ha⟩ := Bool.and_eq_true_iff.mp hok
  unfold wordOk at hw
  simp only [Bool.and_eq_true, decide_eq_true_eq] at hw
  obtain ⟨⟨w1, w2⟩, w3⟩ := hw
  obtain ⟨dx, ta, hx1, hta⟩ := id hx
  refine ⟨_, rfl, x, dx, _, rfl, hx1, x, r, rfl, hx, _, rfl, fun D hD => ?_⟩
  have hll : (letN r.1).length = r.1.cps.size := by simp [letN]
  refine lc_it walk_str (fun i H' => i ≤ r.1.cps.size ∧ Ext H H' ∧ H' D = some (.lst (((letN r.1).take i).map V.int))) ⟨Nat.zero_le _, Ext.upd hD, upd_same⟩ (fun _ _ _ _ => trivial) (fun i v Ha Hb hi hp hy => ?_) fun H1 hp => ?_
  · obtain ⟨p1, p2, p3⟩ := hp
    obtain ⟨rfl, c, hc, rfl⟩ := hy
    rw [← Array.getElem?_toList] at hc
    have hcc := List.all_eq_true.mp w3 c (List.mem_of_getElem? hc)
    simp only [Bool.and_eq_true, decide_eq_true_eq] at hcc
    obtain ⟨rest, hr1⟩ := let_at hcc.1 hcc.2
    refine ⟨rfl, rfl, _, rfl, _, _, _, rest, rfl, rfl, hr1, _, _, rfl, rfl, _, p3, ?_, by omega, p2.updD hD, ?_⟩
    · rw [List.length_map, List.length_take]
      exact Nat.lt_of_lt_of_le (by omega : min i (letN r.1).length < 50) (by decide)
    · have hn : (letN r.1)[i]? = some ((c : Int) - 96) := by
        unfold letN
        rw [List.getElem?_map, hc]
        rfl
      rw [upd_same, take_succ hn, List.map_append]
      have e1 : ((c - 97 : Nat) : Int) + 1 = (c : Int) - 96 := by omega
      show some (HO.lst (_ ++ [V.int (((c - 97 : Nat) : Int) + 1)])) = _
      rw [e1]
      rfl
  · obtain ⟨p1, p2, p3⟩ := hp
    rw [← hll, List.take_length] at p3
    have hx2 := hx.fz (Fz.of p2)
    have hn0 : ∀ {Hx : Hp} {b : Addr}, Ext H Hx → Hx b = none → H b = none := fun e h => e.none h
    have hlenL : (letN r.1).length ≤ 8 := by omega
    refine ⟨_, rfl, x, dx, _, rfl, p2 _ _ hx1, x, r, rfl, hx2, ha, fun H2 e2 => ?_⟩
    have p3' := e2 _ _ p3
    rcases kind_cases r.2 with ⟨i, p, k1, k2, k3, k4⟩ | ⟨k3, k4, _⟩
    · rw [k3]
      refine ⟨rfl, true, rfl, iteT ?_⟩
      obtain ⟨m1, m2, m3, m4⟩ := kN_at k1
      refine ⟨_, rfl, D, _, rfl, .inl (SqL.of p3'), _, rfl, D, _, rfl, .inr (SqL.of p3'), rfl, fun p5 n5 => ?_⟩
      have e5 : Ext H2 (upd H2 p5 (.lst kN)) := Ext.upd n5
      have s5 : SqL K (upd H2 p5 (.lst kN)) p5 kN := SqL.of upd_same
      refine ⟨.inl ⟨rfl, _, s5⟩, _, rfl, x, dx, _, rfl, e5 _ _ (e2 _ _ (p2 _ _ hx1)), x, r, rfl, hx2.fz (Fz.of (e2.trans e5)), ha, fun H6 e6 => ?_⟩
      rw [k3]
      refine ⟨p5, kN, .str p.1, i, .str p.1, rfl, rfl, SqL.ext s5 e6, rfl, by decide +kernel, m1, m2, m3, ?_⟩
      refine ⟨?_, fun p7 n7 => ?_⟩
      · show ((letN r.1).map V.int ++ [V.int i]).length + 1 ≤ sizeLine
        rw [List.length_append, List.length_map]
        exact Nat.le_trans (by simp only [List.length_cons, List.length_nil]; omega : (letN r.1).length + [V.int (i : Int)].length + 1 ≤ 50) (by decide)
      · have e7 := ((p2.trans e2).trans e5).trans e6
        refine q _ p7 (e7.upd' n7) (e7.none n7) ?_
        rw [upd_same, List.length_map]
        unfold ruI
        rw [k4]
        simp
    · rw [k3]
      refine ⟨rfl, false, rfl, iteF ?_⟩
      refine ⟨_, rfl, D, _, rfl, .inl (SqL.of p3'), _, rfl, D, _, rfl, .inr (SqL.of p3'), rfl, ?_⟩
      have e02 := p2.trans e2
      refine ⟨_, rfl, x, dx, _, rfl, e02 _ _ hx1, x, dx, _, ta, rfl, e02 _ _ hx1, ta, rfl, ⟨_, SqT.ext hta e02⟩, fun D2 hD2 => ?_⟩
      have ha4 : r.2.length = 4 := by
        have := (Bool.and_eq_true_iff.mp ha).1
        simpa using this
      have haA := (Bool.and_eq_true_iff.mp ha).2
      refine lc_it walk_tup (fun j H' => Ext H2 H' ∧ H' D2 = some (.lst (((r.2.map itemA).take j).map V.int))) ⟨Ext.upd hD2, upd_same⟩ (fun j H' _ hj => SqT.ext hta (e02.trans hj.1)) (fun j v Ha Hb hj hv hy2 => ?_) fun H6 hv => ?_
      · obtain ⟨e3, hDj⟩ := hv
        obtain ⟨rfl, hvj⟩ := hy2
        have hact := List.all_eq_true.mp haA v (List.mem_of_getElem? hvj)
        refine ⟨rfl, _, rfl, v, rfl, hact, _, hDj, ?_, e3.updD hD2, ?_⟩
        · rw [List.length_map, List.length_take]
          exact Nat.lt_of_lt_of_le (by omega : min j (r.2.map itemA).length < 50) (by decide)
        · have hn : (r.2.map itemA)[j]? = some (itemA v) := by rw [List.getElem?_map, hvj]; rfl
          rw [upd_same, take_succ hn, List.map_append]
          rfl
      · obtain ⟨e3, hDj⟩ := hv
        have hl4 : (r.2.map itemA).length = r.2.length := List.length_map _
        rw [← hl4, List.take_length] at hDj
        refine ⟨D2, _, rfl, .inr (SqL.of hDj), ?_, fun p7 n7 => ?_⟩
        · simp only [List.length_append, List.length_cons, List.length_map, List.append_nil]
          exact Nat.le_trans (by omega : _ ≤ 50) (by decide)
        · have e7 := e02.trans e3
          refine q _ p7 (e7.upd' n7) (e7.none n7) ?_
          rw [upd_same, List.length_map]
          unfold ruI
          rw [k4]
          simp
          rfl
end
end Ls
set_option maxRecDepth 100000
set_option maxHeartbeats 4000000
/-! codec: stack_items, encode_stack -/
namespace Ls
open PySem PySem.Spec PyProof.Rows L2
mutual
def itT : Tr → List Int
  | .rl m a => 1 :: ruI (m, a)
  | .st es => 0 :: (es.length : Int) :: itL es
def itL : List Tr → List Int
  | [] => []
  | e :: es => itT e ++ itL es
end
def stI (es : List Tr) : List Int := (es.length : Int) :: itL es
theorem itL_append : ∀ a b : List Tr, itL (a ++ b) = itL a ++ itL b
  | [], b => by simp [itL]
  | e :: a, b => by
    simp only [List.cons_append, itL]
    rw [itL_append a b, List.append_assoc]
theorem itL_succ {es : List Tr} {i : Nat} {e : Tr} (h : es[i]? = some e) : itL (es.take (i + 1)) = itL (es.take i) ++ itT e := by
  rw [take_succ h, itL_append]
  simp [itL]
def entB : Nat → Nat
  | 0 => 16
  | n + 1 => 2 + 12 * entB n
theorem entB_ge : ∀ n, 16 ≤ entB n
  | 0 => Nat.le_refl _
  | n + 1 => by
    have := entB_ge n
    simp only [entB]
    omega
def szB (n : Nat) : Nat := 1 + 12 * entB n
theorem szB_le {n : Nat} (h : n ≤ 2) : szB n + 100 ≤ 30000 := by
  match n, h with
  | 0, _ => decide
  | 1, _ => decide
  | 2, _ => decide
theorem letN_len {z : Str} (h : wordOk z = true) : (letN z).length ≤ 8 := by
  unfold wordOk at h
  simp only [Bool.and_eq_true, decide_eq_true_eq] at h
  have : (letN z).length = z.cps.size := by simp [letN]
  omega
theorem ruI_len {r : Ru} (h : ruOk r = true) : (ruI r).length ≤ 14 := by
  obtain ⟨hw, ha⟩ := Bool.and_eq_true_iff.mp h
  have h1 := letN_len hw
  have h2 : r.2.length = 4 := by
    have := (Bool.and_eq_true_iff.mp ha).1
    simpa using this
  unfold ruI
  rw [List.length_cons, List.length_append]
  cases kindIx r.2 with
  | some i => simp only [List.length_cons, List.length_nil]; omega
  | none => simp only [List.length_cons, List.length_map]; omega
section
variable {P : Program} {w : World} {K : PySem.W.Frag} {mg : Str → Option Value} {base : Heap}
def spStItems (K : PySem.W.Frag) (n : Nat) : Sp := fun vs H Q _ => ∃ (st : Addr) (es : List Tr), vs = [.ref st] ∧ AtT K H (.st es) st ∧ depL es ≤ n + 1 ∧ ∀ H' p, Ext H H' → H p = none → H' p = some (.lst ((stI es).map V.int)) → (stI es).length ≤ szB n → Q (.ref p) H'
theorem sc_stack_items : FnScope ["stack", "found", "entry"] ["stack"] (defScope s_stack_items) := ⟨rfl, rfl, rfl, by decide +kernel, rfl, by decide +kernel, by decide +kernel⟩
theorem key_items (T : Txt w K mg) (n k : Nat) (hk : 3 ≤ k) (hn2 : n ≤ 2) (G : ∃ spR, GF P w K mg base k "stack_items" (He.ga K "stack_items") spR ∧ ∀ vs H Q E, spStItems K (n - 1) vs H Q E → 0 < n → spR vs H Q E) : GF P w K mg base (k + 1) "stack_items" (He.ga K "stack_items") (spStItems K n) := by
  obtain ⟨spR, GR, hR⟩ := G
  obtain ⟨fd, F⟩ := T.d_stack_items
  refine gf_of F T.g_stack_items (fnr F sc_stack_items (F.binds fun _ _ _ _ _ _ us hl => match us, hl with | [_], _ => rfl) (by rintro vs H Q E ⟨_, _, rfl, _⟩; rfl) fun cdv A outer s H vs Q E hr h => ?_)
  obtain ⟨st, es, rfl, hst, hn, q⟩ := h
  refine ⟨_, (pss_cons (ps_set (i := 1) sc_stack_items.nd rfl (.inl rfl) (pe_lst (pa_cons (pcb (call_lenO (ok_Stack_len T) (hr.mono (by first | decide | omega))) T.f_len (pa_cons (pv 0) pa_nil)) pa_nil)))
    (pss_cons (ps_for PassesOwn.never rfl (pi_tup (pprop (pv 0) (ok_Stack_entries T) (hr.mono (by first | decide | omega)))) (pg_name (i := 2) sc_stack_items.nd rfl (.inl rfl))
    (pss_one (ps_if (pt_val (pcb call_isi T.f_isinstance (pa_cons (pv 2) (pa_cons (pgr T.g_Stack) pa_nil)))) (pss_one (ps_expr (pe_bm PySem.F.plainAttrs_list PySem.F.slot_list_extend PySem.F.type_list_extend mt_extend (pv 1) (pa_cons (pe_lst (pa_cons (pgi 0 T.i_STACK) (StX.pa_star (pcall GR (hr.mono (by first | decide | omega)) (pa_cons (pv 2) pa_nil)) pa_nil))) pa_nil)))) (pss_one (ps_expr (pe_bm PySem.F.plainAttrs_list PySem.F.slot_list_extend PySem.F.type_list_extend mt_extend (pv 1) (pa_cons (pe_lst (pa_cons (pgi 1 T.i_RULE) (StX.pa_star (pcall (ok_rule_items T) (hr.mono (by first | decide | omega)) (pa_cons (pv 2) pa_nil)) pa_nil))) pa_nil)))))))
    (pss_one (ps_ret (pv 1))))), ?_⟩
  have hok := hst.ok
  obtain ⟨dx, tp, ts, tn, as, rs, k1, k2, k3, _⟩ := id hst
  have hla := k3.len
  have h12 := hok.len
  refine ⟨_, rfl, st, dx, _, rfl, k1, st, es, rfl, hst, es.length, rfl, by omega, by show 1 ≤ sizeLine; decide, fun p hp => ?_⟩
  have e1 : Ext H (upd H p (.lst [.int (es.length : Nat)])) := Ext.upd hp
  refine ⟨_, rfl, st, dx, _, rfl, e1 _ _ k1, st, dx, _, _, rfl, e1 _ _ k1, rfl, tp, rfl, ⟨_, SqT.ext k2 e1⟩, ?_⟩
  have hB := entB_ge n
  have hS := szB_le hn2
  have fzp : ∀ {Hx : Hp}, Sm [p] H Hx → Ext H Hx := fun s => (s.drop hp).ext
  refine for_it walk_tup (fun i σ Hx => (∃ e0, σ = [some (.ref st), some (.ref p), e0]) ∧ Sm [p] H Hx ∧ Hx p = some (.lst (((es.length : Int) :: itL (es.take i)).map V.int)) ∧ (itL (es.take i)).length ≤ i * entB n)
    ⟨⟨none, rfl⟩, (Sm.refl _ _).new hp, by rw [upd_same]; rfl, by simp [itL]⟩ (fun i σ Hx _ hi => SqT.ext k2 (fzp hi.2.1)) (fun i v σ Hy Hx hi hp3 hy => ?_) fun σ Hx hp3 => ?_
  · obtain ⟨⟨e0, rfl⟩, sm, hb, hle⟩ := hp3
    obtain ⟨rfl, hvi⟩ := hy
    rw [List.length_map] at hi
    obtain ⟨e, he⟩ : ∃ e, es[i]? = some e := ⟨_, List.getElem?_eq_getElem (by omega)⟩
    obtain ⟨ae, hae, haet⟩ := (k3.fz (Fz.of (fzp sm))).get he
    simp only [List.getElem?_map, hae, Option.map_some, Option.some.injEq] at hvi
    subst hvi
    obtain ⟨cc, i1, i2, i3⟩ := haet.isi T
    have hemem := List.mem_of_getElem? he
    have hi12 : i ≤ 11 := by omega
    have hmul : i * entB n ≤ 11 * entB n := Nat.mul_le_mul_right _ hi12
    unfold szB at hS
    refine ⟨_, rfl, _, .ref (cStack K), _, _, _, rfl, .own _, i1, i2, _, rfl, ?_⟩
    have fin : ∀ (H5 : Hp) (zs : List Int), Ext Hx H5 → zs = itT e → zs.length ≤ entB n → (((es.length : Int) :: itL (es.take i)).map V.int).length + (zs.map V.int).length ≤ sizeLine ∧
        ((∃ e0, [some (V.ref st), some (.ref p), some (.ref ae)] = [some (.ref st), some (.ref p), e0]) ∧ Sm [p] H (upd H5 p (.lst (((es.length : Int) :: itL (es.take i)).map V.int ++ zs.map V.int))) ∧
          upd H5 p (.lst (((es.length : Int) :: itL (es.take i)).map V.int ++ zs.map V.int)) p = some (.lst (((es.length : Int) :: itL (es.take (i + 1))).map V.int)) ∧ (itL (es.take (i + 1))).length ≤ (i + 1) * entB n) := fun H5 zs e5 ez hz => by
      subst ez
      refine ⟨?_, ⟨_, rfl⟩, (sm.trans (Sm.of e5)).upd (List.mem_singleton.mpr rfl), ?_, ?_⟩
      · rw [List.length_map, List.length_map, List.length_cons]
        exact Nat.le_trans (by omega : _ ≤ 30000) (by decide)
      · rw [upd_same, itL_succ he, ← List.map_append]
        rfl
      · rw [itL_succ he, List.length_append, Nat.add_mul]
        omega
    cases e with
    | st es' =>
      have hdm := dep_mem hemem
      have hdp := depL_pos es'
      simp only [Tr.dep] at hdm
      refine iteT ⟨_, rfl, .inl ⟨rfl, _, SqL.of hb⟩, _, rfl, ?_⟩
      refine hR _ _ _ _ ⟨ae, es', rfl, haet, by omega, fun H4 y e4 ny hy hly => ?_⟩ (by omega)
      have hentB : (stI es').length + 1 ≤ entB n := by
        cases n with
        | zero => omega
        | succ m =>
          simp only [entB]
          have : szB m = 1 + 12 * entB m := rfl
          simp only [Nat.add_sub_cancel] at hly
          omega
      refine ⟨y, _, rfl, .inr (SqL.of hy), ?_, fun p5 n5 => ?_⟩
      · show _ + 1 ≤ sizeLine
        rw [List.append_nil, List.length_map]
        exact Nat.le_trans (by omega : _ ≤ 30000) (by decide)
      · rw [List.append_nil]
        have e5 := e4.upd' n5 (o := .lst (V.int 0 :: (stI es').map V.int))
        have hp5 : p ≠ p5 := ne_of_none (e4 _ _ hb) n5
        obtain ⟨f1, f2⟩ := fin _ (0 :: stI es') e5 (by simp only [itT, stI]) (by simpa using hentB)
        refine ⟨p, p5, _, _, rfl, rfl, e5 _ _ hb, upd_same, ?_, ?_⟩
        · exact f1
        · exact f2
    | rl m acts =>
      have hru := ruAt he hok.rus
      have hrl := ruI_len hru
      refine iteF ⟨_, rfl, .inl ⟨rfl, _, SqL.of hb⟩, _, rfl, ae, (m, acts), rfl, haet, hru, fun H4 y e4 ny hy => ?_⟩
      refine ⟨y, _, rfl, .inr (SqL.of hy), ?_, fun p5 n5 => ?_⟩
      · show _ + 1 ≤ sizeLine
        rw [List.append_nil, List.length_map]
        exact Nat.le_trans (by omega : _ ≤ 30000) (by decide)
      · rw [List.append_nil]
        have e5 := e4.upd' n5 (o := .lst (V.int 1 :: (ruI (m, acts)).map V.int))
        obtain ⟨f1, f2⟩ := fin _ (1 :: ruI (m, acts)) e5 (by simp only [itT]) (by rw [List.length_cons]; omega)
        refine ⟨p, p5, _, _, rfl, rfl, e5 _ _ hb, upd_same, ?_, ?_⟩
        · exact f1
        · exact f2
  · obtain ⟨⟨e0, rfl⟩, sm, hb, hle⟩ := hp3
    have hl2 : (as.map V.ref).length = es.length := by rw [List.length_map, hla]
    rw [hl2, List.take_length] at hb hle
    have hmul : es.length * entB n ≤ 12 * entB n := Nat.mul_le_mul_right _ h12
    exact ⟨_, rfl, q Hx p (fzp sm) hp hb (by unfold stI szB; rw [List.length_cons]; omega)⟩
theorem ok_stack_items (T : Txt w K mg) : ∀ n : Nat, n ≤ 2 → GF P w K mg base (4 + n) "stack_items" (He.ga K "stack_items") (spStItems K n)
  | 0, h => key_items T 0 3 (by decide) h ⟨fun _ _ _ _ => False, ⟨fun _ _ _ _ _ _ _ _ _ _ _ h => h.elim, by obtain ⟨fd, F⟩ := T.d_stack_items; exact F.kp, T.g_stack_items⟩, fun _ _ _ _ _ z => absurd z (Nat.lt_irrefl _)⟩
  | n + 1, h => key_items T (n + 1) (4 + n) (by omega) h ⟨spStItems K n, ok_stack_items T n (by omega), fun _ _ _ _ h _ => h⟩
/-! encode_stack -/
def encS (es : List Tr) : List Int := (83 :: stI es) ++ [ckF (83 :: stI es)]
def spEnc (K : PySem.W.Frag) : Sp := fun vs H Q _ => ∃ (st : Addr) (es : List Tr), vs = [.ref st] ∧ AtT K H (.st es) st ∧ ∀ H' p, Ext H H' → H' p = some (.lst ((encS es).map V.int)) → (encS es).length ≤ 30000 → Q (.ref p) H'
theorem sc_encode_stack : FnScope ["stack", "found"] ["stack"] (defScope s_encode_stack) := ⟨rfl, rfl, rfl, by decide +kernel, rfl, by decide +kernel, by decide +kernel⟩
theorem ok_encode_stack (T : Txt w K mg) : GF P w K mg base 7 "encode_stack" (He.ga K "encode_stack") (spEnc K) := by
  obtain ⟨fd, F⟩ := T.d_encode_stack
  refine gf_of F T.g_encode_stack (fnr F sc_encode_stack (F.binds fun _ _ _ _ _ _ us hl => match us, hl with | [_], _ => rfl) (by rintro vs H Q E ⟨_, _, rfl, _⟩; rfl) fun cdv A outer s H vs Q E hr h => ?_)
  obtain ⟨st, es, rfl, hst, q⟩ := h
  refine ⟨_, (pss_cons (ps_set (i := 1) sc_encode_stack.nd rfl (.inl rfl) (pe_lst (pa_cons (pgi 83 T.i_FIRST) (StX.pa_star (pcall (ok_stack_items T 2 (by decide)) (hr.mono (by first | decide | omega)) (pa_cons (pv 0) pa_nil)) pa_nil))))
    (pss_one (ps_ret (pe_lst (StX.pa_star (pv 1) (pa_cons (pcall (ok_checksum T) (hr.mono (by first | decide | omega)) (pa_cons (pv 1) pa_nil)) pa_nil)))))), ?_⟩
  refine ⟨_, rfl, st, es, rfl, hst, hst.ok.dep, fun H1 p e1 n1 h1 hl => ?_⟩
  have hl2 : (stI es).length + 100 ≤ 30000 := Nat.le_trans (Nat.add_le_add_right hl _) (szB_le (by decide))
  refine ⟨p, _, rfl, .inr (SqL.of h1), ?_, fun p2 n2 => ?_⟩
  · rw [List.append_nil]
    show _ + 1 ≤ sizeLine
    rw [List.length_map]
    exact Nat.le_trans (by omega : _ ≤ 30000) (by decide)
  · rw [List.append_nil]
    have e2 : Ext H1 (upd H1 p2 (.lst (V.int 83 :: (stI es).map V.int))) := Ext.upd n2
    have s2 : SqL K (upd H1 p2 (.lst (V.int 83 :: (stI es).map V.int))) p2 ((83 :: stI es).map V.int) := SqL.of upd_same
    refine ⟨_, rfl, p2, _, rfl, .inr s2, _, rfl, p2, 83 :: stI es, rfl, s2, ?_, fun p3 n3 => ?_⟩
    · rw [List.length_append, List.length_map]
      exact Nat.le_trans (by simp only [List.length_cons, List.length_nil]; omega : _ ≤ 30000) (by decide)
    · refine q _ p3 ((e1.trans e2).upd' n3) ?_ ?_
      · rw [upd_same]
        unfold encS
        rw [List.map_append]
        rfl
      · unfold encS
        simp only [List.length_append, List.length_cons, List.length_nil]
        omega
end
end Ls
set_option maxRecDepth 100000
set_option maxHeartbeats 4000000
/-! codec: Reader's __init__, item, finish -/
namespace Ls
open PySem PySem.Spec PyProof.Rows L2
section
variable {P : Program} {w : World} {K : PySem.W.Frag} {mg : Str → Option Value} {base : Heap}
/-- a reader at off in the numbers ns, which stand at p -/
def RdAt (K : PySem.W.Frag) (H : Hp) (x dx p : Addr) (ns : List Int) (off : Nat) : Prop := H x = some (.ins (cReader K) dx [("data", .ref p), ("offset", .int (off : Nat))]) ∧ SqL K H p (ns.map V.int) ∧ ns.length ≤ 30000
theorem imm_rd {C dx : Addr} {x y : V} : Imm (.ins C dx [("data", x), ("offset", y)]) = false := by
  simp only [Imm, List.map_cons, List.map_nil]
  decide
theorem RdAt.fz {H H' : Hp} {x dx p : Addr} {ns : List Int} {off : Nat} (h : RdAt K H x dx p ns off) (s : Sm [x] H H') : Fz H H' := s.fz fun b hb o e => by
  rw [List.mem_singleton.mp hb, h.1] at e
  cases e
  exact imm_rd
theorem SqL.sm1 {H H' : Hp} {x a C dx : Addr} {fs : List (Str × V)} {xs : List V} (hx : H x = some (.ins C dx fs)) (s : Sm [x] H H') (h : SqL K H a xs) : SqL K H' a xs := by
  have ne : ∀ {o : HO}, H a = some o → (∀ C dx fs, o ≠ .ins C dx fs) → a ∉ [x] := fun e n z => by
    rw [List.mem_singleton.mp z, hx] at e
    exact n _ _ _ (Option.some.inj e).symm
  rcases h with (h | ⟨o, h⟩) | h
  · exact .inl (.inl (s a _ h (ne h fun _ _ _ z => nomatch z)))
  · exact .inl (.inr ⟨o, s a _ h (ne h fun _ _ _ z => nomatch z)⟩)
  · exact .inr h
def spRdI (K : PySem.W.Frag) : Sp := fun vs H Q _ => ∃ (x p dx : Addr) (ns : List Int), vs = [.ref x, .ref p] ∧ H x = some (.ins (cReader K) dx []) ∧ SqL K H p (ns.map V.int) ∧ ns.length ≤ 30000 ∧ ∀ H', Sm [x] H H' → RdAt K H' x dx p ns 0 → Q .non H'
theorem sc_Reader_init : FnScope ["self", "values"] ["self", "values"] (defScope s_Reader_init) := ⟨rfl, rfl, rfl, by decide +kernel, rfl, by decide +kernel, by decide +kernel⟩
theorem ok_Reader (T : Txt w K mg) : CF P w K mg base 1 "Reader" (cReader K) (a_Reader_init K) (spRdI K) := by
  obtain ⟨fd, F⟩ := T.d_Reader_init
  refine ⟨fnr F sc_Reader_init (F.binds fun _ _ _ _ _ _ us hl => match us, hl with | [_, _], _ => rfl) (by rintro vs H Q E ⟨_, _, _, _, rfl, _⟩; rfl) fun cdv A outer s H vs Q E hr h => ?_, T.mk_Reader, T.g_Reader⟩
  obtain ⟨x, p, dx, ns, rfl, hx, hp, hl, q⟩ := h
  refine ⟨_, (pss_cons (ps_fld (pv 0) (pv 1) rfl)
    (pss_one (ps_fld (pv 0) pe_int rfl))), ?_⟩
  refine ⟨_, rfl, _, rfl, x, cReader K, dx, _, rfl, hx, T.c_Reader, T.n_Reader_data, by simp, ?_⟩
  refine ⟨_, rfl, x, cReader K, dx, _, rfl, upd_same, T.c_Reader, T.n_Reader_offset, (show 1 < 1000 by decide), ?_⟩
  have sm : Sm [x] H (upd (upd H x (.ins (cReader K) dx (putF "data" (.ref p) []))) x (.ins (cReader K) dx (putF "offset" (.int 0) [("data", .ref p)]))) := ((Sm.refl _ _).upd (List.mem_singleton.mpr rfl)).upd (List.mem_singleton.mpr rfl)
  exact q _ sm ⟨upd_same, SqL.sm1 hx sm hp, hl⟩
def spItem (K : PySem.W.Frag) : Sp := fun vs H Q _ => ∃ (x dx p : Addr) (ns : List Int) (off : Nat) (lo hi v : Int), vs = [.ref x, .int lo, .int hi] ∧ RdAt K H x dx p ns off ∧ ns[off]? = some v ∧ lo ≤ v ∧ v ≤ hi ∧ ∀ H', Sm [x] H H' → RdAt K H' x dx p ns (off + 1) → Q (.int v) H'
theorem sc_Reader_item : FnScope ["self", "low", "high"] ["self", "low", "high"] (defScope s_Reader_item) := ⟨rfl, rfl, rfl, by decide +kernel, rfl, by decide +kernel, by decide +kernel⟩
theorem ok_Reader_item (T : Txt w K mg) : MF P w K mg base 2 (cReader K) "item" (a_Reader_item K) (spItem K) := by
  obtain ⟨fd, F⟩ := T.d_Reader_item
  refine ⟨fnr F sc_Reader_item (F.binds fun _ _ _ _ _ _ us hl => match us, hl with | [_, _, _], _ => rfl) (by rintro vs H Q E ⟨_, _, _, _, _, _, _, _, rfl, _⟩; rfl) fun cdv A outer s H vs Q E hr h => ?_, T.m_Reader_item, T.c_Reader⟩
  obtain ⟨x, dx, p, ns, off, lo, hi, v, rfl, ⟨hx, hp, hl⟩, hv, h1, h2, q⟩ := h
  refine ⟨_, (pss_cons (ps_if (PW.pt (pw_or (pt_cmpR op_eq (pe_fld (pv 0) rfl) (pcb call_len_seq T.f_len (pa_cons (pe_fld (pv 0) rfl) pa_nil)) (nomark _)) (pw_or1 (pt_not (pt_val (pcall (ok_is_number T) (hr.mono (by first | decide | omega)) (pa_cons (pe_ix ix_list (pe_fld (pv 0) rfl) (pe_fld (pv 0) rfl) (fun _ _ => rfl)) (pa_cons (pv 1) (pa_cons (pv 2) pa_nil))))))))) pss_never pss_nil)
    (pss_cons (ps_fldaug (pv 0) pe_int in_add)
    (pss_one (ps_ret (pe_ix ix_list (pe_fld (pv 0) rfl) (pe_op op_sub (pe_fld (pv 0) rfl) pe_int) (fun _ _ => rfl)))))), ?_⟩
  have hlt : off < ns.length := (List.getElem?_eq_some_iff.mp hv).1
  have hv' : (ns.map V.int)[off]? = some (.int v) := by rw [List.getElem?_map, hv]; rfl
  refine ⟨_, rfl, x, cReader K, dx, _, _, rfl, hx, T.c_Reader, T.n_Reader_offset, rfl, _, rfl, x, cReader K, dx, _, _, rfl, hx, T.c_Reader, T.n_Reader_data, rfl, p, _, rfl, .inl hp, rfl, false, ?_, iteF ?_⟩
  · rw [List.length_map]
    exact blF (by intro z; have := V.int.inj z; omega)
  refine ⟨_, rfl, x, cReader K, dx, _, _, rfl, hx, T.c_Reader, T.n_Reader_data, rfl, _, rfl, x, cReader K, dx, _, _, rfl, hx, T.c_Reader, T.n_Reader_offset, rfl, p, _, _, _, rfl, rfl, hp, atI_nat hv', _, rfl, _, rfl, _, _, _, rfl, .inl ⟨v, rfl, true, ?_, iteF ?_⟩⟩
  · rw [decide_eq_true h1, decide_eq_true h2]
    rfl
  refine ⟨_, rfl, x, cReader K, dx, _, _, rfl, hx, T.c_Reader, T.n_Reader_offset, rfl, ?_⟩
  refine ⟨_, _, rfl, rfl, dx, _, hx, (show 2 < 1000 by decide), ?_⟩
  generalize hH1 : upd H x (.ins (cReader K) dx (putF "offset" (.int ((off : Nat) + 1)) [("data", .ref p), ("offset", .int (off : Nat))])) = H1
  have sm : Sm [x] H H1 := by rw [← hH1]; exact (Sm.refl _ _).upd (List.mem_singleton.mpr rfl)
  have hx1 : H1 x = some (.ins (cReader K) dx [("data", .ref p), ("offset", .int ((off : Nat) + 1))]) := by rw [← hH1]; exact upd_same
  have hp1 := SqL.sm1 hx sm hp
  refine ⟨_, rfl, x, cReader K, dx, _, _, rfl, hx1, T.c_Reader, T.n_Reader_data, rfl, _, rfl, x, cReader K, dx, _, _, rfl, hx1, T.c_Reader, T.n_Reader_offset, rfl, _, _, rfl, rfl, p, _, _, _, rfl, rfl, hp1, ?_, q H1 sm ⟨hx1, hp1, hl⟩⟩
  have e : (((off : Nat) : Int) + 1 - 1) = ((off : Nat) : Int) := by omega
  rw [e]
  exact atI_nat hv'
/-! finish -/
def spFinish (K : PySem.W.Frag) : Sp := fun vs H Q _ => ∃ (x dx p : Addr) (ns : List Int), vs = [.ref x] ∧ RdAt K H x dx p (ns ++ [ckF ns]) ns.length ∧ ∀ H', Sm [x] H H' → Q .non H'
theorem sc_Reader_finish : FnScope ["self", "check"] ["self"] (defScope s_Reader_finish) := ⟨rfl, rfl, rfl, by decide +kernel, rfl, by decide +kernel, by decide +kernel⟩
theorem ok_Reader_finish (T : Txt w K mg) : MF P w K mg base 3 (cReader K) "finish" (a_Reader_finish K) (spFinish K) := by
  obtain ⟨fd, F⟩ := T.d_Reader_finish
  refine ⟨fnr F sc_Reader_finish (F.binds fun _ _ _ _ _ _ us hl => match us, hl with | [_], _ => rfl) (by rintro vs H Q E ⟨_, _, _, _, rfl, _⟩; rfl) fun cdv A outer s H vs Q E hr h => ?_, T.m_Reader_finish, T.c_Reader⟩
  obtain ⟨x, dx, p, ns, rfl, hR, q⟩ := h
  refine ⟨_, (pss_cons (ps_set (i := 1) sc_Reader_finish.nd rfl (.inl rfl) (pcall (ok_checksum T) (hr.mono (by first | decide | omega)) (pa_cons (pe_slice sl_list (pe_fld (pv 0) rfl) po_none (po_some (pe_fld (pv 0) rfl))) pa_nil)))
    (pss_cons (ps_expr (pmeth (pv 0) (ok_Reader_item T) (hr.mono (by first | decide | omega)) (pa_cons (pv 1) (pa_cons (pv 1) pa_nil))))
    (pss_one (ps_if (pt_cmpR op_lt (pe_fld (pv 0) rfl) (pcb call_len_seq T.f_len (pa_cons (pe_fld (pv 0) rfl) pa_nil)) (nomark _)) pss_never pss_nil)))), ?_⟩
  obtain ⟨hx, hp, hl⟩ := id hR
  refine ⟨_, rfl, x, cReader K, dx, _, _, rfl, hx, T.c_Reader, T.n_Reader_data, rfl, _, rfl, x, cReader K, dx, _, _, rfl, hx, T.c_Reader, T.n_Reader_offset, rfl, _, rfl, p, _, rfl, hp, fun p1 n1 => ?_⟩
  have ec : cutV ((ns ++ [ckF ns]).map V.int) none (some ((ns.length : Nat) : Int)) = ns.map V.int := by
    rw [cut_to (by omega), Int.toNat_natCast, List.map_append]
    rw [List.take_left' (List.length_map _)]
  rw [ec]
  have e1 : Ext H (upd H p1 (.lst (ns.map V.int))) := Ext.upd n1
  have s1 : SqL K (upd H p1 (.lst (ns.map V.int))) p1 (ns.map V.int) := SqL.of upd_same
  generalize upd H p1 (.lst (ns.map V.int)) = H1 at e1 s1 ⊢
  refine ⟨p1, ns, rfl, s1, ?_⟩
  have hR1 : RdAt K H1 x dx p (ns ++ [ckF ns]) ns.length := ⟨e1 _ _ hx, SqL.ext hp e1, hl⟩
  refine ⟨_, rfl, x, dx, _, rfl, hR1.1, rfl, _, rfl, _, rfl, x, dx, p, _, _, _, _, ckF ns, rfl, hR1, by simp, Int.le_refl _, Int.le_refl _, fun H2 sm hR2 => ?_⟩
  obtain ⟨hx2, hp2, _⟩ := hR2
  refine ⟨_, rfl, x, cReader K, dx, _, _, rfl, hx2, T.c_Reader, T.n_Reader_offset, rfl, _, rfl, x, cReader K, dx, _, _, rfl, hx2, T.c_Reader, T.n_Reader_data, rfl, p, _, rfl, .inl hp2, _, _, rfl, rfl, false, ?_, iteF (q H2 ((Sm.of e1).trans sm))⟩
  exact blF (by rw [List.length_map, List.length_append]; simp only [List.length_cons, List.length_nil]; omega)
end
end Ls
set_option maxRecDepth 100000
set_option maxHeartbeats 4000000
/-! codec: Reader.read_rule -/
namespace Ls
open PySem PySem.Spec PyProof.Rows L2
/-- zs stands in ns from off on -/
def Sub (ns : List Int) (off : Nat) (zs : List Int) : Prop := ∀ (i : Nat) (v : Int), zs[i]? = some v → ns[off + i]? = some v
theorem Sub.hd {ns : List Int} {off : Nat} {z : Int} {zs : List Int} (h : Sub ns off (z :: zs)) : ns[off]? = some z := h 0 z rfl
theorem Sub.tl {ns : List Int} {off : Nat} {z : Int} {zs : List Int} (h : Sub ns off (z :: zs)) : Sub ns (off + 1) zs := fun i v e => by
  have := h (i + 1) v (by simpa using e)
  rw [show off + 1 + i = off + (i + 1) by omega]
  exact this
theorem Sub.left {ns : List Int} {off : Nat} {a b : List Int} (h : Sub ns off (a ++ b)) : Sub ns off a := fun i v e => h i v (by
  rw [List.getElem?_append_left (List.getElem?_eq_some_iff.mp e).1]
  exact e)
theorem Sub.right {ns : List Int} {off : Nat} {a b : List Int} (h : Sub ns off (a ++ b)) : Sub ns (off + a.length) b := fun i v e => by
  have := h (a.length + i) v (by rw [List.getElem?_append_right (by omega)]; simpa using e)
  rw [show off + a.length + i = off + (a.length + i) by omega]
  exact this
def rItS : R2 := fun x y H Q => ∃ z i c, x = .str z ∧ y = .int i ∧ 0 ≤ i ∧ i < 2 ^ 63 ∧ i < z.length ∧ z.cps[i.toNat]? = some c ∧ Q (.str ⟨#[c]⟩) H
def rLnS : List V → Hp → VK → Prop := fun xs H Q => ∃ z, xs = [.str z] ∧ z.length ≤ sizeLine ∧ Q (.int z.length) H
def rLnQ (K : PySem.W.Frag) : List V → Hp → VK → Prop := fun xs H Q => ∃ p ys, xs = [.ref p] ∧ (SqL K H p ys ∨ SqT K H p ys) ∧ Q (.int ys.length) H
theorem Room.u70 {k : Nat} {A : Around} (r : Room k A) : A.units + 70 < cLine := by
  have := r.un
  omega
theorem letter_at {c : Nat} (h1 : 97 ≤ c) (h2 : c ≤ 122) : (Str.ofString "abcdefghijklmnopqrstuvwxyz").cps[c - 97]? = some c := by
  have h : ∀ k : Fin 26, (Str.ofString "abcdefghijklmnopqrstuvwxyz").cps[k.val]? = some (97 + k.val) := by decide +kernel
  have h' := h ⟨c - 97, by omega⟩
  rw [h']
  simp only [Option.some.injEq]
  omega
theorem letters_len : (Str.ofString "abcdefghijklmnopqrstuvwxyz").length = 26 := by decide +kernel
def one (c : Nat) : Str := ⟨#[c]⟩
theorem joinL_one : ∀ cs : List Nat, TL.joinL [] (cs.map fun c => [c]) = cs
  | [] => rfl
  | [c] => rfl
  | c :: d :: r => by
    have := joinL_one (d :: r)
    simp only [List.map_cons, TL.joinL] at this ⊢
    rw [this]
    rfl
theorem join_one (z : Str) : Txt.join (Str.ofString "") (z.cps.toList.map one) = z := TL.ext_tl (by
  rw [TL.join_eq, TL.tl_join, List.map_map]
  exact joinL_one z.cps.toList)
theorem one_sum : ∀ cs : List Nat, ((cs.map one).map (·.length)).sum = cs.length
  | [] => rfl
  | c :: cs => by
    simp only [List.map_cons, List.sum_cons, List.length_cons]
    rw [one_sum cs]
    show 1 + cs.length = _
    omega
theorem itemA_rng {v : V} (h : isActB v = true) : 0 ≤ itemA v ∧ itemA v ≤ 14 := by
  rcases act_cases h with e | ⟨n, rfl, h1, h2⟩
  · rcases e with e | e | e | e | e | e <;> subst e <;> decide +kernel
  · simp only [itemA]
    omega
section
variable {P : Program} {w : World} {K : PySem.W.Frag} {mg : Str → Option Value} {base : Heap}
def spRdRule (K : PySem.W.Frag) : Sp := fun vs H Q _ => ∃ (x dx p : Addr) (ns : List Int) (off : Nat) (r : Ru), vs = [.ref x] ∧ RdAt K H x dx p ns off ∧ ruOk r = true ∧ Sub ns off (ruI r) ∧
  ∀ H' y, Sm [x] H H' → RdAt K H' x dx p ns (off + (ruI r).length) → RuAt K H' r y → Q (.ref y) H'
theorem sc_Reader_read_rule : FnScope ["self", "count", "module", "kind", "items", "actions", "turn", "item"] ["self"] (defScope s_Reader_read_rule) := ⟨rfl, rfl, rfl, by decide +kernel, rfl, by decide +kernel, by decide +kernel⟩
theorem ok_Reader_read_rule (T : Txt w K mg) : MF P w K mg base 6 (cReader K) "read_rule" (a_Reader_read_rule K) (spRdRule K) := by
  obtain ⟨fd, F⟩ := T.d_Reader_read_rule
  refine ⟨fnr F sc_Reader_read_rule (F.binds fun _ _ _ _ _ _ us hl => match us, hl with | [_], _ => rfl) (by rintro vs H Q E ⟨_, _, _, _, _, _, rfl, _⟩; rfl) fun cdv A outer s H vs Q E hr h => ?_, T.m_Reader_read_rule, T.c_Reader⟩
  obtain ⟨x, dx, p, ns, off, r, rfl, hR, hok, hsub, q⟩ := h
  refine ⟨_, (pss_cons (ps_set (i := 1) sc_Reader_read_rule.nd rfl (.inl rfl) (pmeth (pv 0) (ok_Reader_item T) (hr.mono (by first | decide | omega)) (pa_cons pe_int (pa_cons (pgi 8 T.i_MOST_LETTERS) pa_nil))))
    (pss_cons (ps_set (i := 2) sc_Reader_read_rule.nd rfl (.inl rfl) (pe_join pe_str (pe_lc (own := [("turn", 6)]) (g := gName 6) (tt := tYes) (te := tOp rItS (tC (.str "abcdefghijklmnopqrstuvwxyz")) (tOp (rI0 fun i j => .int (i - j)) (tMethR (cReader K) "item" (spItem K) E0 (tVar 0) (tCons (tC (.int 1)) (tCons (tCB rLnS (tCons (tC (.str "abcdefghijklmnopqrstuvwxyz")) tNil)) tNil))) (tC (.int 1)))) rfl sc_Reader_read_rule.nd (pi_range1 (by rfl) T.f_range (pa_cons (pv 1) pa_nil)) (blkOk_by (own := [("turn", 6)]) (N := ["self", "count", "module", "kind", "items", "actions", "turn", "item"]) (sc := defScope s_Reader_read_rule) (by decide +kernel)) (fun _ _ _ _ _ => pg_name (i := 6) sc_Reader_read_rule.nd rfl (Or.inl rfl)) (fun _ _ _ _ _ => pts_nil) (fun _ _ _ _ _ => (pe_item_str (pgs "abcdefghijklmnopqrstuvwxyz" T.t_LETTERS) (pe_op op_sub (pmeth (pv 0) (ok_Reader_item T) (hr.mono (by first | decide | omega)) (pa_cons pe_int (pa_cons (pcb call_len_str T.f_len (pa_cons (pgs "abcdefghijklmnopqrstuvwxyz" T.t_LETTERS) pa_nil)) pa_nil))) pe_int) (fun _ _ => rfl))))))
    (pss_cons (ps_set (i := 3) sc_Reader_read_rule.nd rfl (.inl rfl) (pmeth (pv 0) (ok_Reader_item T) (hr.mono (by first | decide | omega)) (pa_cons pe_int (pa_cons (pcb (call_lenKD T.kinds (show (kindKV K).length < 1000 by show 4 < 1000; decide)) T.f_len (pa_cons (pgr T.g_KINDS) pa_nil)) pa_nil))))
    (pss_cons (ps_if (pt_cmpR op_lt (pv 3) (pcb (call_lenKD T.kinds (show (kindKV K).length < 1000 by show 4 < 1000; decide)) T.f_len (pa_cons (pgr T.g_KINDS) pa_nil)) (nomark _)) (pss_one (ps_ret (pmake (ok_Rule T) (hr.mono (by first | decide | omega)) (pa_cons (pv 2) (pa_cons (pe_ix ix_list (pct (call_listKD T.kinds rfl (show (kindKV K).length < 1000 by show 4 < 1000; decide)) T.f_list (pa_cons (pgr T.g_KINDS) pa_nil)) (pv 3) (fun _ _ => rfl)) pa_nil))))) pss_nil)
    (pss_cons (ps_setLc (i := 4) (own := [("turn", 6)]) (g := gName 6) (tt := tYes) (te := tMethR (cReader K) "item" (spItem K) E0 (tVar 0) (tCons (tC (.int 0)) (tCons (tOp (rI0 fun i j => .int (i + j)) (tOp (rI0 fun i j => .int (i - j)) (tCB (rLnQ K) (tCons (tC (.ref (He.ga K "ACTIONS"))) tNil)) (tC (.int 1))) (tC (.int 9))) tNil))) rfl sc_Reader_read_rule.nd rfl rfl (sw_true rfl rfl rfl (by decide +kernel)) (pi_tup (pgr T.g_RESULTS)) (blkOk_by (own := [("turn", 6)]) (N := ["self", "count", "module", "kind", "items", "actions", "turn", "item"]) (sc := defScope s_Reader_read_rule) (by decide +kernel)) (fun _ _ _ _ _ => pg_name (i := 6) sc_Reader_read_rule.nd rfl (Or.inl rfl)) (fun _ _ _ _ _ => pts_nil) (fun _ _ _ _ _ => (pmeth (pv 0) (ok_Reader_item T) (hr.mono (by first | decide | omega)) (pa_cons pe_int (pa_cons (pe_op op_add (pe_op op_sub (pcb call_len_seq T.f_len (pa_cons (pgr T.g_ACTIONS) pa_nil)) pe_int) (pgi 9 T.i_MOST_JUMP)) pa_nil)))))
    (pss_cons (ps_set (i := 5) sc_Reader_read_rule.nd rfl (.inl rfl) (pct call_tuple_of T.f_tuple (pa_cons (pe_lc (own := [("item", 7)]) (g := gName 7) (tt := tYes) (te := tIf (tTest (tOp (rI0 fun i j => .bl (decide (i < j))) (tVar 7) (tCB (rLnQ K) (tCons (tC (.ref (He.ga K "ACTIONS"))) tNil)))) (tOp (rIxT K) (tC (.ref (He.ga K "ACTIONS"))) (tVar 7)) (tOp (rI0 fun i j => .int (i + j)) (tOp (rI0 fun i j => .int (i - j)) (tVar 7) (tCB (rLnQ K) (tCons (tC (.ref (He.ga K "ACTIONS"))) tNil))) (tC (.int 1)))) rfl sc_Reader_read_rule.nd (pi_list (pv 4)) (blkOk_by (own := [("item", 7)]) (N := ["self", "count", "module", "kind", "items", "actions", "turn", "item"]) (sc := defScope s_Reader_read_rule) (by decide +kernel)) (fun _ _ _ _ _ => pg_name (i := 7) sc_Reader_read_rule.nd rfl (Or.inl rfl)) (fun _ _ _ _ _ => pts_nil) (fun _ _ _ _ _ => (pe_ifExp (pt_cmpR op_lt (pv 7) (pcb call_len_seq T.f_len (pa_cons (pgr T.g_ACTIONS) pa_nil)) (nomark _)) (pe_ix ix_tup (pgr T.g_ACTIONS) (pv 7) (fun _ _ => rfl)) (pe_op op_add (pe_op op_sub (pv 7) (pcb call_len_seq T.f_len (pa_cons (pgr T.g_ACTIONS) pa_nil))) pe_int)))) pa_nil)))
    (pss_cons (ps_if (pt_cmpR (op_inVals T.kinds rfl (Room.u70 hr)) (pv 5) (pe_valsKD T.kinds (pgr T.g_KINDS)) (by rfl)) pss_never pss_nil)
    (pss_one (ps_ret (pmake (ok_Rule T) (hr.mono (by first | decide | omega)) (pa_cons (pv 2) (pa_cons (pv 5) pa_nil)))))))))))), ?_⟩
  obtain ⟨hw, ha⟩ := Bool.and_eq_true_iff.mp hok
  have hw' := hw
  unfold wordOk at hw'
  simp only [Bool.and_eq_true, decide_eq_true_eq] at hw'
  obtain ⟨⟨w1, w2⟩, w3⟩ := hw'
  have hll : (letN r.1).length = r.1.cps.size := by simp [letN]
  obtain ⟨hx, hp, hl⟩ := id hR
  have hs1 : Sub ns (off + 1) (letN r.1 ++ match kindIx r.2 with | some i => [(i : Int)] | none => 4 :: r.2.map itemA) := Sub.tl hsub
  refine ⟨_, rfl, x, dx, _, rfl, hx, rfl, x, dx, p, ns, off, 1, 8, _, rfl, hR, hsub.hd, by omega, by omega, fun H1 sm1 hR1 => ?_⟩
  obtain ⟨hx1, hp1, _⟩ := id hR1
  refine ⟨⟨_, rfl⟩, ?_⟩
  refine ⟨_, rfl, _, rfl, by omega, by omega, fun D hD => ?_⟩
  have xD : x ≠ D := ne_of_none hx1 hD
  have hgl : ∀ {j : Nat} {c : Nat}, r.1.cps.toList[j]? = some c → 97 ≤ c ∧ c ≤ 122 ∧ (letN r.1)[j]? = some ((c : Int) - 96) := fun {j c} h => by
    have hcc := List.all_eq_true.mp w3 c (List.mem_of_getElem? h)
    simp only [Bool.and_eq_true, decide_eq_true_eq] at hcc
    refine ⟨hcc.1, hcc.2, ?_⟩
    unfold letN
    rw [List.getElem?_map, h]
    rfl
  have hsz : r.1.cps.toList.length = r.1.cps.size := by simp
  refine lc_it walk_range (fun j H' => j ≤ r.1.cps.size ∧ Sm [D, x] H1 H' ∧ RdAt K H' x dx p ns (off + 1 + j) ∧ H' D = some (.lst (((r.1.cps.toList.take j).map one).map V.str)))
    ⟨Nat.zero_le _, (Sm.refl _ _).upd (by simp), ⟨by rw [upd_ne xD]; exact hx1, SqL.ext hp1 (Ext.upd hD), hl⟩, upd_same⟩ (fun _ _ _ _ => trivial) (fun j v Ha Hb hj hv hy => ?_) fun H2 hv => ?_
  · obtain ⟨p1, p2, p3, p4⟩ := hv
    obtain ⟨rfl, rfl⟩ := hy
    have hj2 : j < r.1.cps.toList.length := by omega
    obtain ⟨c, hc⟩ : ∃ c, r.1.cps.toList[j]? = some c := ⟨_, List.getElem?_eq_getElem hj2⟩
    obtain ⟨c1, c2, c3⟩ := hgl hc
    obtain ⟨px, pp, _⟩ := id p3
    have hnv := hs1.left j _ c3
    refine ⟨rfl, _, rfl, x, dx, _, rfl, px, rfl, _, rfl, by rw [letters_len]; decide, x, dx, p, ns, off + 1 + j, 1, _, _, rfl, p3, hnv, by omega, by rw [letters_len]; omega, fun H3 sm3 hR3 => ?_⟩
    refine ⟨_, _, rfl, rfl, _, _, c, rfl, rfl, by omega, by omega, by rw [letters_len]; omega, ?_, ?_⟩
    · rw [show ((c : Int) - 96 - 1).toNat = c - 97 by omega]
      exact letter_at c1 c2
    · have hD3 := sm3 _ _ p4 (by simpa using Ne.symm xD)
      have s2 : ∀ o, Sm [D, x] H1 (upd H3 D o) := fun o => (p2.trans (sm3.mono fun b hb => List.mem_cons_of_mem _ hb)).upd (by simp)
      refine ⟨_, hD3, ?_, by omega, s2 _, ⟨?_, SqL.sm1 hx1 ((s2 _).drop hD) hp1, hl⟩, ?_⟩
      · rw [List.length_map, List.length_map, List.length_take]
        exact Nat.lt_of_lt_of_le (by omega : min j r.1.cps.toList.length < 50) (by decide)
      · rw [upd_ne xD]
        exact hR3.1
      · rw [upd_same, take_succ hc, List.map_append, List.map_append]
        rfl
  · obtain ⟨p1, p2, p3, p4⟩ := hv
    have ht : (r.1.cps.toList.take ((letN r.1).length : Int).toNat) = r.1.cps.toList := by
      rw [Int.toNat_natCast, hll, ← hsz, List.take_length]
    rw [ht] at p4
    rw [show off + 1 + ((letN r.1).length : Int).toNat = off + 1 + (letN r.1).length by omega] at p3
    have hmod : ∀ {b : List Int} , Sub ns (off + 1) (letN r.1 ++ b) → Sub ns (off + 1 + (letN r.1).length) b := fun h => h.right
    have hs2 := hmod hs1
    have sHx : Sm [x] H H2 := sm1.trans (p2.drop hD)
    refine ⟨"", D, _, rfl, rfl, .inl (SqL.of p4), ?_, ?_⟩
    · rw [one_sum, List.length_map]
      show _ + _ * 0 ≤ _
      omega
    rw [join_one]
    obtain ⟨hx2, hp2, _⟩ := id p3
    rcases kind_cases r.2 with ⟨i, pk, k1, k2, k3, k4⟩ | ⟨k3, k4, k5⟩
    · rw [k4] at hs2
      obtain ⟨m1, m2, m3, m4⟩ := kN_at k1
      have elen : (ruI r).length = 1 + (letN r.1).length + 1 := by
        unfold ruI
        rw [k4]
        simp only [List.length_cons, List.length_append, List.length_nil]
        omega
      refine ⟨_, rfl, x, dx, _, rfl, hx2, rfl, rfl, x, dx, p, ns, _, 0, _, _, rfl, p3, hs2.hd, by omega, by show (i : Int) ≤ 4; omega, fun H3 sm3 hR3 => ?_⟩
      refine ⟨_, rfl, rfl, _, _, rfl, rfl, true, blT (by show (i : Int) < 4; omega), iteT ?_⟩
      refine ⟨_, rfl, rfl, fun p5 n5 => ?_⟩
      have e5 : Ext H3 (upd H3 p5 (.lst kN)) := Ext.upd n5
      refine ⟨_, rfl, p5, kN, _, _, rfl, rfl, SqL.of upd_same, atI_nat m1, ?_⟩
      refine fun x1 dx1 n1 n2 n3 => mkRu' T hw (a := kindA K i) (.inl ⟨i, pk, k1, rfl, k2, rfl⟩) n1 n2 n3 fun H4 e4 hy => ⟨rfl, ?_⟩
      have e35 := e5.trans e4
      rw [show off + (ruI r).length = off + 1 + (letN r.1).length + 1 by omega] at q
      exact q H4 x1 ((sHx.trans sm3).trans (Sm.of e35)) ⟨e35 _ _ hR3.1, SqL.ext hR3.2.1 e35, hl⟩ hy
    · rw [k4] at hs2
      have ha4 : r.2.length = 4 := by
        have := (Bool.and_eq_true_iff.mp ha).1
        simpa using this
      have haA := (Bool.and_eq_true_iff.mp ha).2
      have elen : (ruI r).length = 1 + (letN r.1).length + 1 + 4 := by
        unfold ruI
        rw [k4]
        simp only [List.length_cons, List.length_append, List.length_map]
        omega
      refine ⟨_, rfl, x, dx, _, rfl, hx2, rfl, rfl, x, dx, p, ns, _, 0, _, _, rfl, p3, hs2.hd, by omega, by show (4 : Int) ≤ 4; omega, fun H3 sm3 hR3 => ?_⟩
      refine ⟨_, rfl, rfl, _, _, rfl, rfl, false, blF (by show ¬ (4 : Int) < 4; omega), iteF ?_⟩
      have hs3 := hs2.tl
      obtain ⟨hx3, hp3, _⟩ := id hR3
      refine ⟨_, rfl, ⟨_, T.results H3⟩, fun D2 hD2 => ?_⟩
      have xD2 : x ≠ D2 := ne_of_none hx3 hD2
      refine lc_it walk_tup (fun j H' => Sm [D2, x] H3 H' ∧ RdAt K H' x dx p ns (off + 1 + (letN r.1).length + 1 + j) ∧ H' D2 = some (.lst (((r.2.map itemA).take j).map V.int)))
        ⟨(Sm.refl _ _).upd (by simp), ⟨by rw [upd_ne xD2]; exact hx3, SqL.ext hp3 (Ext.upd hD2), hl⟩, upd_same⟩ (fun j H' _ hj => T.results H') (fun j v Ha Hb hj hv hy2 => ?_) fun H6 hv => ?_
      · obtain ⟨p2', p3', p4'⟩ := hv
        obtain ⟨rfl, hvj⟩ := hy2
        have hj4 : j < 4 := hj
        obtain ⟨act, hact⟩ : ∃ a, r.2[j]? = some a := ⟨_, List.getElem?_eq_getElem (by omega)⟩
        have hact2 : (r.2.map itemA)[j]? = some (itemA act) := by rw [List.getElem?_map, hact]; rfl
        have hrng := itemA_rng (List.all_eq_true.mp haA act (List.mem_of_getElem? hact))
        obtain ⟨px, pp, _⟩ := id p3'
        have hnv := hs3 j _ hact2
        refine ⟨rfl, _, rfl, x, dx, _, rfl, px, rfl, _, _, rfl, .inr (T.actions _), _, _, rfl, rfl, _, _, rfl, rfl, x, dx, p, ns, _, 0, _, _, rfl, p3', hnv, hrng.1, hrng.2, fun H7 sm7 hR7 => ?_⟩
        have hD7 := sm7 _ _ p4' (by simpa using Ne.symm xD2)
        have s2 : ∀ o, Sm [D2, x] H3 (upd H7 D2 o) := fun o => (p2'.trans (sm7.mono fun b hb => List.mem_cons_of_mem _ hb)).upd (by simp)
        refine ⟨_, hD7, ?_, s2 _, ⟨?_, SqL.sm1 hx3 ((s2 _).drop hD2) hp3, hl⟩, ?_⟩
        · rw [List.length_map, List.length_take, List.length_map]
          exact Nat.lt_of_lt_of_le (by omega : min j r.2.length < 50) (by decide)
        · rw [upd_ne xD2]
          exact hR7.1
        · rw [upd_same, take_succ hact2, List.map_append]
          rfl
      · obtain ⟨p2', p3', p4'⟩ := hv
        have hml : (r.2.map itemA).length = 4 := by rw [List.length_map, ha4]
        have ht2 : (r.2.map itemA).take 4 = r.2.map itemA := by rw [← hml, List.take_length]
        have p4a : H6 D2 = some (.lst ((r.2.map itemA).map V.int)) := by rw [← ht2]; exact p4'
        have p3a : RdAt K H6 x dx p ns (off + 1 + (letN r.1).length + 1 + 4) := p3'
        have s06 : Sm [x] H H6 := (sHx.trans sm3).trans (p2'.drop hD2)
        refine ⟨_, rfl, D2, rfl, ⟨_, SqL.of p4a⟩, fun D3 hD3 => ?_⟩
        refine lc_it walk_list (fun j H' => Ext H6 H' ∧ H' D3 = some (.lst (r.2.take j))) ⟨Ext.upd hD3, upd_same⟩ (fun j H' _ hj => SqL.of (hj.1 _ _ p4a)) (fun j v Ha Hb hj hv hy2 => ?_) fun H7 hv => ?_
        · obtain ⟨e7, hD7⟩ := hv
          obtain ⟨rfl, hvj⟩ := hy2
          rw [List.length_map, hml] at hj
          obtain ⟨act, hact⟩ : ∃ a, r.2[j]? = some a := ⟨_, List.getElem?_eq_getElem (by omega)⟩
          have hact2 : ((r.2.map itemA).map V.int)[j]? = some (.int (itemA act)) := by rw [List.getElem?_map, List.getElem?_map, hact]; rfl
          rw [hact2] at hvj
          cases hvj
          have hia := List.all_eq_true.mp haA act (List.mem_of_getElem? hact)
          have fin : ∃ acc, Hb D3 = some (.lst acc) ∧ acc.length < sizeLine ∧ Ext H6 (upd Hb D3 (.lst (acc ++ [act]))) ∧ upd Hb D3 (.lst (acc ++ [act])) D3 = some (.lst (r.2.take (j + 1))) := by
            refine ⟨_, hD7, ?_, e7.updD hD3, ?_⟩
            · rw [List.length_take]
              exact Nat.lt_of_lt_of_le (by omega : min j r.2.length < 50) (by decide)
            · rw [upd_same, take_succ hact]
          rcases act_cases hia with e | ⟨n, rfl, h1, h2⟩
          · obtain ⟨z', i, e', k1', k2', k3'⟩ := act_at e
            have hi6 : i < 6 := (List.getElem?_eq_some_iff.mp k1').1
            rw [k3']
            refine ⟨rfl, _, rfl, _, _, rfl, .inr (T.actions _), _, _, rfl, rfl, true, blT (by show (i : Int) < 6; omega), iteT ?_⟩
            refine ⟨_, rfl, He.ga K "ACTIONS", _, _, act, rfl, rfl, T.actions _, atI_nat ?_, fin⟩
            subst e'
            match i, hi6, k1' with
            | 0, _, h => cases h; rfl
            | 1, _, h => cases h; rfl
            | 2, _, h => cases h; rfl
            | 3, _, h => cases h; rfl
            | 4, _, h => cases h; rfl
            | 5, _, h => cases h; rfl
          · refine ⟨rfl, _, rfl, _, _, rfl, .inr (T.actions _), _, _, rfl, rfl, false, blF (by show ¬ (5 + n < 6); omega), iteF ?_⟩
            refine ⟨_, rfl, _, _, rfl, .inr (T.actions _), _, _, rfl, rfl, _, _, rfl, rfl, ?_⟩
            have e1 : (5 : Int) + n - 6 + 1 = n := by omega
            show ∃ acc, Hb D3 = some (.lst acc) ∧ acc.length < sizeLine ∧ Ext H6 (upd Hb D3 (.lst (acc ++ [V.int (5 + n - 6 + 1)]))) ∧ upd Hb D3 (.lst (acc ++ [V.int (5 + n - 6 + 1)])) D3 = some (.lst (r.2.take (j + 1)))
            rw [e1]
            exact fin
        · obtain ⟨e7, hD7⟩ := hv
          rw [List.length_map, hml, ← ha4, List.take_length] at hD7
          refine ⟨D3, r.2, rfl, .inl ⟨SqL.of hD7, fun l hl7 => ?_⟩⟩
          have e8 : Ext H7 (upd H7 l (.tup r.2)) := Ext.upd hl7
          have t8 : upd H7 l (.tup r.2) l = some (.tup r.2) := upd_same
          generalize upd H7 l (.tup r.2) = H8 at e8 t8 ⊢
          refine ⟨_, rfl, rfl, fun v hv => ?_⟩
          have e9 : Ext H8 (upd H8 v (ValsO v (He.ga K "KINDS"))) := Ext.upd hv
          refine ⟨v, l, r.2, kindTab.map (·.2), rfl, rfl, upd_same, .inl (.inl (e9 _ _ t8)), acts_atom ha, rfl, ?_, ?_⟩
          · intro jj kk u hk
            match jj, hk with
            | 0, hk => cases hk; exact ⟨_, _, rfl, rfl, T.kindsT 0 _ rfl _, by decide +kernel⟩
            | 1, hk => cases hk; exact ⟨_, _, rfl, rfl, T.kindsT 1 _ rfl _, by decide +kernel⟩
            | 2, hk => cases hk; exact ⟨_, _, rfl, rfl, T.kindsT 2 _ rfl _, by decide +kernel⟩
            | 3, hk => cases hk; exact ⟨_, _, rfl, rfl, T.kindsT 3 _ rfl _, by decide +kernel⟩
          · have ef : ((kindTab.map (·.2)).any fun ys => decide (ys = r.2)) = false := by
              rw [List.any_eq_false]
              intro ys hys
              obtain ⟨pp, hpp, rfl⟩ := List.mem_map.mp hys
              simpa using k5 pp hpp
            rw [ef]
            refine ⟨false, rfl, iteF ⟨_, rfl, _, rfl, ?_⟩⟩
            refine fun x1 dx1 n1 n2 n3 => mkRu' T hw (a := l) (.inr ⟨rfl, .inl (.inl (e9 _ _ t8)), ha⟩) n1 n2 n3 fun H4 e4 hy => ⟨rfl, ?_⟩
            have e68 := ((e7.trans e8).trans e9).trans e4
            rw [show off + (ruI r).length = off + 1 + (letN r.1).length + 1 + 4 by omega] at q
            exact q H4 x1 (s06.trans (Sm.of e68)) ⟨e68 _ _ p3a.1, SqL.ext p3a.2.1 e68, hl⟩ hy
end
end Ls
set_option maxRecDepth 100000
set_option maxHeartbeats 4000000
/-! codec: read_parts, made_stack, decode_stack -/
namespace Ls
open PySem PySem.Spec PyProof.Rows L2
mutual
/-- what was read: nested lists, each at a place of F -/
def PtT (K : PySem.W.Frag) (H : Hp) (F : Addr → Prop) : Tr → V → Prop
  | .rl m a, v => ∃ b, v = .ref b ∧ RuAt K H (m, a) b
  | .st es, v => ∃ l vs, v = .ref l ∧ F l ∧ H l = some (.lst vs) ∧ PtL K H F es vs
def PtL (K : PySem.W.Frag) (H : Hp) (F : Addr → Prop) : List Tr → List V → Prop
  | [], [] => True
  | e :: es, v :: vs => PtT K H F e v ∧ PtL K H F es vs
  | _, _ => False
end
mutual
theorem PtT.sm {K : PySem.W.Frag} {H H' : Hp} {F F' : Addr → Prop} {L : List Addr} (s : Sm L H H') (fz : Fz H H') (hL : ∀ b ∈ L, F b → ∀ xs, H b ≠ some (.lst xs)) (hF : ∀ b, F b → F' b) : ∀ {t : Tr} {v : V}, PtT K H F t v → PtT K H' F' t v
  | .rl m a, v, h => by
    obtain ⟨b, h1, h2⟩ := h
    exact ⟨b, h1, h2.fz fz⟩
  | .st es, v, h => by
    obtain ⟨l, vs, h1, h2, h3, h4⟩ := h
    exact ⟨l, vs, h1, hF l h2, s _ _ h3 (fun z => hL l z h2 _ h3), PtL.sm s fz hL hF h4⟩
theorem PtL.sm {K : PySem.W.Frag} {H H' : Hp} {F F' : Addr → Prop} {L : List Addr} (s : Sm L H H') (fz : Fz H H') (hL : ∀ b ∈ L, F b → ∀ xs, H b ≠ some (.lst xs)) (hF : ∀ b, F b → F' b) : ∀ {es : List Tr} {vs : List V}, PtL K H F es vs → PtL K H' F' es vs
  | [], [], _ => trivial
  | e :: es, v :: vs, h => ⟨PtT.sm s fz hL hF h.1, PtL.sm s fz hL hF h.2⟩
  | [], _ :: _, h => h.elim
  | _ :: _, [], h => h.elim
end
theorem PtL.app {K : PySem.W.Frag} {H : Hp} {F : Addr → Prop} {es' : List Tr} {vs' : List V} (h' : PtL K H F es' vs') : ∀ {es : List Tr} {vs : List V}, PtL K H F es vs → PtL K H F (es ++ es') (vs ++ vs')
  | [], [], _ => h'
  | _ :: _, _ :: _, h => ⟨h.1, PtL.app h' h.2⟩
  | [], _ :: _, h => h.elim
  | _ :: _, [], h => h.elim
theorem PtL.len {K : PySem.W.Frag} {H : Hp} {F : Addr → Prop} : ∀ {es : List Tr} {vs : List V}, PtL K H F es vs → es.length = vs.length
  | [], [], _ => rfl
  | _ :: _, _ :: _, h => congrArg (· + 1) (PtL.len h.2)
  | [], _ :: _, h => h.elim
  | _ :: _, [], h => h.elim
theorem PtL.get {K : PySem.W.Frag} {H : Hp} {F : Addr → Prop} : ∀ {es : List Tr} {vs : List V} {i : Nat} {e : Tr}, PtL K H F es vs → es[i]? = some e → ∃ v, vs[i]? = some v ∧ PtT K H F e v
  | [], [], _, _, _, h => by simp at h
  | x :: es, v :: vs, 0, _, h, g => by
    simp only [List.getElem?_cons_zero, Option.some.injEq] at g
    subst g
    exact ⟨v, rfl, h.1⟩
  | x :: es, v :: vs, i + 1, _, h, g => by
    simp only [List.getElem?_cons_succ] at g ⊢
    exact PtL.get h.2 g
  | [], _ :: _, _, _, h, _ => h.elim
  | _ :: _, [], _, _, h, _ => h.elim
theorem Sub.at_ {ns : List Int} {off : Nat} : ∀ {es : List Tr} {i : Nat} {e : Tr}, Sub ns off (itL es) → es[i]? = some e → Sub ns (off + (itL (es.take i)).length) (itT e) := fun {es i e} h g => by
  have e1 : itL es = itL (es.take (i + 1)) ++ itL (es.drop (i + 1)) := by rw [← itL_append, List.take_append_drop]
  rw [e1, itL_succ g, List.append_assoc] at h
  exact h.right.left
section
variable {P : Program} {w : World} {K : PySem.W.Frag} {mg : Str → Option Value} {base : Heap}
/-- a tree that once stood somewhere -/
def Stood (K : PySem.W.Frag) (es : List Tr) : Prop := ∃ H a, AtT K H (.st es) a
theorem Stood.ok {es : List Tr} (h : Stood K es) : Ok es := let ⟨_, _, h⟩ := h; h.ok
theorem Stood.sub {es es' : List Tr} {i : Nat} (h : Stood K es) (g : es[i]? = some (.st es')) : Stood K es' := by
  obtain ⟨H, a, dx, tp, ts, tn, as, rs, k1, k2, k3, _⟩ := h
  obtain ⟨b, _, hb⟩ := k3.get g
  exact ⟨H, b, hb⟩
def spRdParts (K : PySem.W.Frag) (n : Nat) : Sp := fun vs H Q _ => ∃ (x dx p : Addr) (ns : List Int) (off : Nat) (es : List Tr), vs = [.ref x] ∧ RdAt K H x dx p ns off ∧ Sub ns off (stI es) ∧ depL es ≤ n + 1 ∧ Stood K es ∧
  ∀ H' l, Sm [x] H H' → RdAt K H' x dx p ns (off + (stI es).length) → PtT K H' (fun b => H b = none) (.st es) (.ref l) → Q (.ref l) H'
theorem sc_Reader_read_parts : FnScope ["self", "found", "turn"] ["self"] (defScope s_Reader_read_parts) := ⟨rfl, rfl, rfl, by decide +kernel, rfl, by decide +kernel, by decide +kernel⟩
theorem key_rdparts (T : Txt w K mg) (n k : Nat) (hk : 6 ≤ k) (G : ∃ spR, MF P w K mg base k (cReader K) "read_parts" (a_Reader_read_parts K) spR ∧ ∀ vs H Q E, spRdParts K (n - 1) vs H Q E → 0 < n → spR vs H Q E) : MF P w K mg base (k + 1) (cReader K) "read_parts" (a_Reader_read_parts K) (spRdParts K n) := by
  obtain ⟨spR, GR, hR⟩ := G
  obtain ⟨fd, F⟩ := T.d_Reader_read_parts
  refine ⟨fnr F sc_Reader_read_parts (F.binds fun _ _ _ _ _ _ us hl => match us, hl with | [_], _ => rfl) (by rintro vs H Q E ⟨_, _, _, _, _, _, rfl, _⟩; rfl) fun cdv A outer s H vs Q E hr h => ?_, T.m_Reader_read_parts, T.c_Reader⟩
  obtain ⟨x, dx, p, ns, off, es, rfl, hRd, hsub, hn, hst, q⟩ := h
  refine ⟨_, (pss_cons (ps_set (i := 1) sc_Reader_read_parts.nd rfl (.inl rfl) (pe_lst pa_nil))
    (pss_cons (ps_for PassesOwn.never rfl (pi_range1 (by rfl) T.f_range (pa_cons (pmeth (pv 0) (ok_Reader_item T) (hr.mono (by first | decide | omega)) (pa_cons pe_int (pa_cons (pgi 12 T.i_MOST_ENTRIES) pa_nil))) pa_nil)) (pg_name (i := 2) sc_Reader_read_parts.nd rfl (.inl rfl))
    (pss_one (ps_expr (pe_bm PySem.F.plainAttrs_list PySem.F.slot_list_append PySem.F.type_list_append mt_append (pv 1) (pa_cons (pe_ifExp (pt_cmpR op_eq (pmeth (pv 0) (ok_Reader_item T) (hr.mono (by first | decide | omega)) (pa_cons (pgi 0 T.i_STACK) (pa_cons (pgi 1 T.i_RULE) pa_nil))) (pgi 0 T.i_STACK) (nomark _)) (pmeth0 (pv 0) GR (hr.mono (by first | decide | omega))) (pmeth0 (pv 0) (ok_Reader_read_rule T) (hr.mono (by first | decide | omega)))) pa_nil)))))
    (pss_one (ps_ret (pv 1))))), ?_⟩
  have hok := hst.ok
  have h12 := hok.len
  obtain ⟨hx, hp, hl⟩ := id hRd
  refine ⟨by show 0 ≤ sizeLine; decide, fun f hf => ?_⟩
  have e1 : Ext H (upd H f (.lst [])) := Ext.upd hf
  have hf1 : upd H f (.lst []) f = some (.lst []) := upd_same
  generalize upd H f (.lst []) = H1 at e1 hf1 ⊢
  have hR1 : RdAt K H1 x dx p ns off := ⟨e1 _ _ hx, SqL.ext hp e1, hl⟩
  refine ⟨_, rfl, x, dx, _, rfl, hR1.1, rfl, x, dx, p, ns, off, 0, 12, _, rfl, hR1, hsub.hd, by omega, by omega, fun H2 sm2 hR2 => ?_⟩
  refine ⟨_, rfl, by omega, by omega, ?_⟩
  have xf : x ≠ f := fun z => by rw [← z, hR1.1] at hf1; cases hf1
  have hf2 := sm2 _ _ hf1 (by simpa using Ne.symm xf)
  have hs2 : Sub ns (off + 1) (itL es) := Sub.tl hsub
  refine for_it walk_range (fun i σ Hx => (∃ e0, σ = [some (.ref x), some (.ref f), e0]) ∧ i ≤ es.length ∧ Sm [f, x] H2 Hx ∧ RdAt K Hx x dx p ns (off + 1 + (itL (es.take i)).length) ∧ ∃ vs, Hx f = some (.lst vs) ∧ PtL K Hx (fun b => H1 b = none) (es.take i) vs)
    ⟨⟨none, rfl⟩, Nat.zero_le _, Sm.refl _ _, by rw [show (itL (es.take 0)).length = 0 by simp [itL]]; exact hR2, [], hf2, trivial⟩ (fun _ _ _ _ _ => trivial) (fun i v σ Hy Hx hi hp3 hy => ?_) fun σ Hx hp3 => ?_
  · obtain ⟨⟨e0, rfl⟩, hi2, sm, hRx, vs, hvs, hpt⟩ := hp3
    obtain ⟨rfl, rfl⟩ := hy
    have hlt : i < es.length := by omega
    obtain ⟨e, he⟩ : ∃ e, es[i]? = some e := ⟨_, List.getElem?_eq_getElem hlt⟩
    have hse := hs2.at_ he
    have hvl := hpt.len
    rw [List.length_take] at hvl
    have hemem := List.mem_of_getElem? he
    have f1 : H1 f ≠ none := by rw [hf1]; exact fun z => nomatch z
    have fin : ∀ (H5 : Hp) (v : V), Sm [x] Hx H5 → RdAt K H5 x dx p ns (off + 1 + (itL (es.take (i + 1))).length) → PtT K H5 (fun b => Hx b = none) e v →
        H5 f = some (.lst vs) ∧ vs.length < sizeLine ∧ ((∃ e0', [some (V.ref x), some (.ref f), some (V.int (0 + (i : Nat)))] = [some (.ref x), some (.ref f), e0']) ∧ i + 1 ≤ es.length ∧ Sm [f, x] H2 (upd H5 f (.lst (vs ++ [v]))) ∧
          RdAt K (upd H5 f (.lst (vs ++ [v]))) x dx p ns (off + 1 + (itL (es.take (i + 1))).length) ∧ ∃ vs', upd H5 f (.lst (vs ++ [v])) f = some (.lst vs') ∧ PtL K (upd H5 f (.lst (vs ++ [v]))) (fun b => H1 b = none) (es.take (i + 1)) vs') := fun H5 v sm5 hR5 hv5 => by
      have hf5 := sm5 _ _ hvs (by simpa using Ne.symm xf)
      have s6 : Sm [f] H5 (upd H5 f (.lst (vs ++ [v]))) := (Sm.refl _ _).upd (List.mem_singleton.mpr rfl)
      have fz6 : Fz H5 (upd H5 f (.lst (vs ++ [v]))) := s6.fz fun b hb o e => by
        rw [List.mem_singleton.mp hb, hf5] at e
        cases e
        rfl
      have hn1 : ∀ b, Hx b = none → H1 b = none := fun b hb => by
        cases hz : H1 b with
        | none => rfl
        | some o =>
          by_cases bx : b = x
          · rw [bx, hRx.1] at hb
            cases hb
          · by_cases bf : b = f
            · rw [bf, hvs] at hb
              cases hb
            · have := sm _ _ (sm2 _ _ hz (by simpa using bx)) (by simpa using ⟨bf, bx⟩)
              rw [this] at hb
              cases hb
      have xl : ∀ b ∈ [x], (fun b => H1 b = none) b → ∀ xs, Hx b ≠ some (.lst xs) := fun b hb _ xs z => by
        rw [List.mem_singleton.mp hb, hRx.1] at z
        cases z
      have fl : ∀ b ∈ [f], (fun b => H1 b = none) b → ∀ xs, H5 b ≠ some (.lst xs) := fun b hb hn xs z => by
        rw [List.mem_singleton.mp hb] at hn
        exact f1 hn
      refine ⟨hf5, ?_, ⟨_, rfl⟩, hlt, (sm.trans (sm5.mono fun b hb => List.mem_cons_of_mem _ hb)).upd (by simp), ⟨?_, ?_, hl⟩, _, upd_same, ?_⟩
      · rw [← hvl]
        exact Nat.lt_of_lt_of_le (by omega : min i es.length < 50) (by decide)
      · rw [upd_ne xf]
        exact hR5.1
      · have sfx : Sm [f, x] H (upd H5 f (.lst (vs ++ [v]))) := (Sm.of e1).trans ((sm2.mono fun b hb => List.mem_cons_of_mem _ hb).trans ((sm.trans (sm5.mono fun b hb => List.mem_cons_of_mem _ hb)).upd (by simp)))
        exact SqL.sm1 hx (sfx.drop hf) hp
      · rw [take_succ he]
        refine PtL.app (es' := [e]) (vs' := [v]) ⟨?_, trivial⟩ ?_
        · exact PtT.sm s6 fz6 (fun b hb hn => fl b hb (hn1 b hn)) hn1 hv5
        · exact PtL.sm s6 fz6 fl (fun _ h => h) (PtL.sm sm5 (hRx.fz sm5) xl (fun _ h => h) hpt)
    obtain ⟨hxx, hpx, _⟩ := id hRx
    cases e with
    | st es' =>
      have hdm := dep_mem hemem
      have hdp := depL_pos es'
      simp only [Tr.dep] at hdm
      have hse' : Sub ns (off + 1 + (itL (es.take i)).length) (0 :: stI es') := hse
      have elen : (itL (es.take (i + 1))).length = (itL (es.take i)).length + 1 + (stI es').length := by
        rw [itL_succ he, List.length_append]
        simp only [itT, stI, List.length_cons]
        omega
      refine ⟨_, rfl, .inl ⟨rfl, _, SqL.of hvs⟩, _, rfl, x, dx, _, rfl, hxx, rfl, x, dx, p, ns, _, 0, 1, 0, rfl, hRx, hse'.hd, by omega, by omega, fun H4 sm4 hR4 => ?_⟩
      refine ⟨rfl, true, rfl, iteT ⟨_, rfl, x, dx, _, rfl, hR4.1, rfl, ?_⟩⟩
      refine hR _ _ _ _ ⟨x, dx, p, ns, _, es', rfl, hR4, hse'.tl, by omega, hst.sub he, fun H5 l sm5 hR5 hl5 => ?_⟩ (by omega)
      have hl5' : PtT K H5 (fun b => Hx b = none) (.st es') (.ref l) := by
        refine PtT.sm (L := []) (Sm.refl _ _) (Fz.refl _) (fun b hb => by simp at hb) (fun b hb => ?_) hl5
        cases hz : Hx b with
        | none => rfl
        | some o =>
          by_cases bx : b = x
          · rw [bx, hR4.1] at hb
            cases hb
          · rw [sm4 _ _ hz (by simpa using bx)] at hb
            cases hb
      obtain ⟨g1, g2, g3⟩ := fin H5 _ (sm4.trans sm5) (by rw [elen, show off + 1 + ((itL (es.take i)).length + 1 + (stI es').length) = off + 1 + (itL (es.take i)).length + 1 + (stI es').length by omega]; exact hR5) hl5'
      exact ⟨f, vs, _, rfl, rfl, g1, g2, g3⟩
    | rl m acts =>
      have hru := ruAt he hok.rus
      have hse' : Sub ns (off + 1 + (itL (es.take i)).length) (1 :: ruI (m, acts)) := hse
      have elen : (itL (es.take (i + 1))).length = (itL (es.take i)).length + 1 + (ruI (m, acts)).length := by
        rw [itL_succ he, List.length_append]
        simp only [itT, List.length_cons]
        omega
      refine ⟨_, rfl, .inl ⟨rfl, _, SqL.of hvs⟩, _, rfl, x, dx, _, rfl, hxx, rfl, x, dx, p, ns, _, 0, 1, 1, rfl, hRx, hse'.hd, by omega, by omega, fun H4 sm4 hR4 => ?_⟩
      refine ⟨rfl, false, rfl, iteF ⟨_, rfl, x, dx, _, rfl, hR4.1, rfl, x, dx, p, ns, _, (m, acts), rfl, hR4, hru, hse'.tl, fun H5 y sm5 hR5 hy5 => ?_⟩⟩
      obtain ⟨g1, g2, g3⟩ := fin H5 (.ref y) (sm4.trans sm5) (by rw [elen, show off + 1 + ((itL (es.take i)).length + 1 + (ruI (m, acts)).length) = off + 1 + (itL (es.take i)).length + 1 + (ruI (m, acts)).length by omega]; exact hR5) ⟨y, rfl, hy5⟩
      exact ⟨f, vs, _, rfl, rfl, g1, g2, g3⟩
  · obtain ⟨⟨e0, rfl⟩, hi2, sm, hRx, vs, hvs, hpt⟩ := hp3
    rw [Int.toNat_natCast, List.take_length] at hRx hpt
    have sfx : Sm [f, x] H Hx := (Sm.of e1).trans ((sm2.mono fun b hb => List.mem_cons_of_mem _ hb).trans sm)
    refine ⟨_, rfl, q Hx f (sfx.drop hf) ?_ ⟨f, vs, rfl, hf, hvs, PtL.sm (L := []) (Sm.refl _ _) (Fz.refl _) (fun b hb => by simp at hb) (fun b hb => e1.none hb) hpt⟩⟩
    rw [show off + (stI es).length = off + 1 + (itL es).length by unfold stI; rw [List.length_cons]; omega]
    exact hRx
theorem ok_Reader_read_parts (T : Txt w K mg) : ∀ n : Nat, MF P w K mg base (7 + n) (cReader K) "read_parts" (a_Reader_read_parts K) (spRdParts K n)
  | 0 => key_rdparts T 0 6 (by decide) ⟨fun _ _ _ _ => False, ⟨fun _ _ _ _ _ _ _ _ _ _ _ h => h.elim, T.m_Reader_read_parts, T.c_Reader⟩, fun _ _ _ _ _ z => absurd z (Nat.lt_irrefl _)⟩
  | n + 1 => key_rdparts T (n + 1) (7 + n) (by omega) ⟨spRdParts K n, ok_Reader_read_parts T n, fun _ _ _ _ h _ => h⟩
end
end Ls
set_option maxRecDepth 100000
set_option maxHeartbeats 4000000
/-! codec: made_stack, decode_stack -/
namespace Ls
open PySem PySem.Spec PyProof.Rows L2
section
variable {P : Program} {w : World} {K : PySem.W.Frag} {mg : Str → Option Value} {base : Heap}
def spMade (K : PySem.W.Frag) (n : Nat) : Sp := fun vs H Q _ => ∃ (l : Addr) (es : List Tr) (F : Addr → Prop), vs = [.ref l] ∧ PtT K H F (.st es) (.ref l) ∧ depL es ≤ n + 1 ∧ Stood K es ∧ ∀ H' y, Ext H H' → AtT K H' (.st es) y → Q (.ref y) H'
theorem sc_made_stack_codec : FnScope ["parts", "entries", "part"] ["parts"] (defScope s_made_stack_codec) := ⟨rfl, rfl, rfl, by decide +kernel, rfl, by decide +kernel, by decide +kernel⟩
theorem key_made_stack_codec (T : Txt w K mg) (n k : Nat) (hk : 3 ≤ k) (G : ∃ spR, GF P w K mg base k "made_stack_codec" (He.ga K "made_stack_codec") spR ∧ ∀ vs H Q E, spMade K (n - 1) vs H Q E → 0 < n → spR vs H Q E) : GF P w K mg base (k + 1) "made_stack_codec" (He.ga K "made_stack_codec") (spMade K n) := by
  obtain ⟨spR, GR, hR⟩ := G
  obtain ⟨fd, F⟩ := T.d_made_stack_codec
  refine gf_of F T.g_made_stack_codec (fnr F sc_made_stack_codec (F.binds fun _ _ _ _ _ _ us hl => match us, hl with | [_], _ => rfl) (by rintro vs H Q E ⟨_, _, _, rfl, _⟩; rfl) fun cdv A outer s H vs Q E hr h => ?_)
  obtain ⟨l, es, FF, rfl, hpt, hn, hst, q⟩ := h
  refine ⟨_, (pss_cons (ps_setLc (i := 1) (own := [("part", 2)]) (g := gName 2) (tt := tYes) (te := tIf (tB (tCB (rIsi K) (tCons (tVar 2) (tCons (tC (.ty "list")) tNil)))) (tC0 spR (tCons (tVar 2) tNil)) (tVar 2)) rfl sc_made_stack_codec.nd rfl rfl (sw_true rfl rfl rfl (by decide +kernel)) (pi_list (pv 0)) (blkOk_by (own := [("part", 2)]) (N := ["parts", "entries", "part"]) (sc := defScope s_made_stack_codec) (by decide +kernel)) (fun _ _ _ _ _ => pg_name (i := 2) sc_made_stack_codec.nd rfl (Or.inl rfl)) (fun _ _ _ _ _ => pts_nil) (fun _ _ _ _ _ => (pe_ifExp (pt_val (pcb call_isi T.f_isinstance (pa_cons (pv 2) (pa_cons (pty "list" T.f_list) pa_nil)))) (pcall GR (hr.mono (by first | decide | omega)) (pa_cons (pv 2) pa_nil)) (pv 2))))
    (pss_one (ps_ret (pmakeS (ok_Stack T) (hr.mono (by first | decide | omega)) (pv 1))))), ?_⟩
  have hok := hst.ok
  have h12 := hok.len
  obtain ⟨l', vs, e0, _, hl, hpl⟩ := id hpt
  cases e0
  have hvl := hpl.len
  refine ⟨_, rfl, l, rfl, ⟨_, SqL.of hl⟩, fun D hD => ?_⟩
  refine lc_it walk_list (fun i Hx => Ext H Hx ∧ ∃ bs, Hx D = some (.lst (bs.map V.ref)) ∧ AtL K Hx (es.take i) bs) ⟨Ext.upd hD, [], upd_same, trivial⟩ (fun i Hx _ hi => SqL.of (hi.1 _ _ hl)) (fun i v Hy Hx hi hp3 hy => ?_) fun Hx hp3 => ?_
  · obtain ⟨e1, bs, hb, hat⟩ := hp3
    obtain ⟨rfl, hvi⟩ := hy
    obtain ⟨e, he⟩ : ∃ e, es[i]? = some e := ⟨_, List.getElem?_eq_getElem (by omega)⟩
    obtain ⟨v', hv', hpe⟩ := hpl.get he
    rw [hv'] at hvi
    cases hvi
    have hemem := List.mem_of_getElem? he
    have hbl := hat.len
    rw [List.length_take] at hbl
    have fin : ∀ (Hz : Hp) (z : Addr), Ext Hx Hz → AtT K Hz e z → ∃ acc, Hz D = some (.lst acc) ∧ acc.length < sizeLine ∧ Ext H (upd Hz D (.lst (acc ++ [.ref z]))) ∧ ∃ bs', upd Hz D (.lst (acc ++ [.ref z])) D = some (.lst (bs'.map V.ref)) ∧ AtL K (upd Hz D (.lst (acc ++ [.ref z]))) (es.take (i + 1)) bs' := fun Hz z eZ hz => by
      have hbZ := eZ _ _ hb
      have fzu : Fz Hz (upd Hz D (.lst (bs.map V.ref ++ [.ref z]))) := ((Sm.refl [D] Hz).upd (List.mem_singleton.mpr rfl)).fz fun b hb2 o e2 => by
        rw [List.mem_singleton.mp hb2, hbZ] at e2
        cases e2
        rfl
      refine ⟨_, hbZ, ?_, (e1.trans eZ).updD hD, bs ++ [z], by rw [upd_same, List.map_append]; rfl, ?_⟩
      · rw [List.length_map, ← hbl]
        exact Nat.lt_of_lt_of_le (by omega : min i es.length < 50) (by decide)
      · rw [take_succ he]
        exact ((hat.fz (Fz.of eZ)).fz fzu).app ⟨hz.fz fzu, trivial⟩
    cases e with
    | st es' =>
      have hdm := dep_mem hemem
      have hdp := depL_pos es'
      simp only [Tr.dep] at hdm
      obtain ⟨l2, vs2, rfl, _, hl2, hpl2⟩ := id hpe
      refine ⟨rfl, _, rfl, _, .ty "list", _, _, true, rfl, .ty "list", .base (.lst (e1 _ _ hl2)), kit_ty (by decide +kernel), true, rfl, iteT ?_⟩
      refine ⟨_, rfl, hR _ _ _ _ ⟨l2, es', FF, rfl, PtT.sm (L := []) (Sm.of e1) (Fz.of e1) (fun b hb => by simp at hb) (fun _ h => h) hpe, by omega, hst.sub he, fun H4 y e4 hy => fin H4 y e4 hy⟩ (by omega)⟩
    | rl m acts =>
      obtain ⟨b, rfl, hb2⟩ := id hpe
      obtain ⟨dy, ty, r1, r2⟩ := id hb2
      refine ⟨rfl, _, rfl, _, .ty "list", _, _, false, rfl, .ty "list", T.tyR (e1 _ _ r1), T.kit_RL, false, rfl, iteF ?_⟩
      exact ⟨_, rfl, fin Hx b Ext.rfl' (RuAt.fz hb2 (Fz.of e1))⟩
  · obtain ⟨e1, bs, hb, hat⟩ := hp3
    rw [← hvl, List.take_length] at hat
    exact ⟨_, rfl, D, _, rfl, .inr (SqL.of hb), fun x1 dx1 n1 n2 n3 => mkSt' hat hok n1 n2 n3 fun H4 e4 hy => ⟨rfl, q H4 x1 (e1.trans e4) hy⟩⟩
theorem ok_made_stack_codec (T : Txt w K mg) : ∀ n : Nat, GF P w K mg base (4 + n) "made_stack_codec" (He.ga K "made_stack_codec") (spMade K n)
  | 0 => key_made_stack_codec T 0 3 (by decide) ⟨fun _ _ _ _ => False, ⟨fun _ _ _ _ _ _ _ _ _ _ _ h => h.elim, by obtain ⟨fd, F⟩ := T.d_made_stack_codec; exact F.kp, T.g_made_stack_codec⟩, fun _ _ _ _ _ z => absurd z (Nat.lt_irrefl _)⟩
  | n + 1 => key_made_stack_codec T (n + 1) (4 + n) (by omega) ⟨spMade K n, ok_made_stack_codec T n, fun _ _ _ _ h _ => h⟩
theorem sc_made_stack_notation : FnScope ["parts", "entries", "part"] ["parts"] (defScope s_made_stack_notation) := ⟨rfl, rfl, rfl, by decide +kernel, rfl, by decide +kernel, by decide +kernel⟩
theorem key_made_stack_notation (T : Txt w K mg) (n k : Nat) (hk : 3 ≤ k) (G : ∃ spR, GF P w K mg base k "made_stack_notation" (He.ga K "made_stack_notation") spR ∧ ∀ vs H Q E, spMade K (n - 1) vs H Q E → 0 < n → spR vs H Q E) : GF P w K mg base (k + 1) "made_stack_notation" (He.ga K "made_stack_notation") (spMade K n) := by
  obtain ⟨spR, GR, hR⟩ := G
  obtain ⟨fd, F⟩ := T.d_made_stack_notation
  refine gf_of F T.g_made_stack_notation (fnr F sc_made_stack_notation (F.binds fun _ _ _ _ _ _ us hl => match us, hl with | [_], _ => rfl) (by rintro vs H Q E ⟨_, _, _, rfl, _⟩; rfl) fun cdv A outer s H vs Q E hr h => ?_)
  obtain ⟨l, es, FF, rfl, hpt, hn, hst, q⟩ := h
  refine ⟨_, (pss_cons (ps_setLc (i := 1) (own := [("part", 2)]) (g := gName 2) (tt := tYes) (te := tIf (tB (tCB (rIsi K) (tCons (tVar 2) (tCons (tC (.ty "list")) tNil)))) (tC0 spR (tCons (tVar 2) tNil)) (tVar 2)) rfl sc_made_stack_notation.nd rfl rfl (sw_true rfl rfl rfl (by decide +kernel)) (pi_list (pv 0)) (blkOk_by (own := [("part", 2)]) (N := ["parts", "entries", "part"]) (sc := defScope s_made_stack_notation) (by decide +kernel)) (fun _ _ _ _ _ => pg_name (i := 2) sc_made_stack_notation.nd rfl (Or.inl rfl)) (fun _ _ _ _ _ => pts_nil) (fun _ _ _ _ _ => (pe_ifExp (pt_val (pcb call_isi T.f_isinstance (pa_cons (pv 2) (pa_cons (pty "list" T.f_list) pa_nil)))) (pcall GR (hr.mono (by first | decide | omega)) (pa_cons (pv 2) pa_nil)) (pv 2))))
    (pss_one (ps_ret (pmakeS (ok_Stack T) (hr.mono (by first | decide | omega)) (pv 1))))), ?_⟩
  have hok := hst.ok
  have h12 := hok.len
  obtain ⟨l', vs, e0, _, hl, hpl⟩ := id hpt
  cases e0
  have hvl := hpl.len
  refine ⟨_, rfl, l, rfl, ⟨_, SqL.of hl⟩, fun D hD => ?_⟩
  refine lc_it walk_list (fun i Hx => Ext H Hx ∧ ∃ bs, Hx D = some (.lst (bs.map V.ref)) ∧ AtL K Hx (es.take i) bs) ⟨Ext.upd hD, [], upd_same, trivial⟩ (fun i Hx _ hi => SqL.of (hi.1 _ _ hl)) (fun i v Hy Hx hi hp3 hy => ?_) fun Hx hp3 => ?_
  · obtain ⟨e1, bs, hb, hat⟩ := hp3
    obtain ⟨rfl, hvi⟩ := hy
    obtain ⟨e, he⟩ : ∃ e, es[i]? = some e := ⟨_, List.getElem?_eq_getElem (by omega)⟩
    obtain ⟨v', hv', hpe⟩ := hpl.get he
    rw [hv'] at hvi
    cases hvi
    have hemem := List.mem_of_getElem? he
    have hbl := hat.len
    rw [List.length_take] at hbl
    have fin : ∀ (Hz : Hp) (z : Addr), Ext Hx Hz → AtT K Hz e z → ∃ acc, Hz D = some (.lst acc) ∧ acc.length < sizeLine ∧ Ext H (upd Hz D (.lst (acc ++ [.ref z]))) ∧ ∃ bs', upd Hz D (.lst (acc ++ [.ref z])) D = some (.lst (bs'.map V.ref)) ∧ AtL K (upd Hz D (.lst (acc ++ [.ref z]))) (es.take (i + 1)) bs' := fun Hz z eZ hz => by
      have hbZ := eZ _ _ hb
      have fzu : Fz Hz (upd Hz D (.lst (bs.map V.ref ++ [.ref z]))) := ((Sm.refl [D] Hz).upd (List.mem_singleton.mpr rfl)).fz fun b hb2 o e2 => by
        rw [List.mem_singleton.mp hb2, hbZ] at e2
        cases e2
        rfl
      refine ⟨_, hbZ, ?_, (e1.trans eZ).updD hD, bs ++ [z], by rw [upd_same, List.map_append]; rfl, ?_⟩
      · rw [List.length_map, ← hbl]
        exact Nat.lt_of_lt_of_le (by omega : min i es.length < 50) (by decide)
      · rw [take_succ he]
        exact ((hat.fz (Fz.of eZ)).fz fzu).app ⟨hz.fz fzu, trivial⟩
    cases e with
    | st es' =>
      have hdm := dep_mem hemem
      have hdp := depL_pos es'
      simp only [Tr.dep] at hdm
      obtain ⟨l2, vs2, rfl, _, hl2, hpl2⟩ := id hpe
      refine ⟨rfl, _, rfl, _, .ty "list", _, _, true, rfl, .ty "list", .base (.lst (e1 _ _ hl2)), kit_ty (by decide +kernel), true, rfl, iteT ?_⟩
      refine ⟨_, rfl, hR _ _ _ _ ⟨l2, es', FF, rfl, PtT.sm (L := []) (Sm.of e1) (Fz.of e1) (fun b hb => by simp at hb) (fun _ h => h) hpe, by omega, hst.sub he, fun H4 y e4 hy => fin H4 y e4 hy⟩ (by omega)⟩
    | rl m acts =>
      obtain ⟨b, rfl, hb2⟩ := id hpe
      obtain ⟨dy, ty, r1, r2⟩ := id hb2
      refine ⟨rfl, _, rfl, _, .ty "list", _, _, false, rfl, .ty "list", T.tyR (e1 _ _ r1), T.kit_RL, false, rfl, iteF ?_⟩
      exact ⟨_, rfl, fin Hx b Ext.rfl' (RuAt.fz hb2 (Fz.of e1))⟩
  · obtain ⟨e1, bs, hb, hat⟩ := hp3
    rw [← hvl, List.take_length] at hat
    exact ⟨_, rfl, D, _, rfl, .inr (SqL.of hb), fun x1 dx1 n1 n2 n3 => mkSt' hat hok n1 n2 n3 fun H4 e4 hy => ⟨rfl, q H4 x1 (e1.trans e4) hy⟩⟩
theorem ok_made_stack_notation (T : Txt w K mg) : ∀ n : Nat, GF P w K mg base (4 + n) "made_stack_notation" (He.ga K "made_stack_notation") (spMade K n)
  | 0 => key_made_stack_notation T 0 3 (by decide) ⟨fun _ _ _ _ => False, ⟨fun _ _ _ _ _ _ _ _ _ _ _ h => h.elim, by obtain ⟨fd, F⟩ := T.d_made_stack_notation; exact F.kp, T.g_made_stack_notation⟩, fun _ _ _ _ _ z => absurd z (Nat.lt_irrefl _)⟩
  | n + 1 => key_made_stack_notation T (n + 1) (4 + n) (by omega) ⟨spMade K n, ok_made_stack_notation T n, fun _ _ _ _ h _ => h⟩
/-! decode_stack -/
def spDec (K : PySem.W.Frag) : Sp := fun vs H Q _ => ∃ (p : Addr) (es : List Tr), vs = [.ref p] ∧ SqL K H p ((encS es).map V.int) ∧ (encS es).length ≤ 30000 ∧ Stood K es ∧ ∀ H' y, Ext H H' → AtT K H' (.st es) y → Q (.ref y) H'
theorem sc_decode_stack : FnScope ["values", "reader", "parts"] ["values"] (defScope s_decode_stack) := ⟨rfl, rfl, rfl, by decide +kernel, rfl, by decide +kernel, by decide +kernel⟩
theorem ok_decode_stack (T : Txt w K mg) : GF P w K mg base 10 "decode_stack" (He.ga K "decode_stack") (spDec K) := by
  obtain ⟨fd, F⟩ := T.d_decode_stack
  refine gf_of F T.g_decode_stack (fnr F sc_decode_stack (F.binds fun _ _ _ _ _ _ us hl => match us, hl with | [_], _ => rfl) (by rintro vs H Q E ⟨_, _, rfl, _⟩; rfl) fun cdv A outer s H vs Q E hr h => ?_)
  obtain ⟨p, es, rfl, hp, hl, hst, q⟩ := h
  refine ⟨_, (pss_cons (ps_set (i := 1) sc_decode_stack.nd rfl (.inl rfl) (pmake (ok_Reader T) (hr.mono (by first | decide | omega)) (pa_cons (pv 0) pa_nil)))
    (pss_cons (ps_expr (pmeth (pv 1) (ok_Reader_item T) (hr.mono (by first | decide | omega)) (pa_cons (pgi 83 T.i_FIRST) (pa_cons (pgi 83 T.i_FIRST) pa_nil))))
    (pss_cons (ps_set (i := 2) sc_decode_stack.nd rfl (.inl rfl) (pmeth0 (pv 1) (ok_Reader_read_parts T 2) (hr.mono (by first | decide | omega))))
    (pss_cons (ps_expr (pmeth0 (pv 1) (ok_Reader_finish T) (hr.mono (by first | decide | omega))))
    (pss_one (ps_ret (pcall (ok_made_stack_codec T 2) (hr.mono (by first | decide | omega)) (pa_cons (pv 2) pa_nil)))))))), ?_⟩
  have hdep : depL es ≤ 2 + 1 := hst.ok.dep
  refine ⟨_, rfl, fun x dx n1 n2 n3 => ?_⟩
  have e1 : Ext H (upd (upd H dx (.own x)) x (.ins (cReader K) dx [])) := (Ext.upd n2).trans (Ext.upd (by rw [upd_ne (Ne.symm n3)]; exact n1))
  refine ⟨x, p, dx, encS es, rfl, upd_same, SqL.ext hp e1, hl, fun H1 sm1 hR1 => ⟨rfl, ?_⟩⟩
  have x1 : Ext H H1 := fun b o hb => sm1 b o (e1 b o hb) fun z => by
    rw [List.mem_singleton.mp z, n1] at hb
    cases hb
  have hsub : Sub (encS es) 0 (83 :: stI es) := fun i v h => by
    unfold encS
    rw [Nat.zero_add, List.getElem?_append_left (List.getElem?_eq_some_iff.mp h).1]
    exact h
  refine ⟨_, rfl, x, dx, _, rfl, hR1.1, rfl, x, dx, p, encS es, 0, 83, 83, 83, rfl, hR1, hsub.hd, Int.le_refl _, Int.le_refl _, fun H2 sm2 hR2 => ?_⟩
  refine ⟨_, rfl, x, dx, _, rfl, hR2.1, rfl, x, dx, p, encS es, 1, es, rfl, hR2, hsub.tl, hdep, hst, fun H3 l sm3 hR3 hpt => ?_⟩
  have hR3' : RdAt K H3 x dx p ((83 :: stI es) ++ [ckF (83 :: stI es)]) (83 :: stI es).length := by
    rw [List.length_cons, Nat.add_comm]
    exact hR3
  refine ⟨_, rfl, x, dx, _, rfl, hR3.1, rfl, x, dx, p, 83 :: stI es, rfl, hR3', fun H4 sm4 => ?_⟩
  have x4 : Ext H H4 := fun b o hb => by
    have bx : b ∉ [x] := fun z => by
      rw [List.mem_singleton.mp z, n1] at hb
      cases hb
    exact sm4 _ _ (sm3 _ _ (sm2 _ _ (x1 b o hb) bx) bx) bx
  have hpt4 : PtT K H4 (fun b => H2 b = none) (.st es) (.ref l) := PtT.sm sm4 (hR3'.fz sm4) (fun b hb _ xs z => by
    rw [List.mem_singleton.mp hb, hR3.1] at z
    cases z) (fun _ h => h) hpt
  exact ⟨_, rfl, l, es, _, rfl, hpt4, hdep, hst, fun H5 y e5 hy => q H5 y (x4.trans e5) hy⟩
end
end Ls
set_option maxRecDepth 100000
set_option maxHeartbeats 4000000
/-! notation: the texts; control_word -/
namespace Ls
open PySem PySem.Spec PyProof.Rows L2
def actW (v : V) : Str := match v with
  | .str z => z
  | .int n => Str.ofString (toString n)
  | _ => Str.ofString ""
def ctlW (acts : List V) : Str := match kindOf acts with
  | some k => k
  | none => Txt.join (Str.ofString ",") (acts.map actW)
def rowW (r : Ru) : Str := ctlW r.2 ++ Str.ofString " " ++ r.1
mutual
def rowsT : Tr → List Str
  | .rl m a => [rowW (m, a)]
  | .st es => Str.ofString "begin" :: (rowsL es ++ [Str.ofString "end"])
def rowsL : List Tr → List Str
  | [] => []
  | e :: es => rowsT e ++ rowsL es
end
def fmtS (es : List Tr) : Str := Txt.join (Str.ofString "\n") (rowsL es)
theorem rowsL_append : ∀ a b : List Tr, rowsL (a ++ b) = rowsL a ++ rowsL b
  | [], b => by simp [rowsL]
  | e :: a, b => by
    simp only [List.cons_append, rowsL]
    rw [rowsL_append a b, List.append_assoc]
theorem rowsL_succ {es : List Tr} {i : Nat} {e : Tr} (h : es[i]? = some e) : rowsL (es.take (i + 1)) = rowsL (es.take i) ++ rowsT e := by
  rw [take_succ h, rowsL_append]
  simp [rowsL]
/-! plain facts -/
theorem dig_str {n : Int} (h1 : 1 ≤ n) (h2 : n ≤ 9) : Str.ofString (toString n) = ⟨#[48 + n.toNat]⟩ := by
  obtain ⟨k, rfl⟩ := Int.eq_ofNat_of_zero_le (by omega : 0 ≤ n)
  have hk : k < 10 := by omega
  refine TL.ext_tl ?_
  rw [TL.tl_num, TL.numL_lt hk]
  simp [TL.tl]
theorem actW_str {x : V} (h : x = .str "ok" ∨ x = .str "bad" ∨ x = .str "die" ∨ x = .str "done" ∨ x = .str "ignore" ∨ x = .str "reset") : (∀ c ∈ TL.tl (actW x), 97 ≤ c ∧ c ≤ 122) ∧ (actW x).length ≤ 6 := by
  rcases h with e | e | e | e | e | e <;> subst e <;> decide +kernel
theorem actW_free {x : V} (h : isActB x = true) : (∀ c ∈ TL.tl (actW x), 48 ≤ c) ∧ (actW x).length ≤ 6 := by
  rcases act_cases h with e | ⟨n, rfl, h1, h2⟩
  · obtain ⟨k1, k2⟩ := actW_str e
    exact ⟨fun c hc => by have := k1 c hc; omega, k2⟩
  · have e : actW (.int n) = ⟨#[48 + n.toNat]⟩ := dig_str h1 h2
    rw [e]
    refine ⟨fun c hc => ?_, by show 1 ≤ 6; decide⟩
    have : c = 48 + n.toNat := by simpa [TL.tl] using hc
    omega
theorem joinL_mem {S : List Nat} {c : Nat} : ∀ {ps : List (List Nat)}, c ∈ TL.joinL S ps → c ∈ S ∨ ∃ p ∈ ps, c ∈ p
  | [], h => by simp [TL.joinL] at h
  | [p], h => .inr ⟨p, by simp, h⟩
  | p :: q :: r, h => by
    simp only [TL.joinL, List.mem_append] at h
    rcases h with h | h | h
    · exact .inr ⟨p, by simp, h⟩
    · exact .inl h
    · rcases joinL_mem h with z | ⟨p', hp', z⟩
      · exact .inl z
      · exact .inr ⟨p', List.mem_cons_of_mem _ hp', z⟩
theorem joinL_len {S : List Nat} {b : Nat} (hS : S.length ≤ 1) : ∀ {ps : List (List Nat)}, (∀ p ∈ ps, p.length ≤ b) → (TL.joinL S ps).length ≤ ps.length * (b + 1)
  | [], _ => by simp [TL.joinL]
  | [p], h => by
    have := h p (by simp)
    simp only [TL.joinL, List.length_cons, List.length_nil]
    omega
  | p :: q :: r, h => by
    have h1 := h p (by simp)
    have h2 := joinL_len (S := S) hS (ps := q :: r) fun x hx => h x (List.mem_cons_of_mem _ hx)
    simp only [TL.joinL, List.length_append, List.length_cons, Nat.add_mul] at h2 ⊢
    omega
theorem tl_comma : TL.tl (Str.ofString ",") = [44] := by decide +kernel
theorem tl_nl : TL.tl (Str.ofString "\n") = [10] := by decide +kernel
theorem tl_sp : TL.tl (Str.ofString " ") = [32] := by decide +kernel
theorem kind_name {acts : List V} {k : Str} (h : kindOf acts = some k) : ∃ (i : Nat) (p : Str × List V), kindTab[i]? = some p ∧ acts = p.2 ∧ k = p.1 := by
  rcases kind_cases acts with ⟨i, p, h1, h2, h3, _⟩ | ⟨h1, _⟩
  · refine ⟨i, p, h1, h2, ?_⟩
    unfold kindV at h3
    rw [h] at h3
    exact V.str.inj h3
  · unfold kindV at h1
    rw [h] at h1
    cases h1
theorem kindTab_name {p : Str × List V} (h : p ∈ kindTab) : (∀ c ∈ TL.tl p.1, 97 ≤ c ∧ c ≤ 122) ∧ p.1.length ≤ 10 := by
  simp only [kindTab, List.mem_cons, List.not_mem_nil, or_false] at h
  rcases h with e | e | e | e <;> subst e <;> decide +kernel
theorem ctlW_free {acts : List V} (ha : actsOk acts = true) : (∀ c ∈ TL.tl (ctlW acts), 44 ≤ c) ∧ (ctlW acts).length ≤ 28 := by
  unfold ctlW
  cases hk : kindOf acts with
  | some k =>
    obtain ⟨i, p, h1, h2, rfl⟩ := kind_name hk
    obtain ⟨g1, g2⟩ := kindTab_name (List.mem_of_getElem? h1)
    exact ⟨fun c hc => by have := g1 c hc; omega, by show p.1.length ≤ 28; omega⟩
  | none =>
    obtain ⟨a1, a2⟩ := Bool.and_eq_true_iff.mp ha
    have a4 : acts.length = 4 := by simpa using a1
    refine ⟨fun c hc => ?_, ?_⟩
    · rw [TL.join_eq, TL.tl_join, tl_comma] at hc
      rcases joinL_mem hc with z | ⟨p, hp, z⟩
      · have : c = 44 := by simpa using z
        omega
      · obtain ⟨y, hy, rfl⟩ := List.mem_map.mp hp
        obtain ⟨x, hx, rfl⟩ := List.mem_map.mp hy
        have := (actW_free (List.all_eq_true.mp a2 x hx)).1 c z
        omega
    · rw [TL.len_tl, TL.join_eq, TL.tl_join, tl_comma]
      have := joinL_len (S := [44]) (b := 6) (by decide) (ps := (acts.map actW).map TL.tl) fun p hp => by
        obtain ⟨y, hy, rfl⟩ := List.mem_map.mp hp
        obtain ⟨x, hx, rfl⟩ := List.mem_map.mp hy
        have := (actW_free (List.all_eq_true.mp a2 x hx)).2
        rw [TL.len_tl] at this
        exact this
      rw [List.length_map, List.length_map, a4] at this
      omega
theorem rowW_ok {r : Ru} (h : ruOk r = true) : (∀ c ∈ TL.tl (rowW r), 32 ≤ c) ∧ (rowW r).length ≤ 37 := by
  obtain ⟨hw, ha⟩ := Bool.and_eq_true_iff.mp h
  obtain ⟨c1, c2⟩ := ctlW_free ha
  unfold wordOk at hw
  simp only [Bool.and_eq_true, decide_eq_true_eq] at hw
  obtain ⟨⟨w1, w2⟩, w3⟩ := hw
  have e : TL.tl (rowW r) = TL.tl (ctlW r.2) ++ [32] ++ TL.tl r.1 := by
    unfold rowW
    rw [TL.tl_append, TL.tl_append, tl_sp]
  refine ⟨fun c hc => ?_, ?_⟩
  · rw [e] at hc
    simp only [List.mem_append, List.mem_singleton] at hc
    rcases hc with (z | z) | z
    · have := c1 c z
      omega
    · omega
    · have := List.all_eq_true.mp w3 c z
      simp only [Bool.and_eq_true, decide_eq_true_eq] at this
      omega
  · rw [TL.len_tl] at c2
    rw [TL.len_tl, e]
    simp only [List.length_append, List.length_cons, List.length_nil]
    have : (TL.tl r.1).length = r.1.cps.size := by simp [TL.tl]
    omega
section
variable {P : Program} {w : World} {K : PySem.W.Frag} {mg : Str → Option Value} {base : Heap}
def rStrA : List V → Hp → VK → Prop := fun xs H Q => ∃ x, xs = [x] ∧ isActB x = true ∧ Q (.str (actW x)) H
theorem call_strA {X : Cx} : CallR X (.type "str") rStrA := by
  intro pins s σ H xs us Q I r h
  obtain ⟨x, rfl, hx, q⟩ := h
  rcases act_cases hx with e | ⟨n, rfl, h1, h2⟩
  · obtain ⟨_, z, rfl⟩ := act_in e
    exact SkE.call_str_str pins s σ H _ us Q I r ⟨z, rfl, q⟩
  · refine call_str_int pins s σ H _ us Q I r ⟨n, rfl, ?_, q⟩
    have : n.natAbs.log2 ≤ n.natAbs := Nat.log2_le_self _
    omega
def spCtlW (K : PySem.W.Frag) : Sp := fun vs H Q _ => ∃ x r, vs = [.ref x] ∧ RuAt K H r x ∧ actsOk r.2 = true ∧ ∀ H', Ext H H' → Q (.str (ctlW r.2)) H'
theorem sc_control_word : FnScope ["rule", "action"] ["rule"] (defScope s_control_word) := ⟨rfl, rfl, rfl, by decide +kernel, rfl, by decide +kernel, by decide +kernel⟩
theorem ok_control_word (T : Txt w K mg) : GF P w K mg base 3 "control_word" (He.ga K "control_word") (spCtlW K) := by
  obtain ⟨fd, F⟩ := T.d_control_word
  refine gf_of F T.g_control_word (fnr F sc_control_word (F.binds fun _ _ _ _ _ _ us hl => match us, hl with | [_], _ => rfl) (by rintro vs H Q E ⟨_, _, rfl, _⟩; rfl) fun cdv A outer s H vs Q E hr h => ?_)
  obtain ⟨x, r, rfl, hx, ha, q⟩ := h
  refine ⟨_, (pss_one (ps_ret (pe_ifExp (pt_cmpR op_notN (pprop (pv 0) (ok_Rule_kind T) (hr.mono (by first | decide | omega))) pe_non (nomark _)) (pprop (pv 0) (ok_Rule_kind T) (hr.mono (by first | decide | omega))) (pe_join pe_str (pe_lc (own := [("action", 1)]) (g := gName 1) (tt := tYes) (te := tCB rStrA (tCons (tVar 1) tNil)) rfl sc_control_word.nd (pi_tup (pprop (pv 0) (ok_Rule_control T) (hr.mono (by first | decide | omega)))) (blkOk_by (own := [("action", 1)]) (N := ["rule", "action"]) (sc := defScope s_control_word) (by decide +kernel)) (fun _ _ _ _ _ => pg_name (i := 1) sc_control_word.nd rfl (Or.inl rfl)) (fun _ _ _ _ _ => pts_nil) (fun _ _ _ _ _ => (pct call_strA T.f_str (pa_cons (pv 1) pa_nil)))))))), ?_⟩
  obtain ⟨dx, ta, hx1, hta⟩ := id hx
  refine ⟨_, rfl, x, dx, _, rfl, hx1, x, r, rfl, hx, ha, fun H1 e1 => ?_⟩
  have hx1' := e1 _ _ hx1
  cases hk : kindOf r.2 with
  | some k =>
    have hv : kindV r.2 = .str k := by unfold kindV; rw [hk]
    have hw : ctlW r.2 = k := by unfold ctlW; rw [hk]
    rw [hv]
    refine ⟨rfl, true, rfl, iteT ⟨_, rfl, x, dx, _, rfl, hx1', x, r, rfl, hx.fz (Fz.of e1), ha, fun H2 e2 => ?_⟩⟩
    rw [hv, ← hw]
    exact q H2 (e1.trans e2)
  | none =>
    have hv : kindV r.2 = .non := by unfold kindV; rw [hk]
    have hw : ctlW r.2 = Txt.join (Str.ofString ",") (r.2.map actW) := by unfold ctlW; rw [hk]
    rw [hv]
    obtain ⟨a1, a2⟩ := Bool.and_eq_true_iff.mp ha
    have a4 : r.2.length = 4 := by simpa using a1
    refine ⟨rfl, false, rfl, iteF ⟨⟨_, rfl⟩, _, rfl, x, dx, _, rfl, hx1', x, dx, _, ta, rfl, hx1', ta, rfl, ⟨_, SqT.ext hta e1⟩, fun D hD => ?_⟩⟩
    refine lc_it walk_tup (fun j H' => Ext H1 H' ∧ H' D = some (.lst (((r.2.map actW).take j).map V.str))) ⟨Ext.upd hD, upd_same⟩ (fun j H' _ hj => SqT.ext hta (e1.trans hj.1)) (fun j v Ha Hb hj hv hy2 => ?_) fun H6 hv => ?_
    · obtain ⟨e3, hDj⟩ := hv
      obtain ⟨rfl, hvj⟩ := hy2
      have hact := List.all_eq_true.mp a2 v (List.mem_of_getElem? hvj)
      refine ⟨rfl, _, rfl, v, rfl, hact, _, hDj, ?_, e3.updD hD, ?_⟩
      · rw [List.length_map, List.length_take, List.length_map]
        exact Nat.lt_of_lt_of_le (by omega : min j r.2.length < 50) (by decide)
      · have hn : (r.2.map actW)[j]? = some (actW v) := by rw [List.getElem?_map, hvj]; rfl
        rw [upd_same, take_succ hn, List.map_append]
        rfl
    · obtain ⟨e3, hDj⟩ := hv
      have hl4 : (r.2.map actW).length = r.2.length := List.length_map _
      rw [← hl4, List.take_length] at hDj
      refine ⟨_, D, r.2.map actW, rfl, rfl, .inl (SqL.of hDj), ?_, ?_⟩
      · have hs : ∀ l : List V, l.all isActB = true → ((l.map actW).map (·.length)).sum ≤ l.length * 6 := by
          intro l
          induction l with
          | nil => intro _; simp
          | cons y l ih =>
            intro h
            rw [List.all_cons, Bool.and_eq_true] at h
            have h1 := (actW_free h.1).2
            have h2 := ih h.2
            simp only [List.map_cons, List.sum_cons, List.length_cons, Nat.add_mul]
            omega
        have h1 := hs r.2 a2
        rw [a4] at h1
        rw [List.length_map, a4]
        show _ + 4 * 1 ≤ _
        omega
      · rw [← hw]
        exact q H6 (e1.trans e3)
end
end Ls
set_option maxRecDepth 100000
set_option maxHeartbeats 4000000
/-! notation: stack_rows, format_stack -/
namespace Ls
open PySem PySem.Spec PyProof.Rows L2
def RowOk (z : Str) : Prop := (∀ c ∈ TL.tl z, 32 ≤ c) ∧ z.length ≤ 37
mutual
theorem rowsT_ok : ∀ {t : Tr}, t.steps.all ruOk = true → ∀ z ∈ rowsT t, RowOk z
  | .rl m a, h, z, hz => by
    simp only [rowsT, List.mem_singleton] at hz
    subst hz
    simp only [Tr.steps, List.all_cons, List.all_nil, Bool.and_true] at h
    exact rowW_ok h
  | .st es, h, z, hz => by
    simp only [rowsT, List.mem_cons, List.mem_append, List.not_mem_nil, or_false] at hz
    rcases hz with e | e | e
    · subst e
      exact ⟨by decide +kernel, by decide +kernel⟩
    · exact rowsL_ok (es := es) h z e
    · subst e
      exact ⟨by decide +kernel, by decide +kernel⟩
theorem rowsL_ok : ∀ {es : List Tr}, (stepsL es).all ruOk = true → ∀ z ∈ rowsL es, RowOk z
  | [], _, z, hz => by simp [rowsL] at hz
  | e :: es, h, z, hz => by
    simp only [stepsL, List.all_append, Bool.and_eq_true] at h
    simp only [rowsL, List.mem_append] at hz
    rcases hz with hz | hz
    · exact rowsT_ok h.1 z hz
    · exact rowsL_ok h.2 z hz
end
theorem rows_sum : ∀ {l : List Str}, (∀ z ∈ l, RowOk z) → (l.map (·.length)).sum ≤ l.length * 37
  | [], _ => by simp
  | z :: l, h => by
    have h1 := (h z (by simp)).2
    have h2 := rows_sum (l := l) fun y hy => h y (List.mem_cons_of_mem _ hy)
    simp only [List.map_cons, List.sum_cons, List.length_cons, Nat.add_mul]
    omega
theorem join_len {S : Str} (hS : S.length ≤ 1) {l : List Str} (h : ∀ z ∈ l, RowOk z) : (Txt.join S l).length ≤ l.length * 38 := by
  rw [TL.len_tl, TL.join_eq, TL.tl_join]
  have := joinL_len (S := TL.tl S) (b := 37) (by rw [← TL.len_tl]; exact hS) (ps := l.map TL.tl) fun p hp => by
    obtain ⟨y, hy, rfl⟩ := List.mem_map.mp hp
    have := (h y hy).2
    rw [TL.len_tl] at this
    exact this
  rw [List.length_map] at this
  exact this
section
variable {P : Program} {w : World} {K : PySem.W.Frag} {mg : Str → Option Value} {base : Heap}
def spRows (K : PySem.W.Frag) (n : Nat) : Sp := fun vs H Q _ => ∃ (st : Addr) (es : List Tr), vs = [.ref st] ∧ AtT K H (.st es) st ∧ depL es ≤ n + 1 ∧ ∀ H' p, Ext H H' → H p = none → H' p = some (.lst ((rowsL es).map V.str)) → (rowsL es).length ≤ 12 * entB n → Q (.ref p) H'
theorem sc_stack_rows : FnScope ["stack", "found", "entry"] ["stack"] (defScope s_stack_rows) := ⟨rfl, rfl, rfl, by decide +kernel, rfl, by decide +kernel, by decide +kernel⟩
theorem key_rows (T : Txt w K mg) (n k : Nat) (hk : 3 ≤ k) (hn2 : n ≤ 2) (G : ∃ spR, GF P w K mg base k "stack_rows" (He.ga K "stack_rows") spR ∧ ∀ vs H Q E, spRows K (n - 1) vs H Q E → 0 < n → spR vs H Q E) : GF P w K mg base (k + 1) "stack_rows" (He.ga K "stack_rows") (spRows K n) := by
  obtain ⟨spR, GR, hR⟩ := G
  obtain ⟨fd, F⟩ := T.d_stack_rows
  refine gf_of F T.g_stack_rows (fnr F sc_stack_rows (F.binds fun _ _ _ _ _ _ us hl => match us, hl with | [_], _ => rfl) (by rintro vs H Q E ⟨_, _, rfl, _⟩; rfl) fun cdv A outer s H vs Q E hr h => ?_)
  obtain ⟨st, es, rfl, hst, hn, q⟩ := h
  refine ⟨_, (pss_cons (ps_set (i := 1) sc_stack_rows.nd rfl (.inl rfl) (pe_lst pa_nil))
    (pss_cons (ps_for PassesOwn.never rfl (pi_tup (pprop (pv 0) (ok_Stack_entries T) (hr.mono (by first | decide | omega)))) (pg_name (i := 2) sc_stack_rows.nd rfl (.inl rfl))
    (pss_one (ps_if (pt_val (pcb call_isi T.f_isinstance (pa_cons (pv 2) (pa_cons (pgr T.g_Stack) pa_nil)))) (pss_one (ps_expr (pe_bm PySem.F.plainAttrs_list PySem.F.slot_list_extend PySem.F.type_list_extend mt_extend (pv 1) (pa_cons (pe_lst (pa_cons (pgs "begin" T.t_BEGIN) (StX.pa_star (pcall GR (hr.mono (by first | decide | omega)) (pa_cons (pv 2) pa_nil)) (pa_cons (pgs "end" T.t_END) pa_nil)))) pa_nil)))) (pss_one (ps_expr (pe_bm PySem.F.plainAttrs_list PySem.F.slot_list_append PySem.F.type_list_append mt_append (pv 1) (pa_cons (pe_joined (PJ.cons (pe_fmt (pcall (ok_control_word T) (hr.mono (by first | decide | omega)) (pa_cons (pv 2) pa_nil))) (PJ.cons pe_str (PJ.cons (pe_fmt (pprop (pv 2) (ok_Rule_module T) (hr.mono (by first | decide | omega)))) PJ.nil)))) pa_nil)))))))
    (pss_one (ps_ret (pv 1))))), ?_⟩
  have hok := hst.ok
  obtain ⟨dx, tp, ts, tn, as, rs, k1, k2, k3, _⟩ := id hst
  have hla := k3.len
  have h12 := hok.len
  refine ⟨by show 0 ≤ sizeLine; decide, fun p hp => ?_⟩
  have e1 : Ext H (upd H p (.lst [])) := Ext.upd hp
  refine ⟨_, rfl, st, dx, _, rfl, e1 _ _ k1, st, dx, _, _, rfl, e1 _ _ k1, rfl, tp, rfl, ⟨_, SqT.ext k2 e1⟩, ?_⟩
  have hB := entB_ge n
  have hS := szB_le hn2
  have fzp : ∀ {Hx : Hp}, Sm [p] H Hx → Ext H Hx := fun s => (s.drop hp).ext
  refine for_it walk_tup (fun i σ Hx => (∃ e0, σ = [some (.ref st), some (.ref p), e0]) ∧ Sm [p] H Hx ∧ Hx p = some (.lst ((rowsL (es.take i)).map V.str)) ∧ (rowsL (es.take i)).length ≤ i * entB n)
    ⟨⟨none, rfl⟩, (Sm.refl _ _).new hp, by rw [upd_same]; rfl, by simp [rowsL]⟩ (fun i σ Hx _ hi => SqT.ext k2 (fzp hi.2.1)) (fun i v σ Hy Hx hi hp3 hy => ?_) fun σ Hx hp3 => ?_
  · obtain ⟨⟨e0, rfl⟩, sm, hb, hle⟩ := hp3
    obtain ⟨rfl, hvi⟩ := hy
    rw [List.length_map] at hi
    obtain ⟨e, he⟩ : ∃ e, es[i]? = some e := ⟨_, List.getElem?_eq_getElem (by omega)⟩
    obtain ⟨ae, hae, haet⟩ := (k3.fz (Fz.of (fzp sm))).get he
    simp only [List.getElem?_map, hae, Option.map_some, Option.some.injEq] at hvi
    subst hvi
    obtain ⟨cc, i1, i2, i3⟩ := haet.isi T
    have hemem := List.mem_of_getElem? he
    have hi12 : i ≤ 11 := by omega
    have hmul : i * entB n ≤ 11 * entB n := Nat.mul_le_mul_right _ hi12
    unfold szB at hS
    refine ⟨_, rfl, _, .ref (cStack K), _, _, _, rfl, .own _, i1, i2, _, rfl, ?_⟩
    have fin : ∀ (H5 : Hp) (zs : List Str), Ext Hx H5 → zs = rowsT e → zs.length ≤ entB n → ((rowsL (es.take i)).map V.str).length + (zs.map V.str).length ≤ 30000 ∧
        ((∃ e0, [some (V.ref st), some (.ref p), some (.ref ae)] = [some (.ref st), some (.ref p), e0]) ∧ Sm [p] H (upd H5 p (.lst ((rowsL (es.take i)).map V.str ++ zs.map V.str))) ∧
          upd H5 p (.lst ((rowsL (es.take i)).map V.str ++ zs.map V.str)) p = some (.lst ((rowsL (es.take (i + 1))).map V.str)) ∧ (rowsL (es.take (i + 1))).length ≤ (i + 1) * entB n) := fun H5 zs e5 ez hz => by
      subst ez
      refine ⟨?_, ⟨_, rfl⟩, (sm.trans (Sm.of e5)).upd (List.mem_singleton.mpr rfl), ?_, ?_⟩
      · rw [List.length_map, List.length_map]
        omega
      · rw [upd_same, rowsL_succ he, ← List.map_append]
      · rw [rowsL_succ he, List.length_append, Nat.add_mul]
        omega
    cases e with
    | st es' =>
      have hdm := dep_mem hemem
      have hdp := depL_pos es'
      simp only [Tr.dep] at hdm
      refine iteT ⟨_, rfl, .inl ⟨rfl, _, SqL.of hb⟩, _, rfl, ?_⟩
      refine hR _ _ _ _ ⟨ae, es', rfl, haet, by omega, fun H4 y e4 ny hy hly => ?_⟩ (by omega)
      have hentB : (rowsL es').length + 2 ≤ entB n := by
        cases n with
        | zero => omega
        | succ m =>
          simp only [entB]
          simp only [Nat.add_sub_cancel] at hly
          omega
      refine ⟨y, _, rfl, .inr (SqL.of hy), ?_, fun p5 n5 => ?_⟩
      · show ((rowsL es').map V.str ++ [V.str (Str.ofString "end")]).length + 1 ≤ sizeLine
        rw [List.length_append, List.length_map]
        exact Nat.le_trans (by simp only [List.length_cons, List.length_nil]; omega : _ ≤ 30000) (by decide)
      · have e5 := e4.upd' n5 (o := .lst (V.str (Str.ofString "begin") :: ((rowsL es').map V.str ++ [V.str (Str.ofString "end")])))
        obtain ⟨f1, f2⟩ := fin _ (rowsT (.st es')) e5 rfl (by simp only [rowsT, List.length_cons, List.length_append, List.length_nil]; omega)
        have er : (rowsT (.st es')).map V.str = V.str (Str.ofString "begin") :: ((rowsL es').map V.str ++ [V.str (Str.ofString "end")]) := by
          simp [rowsT]
        rw [er] at f1 f2
        exact ⟨p, p5, _, _, rfl, rfl, e5 _ _ hb, upd_same, Nat.le_trans f1 (by decide), f2⟩
    | rl m acts =>
      have hru := ruAt he hok.rus
      obtain ⟨dy, ty, r1, r2⟩ := id haet
      have hrl : (ctlW acts).length ≤ 28 := (ctlW_free (Bool.and_eq_true_iff.mp hru).2).2
      have hro := (rowW_ok hru).2
      refine iteF ⟨_, rfl, .inl ⟨rfl, _, SqL.of hb⟩, _, rfl, ae, (m, acts), rfl, haet, (Bool.and_eq_true_iff.mp hru).2, fun H4 e4 => ?_⟩
      have w8 : (letN m).length ≤ 8 := letN_len (Bool.and_eq_true_iff.mp hru).1
      have wl : m.length ≤ 8 := by
        have : (letN m).length = m.cps.size := by simp [letN]
        have e2 : m.length = m.cps.size := rfl
        omega
      have ee : ∀ a b : Str, (a ++ b).length = a.length + b.length := fun a b => by
        rw [TL.len_tl, TL.tl_append, List.length_append, ← TL.len_tl, ← TL.len_tl]
      have e0 : (Str.empty : Str).length = 0 := rfl
      have e1' : (Str.ofString " ").length = 1 := by decide +kernel
      have er : Str.empty ++ ctlW acts ++ Str.ofString " " ++ m = rowW (m, acts) := TL.ext_tl (by
        unfold rowW
        rw [TL.tl_append, TL.tl_append, TL.tl_append, TL.tl_append, TL.tl_append]
        rfl)
      refine .inl ⟨_, rfl, Nat.le_trans hrl (by decide), _, rfl, ?_, _, rfl, ?_, _, rfl, ae, dy, _, rfl, e4 _ _ r1, ae, (m, acts), rfl, RuAt.fz haet (Fz.of e4), .inl ⟨_, rfl, Nat.le_trans wl (by decide), _, rfl, ?_, ?_⟩⟩
      · show (Str.empty ++ ctlW acts).length ≤ sizeLine
        rw [ee, e0]
        exact Nat.le_trans (by omega : _ ≤ 100) (by decide)
      · show (Str.empty ++ ctlW acts ++ Str.ofString " ").length ≤ sizeLine
        rw [ee, ee, e0, e1']
        exact Nat.le_trans (by omega : _ ≤ 100) (by decide)
      · show (Str.empty ++ ctlW acts ++ Str.ofString " " ++ m).length ≤ sizeLine
        rw [ee, ee, ee, e0, e1']
        exact Nat.le_trans (by omega : _ ≤ 100) (by decide)
      · obtain ⟨f1, f2⟩ := fin H4 [rowW (m, acts)] e4 (by simp only [rowsT]) (by simp only [List.length_cons, List.length_nil]; omega)
        rw [← er] at f2
        refine ⟨p, _, _, rfl, rfl, e4 _ _ hb, ?_, f2⟩
        rw [List.length_map] at f1 ⊢
        exact Nat.lt_of_lt_of_le (by simp only [List.length_map, List.length_cons, List.length_nil] at f1; omega : _ < 30001) (by decide)
  · obtain ⟨⟨e0, rfl⟩, sm, hb, hle⟩ := hp3
    have hl2 : (as.map V.ref).length = es.length := by rw [List.length_map, hla]
    rw [hl2, List.take_length] at hb hle
    have hmul : es.length * entB n ≤ 12 * entB n := Nat.mul_le_mul_right _ h12
    exact ⟨_, rfl, q Hx p (fzp sm) hp hb (by omega)⟩
theorem ok_stack_rows (T : Txt w K mg) : ∀ n : Nat, n ≤ 2 → GF P w K mg base (4 + n) "stack_rows" (He.ga K "stack_rows") (spRows K n)
  | 0, h => key_rows T 0 3 (by decide) h ⟨fun _ _ _ _ => False, ⟨fun _ _ _ _ _ _ _ _ _ _ _ h => h.elim, by obtain ⟨fd, F⟩ := T.d_stack_rows; exact F.kp, T.g_stack_rows⟩, fun _ _ _ _ _ z => absurd z (Nat.lt_irrefl _)⟩
  | n + 1, h => key_rows T (n + 1) (4 + n) (by omega) h ⟨spRows K n, ok_stack_rows T n (by omega), fun _ _ _ _ h _ => h⟩
def spFmt (K : PySem.W.Frag) : Sp := fun vs H Q _ => ∃ (st : Addr) (es : List Tr), vs = [.ref st] ∧ AtT K H (.st es) st ∧ ∀ H', Ext H H' → (rowsL es).length ≤ 30000 → Q (.str (fmtS es)) H'
theorem sc_format_stack : FnScope ["stack"] ["stack"] (defScope s_format_stack) := ⟨rfl, rfl, rfl, by decide +kernel, rfl, by decide +kernel, by decide +kernel⟩
theorem ok_format_stack (T : Txt w K mg) : GF P w K mg base 7 "format_stack" (He.ga K "format_stack") (spFmt K) := by
  obtain ⟨fd, F⟩ := T.d_format_stack
  refine gf_of F T.g_format_stack (fnr F sc_format_stack (F.binds fun _ _ _ _ _ _ us hl => match us, hl with | [_], _ => rfl) (by rintro vs H Q E ⟨_, _, rfl, _⟩; rfl) fun cdv A outer s H vs Q E hr h => ?_)
  obtain ⟨st, es, rfl, hst, q⟩ := h
  refine ⟨_, (pss_one (ps_ret (pe_join pe_str (pcall (ok_stack_rows T 2 (by decide)) (hr.mono (by first | decide | omega)) (pa_cons (pv 0) pa_nil))))), ?_⟩
  have hok := hst.ok
  refine ⟨⟨_, rfl⟩, _, rfl, st, es, rfl, hst, hok.dep, fun H1 p e1 n1 h1 hl => ?_⟩
  have hz := szB_le (n := 2) (by decide)
  unfold szB at hz
  have hro := rows_sum (rowsL_ok hok.rus)
  refine ⟨_, p, rowsL es, rfl, rfl, .inl (SqL.of h1), ?_, q H1 e1 (by omega)⟩
  show _ + _ * 1 ≤ _
  omega
end
end Ls
set_option maxRecDepth 100000
set_option maxHeartbeats 4000000
/-! notation: read_action, read_control -/
namespace Ls
open PySem PySem.Spec PyProof.Rows L2
theorem dig_in {k : Nat} (h1 : 1 ≤ k) (h2 : k ≤ 9) : 48 + k ∈ (Str.ofString "123456789").cps.toList := by
  have e : (Str.ofString "123456789").cps.toList = (List.range 9).map (· + 49) := by decide +kernel
  rw [e, List.mem_map]
  exact ⟨k - 1, List.mem_range.mpr (by omega), by omega⟩
theorem dig_not_act {k : Nat} (h2 : k ≤ 9) : inV (.str ⟨#[48 + k]⟩) actV = false := by
  have h : ∀ j : Fin 10, inV (.str ⟨#[48 + j.val]⟩) actV = false := by decide +kernel
  exact h ⟨k, by omega⟩
theorem dig_int {k : Nat} (h2 : k ≤ 9) : PySem.intText? ⟨#[48 + k]⟩ = some (k : Int) := by
  have h : ∀ j : Fin 10, PySem.intText? ⟨#[48 + j.val]⟩ = some (j.val : Int) := by decide +kernel
  exact h ⟨k, by omega⟩
theorem none_acts {as : List V} (h : as.all isActB = true) : inV .non as = false := by
  unfold inV
  rw [List.any_eq_false]
  intro y hy
  have := List.all_eq_true.mp h y hy
  cases y with
  | non => cases this
  | _ => simp [eqV]
theorem acts_flat {as : List V} (h : as.all isActB = true) : as.all flatV = true := by
  rw [List.all_eq_true]
  intro y hy
  have := List.all_eq_true.mp h y hy
  cases y with
  | str z => rfl
  | int n => rfl
  | _ => cases this
section
variable {P : Program} {w : World} {K : PySem.W.Frag} {mg : Str → Option Value} {base : Heap}
def spRdAct : Sp := fun vs H Q _ => ∃ x : V, vs = [.str (actW x)] ∧ isActB x = true ∧ Q x H
theorem sc_read_action : FnScope ["word"] ["word"] (defScope s_read_action) := ⟨rfl, rfl, rfl, by decide +kernel, rfl, by decide +kernel, by decide +kernel⟩
theorem ok_read_action (T : Txt w K mg) : GF P w K mg base 1 "read_action" (He.ga K "read_action") spRdAct := by
  obtain ⟨fd, F⟩ := T.d_read_action
  refine gf_of F T.g_read_action (fnr F sc_read_action (F.binds fun _ _ _ _ _ _ us hl => match us, hl with | [_], _ => rfl) (by rintro vs H Q E ⟨_, rfl, _⟩; rfl) fun cdv A outer s H vs Q E hr h => ?_)
  obtain ⟨x, rfl, hx, q⟩ := h
  refine ⟨_, (pss_cons (ps_if (pt_cmpR op_in_seq (pv 0) (pgr T.g_ACTIONS) (by rfl)) (pss_one (ps_ret (pv 0))) pss_nil)
    (pss_one (ps_ret (pe_ifExp (PW.pt (pw_and (pt_cmpR op_eq (pcb call_len_str T.f_len (pa_cons (pv 0) pa_nil)) pe_int (nomark _)) (pw_and1 (pt_cmpR op_in_sign (pv 0) (pgs "123456789" T.t_JUMPS) (by rfl))))) (pct call_int_str T.f_int (pa_cons (pv 0) pa_nil)) pe_non)))), ?_⟩
  rcases act_cases hx with e | ⟨n, rfl, h1, h2⟩
  · obtain ⟨a1, z, rfl⟩ := act_in e
    refine ⟨_, rfl, _, _, rfl, .inr (T.actions H), rfl, by decide +kernel, true, ?_, iteT ⟨_, rfl, q⟩⟩
    show V.bl (inV (.str z) actV) = V.bl true
    rw [a1]
  · have e : actW (.int n) = ⟨#[48 + n.toNat]⟩ := dig_str h1 h2
    rw [e]
    refine ⟨_, rfl, _, _, rfl, .inr (T.actions H), rfl, by decide +kernel, false, ?_, iteF ?_⟩
    · show V.bl (inV (.str ⟨#[48 + n.toNat]⟩) actV) = V.bl false
      rw [dig_not_act (by omega)]
    · refine ⟨_, rfl, _, rfl, by show 1 ≤ sizeLine; decide, rfl, true, rfl, iteT ?_⟩
      refine ⟨_, rfl, _, _, rfl, rfl, true, blT (dig_in (by omega) (by omega)), iteT ?_⟩
      refine ⟨_, rfl, _, n, rfl, ?_, by show 1 ≤ 640; decide, q⟩
      rw [dig_int (by omega)]
      congr 1
      omega
theorem comma_not_kind {parts : List Str} (h : 2 ≤ parts.length) : lk (kindKV K) (Txt.join (Str.ofString ",") parts) = none := by
  have hm : 44 ∈ TL.tl (Txt.join (Str.ofString ",") parts) := by
    rw [TL.join_eq, TL.tl_join, tl_comma]
    match parts, h with
    | a :: b :: r, _ =>
      simp only [List.map_cons, TL.joinL]
      simp
  have hn : ∀ p ∈ kindTab, p.1 ≠ Txt.join (Str.ofString ",") parts := fun p hp z => by
    rw [← z] at hm
    have := (kindTab_name hp).1 44 hm
    omega
  have e : ∀ v, lk (kindKV K) v = (((kindTab.map (·.1)).zip ((kindKV K).map (·.2))).find? fun p => decide (p.1 = v)).map (·.2) := fun v => rfl
  unfold lk
  rw [List.find?_eq_none.mpr]
  · rfl
  · intro p hp
    have : p.1 ∈ kindTab.map (·.1) := by
      have h2 : (kindKV K).map (·.1) = kindTab.map (·.1) := rfl
      rw [← h2]
      exact List.mem_map_of_mem hp
    obtain ⟨p', hp', e'⟩ := List.mem_map.mp this
    have := hn p' hp'
    rw [e'] at this
    simpa using this
def spRdCtl (K : PySem.W.Frag) : Sp := fun vs H Q _ => ∃ acts : List V, vs = [.str (ctlW acts)] ∧ actsOk acts = true ∧ ∀ H' c a, Ext H H' → Ctl K H' c a acts → c ≠ .non → Q c H'
theorem sc_read_control : FnScope ["word", "actions", "part"] ["word"] (defScope s_read_control) := ⟨rfl, rfl, rfl, by decide +kernel, rfl, by decide +kernel, by decide +kernel⟩
theorem ok_read_control (T : Txt w K mg) : GF P w K mg base 3 "read_control" (He.ga K "read_control") (spRdCtl K) := by
  obtain ⟨fd, F⟩ := T.d_read_control
  refine gf_of F T.g_read_control (fnr F sc_read_control (F.binds fun _ _ _ _ _ _ us hl => match us, hl with | [_], _ => rfl) (by rintro vs H Q E ⟨_, rfl, _⟩; rfl) fun cdv A outer s H vs Q E hr h => ?_)
  obtain ⟨acts, rfl, ha, q⟩ := h
  refine ⟨_, (pss_cons (ps_if (pt_cmpR (op_inKD T.kinds) (pv 0) (pgr T.g_KINDS) (by rfl)) (pss_one (ps_ret (pv 0))) pss_nil)
    (pss_cons (ps_set (i := 1) sc_read_control.nd rfl (.inl rfl) (pct call_tuple_of T.f_tuple (pa_cons (pe_lc (own := [("part", 2)]) (g := gName 2) (tt := tYes) (te := tC0 spRdAct (tCons (tVar 2) tNil)) rfl sc_read_control.nd (pi_list (pe_split (pv 0) pe_str)) (blkOk_by (own := [("part", 2)]) (N := ["word", "actions", "part"]) (sc := defScope s_read_control) (by decide +kernel)) (fun _ _ _ _ _ => pg_name (i := 2) sc_read_control.nd rfl (Or.inl rfl)) (fun _ _ _ _ _ => pts_nil) (fun _ _ _ _ _ => (pcall (ok_read_action T) (hr.mono (by first | decide | omega)) (pa_cons (pv 2) pa_nil)))) pa_nil)))
    (pss_cons (ps_if (PW.pt (pw_or (pt_cmpR op_ne (pcb call_len_seq T.f_len (pa_cons (pv 1) pa_nil)) (pcb call_len_seq T.f_len (pa_cons (pgr T.g_RESULTS) pa_nil)) (nomark _)) (pw_or (pt_cmpR op_in_seq pe_non (pv 1) (by rfl)) (pw_or1 (pt_cmpR (op_inVals T.kinds rfl (Room.u70 hr)) (pv 1) (pe_valsKD T.kinds (pgr T.g_KINDS)) (by rfl)))))) (pss_one (ps_ret pe_non)) pss_nil)
    (pss_one (ps_ret (pv 1)))))), ?_⟩
  cases hk : kindOf acts with
  | some k =>
    obtain ⟨i, p, h1, h2, rfl⟩ := kind_name hk
    have hw : ctlW acts = p.1 := by unfold ctlW; rw [hk]
    rw [hw]
    refine ⟨_, rfl, _, rfl, rfl, true, ?_, iteT ⟨_, rfl, q H _ (kindA K i) Ext.rfl' (.inl ⟨i, p, h1, rfl, h2, rfl⟩) (fun z => nomatch z)⟩⟩
    rw [kind_lk K h1]
    rfl
  | none =>
    have hw : ctlW acts = Txt.join (Str.ofString ",") (acts.map actW) := by unfold ctlW; rw [hk]
    obtain ⟨a1, a2⟩ := Bool.and_eq_true_iff.mp ha
    have a4 : acts.length = 4 := by simpa using a1
    have k5 : ∀ p ∈ kindTab, p.2 ≠ acts := by
      rcases kind_cases acts with ⟨i, p, _, _, h3, _⟩ | ⟨_, _, h⟩
      · unfold kindV at h3
        rw [hk] at h3
        cases h3
      · exact h
    have hlen := (ctlW_free ha).2
    have hsp : Txt.split (ctlW acts) (Str.ofString ",") = acts.map actW := by
      rw [hw]
      refine TL.split_join tl_comma (by decide +kernel) (by intro z; have := congrArg List.length z; rw [List.length_map, a4] at this; cases this) fun y hy => ?_
      obtain ⟨x, hx, rfl⟩ := List.mem_map.mp hy
      intro z
      have := (actW_free (List.all_eq_true.mp a2 x hx)).1 44 z
      omega
    refine ⟨_, rfl, _, rfl, rfl, false, ?_, iteF ?_⟩
    · rw [hw, comma_not_kind (by rw [List.length_map, a4]; decide)]
      rfl
    refine ⟨_, rfl, ⟨_, rfl⟩, _, _, rfl, rfl, by decide +kernel, Nat.le_trans (by omega : _ ≤ 100) (by decide), fun p hp => ?_⟩
    rw [hsp]
    have e1 : Ext H (upd H p (.lst ((acts.map actW).map V.str))) := Ext.upd hp
    have s1 : upd H p (.lst ((acts.map actW).map V.str)) p = some (.lst ((acts.map actW).map V.str)) := upd_same
    generalize upd H p (.lst ((acts.map actW).map V.str)) = H1 at e1 s1 ⊢
    refine ⟨p, rfl, ⟨_, SqL.of s1⟩, fun D hD => ?_⟩
    refine lc_it walk_list (fun j H' => Ext H1 H' ∧ H' D = some (.lst (acts.take j))) ⟨Ext.upd hD, upd_same⟩ (fun j H' _ hj => SqL.of (hj.1 _ _ s1)) (fun j v Ha Hb hj hv hy2 => ?_) fun H7 hv => ?_
    · obtain ⟨e7, hD7⟩ := hv
      obtain ⟨rfl, hvj⟩ := hy2
      rw [List.length_map, List.length_map, a4] at hj
      obtain ⟨act, hact⟩ : ∃ a, acts[j]? = some a := ⟨_, List.getElem?_eq_getElem (by omega)⟩
      have hact2 : ((acts.map actW).map V.str)[j]? = some (.str (actW act)) := by rw [List.getElem?_map, List.getElem?_map, hact]; rfl
      rw [hact2] at hvj
      cases hvj
      have hia := List.all_eq_true.mp a2 act (List.mem_of_getElem? hact)
      refine ⟨rfl, _, rfl, act, rfl, hia, _, hD7, ?_, e7.updD hD, ?_⟩
      · rw [List.length_take]
        exact Nat.lt_of_lt_of_le (by omega : min j acts.length < 50) (by decide)
      · rw [upd_same, take_succ hact]
    · obtain ⟨e7, hD7⟩ := hv
      rw [List.length_map, List.length_map, List.take_length] at hD7
      refine ⟨D, acts, rfl, .inl ⟨SqL.of hD7, fun l hl7 => ?_⟩⟩
      have e8 : Ext H7 (upd H7 l (.tup acts)) := Ext.upd hl7
      have t8 : upd H7 l (.tup acts) l = some (.tup acts) := upd_same
      generalize upd H7 l (.tup acts) = H8 at e8 t8 ⊢
      have s8 : SqT K H8 l acts := .inl (.inl t8)
      refine ⟨_, rfl, l, _, rfl, .inr s8, _, _, rfl, .inr (T.results _), rfl, false, ?_, iteF ?_⟩
      · rw [a4]
        rfl
      refine ⟨_, rfl, l, _, rfl, .inr s8, rfl, acts_flat a2, false, ?_, iteF ?_⟩
      · show V.bl (inV .non acts) = V.bl false
        rw [none_acts a2]
      refine ⟨_, rfl, rfl, fun v hv => ?_⟩
      have e9 : Ext H8 (upd H8 v (ValsO v (He.ga K "KINDS"))) := Ext.upd hv
      refine ⟨v, l, acts, kindTab.map (·.2), rfl, rfl, upd_same, .inl (.inl (e9 _ _ t8)), acts_atom ha, rfl, ?_, ?_⟩
      · intro jj kk u hk
        match jj, hk with
        | 0, hk => cases hk; exact ⟨_, _, rfl, rfl, T.kindsT 0 _ rfl _, by decide +kernel⟩
        | 1, hk => cases hk; exact ⟨_, _, rfl, rfl, T.kindsT 1 _ rfl _, by decide +kernel⟩
        | 2, hk => cases hk; exact ⟨_, _, rfl, rfl, T.kindsT 2 _ rfl _, by decide +kernel⟩
        | 3, hk => cases hk; exact ⟨_, _, rfl, rfl, T.kindsT 3 _ rfl _, by decide +kernel⟩
      · have ef : ((kindTab.map (·.2)).any fun ys => decide (ys = acts)) = false := by
          rw [List.any_eq_false]
          intro ys hys
          obtain ⟨pp, hpp, rfl⟩ := List.mem_map.mp hys
          simpa using k5 pp hpp
        rw [ef]
        exact ⟨false, rfl, iteF ⟨_, rfl, q _ _ l (((e1.trans e7).trans e8).trans e9) (.inr ⟨rfl, .inl (.inl (e9 _ _ t8)), ha⟩) (fun z => nomatch z)⟩⟩
end
end Ls
set_option maxRecDepth 100000
set_option maxHeartbeats 4000000
/-! notation: Rows, read_rule -/
namespace Ls
open PySem PySem.Spec PyProof.Rows L2
theorem split_row {r : Ru} (h : ruOk r = true) : Txt.split (rowW r) (Str.ofString " ") = [ctlW r.2, r.1] := by
  obtain ⟨hw, ha⟩ := Bool.and_eq_true_iff.mp h
  have e : rowW r = Txt.join (Str.ofString " ") [ctlW r.2, r.1] := by
    rw [TL.join_eq]
    rfl
  rw [e]
  refine TL.split_join tl_sp (by decide +kernel) (by simp) fun y hy => ?_
  simp only [List.mem_cons, List.not_mem_nil, or_false] at hy
  intro z
  rcases hy with e' | e'
  · rw [e'] at z
    have := (ctlW_free ha).1 32 z
    omega
  · rw [e'] at z
    unfold wordOk at hw
    simp only [Bool.and_eq_true, decide_eq_true_eq] at hw
    have := List.all_eq_true.mp hw.2 32 z
    simp only [Bool.and_eq_true, decide_eq_true_eq] at this
    omega
theorem split_begin : Txt.split (Str.ofString "begin") (Str.ofString " ") = [Str.ofString "begin"] := by
  have := TL.split_join (y := Str.ofString " ") tl_sp (by decide +kernel) (parts := [Str.ofString "begin"]) (by simp) (fun p hp => by
    rw [List.mem_singleton.mp hp]
    decide +kernel)
  rw [TL.join_eq] at this
  exact this
theorem split_end : Txt.split (Str.ofString "end") (Str.ofString " ") = [Str.ofString "end"] := by
  have := TL.split_join (y := Str.ofString " ") tl_sp (by decide +kernel) (parts := [Str.ofString "end"]) (by simp) (fun p hp => by
    rw [List.mem_singleton.mp hp]
    decide +kernel)
  rw [TL.join_eq] at this
  exact this
section
variable {P : Program} {w : World} {K : PySem.W.Frag} {mg : Str → Option Value} {base : Heap}
/-- the rows ls, which stand at p, read up to n -/
def RwAt (K : PySem.W.Frag) (H : Hp) (x dx p : Addr) (ls : List Str) (n : Nat) : Prop := H x = some (.ins (cRows K) dx [("lines", .ref p), ("number", .int (n : Nat))]) ∧ SqL K H p (ls.map V.str) ∧ ls.length ≤ 30000 ∧ ∀ z ∈ ls, RowOk z
theorem imm_rw {C dx : Addr} {x y : V} : Imm (.ins C dx [("lines", x), ("number", y)]) = false := by
  simp only [Imm, List.map_cons, List.map_nil]
  decide
theorem RwAt.fz {H H' : Hp} {x dx p : Addr} {ls : List Str} {n : Nat} (h : RwAt K H x dx p ls n) (s : Sm [x] H H') : Fz H H' := s.fz fun b hb o e => by
  rw [List.mem_singleton.mp hb, h.1] at e
  cases e
  exact imm_rw
theorem RwAt.ext {H H' : Hp} {x dx p : Addr} {ls : List Str} {n : Nat} (h : RwAt K H x dx p ls n) (e : Ext H H') : RwAt K H' x dx p ls n := ⟨e _ _ h.1, SqL.ext h.2.1 e, h.2.2⟩
def spRwI (K : PySem.W.Frag) : Sp := fun vs H Q _ => ∃ (x dx : Addr) (ls : List Str), vs = [.ref x, .str (Txt.join (Str.ofString "\n") ls)] ∧ H x = some (.ins (cRows K) dx []) ∧ ls ≠ [] ∧ ls.length ≤ 30000 ∧ (∀ z ∈ ls, RowOk z) ∧ ∀ H' p, Sm [x] H H' → RwAt K H' x dx p ls 0 → Q .non H'
theorem sc_Rows_init : FnScope ["self", "text"] ["self", "text"] (defScope s_Rows_init) := ⟨rfl, rfl, rfl, by decide +kernel, rfl, by decide +kernel, by decide +kernel⟩
theorem ok_Rows (T : Txt w K mg) : CF P w K mg base 1 "Rows" (cRows K) (a_Rows_init K) (spRwI K) := by
  obtain ⟨fd, F⟩ := T.d_Rows_init
  refine ⟨fnr F sc_Rows_init (F.binds fun _ _ _ _ _ _ us hl => match us, hl with | [_, _], _ => rfl) (by rintro vs H Q E ⟨_, _, _, rfl, _⟩; rfl) fun cdv A outer s H vs Q E hr h => ?_, T.mk_Rows, T.g_Rows⟩
  obtain ⟨x, dx, ls, rfl, hx, hne, hl, hok, q⟩ := h
  refine ⟨_, (pss_cons (ps_fld (pv 0) (pe_split (pv 1) pe_str) rfl)
    (pss_one (ps_fld (pv 0) pe_int rfl))), ?_⟩
  have hjl := join_len (S := Str.ofString "\n") (by decide +kernel) hok
  have hsp : Txt.split (Txt.join (Str.ofString "\n") ls) (Str.ofString "\n") = ls := TL.split_join tl_nl (by decide +kernel) hne fun y hy z => by
    have := (hok y hy).1 10 z
    omega
  refine ⟨_, rfl, ⟨_, rfl⟩, _, _, rfl, rfl, by decide +kernel, Nat.le_trans (by omega : _ ≤ 2000000) (by decide), fun p hp => ?_⟩
  rw [hsp]
  have e1 : Ext H (upd H p (.lst (ls.map V.str))) := Ext.upd hp
  have s1 : SqL K (upd H p (.lst (ls.map V.str))) p (ls.map V.str) := SqL.of upd_same
  generalize upd H p (.lst (ls.map V.str)) = H1 at e1 s1 ⊢
  have hx1 := e1 _ _ hx
  refine ⟨_, rfl, x, cRows K, dx, _, rfl, hx1, T.c_Rows, T.n_Rows_lines, by simp, ?_⟩
  refine ⟨_, rfl, x, cRows K, dx, _, rfl, upd_same, T.c_Rows, T.n_Rows_number, (show 1 < 1000 by decide), ?_⟩
  have sm : Sm [x] H1 (upd (upd H1 x (.ins (cRows K) dx (putF "lines" (.ref p) []))) x (.ins (cRows K) dx (putF "number" (.int 0) [("lines", .ref p)]))) := ((Sm.refl _ _).upd (List.mem_singleton.mpr rfl)).upd (List.mem_singleton.mpr rfl)
  exact q _ p ((Sm.of e1).trans sm) ⟨upd_same, SqL.sm1 hx1 sm s1, hl, hok⟩
def spNext (K : PySem.W.Frag) : Sp := fun vs H Q _ => ∃ (x dx p : Addr) (ls : List Str) (n : Nat), vs = [.ref x] ∧ RwAt K H x dx p ls n ∧ ((n = ls.length ∧ Q .non H) ∨ ∃ z, ls[n]? = some z ∧
  ∀ H' q, Sm [x] H H' → RwAt K H' x dx p ls (n + 1) → H q = none → H' q = some (.lst ((Txt.split z (Str.ofString " ")).map V.str)) → Q (.ref q) H')
theorem sc_Rows_next_words : FnScope ["self"] ["self"] (defScope s_Rows_next_words) := ⟨rfl, rfl, rfl, by decide +kernel, rfl, by decide +kernel, by decide +kernel⟩
theorem ok_Rows_next (T : Txt w K mg) : MF P w K mg base 1 (cRows K) "next_words" (a_Rows_next_words K) (spNext K) := by
  obtain ⟨fd, F⟩ := T.d_Rows_next_words
  refine ⟨fnr F sc_Rows_next_words (F.binds fun _ _ _ _ _ _ us hl => match us, hl with | [_], _ => rfl) (by rintro vs H Q E ⟨_, _, _, _, _, rfl, _⟩; rfl) fun cdv A outer s H vs Q E hr h => ?_, T.m_Rows_next_words, T.c_Rows⟩
  obtain ⟨x, dx, p, ls, n, rfl, hR, h⟩ := h
  refine ⟨_, (pss_cons (ps_if (pt_cmpR op_eq (pe_fld (pv 0) rfl) (pcb call_len_seq T.f_len (pa_cons (pe_fld (pv 0) rfl) pa_nil)) (nomark _)) (pss_one (ps_ret pe_non)) pss_nil)
    (pss_cons (ps_fldaug (pv 0) pe_int in_add)
    (pss_one (ps_ret (pe_split (pe_ix ix_list (pe_fld (pv 0) rfl) (pe_op op_sub (pe_fld (pv 0) rfl) pe_int) (fun _ _ => rfl)) pe_str))))), ?_⟩
  obtain ⟨hx, hp, hl, hok⟩ := id hR
  refine ⟨_, rfl, x, cRows K, dx, _, _, rfl, hx, T.c_Rows, T.n_Rows_number, rfl, _, rfl, x, cRows K, dx, _, _, rfl, hx, T.c_Rows, T.n_Rows_lines, rfl, p, _, rfl, .inl hp, rfl, ?_⟩
  rcases h with ⟨hn, q⟩ | ⟨z, hz, q⟩
  · refine ⟨true, ?_, iteT q⟩
    rw [List.length_map]
    exact blT (by rw [hn])
  · have hlt : n < ls.length := (List.getElem?_eq_some_iff.mp hz).1
    refine ⟨false, ?_, iteF ?_⟩
    · rw [List.length_map]
      exact blF (by intro c; have := V.int.inj c; omega)
    refine ⟨_, rfl, x, cRows K, dx, _, _, rfl, hx, T.c_Rows, T.n_Rows_number, rfl, _, _, rfl, rfl, dx, _, hx, (show 2 < 1000 by decide), ?_⟩
    generalize hH1 : upd H x (.ins (cRows K) dx (putF "number" (.int ((n : Nat) + 1)) [("lines", .ref p), ("number", .int (n : Nat))])) = H1
    have sm : Sm [x] H H1 := by rw [← hH1]; exact (Sm.refl _ _).upd (List.mem_singleton.mpr rfl)
    have hx1 : H1 x = some (.ins (cRows K) dx [("lines", .ref p), ("number", .int ((n : Nat) + 1))]) := by rw [← hH1]; exact upd_same
    have hp1 := SqL.sm1 hx sm hp
    have hv' : (ls.map V.str)[n]? = some (.str z) := by rw [List.getElem?_map, hz]; rfl
    have e : (((n : Nat) : Int) + 1 - 1) = ((n : Nat) : Int) := by omega
    have hzo := hok z (List.mem_of_getElem? hz)
    refine ⟨_, rfl, x, cRows K, dx, _, _, rfl, hx1, T.c_Rows, T.n_Rows_lines, rfl, _, rfl, x, cRows K, dx, _, _, rfl, hx1, T.c_Rows, T.n_Rows_number, rfl, _, _, rfl, rfl, p, _, _, _, rfl, rfl, hp1, by rw [e]; exact atI_nat hv', ⟨_, rfl⟩, _, _, rfl, rfl, by decide +kernel, Nat.le_trans (by have := hzo.2; omega : _ ≤ 100) (by decide), fun q1 n1 => ?_⟩
    have e1 : Ext H1 (upd H1 q1 (.lst ((Txt.split z (Str.ofString " ")).map V.str))) := Ext.upd n1
    refine q _ q1 (sm.trans (Sm.of e1)) ⟨e1 _ _ hx1, SqL.ext hp1 e1, hl, hok⟩ ?_ upd_same
    cases hq : H q1 with
    | none => rfl
    | some o =>
      by_cases c : q1 = x
      · rw [c, hx1] at n1
        cases n1
      · rw [sm _ _ hq (by simpa using c)] at n1
        cases n1
def spSize (K : PySem.W.Frag) : Sp := fun vs H Q _ => ∃ (x q : Addr) (zs : List V) (n : Nat), vs = [.ref x, .ref q, .int (n : Nat)] ∧ SqL K H q zs ∧ zs.length = n ∧ Q .non H
theorem sc_Rows_need_size : FnScope ["self", "words", "size"] ["self", "words", "size"] (defScope s_Rows_need_size) := ⟨rfl, rfl, rfl, by decide +kernel, rfl, by decide +kernel, by decide +kernel⟩
theorem ok_Rows_size (T : Txt w K mg) : MF P w K mg base 1 (cRows K) "need_size" (a_Rows_need_size K) (spSize K) := by
  obtain ⟨fd, F⟩ := T.d_Rows_need_size
  refine ⟨fnr F sc_Rows_need_size (F.binds fun _ _ _ _ _ _ us hl => match us, hl with | [_, _, _], _ => rfl) (by rintro vs H Q E ⟨_, _, _, _, rfl, _⟩; rfl) fun cdv A outer s H vs Q E hr h => ?_, T.m_Rows_need_size, T.c_Rows⟩
  obtain ⟨x, q1, zs, n, rfl, hq, hn, q⟩ := h
  refine ⟨_, (pss_one (ps_if (pt_cmpR op_ne (pcb call_len_seq T.f_len (pa_cons (pv 1) pa_nil)) (pv 2) (nomark _)) (pss_one ps_never) pss_nil)), ?_⟩
  refine ⟨_, rfl, q1, _, rfl, .inl hq, _, rfl, rfl, false, ?_, iteF q⟩
  rw [hn]
  show V.bl (!decide (V.int (n : Nat) = V.int (n : Nat))) = V.bl false
  rw [decide_eq_true rfl]
  rfl
/-! read_rule -/
def spRdRow (K : PySem.W.Frag) : Sp := fun vs H Q _ => ∃ (x dx p q1 : Addr) (ls : List Str) (n : Nat) (r : Ru), vs = [.ref x, .ref q1] ∧ RwAt K H x dx p ls n ∧ H q1 = some (.lst [.str (ctlW r.2), .str r.1]) ∧ ruOk r = true ∧ ∀ H' y, Ext H H' → RuAt K H' r y → Q (.ref y) H'
theorem sc_read_rule : FnScope ["rows", "words", "control"] ["rows", "words"] (defScope s_read_rule) := ⟨rfl, rfl, rfl, by decide +kernel, rfl, by decide +kernel, by decide +kernel⟩
theorem ok_read_rule (T : Txt w K mg) : GF P w K mg base 6 "read_rule" (He.ga K "read_rule") (spRdRow K) := by
  obtain ⟨fd, F⟩ := T.d_read_rule
  refine gf_of F T.g_read_rule (fnr F sc_read_rule (F.binds fun _ _ _ _ _ _ us hl => match us, hl with | [_, _], _ => rfl) (by rintro vs H Q E ⟨_, _, _, _, _, _, _, rfl, _⟩; rfl) fun cdv A outer s H vs Q E hr h => ?_)
  obtain ⟨x, dx, p, q1, ls, n, r, rfl, hR, hq1, hok, q⟩ := h
  refine ⟨_, (pss_cons (ps_set (i := 2) sc_read_rule.nd rfl (.inl rfl) (pcall (ok_read_control T) (hr.mono (by first | decide | omega)) (pa_cons (pe_ix ix_list (pv 1) pe_int (fun _ _ => rfl)) pa_nil)))
    (pss_cons (ps_if (pt_cmpR op_isN (pv 2) pe_non (nomark _)) (pss_one ps_never) pss_nil)
    (pss_cons (ps_if (PW.pt (pw_and (pt_cmpR op_gt (pcb call_len_seq T.f_len (pa_cons (pv 1) pa_nil)) pe_int (nomark _)) (pw_and1 (pt_not (pt_val (pcall (ok_is_word T) (hr.mono (by first | decide | omega)) (pa_cons (pe_ix ix_list (pv 1) pe_int (fun _ _ => rfl)) pa_nil))))))) (pss_one ps_never) pss_nil)
    (pss_cons (ps_expr (pmeth (pv 0) (ok_Rows_size T) (hr.mono (by first | decide | omega)) (pa_cons (pv 1) (pa_cons pe_int pa_nil))))
    (pss_one (ps_ret (pmake (ok_Rule T) (hr.mono (by first | decide | omega)) (pa_cons (pe_ix ix_list (pv 1) pe_int (fun _ _ => rfl)) (pa_cons (pv 2) pa_nil))))))))), ?_⟩
  obtain ⟨hw, ha⟩ := Bool.and_eq_true_iff.mp hok
  have a0 : atI [V.str (ctlW r.2), .str r.1] 0 = some (.str (ctlW r.2)) := atI_nat (j := 0) rfl
  have a1 : atI [V.str (ctlW r.2), .str r.1] 1 = some (.str r.1) := atI_nat (j := 1) rfl
  refine ⟨_, rfl, q1, _, 0, _, rfl, rfl, SqL.of hq1, a0, r.2, rfl, ha, fun H1 c a e1 hc hcn => ?_⟩
  have hq2 := e1 _ _ hq1
  have hR1 := hR.ext e1
  refine ⟨_, rfl, rfl, false, ?_, iteF ?_⟩
  · exact blF hcn
  refine ⟨_, rfl, q1, _, rfl, .inl (SqL.of hq2), _, _, rfl, rfl, true, rfl, iteT ?_⟩
  refine ⟨_, rfl, q1, _, 1, _, rfl, rfl, SqL.of hq2, a1, r.1, rfl, hw, fun H2 e2 => ⟨true, rfl, iteF ?_⟩⟩
  have hq3 := e2 _ _ hq2
  refine ⟨_, rfl, x, dx, _, rfl, e2 _ _ hR1.1, rfl, _, rfl, x, q1, _, 2, rfl, SqL.of hq3, rfl, ?_⟩
  refine ⟨_, rfl, q1, _, 1, _, rfl, rfl, SqL.of hq3, a1, _, rfl, fun x1 dx1 n1 n2 n3 => mkRu' T hw (hc.fz (Fz.of e2)) n1 n2 n3 fun H4 e4 hy => ⟨rfl, q H4 x1 ((e1.trans e2).trans e4) hy⟩⟩
end
end Ls
set_option maxRecDepth 100000
set_option maxHeartbeats 4000000
/-! notation: read_parts -/
namespace Ls
open PySem PySem.Spec PyProof.Rows L2
def SubS (ls : List Str) (off : Nat) (zs : List Str) : Prop := ∀ (i : Nat) (v : Str), zs[i]? = some v → ls[off + i]? = some v
theorem SubS.hd {ns : List Str} {off : Nat} {z : Str} {zs : List Str} (h : SubS ns off (z :: zs)) : ns[off]? = some z := h 0 z rfl
theorem SubS.tl {ns : List Str} {off : Nat} {z : Str} {zs : List Str} (h : SubS ns off (z :: zs)) : SubS ns (off + 1) zs := fun i v e => by
  have := h (i + 1) v (by simpa using e)
  rw [show off + 1 + i = off + (i + 1) by omega]
  exact this
theorem SubS.left {ns : List Str} {off : Nat} {a b : List Str} (h : SubS ns off (a ++ b)) : SubS ns off a := fun i v e => h i v (by
  rw [List.getElem?_append_left (List.getElem?_eq_some_iff.mp e).1]
  exact e)
theorem SubS.right {ns : List Str} {off : Nat} {a b : List Str} (h : SubS ns off (a ++ b)) : SubS ns (off + a.length) b := fun i v e => by
  have := h (a.length + i) v (by rw [List.getElem?_append_right (by omega)]; simpa using e)
  rw [show off + a.length + i = off + (a.length + i) by omega]
  exact this
theorem SubS.at_ {ns : List Str} {off : Nat} {es : List Tr} {i : Nat} {e : Tr} (h : SubS ns off (rowsL es)) (g : es[i]? = some e) : SubS ns (off + (rowsL (es.take i)).length) (rowsT e) := by
  have e1 : rowsL es = rowsL (es.take (i + 1)) ++ rowsL (es.drop (i + 1)) := by rw [← rowsL_append, List.take_append_drop]
  rw [e1, rowsL_succ g, List.append_assoc] at h
  exact h.right.left
theorem rows_le {es : List Tr} (i : Nat) : (rowsL (es.take i)).length ≤ (rowsL es).length := by
  have e1 : rowsL es = rowsL (es.take i) ++ rowsL (es.drop i) := by rw [← rowsL_append, List.take_append_drop]
  rw [e1, List.length_append]
  omega
theorem ctl_ne {acts : List V} (ha : actsOk acts = true) : ctlW acts ≠ Str.ofString "begin" ∧ ctlW acts ≠ Str.ofString "end" := by
  unfold ctlW
  cases hk : kindOf acts with
  | some k =>
    obtain ⟨i, p, h1, h2, rfl⟩ := kind_name hk
    have hm := List.mem_of_getElem? h1
    show p.1 ≠ Str.ofString "begin" ∧ p.1 ≠ Str.ofString "end"
    simp only [kindTab, List.mem_cons, List.not_mem_nil, or_false] at hm
    rcases hm with e | e | e | e <;> subst e <;> decide +kernel
  | none =>
    have a4 : acts.length = 4 := by
      have := (Bool.and_eq_true_iff.mp ha).1
      simpa using this
    have hm : 44 ∈ TL.tl (Txt.join (Str.ofString ",") (acts.map actW)) := by
      rw [TL.join_eq, TL.tl_join, tl_comma]
      match acts, a4 with
      | [a, b, c, d], _ =>
        simp only [List.map_cons, TL.joinL]
        simp
    refine ⟨fun z => ?_, fun z => ?_⟩
    · rw [show Txt.join (Str.ofString ",") (acts.map actW) = _ from z] at hm
      revert hm
      decide +kernel
    · rw [show Txt.join (Str.ofString ",") (acts.map actW) = _ from z] at hm
      revert hm
      decide +kernel
section
variable {P : Program} {w : World} {K : PySem.W.Frag} {mg : Str → Option Value} {base : Heap}
def exS (b : Bool) : List Str := if b = true then [Str.ofString "end"] else []
def spRdP (K : PySem.W.Frag) (n : Nat) : Sp := fun vs H Q _ => ∃ (x dx p h : Addr) (ls : List Str) (o : Nat) (es : List Tr) (inner : Bool), vs = [.ref x, .ref h, .bl inner] ∧ RwAt K H x dx p ls o ∧ SqT K H h [] ∧ depL es ≤ n + 1 ∧ Stood K es ∧
  SubS ls o (rowsL es ++ exS inner) ∧ o + (rowsL es ++ exS inner).length ≤ ls.length ∧ (inner = false → o + (rowsL es).length = ls.length) ∧
  ∀ H' t l e, Sm [x] H H' → RwAt K H' x dx p ls (o + (rowsL es ++ exS inner).length) → SqT K H' t [.ref l, e] → PtT K H' (fun b => H b = none) (.st es) (.ref l) → Q (.ref t) H'
/-- what next_words gives at pos -/
def Wd (K : PySem.W.Frag) (H : Hp) (x dx p : Addr) (ls : List Str) (pos : Nat) (wv : V) : Prop := (pos = ls.length ∧ wv = .non ∧ RwAt K H x dx p ls pos) ∨
  ∃ z q, ls[pos]? = some z ∧ wv = .ref q ∧ H q = some (.lst ((Txt.split z (Str.ofString " ")).map V.str)) ∧ RwAt K H x dx p ls (pos + 1)
theorem sc_read_parts : FnScope ["rows", "heads", "is_inner", "parts", "words", "inner"] ["rows", "heads", "is_inner"] (defScope s_read_parts) := ⟨rfl, rfl, rfl, by decide +kernel, rfl, by decide +kernel, by decide +kernel⟩
theorem key_rdp (T : Txt w K mg) (n k : Nat) (hk : 6 ≤ k) (G : ∃ spR, GF P w K mg base k "read_parts" (He.ga K "read_parts") spR ∧ ∀ vs H Q E, spRdP K (n - 1) vs H Q E → 0 < n → spR vs H Q E) : GF P w K mg base (k + 1) "read_parts" (He.ga K "read_parts") (spRdP K n) := by
  obtain ⟨spR, GR, hR⟩ := G
  obtain ⟨fd, F⟩ := T.d_read_parts
  refine gf_of F T.g_read_parts (fnr F sc_read_parts (F.binds fun _ _ _ _ _ _ us hl => match us, hl with | [_, _, _], _ => rfl) (by rintro vs H Q E ⟨_, _, _, _, _, _, _, _, rfl, _⟩; rfl) fun cdv A outer s H vs Q E hr h => ?_)
  obtain ⟨x, dx, p, h, ls, o, es, inner, rfl, hRw, hh, hn, hst, hsub, hle, heq, q⟩ := h
  refine ⟨_, (pss_cons (ps_par (i := 3) (j := 4) (by rfl) sc_read_parts.nd rfl rfl (by decide) rfl rfl (pa_cons (pe_lst pa_nil) (pa_cons (pmeth0 (pv 0) (ok_Rows_next T) (hr.mono (by first | decide | omega))) pa_nil)) (by rfl))
    (pss_cons (ps_while PassesOwn.never (pt_cmpR op_notN (pv 4) pe_non (nomark _))
    (pss_cons (ps_if (PW.pt (pw_or (PW.pt (pw_and (pt_cmpR op_in_seq (pe_ix ix_list (pv 4) pe_int (fun _ _ => rfl)) (pv 1) (by rfl)) (pw_and1 (pt_not (pt_val (pv 2)))))) (pw_or1 (PW.pt (pw_and (pt_cmpR op_eq (pe_ix ix_list (pv 4) pe_int (fun _ _ => rfl)) (pgs "end" T.t_END) (nomark _)) (pw_and1 (pt_val (pv 2)))))))) (pss_cons (ps_expr (pmeth (pv 0) (ok_Rows_size T) (hr.mono (by first | decide | omega)) (pa_cons (pv 4) (pa_cons pe_int pa_nil))))
    (pss_one (ps_ret (pe_tup (pa_cons (pv 3) (pa_cons (pe_ix ix_list (pv 4) pe_int (fun _ _ => rfl)) pa_nil)))))) pss_nil)
    (pss_cons (ps_if (pt_cmpR op_eq (pe_ix ix_list (pv 4) pe_int (fun _ _ => rfl)) (pgs "begin" T.t_BEGIN) (nomark _)) (pss_cons (ps_expr (pmeth (pv 0) (ok_Rows_size T) (hr.mono (by first | decide | omega)) (pa_cons (pv 4) (pa_cons pe_int pa_nil))))
    (pss_cons (ps_set (i := 5) sc_read_parts.nd rfl (.inl rfl) (pe_ix ix_tup (pcall GR (hr.mono (by first | decide | omega)) (pa_cons (pv 0) (pa_cons (pv 1) (pa_cons pe_bl pa_nil)))) pe_int (fun _ _ => rfl)))
    (pss_one (ps_expr (pe_bm PySem.F.plainAttrs_list PySem.F.slot_list_append PySem.F.type_list_append mt_append (pv 3) (pa_cons (pv 5) pa_nil)))))) (pss_one (ps_expr (pe_bm PySem.F.plainAttrs_list PySem.F.slot_list_append PySem.F.type_list_append mt_append (pv 3) (pa_cons (pcall (ok_read_rule T) (hr.mono (by first | decide | omega)) (pa_cons (pv 0) (pa_cons (pv 4) pa_nil))) pa_nil)))))
    (pss_one (ps_set (i := 4) sc_read_parts.nd rfl (.inl rfl) (pmeth0 (pv 0) (ok_Rows_next T) (hr.mono (by first | decide | omega))))))))
    (pss_cons (ps_if (pt_val (pv 2)) pss_never pss_nil)
    (pss_one (ps_ret (pe_tup (pa_cons (pv 3) (pa_cons pe_non pa_nil)))))))), ?_⟩
  have hok := hst.ok
  have h12 := hok.len
  obtain ⟨hx, hp, hl, hro⟩ := id hRw
  refine ⟨by show 0 ≤ sizeLine; decide, fun f hf => ?_⟩
  have e1 : Ext H (upd H f (.lst [])) := Ext.upd hf
  have hf1 : upd H f (.lst []) f = some (.lst []) := upd_same
  generalize upd H f (.lst []) = H1 at e1 hf1 ⊢
  have hR1 : RwAt K H1 x dx p ls o := hRw.ext e1
  have xf : x ≠ f := fun z => by rw [← z, hR1.1] at hf1; cases hf1
  have f1 : H1 f ≠ none := by rw [hf1]; exact fun z => nomatch z
  /- next_words at any heap of the loop -/
  have nextw : ∀ (Hx : Hp) (pos : Nat) (Q' : VK), RwAt K Hx x dx p ls pos → pos ≤ ls.length → (∀ H' wv, Sm [x] Hx H' → Wd K H' x dx p ls pos wv → (∀ b xs, Hx b = some (.lst xs) → H' b = some (.lst xs)) → Q' wv H') → spNext K [.ref x] Hx Q' E0 := fun Hx pos Q' hRx hpos q' => by
    refine ⟨x, dx, p, ls, pos, rfl, hRx, ?_⟩
    by_cases c : pos = ls.length
    · exact .inl ⟨c, q' Hx _ (Sm.refl _ _) (.inl ⟨c, rfl, hRx⟩) fun _ _ z => z⟩
    · obtain ⟨z, hz⟩ : ∃ z, ls[pos]? = some z := ⟨_, List.getElem?_eq_getElem (by omega)⟩
      refine .inr ⟨z, hz, fun H' q1 sm hR' hn hq => q' H' _ sm (.inr ⟨z, q1, hz, rfl, hq, hR'⟩) fun b xs hb => sm _ _ hb fun c => ?_⟩
      rw [List.mem_singleton.mp c, hRx.1] at hb
      cases hb
  refine ⟨_, rfl, x, dx, _, rfl, hR1.1, rfl, ?_⟩
  unfold tNil
  refine nextw H1 o _ hR1 (by omega) fun H2 wv sm2 hwd hkeep => ?_
  refine ⟨_, _, rfl, ?_⟩
  have hf2 := hkeep f _ hf1
  have hsr := hsub.left
  let W : Nat → L2.St → Hp → Prop := fun m σ Hx => ∃ (i : Nat) (vs : List V) (wv' : V) (e0 : Option V), m = es.length - i ∧ i ≤ es.length ∧ σ = [some (.ref x), some (.ref h), some (.bl inner), some (.ref f), some wv', e0] ∧
    Sm [f, x] H1 Hx ∧ Hx f = some (.lst vs) ∧ PtL K Hx (fun b => H1 b = none) (es.take i) vs ∧ Wd K Hx x dx p ls (o + (rowsL (es.take i)).length) wv'
  refine ⟨W, ⟨_, 0, [], wv, none, rfl, Nat.zero_le _, rfl, sm2.mono fun b hb => List.mem_cons_of_mem _ hb, hf2, trivial, by rw [show (rowsL (es.take 0)).length = 0 by simp [rowsL]]; exact hwd⟩, ?_⟩
  rintro m σ Hx ⟨i, vs, wv', e0, rfl, hi, rfl, sm, hfx, hpt, hwd'⟩
  have smH : Sm [f, x] H Hx := (Sm.of e1).trans sm
  have smHx : Sm [x] H Hx := smH.drop hf
  have hlines : ∀ {Hz : Hp}, Sm [f, x] H Hz → SqL K Hz p (ls.map V.str) := fun s => SqL.sm1 hx (s.drop hf) hp
  have hvl := hpt.len
  rw [List.length_take] at hvl
  have hhx : SqT K Hx h [] := SqT.fz hh (hRw.fz smHx)
  by_cases hlt : i < es.length
  · obtain ⟨e, he⟩ : ∃ e, es[i]? = some e := ⟨_, List.getElem?_eq_getElem hlt⟩
    have hse := hsr.at_ he
    have hemem := List.mem_of_getElem? he
    have hrs := rowsL_succ he
    have hrle := rows_le (es := es) (i + 1)
    have hle2 : o + (rowsL (es.take (i + 1))).length + (exS inner).length ≤ ls.length := by
      rw [List.length_append] at hle
      omega
    have hlenT : (rowsL (es.take (i + 1))).length = (rowsL (es.take i)).length + (rowsT e).length := by rw [hrs, List.length_append]
    have hpos : o + (rowsL (es.take i)).length < ls.length := by
      have : 1 ≤ (rowsT e).length := by
        cases e <;> simp [rowsT]
      omega
    rcases hwd' with ⟨c, _, _⟩ | ⟨z, q1, hz, rfl, hq, hRx⟩
    · omega
    refine ⟨_, rfl, rfl, true, rfl, iteT ⟨fun σ' H' => ∃ m', m' < es.length - i ∧ W m' σ' H', fun _ _ z => z, ?_⟩⟩
    have fin : ∀ (H5 : Hp) (v : V) (a0 : Option V), Sm [x] Hx H5 → RwAt K H5 x dx p ls (o + (rowsL (es.take (i + 1))).length) → PtT K H5 (fun b => Hx b = none) e v →
        H5 f = some (.lst vs) ∧ vs.length < sizeLine ∧ RwAt K (upd H5 f (.lst (vs ++ [v]))) x dx p ls (o + (rowsL (es.take (i + 1))).length) ∧
          ∀ H' wv', Sm [x] (upd H5 f (.lst (vs ++ [v]))) H' → Wd K H' x dx p ls (o + (rowsL (es.take (i + 1))).length) wv' → (∀ b xs, upd H5 f (.lst (vs ++ [v])) b = some (.lst xs) → H' b = some (.lst xs)) →
            ∃ m', m' < es.length - i ∧ W m' [some (.ref x), some (.ref h), some (.bl inner), some (.ref f), some wv', a0] H' := fun H5 v a0 sm5 hR5 hv5 => by
      have hf5 := sm5 _ _ hfx (by simpa using Ne.symm xf)
      have s6 : Sm [f] H5 (upd H5 f (.lst (vs ++ [v]))) := (Sm.refl _ _).upd (List.mem_singleton.mpr rfl)
      have fz6 : Fz H5 (upd H5 f (.lst (vs ++ [v]))) := s6.fz fun b hb o e => by
        rw [List.mem_singleton.mp hb, hf5] at e
        cases e
        rfl
      have hn1 : ∀ b, Hx b = none → H1 b = none := fun b hb => by
        cases hz : H1 b with
        | none => rfl
        | some o =>
          by_cases bx : b = x
          · rw [bx, hRx.1] at hb
            cases hb
          · by_cases bf : b = f
            · rw [bf, hfx] at hb
              cases hb
            · have := sm _ _ hz (by simpa using ⟨bf, bx⟩)
              rw [this] at hb
              cases hb
      have xl : ∀ b ∈ [x], (fun b => H1 b = none) b → ∀ xs, Hx b ≠ some (.lst xs) := fun b hb _ xs z => by
        rw [List.mem_singleton.mp hb, hRx.1] at z
        cases z
      have fl : ∀ b ∈ [f], (fun b => H1 b = none) b → ∀ xs, H5 b ≠ some (.lst xs) := fun b hb hn xs z => by
        rw [List.mem_singleton.mp hb] at hn
        exact f1 hn
      have sH : Sm [f, x] H (upd H5 f (.lst (vs ++ [v]))) := (smH.trans (sm5.mono fun b hb => List.mem_cons_of_mem _ hb)).upd (by simp)
      have hR6 : RwAt K (upd H5 f (.lst (vs ++ [v]))) x dx p ls (o + (rowsL (es.take (i + 1))).length) := ⟨by rw [upd_ne xf]; exact hR5.1, hlines sH, hl, hro⟩
      have hpt6 : PtL K (upd H5 f (.lst (vs ++ [v]))) (fun b => H1 b = none) (es.take (i + 1)) (vs ++ [v]) := by
        rw [take_succ he]
        refine PtL.app (es' := [e]) (vs' := [v]) ⟨?_, trivial⟩ ?_
        · exact PtT.sm s6 fz6 (fun b hb hn => fl b hb (hn1 b hn)) hn1 hv5
        · exact PtL.sm s6 fz6 fl (fun _ h => h) (PtL.sm sm5 (hRx.fz sm5) xl (fun _ h => h) hpt)
      refine ⟨hf5, ?_, hR6, fun H' wv' sm7 hwd7 hkeep7 => ⟨es.length - (i + 1), by omega, i + 1, vs ++ [v], wv', a0, rfl, hlt, rfl, ?_, hkeep7 _ _ upd_same, ?_, hwd7⟩⟩
      · rw [← hvl]
        exact Nat.lt_of_lt_of_le (by omega : min i es.length < 50) (by decide)
      · exact ((sm.trans (sm5.mono fun b hb => List.mem_cons_of_mem _ hb)).upd (by simp)).trans (sm7.mono fun b hb => List.mem_cons_of_mem _ hb)
      · exact PtL.sm sm7 (hR6.fz sm7) (fun b hb _ xs z => by
          rw [List.mem_singleton.mp hb, hR6.1] at z
          cases z) (fun _ h => h) hpt6
    cases e with
    | st es' =>
      have hdm := dep_mem hemem
      have hdp := depL_pos es'
      simp only [Tr.dep] at hdm
      have hse' : SubS ls (o + (rowsL (es.take i)).length) (Str.ofString "begin" :: (rowsL es' ++ [Str.ofString "end"])) := by simpa [rowsT] using hse
      have hz' := hse'.hd
      rw [hz] at hz'
      cases hz'
      rw [split_begin] at hq
      have hq' : Hx q1 = some (.lst [V.str (Str.ofString "begin")]) := hq
      have a0 : atI [V.str (Str.ofString "begin")] 0 = some (V.str (Str.ofString "begin")) := atI_nat (j := 0) rfl
      have lenT : (rowsT (.st es')).length = (rowsL es').length + 2 := by simp [rowsT]
      refine ⟨_, rfl, q1, _, 0, _, rfl, rfl, SqL.of hq', a0, _, rfl, h, [], rfl, .inr hhx, rfl, rfl, false, rfl, iteF (iteF ?_)⟩
      refine ⟨_, rfl, q1, _, 0, _, rfl, rfl, SqL.of hq', a0, rfl, false, blF (by intro z; exact absurd (V.str.inj z) (by decide +kernel)), iteF (iteF ?_)⟩
      refine ⟨_, rfl, q1, _, 0, _, rfl, rfl, SqL.of hq', a0, rfl, true, blT rfl, iteT ?_⟩
      refine ⟨_, rfl, x, dx, _, rfl, hRx.1, rfl, _, rfl, x, q1, _, 1, rfl, SqL.of hq', rfl, ?_⟩
      have hle3 : o + (rowsL (es.take i)).length + 1 + (rowsL es' ++ exS true).length ≤ ls.length := by
        have : (exS true).length = 1 := rfl
        rw [List.length_append, this]
        omega
      refine ⟨_, rfl, _, rfl, hR _ _ _ _ ⟨x, dx, p, h, ls, _, es', true, rfl, hRx, hhx, by omega, hst.sub he, hse'.tl, hle3, (fun z => nomatch z), fun H4 t l ee sm4 hR4 ht hl4 => ?_⟩ (by omega)⟩
      refine ⟨t, _, 0, _, rfl, rfl, ht, atI_nat (j := 0) rfl, ?_⟩
      have hR4' : RwAt K H4 x dx p ls (o + (rowsL (es.take (i + 1))).length) := by
        rw [show o + (rowsL (es.take (i + 1))).length = o + (rowsL (es.take i)).length + 1 + (rowsL es' ++ exS true).length by
          have : (exS true).length = 1 := rfl
          rw [List.length_append, this]
          omega]
        exact hR4
      obtain ⟨g1, g2, g3, g4⟩ := fin H4 (.ref l) (some (.ref l)) sm4 hR4' hl4
      refine ⟨_, rfl, .inl ⟨rfl, _, SqL.of g1⟩, _, rfl, f, vs, _, rfl, rfl, g1, g2, ?_⟩
      refine ⟨_, rfl, x, dx, _, rfl, g3.1, rfl, ?_⟩
      show spNext K [.ref x] _ _ E0
      exact nextw _ _ _ g3 (by omega) fun H7 wv7 sm7 hwd7 hk7 => g4 H7 wv7 sm7 hwd7 hk7
    | rl mm acts =>
      have hru := ruAt he hok.rus
      obtain ⟨cn1, cn2⟩ := ctl_ne (Bool.and_eq_true_iff.mp hru).2
      have hse' : SubS ls (o + (rowsL (es.take i)).length) [rowW (mm, acts)] := by simpa [rowsT] using hse
      have hz' := hse'.hd
      rw [hz] at hz'
      cases hz'
      rw [split_row hru] at hq
      have hq' : Hx q1 = some (.lst [V.str (ctlW acts), V.str mm]) := hq
      have a0 : atI [V.str (ctlW acts), V.str mm] 0 = some (V.str (ctlW acts)) := atI_nat (j := 0) rfl
      have lenT : (rowsT (.rl mm acts)).length = 1 := by simp [rowsT]
      refine ⟨_, rfl, q1, _, 0, _, rfl, rfl, SqL.of hq', a0, _, rfl, h, [], rfl, .inr hhx, rfl, rfl, false, rfl, iteF (iteF ?_)⟩
      refine ⟨_, rfl, q1, _, 0, _, rfl, rfl, SqL.of hq', a0, rfl, false, blF (by intro z; exact cn2 (V.str.inj z)), iteF (iteF ?_)⟩
      refine ⟨_, rfl, q1, _, 0, _, rfl, rfl, SqL.of hq', a0, rfl, false, blF (by intro z; exact cn1 (V.str.inj z)), iteF ?_⟩
      refine ⟨_, rfl, .inl ⟨rfl, _, SqL.of hfx⟩, _, rfl, _, rfl, x, dx, p, q1, ls, _, (mm, acts), rfl, hRx, hq', hru, fun H4 y e4 hy => ?_⟩
      have hR4' : RwAt K H4 x dx p ls (o + (rowsL (es.take (i + 1))).length) := by
        rw [show o + (rowsL (es.take (i + 1))).length = o + (rowsL (es.take i)).length + 1 by omega]
        exact hRx.ext e4
      obtain ⟨g1, g2, g3, g4⟩ := fin H4 (.ref y) e0 (Sm.of e4) hR4' ⟨y, rfl, hy⟩
      refine ⟨f, vs, _, rfl, rfl, g1, g2, ?_⟩
      refine ⟨_, rfl, x, dx, _, rfl, g3.1, rfl, ?_⟩
      show spNext K [.ref x] _ _ E0
      exact nextw _ _ _ g3 (by omega) fun H7 wv7 sm7 hwd7 hk7 => g4 H7 wv7 sm7 hwd7 hk7
  · have hie : i = es.length := by omega
    subst hie
    rw [List.take_length] at hwd' hpt
    have fin2 : ∀ (Hz : Hp) (t : Addr) (e : V), Ext Hx Hz → RwAt K Hx x dx p ls (o + (rowsL es ++ exS inner).length) → Hz t = some (.tup [.ref f, e]) → Q (.ref t) Hz := fun Hz t e ez hrw ht => by
      refine q Hz t f e (smHx.trans (Sm.of ez)) (hrw.ext ez) (.inl (.inl ht)) ⟨f, vs, rfl, hf, ez _ _ hfx, PtL.sm (L := []) (Sm.of ez) (Fz.of ez) (fun b hb => by simp at hb) (fun b hb => e1.none hb) hpt⟩
    cases inner with
    | true =>
      have hz1 : ls[o + (rowsL es).length]? = some (Str.ofString "end") := (hsub.right : SubS ls _ [Str.ofString "end"]).hd
      rcases hwd' with ⟨c, _, _⟩ | ⟨z, q1, hz, rfl, hq, hRx⟩
      · rw [List.getElem?_eq_none (by omega)] at hz1
        cases hz1
      rw [hz] at hz1
      cases hz1
      rw [split_end] at hq
      have hq' : Hx q1 = some (.lst [V.str (Str.ofString "end")]) := hq
      have a0 : atI [V.str (Str.ofString "end")] 0 = some (V.str (Str.ofString "end")) := atI_nat (j := 0) rfl
      refine ⟨_, rfl, rfl, true, rfl, iteT ⟨fun σ' H' => ∃ m', m' < es.length - es.length ∧ W m' σ' H', fun _ _ z => z, ?_⟩⟩
      refine ⟨_, rfl, q1, _, 0, _, rfl, rfl, SqL.of hq', a0, _, rfl, h, [], rfl, .inr hhx, rfl, rfl, false, rfl, iteF (iteF ?_)⟩
      refine ⟨_, rfl, q1, _, 0, _, rfl, rfl, SqL.of hq', a0, rfl, true, blT rfl, iteT ⟨_, rfl, true, rfl, iteT ?_⟩⟩
      refine ⟨_, rfl, x, dx, _, rfl, hRx.1, rfl, _, rfl, x, q1, _, 1, rfl, SqL.of hq', rfl, ?_⟩
      refine ⟨_, rfl, _, rfl, q1, _, 0, _, rfl, rfl, SqL.of hq', a0, by show 2 ≤ sizeLine; decide, fun t ht => fin2 _ t _ (Ext.upd ht) ?_ upd_same⟩
      rw [show o + (rowsL es ++ exS true).length = o + (rowsL es).length + 1 by
        have : (exS true).length = 1 := rfl
        rw [List.length_append, this]
        omega]
      exact hRx
    | false =>
      have heq' := heq rfl
      rcases hwd' with ⟨c, rfl, hRx⟩ | ⟨z, q1, hz, rfl, hq, hRx⟩
      · refine ⟨_, rfl, rfl, false, rfl, iteF ?_⟩
        refine ⟨_, rfl, false, rfl, iteF ?_⟩
        refine ⟨_, rfl, by show 2 ≤ sizeLine; decide, fun t ht => fin2 _ t _ (Ext.upd ht) ?_ upd_same⟩
        rw [show o + (rowsL es ++ exS false).length = o + (rowsL es).length by
          have : (exS false).length = 0 := rfl
          rw [List.length_append, this]
          omega]
        exact hRx
      · rw [List.getElem?_eq_none (by omega)] at hz
        cases hz
theorem ok_read_parts (T : Txt w K mg) : ∀ n : Nat, GF P w K mg base (7 + n) "read_parts" (He.ga K "read_parts") (spRdP K n)
  | 0 => key_rdp T 0 6 (by decide) ⟨fun _ _ _ _ => False, ⟨fun _ _ _ _ _ _ _ _ _ _ _ h => h.elim, by obtain ⟨fd, F⟩ := T.d_read_parts; exact F.kp, T.g_read_parts⟩, fun _ _ _ _ _ z => absurd z (Nat.lt_irrefl _)⟩
  | n + 1 => key_rdp T (n + 1) (7 + n) (by omega) ⟨spRdP K n, ok_read_parts T n, fun _ _ _ _ h _ => h⟩
end
end Ls
set_option maxRecDepth 100000
set_option maxHeartbeats 4000000
/-! notation: parse_stack -/
namespace Ls
open PySem PySem.Spec PyProof.Rows L2
theorem fmt_nil : fmtS [] = Str.ofString "" := TL.ext_tl (by
  unfold fmtS
  rw [TL.join_eq, TL.tl_join]
  decide +kernel)
theorem fmt_cons {e : Tr} {es : List Tr} : fmtS (e :: es) ≠ Str.ofString "" := fun z => by
  have h := congrArg TL.tl z
  unfold fmtS at h
  rw [TL.join_eq, TL.tl_join] at h
  have hj : ∀ {a : List Nat} {r : List (List Nat)} {S : List Nat}, a ≠ [] → TL.joinL S (a :: r) ≠ [] := fun {a r S} ha => by
    cases r with
    | nil => simpa [TL.joinL] using ha
    | cons b r => simp [TL.joinL, ha]
  cases e with
  | rl m a =>
    simp only [rowsL, rowsT, List.cons_append, List.nil_append, List.map_cons] at h
    refine hj ?_ h
    unfold rowW
    rw [TL.tl_append, TL.tl_append, tl_sp]
    simp
  | st es' =>
    simp only [rowsL, rowsT, List.cons_append, List.map_cons] at h
    exact hj (by decide +kernel) h
section
variable {P : Program} {w : World} {K : PySem.W.Frag} {mg : Str → Option Value} {base : Heap}
def spParse (K : PySem.W.Frag) : Sp := fun vs H Q _ => ∃ es : List Tr, vs = [.str (fmtS es)] ∧ Stood K es ∧ (rowsL es).length ≤ 30000 ∧ ∀ H' y, Ext H H' → AtT K H' (.st es) y → Q (.ref y) H'
theorem sc_parse_stack : FnScope ["text"] ["text"] (defScope s_parse_stack) := ⟨rfl, rfl, rfl, by decide +kernel, rfl, by decide +kernel, by decide +kernel⟩
theorem ok_parse_stack (T : Txt w K mg) : GF P w K mg base 10 "parse_stack" (He.ga K "parse_stack") (spParse K) := by
  obtain ⟨fd, F⟩ := T.d_parse_stack
  refine gf_of F T.g_parse_stack (fnr F sc_parse_stack (F.binds fun _ _ _ _ _ _ us hl => match us, hl with | [_], _ => rfl) (by rintro vs H Q E ⟨_, rfl, _⟩; rfl) fun cdv A outer s H vs Q E hr h => ?_)
  obtain ⟨es, rfl, hst, hl, q⟩ := h
  refine ⟨_, (pss_cons (ps_if (pt_cmpR op_eq (pv 0) pe_str (nomark _)) (pss_one (ps_ret (pmake0 (ok_Stack T) (hr.mono (by first | decide | omega))))) pss_nil)
    (pss_one (ps_ret (pcall (ok_made_stack_notation T 2) (hr.mono (by first | decide | omega)) (pa_cons (pe_ix ix_tup (pcall (ok_read_parts T 2) (hr.mono (by first | decide | omega)) (pa_cons (pmake (ok_Rows T) (hr.mono (by first | decide | omega)) (pa_cons (pv 0) pa_nil)) (pa_cons (pe_tup pa_nil) (pa_cons pe_bl pa_nil)))) pe_int (fun _ _ => rfl)) pa_nil))))), ?_⟩
  have hok := hst.ok
  cases es with
  | nil =>
    rw [fmt_nil]
    refine ⟨_, rfl, rfl, true, blT rfl, iteT ?_⟩
    exact fun x1 dx1 n1 n2 n3 => mkSt' (as := []) (es := []) (show AtL K H [] [] from trivial) hok n1 n2 n3 fun H4 e4 hy => ⟨rfl, q H4 x1 e4 hy⟩
  | cons e es =>
    refine ⟨_, rfl, rfl, false, blF (by intro z; exact fmt_cons (V.str.inj z)), iteF ?_⟩
    have hne : rowsL (e :: es) ≠ [] := by
      cases e <;> simp [rowsL, rowsT]
    refine ⟨_, rfl, fun x dx n1 n2 n3 => ?_⟩
    have e1 : Ext H (upd (upd H dx (.own x)) x (.ins (cRows K) dx [])) := (Ext.upd n2).trans (Ext.upd (by rw [upd_ne (Ne.symm n3)]; exact n1))
    refine ⟨x, dx, rowsL (e :: es), rfl, upd_same, hne, hl, rowsL_ok hok.rus, fun H1 p sm1 hR1 => ⟨rfl, ?_⟩⟩
    have x1 : Ext H H1 := fun b o hb => sm1 b o (e1 b o hb) fun z => by
      rw [List.mem_singleton.mp z, n1] at hb
      cases hb
    refine ⟨by show 0 ≤ sizeLine; decide, fun h hh => ?_⟩
    have e2 : Ext H1 (upd H1 h (.tup [])) := Ext.upd hh
    refine ⟨x, dx, p, h, rowsL (e :: es), 0, e :: es, false, rfl, hR1.ext e2, .inl (.inl upd_same), hok.dep, hst, ?_, ?_, fun _ => by omega, fun H3 t l ee sm3 hR3 ht hpt => ?_⟩
    · intro i v hv
      rw [Nat.zero_add]
      simpa [exS] using hv
    · simp [exS]
    · refine ⟨t, _, 0, _, rfl, rfl, ht, atI_nat (j := 0) rfl, ?_⟩
      have x3 : Ext H H3 := fun b o hb => sm3 _ _ (e2 _ _ (x1 b o hb)) fun z => by
        rw [List.mem_singleton.mp z, n1] at hb
        cases hb
      exact ⟨l, e :: es, _, rfl, hpt, hok.dep, hst, fun H5 y e5 hy => q H5 y (x3.trans e5) hy⟩
end
end Ls
set_option maxRecDepth 100000
set_option maxHeartbeats 4000000
/-! the histories; _law_taken -/
namespace Ls
open PySem PySem.Spec PyProof.Rows L2
section
variable {X : Cx}
/-- a text, a number, a reference: equal to itself whatever its token -/
def plainV : V → Bool
  | .str _ => true
  | .int _ => true
  | .ref _ => true
  | _ => false
theorem eqAt_plain {A : Around} {s : Shared} {x : V} {u w : Value} (ru : RelV x u) (rw' : RelV x w) (h : plainV x = true) : SeqAt.EqAt A s u w true := by
  cases x with
  | ref a =>
    cases ru
    cases rw'
    exact SeqAt.EqAt.same _
  | str z => exact eqAt_same ru rw' rfl
  | int i => exact eqAt_same ru rw' rfl
  | _ => cases h
theorem OpsAt.at_ {H : Hp} : ∀ {ts : List Addr} {cs : List (List V)} {i : Nat} {t : Addr}, OpsAt H ts cs → ts[i]? = some t → ∃ c, cs[i]? = some c ∧ H t = some (.tup c)
  | [], [], _, _, _, h => by simp at h
  | t :: ts, c :: cs, 0, _, h, e => by
    simp only [List.getElem?_cons_zero, Option.some.injEq] at e
    subst e
    exact ⟨c, rfl, h.1⟩
  | t :: ts, c :: cs, i + 1, _, h, e => by
    simp only [List.getElem?_cons_succ] at e ⊢
    exact OpsAt.at_ h.2 e
  | [], _ :: _, _, _, h, _ => h.elim
  | _ :: _, [], _, _, h, _ => h.elim
def rNeHist (K : PySem.W.Frag) : R2 := fun x y H Q => ∃ (a b : Addr) (ts us : List Addr) (cs : List (List V)), x = .ref a ∧ y = .ref b ∧ SqL K H a (ts.map V.ref) ∧ SqL K H b (us.map V.ref) ∧ OpsAt H ts cs ∧ OpsAt H us cs ∧ (∀ c ∈ cs, c.all plainV = true) ∧ Q (.bl false) H
theorem op_neHist (hu : X.A.units + 10 < cLine) : OpR X (compareOp .NotEq) (rNeHist X.K) := by
  intro pins s σ H x y v u Q I rx ry h
  obtain ⟨a, b, ts, us, cs, rfl, rfl, ha, hb, ht, hu', hc, q⟩ := h
  cases rx
  cases ry
  obtain ⟨its, r1, p1, _⟩ := I.list ha
  obtain ⟨its2, r2, p2, _⟩ := I.list hb
  have e1 := refs_val r1
  have e2 := refs_val r2
  subst e1 e2
  have l1 := ht.len
  have l2 := hu'.len
  have key := SeqAt.RcNeAt.lists (A := X.A) (e := fun _ => true) p1.isList p2.isList (by simp [l1, l2]) (by omega) (fun j h1 h2 => ?_)
  · have e3 : (!(List.range (ts.map Value.ref).toArray.size).all fun _ => true) = false := by
      rw [List.all_eq_true.mpr (fun _ _ => rfl)]
      rfl
    rw [e3] at key
    exact key X.prog X.w _ _ ⟨.bl false, H, I, rfl, q⟩
  · have hj1 : j < ts.length := by simpa using h1
    have hj2 : j < us.length := by simpa using h2
    obtain ⟨c, hcj, hct⟩ := ht.at_ (List.getElem?_eq_getElem hj1)
    obtain ⟨c', hcj', hct'⟩ := hu'.at_ (List.getElem?_eq_getElem hj2)
    rw [hcj] at hcj'
    cases hcj'
    have hp := hc c (List.mem_of_getElem? hcj)
    simp only [List.getElem_toArray, List.getElem_map]
    by_cases e : ts[j] = us[j]
    · rw [e]
      exact SeqAt.EqAt.same _
    · refine SeqAt.EqAt.of_refs e ?_
      obtain ⟨jt, q1, w1, _⟩ := I.tuple (SqT.of hct)
      obtain ⟨jt2, q2, w2, _⟩ := I.tuple (SqT.of hct')
      have k1 := q1.length
      have k2 := q2.length
      have key2 := SeqAt.RcAt.tuples (A := X.A.in1) (e := fun _ => true) w1 w2 (by show X.A.units + 1 < cLine; omega) (fun i g1 g2 => ?_)
      · have e3 : ((List.range (min jt.toArray.size jt2.toArray.size)).all (fun _ => true) && jt.toArray.size == jt2.toArray.size) = true := by
          rw [List.all_eq_true.mpr (fun _ _ => rfl)]
          simp
          omega
        rw [e3] at key2
        exact key2
      · have i1 : i < c.length := by rw [k1]; simpa using g1
        have hx := List.getElem?_eq_getElem i1
        obtain ⟨u1, hu1, ru1⟩ := q1.get hx
        obtain ⟨u2, hu2, ru2⟩ := q2.get hx
        have g1' : i < jt.length := by simpa using g1
        have g2' : i < jt2.length := by simpa using g2
        rw [List.getElem?_eq_getElem g1'] at hu1
        rw [List.getElem?_eq_getElem g2'] at hu2
        have hpl := List.all_eq_true.mp hp _ (List.getElem_mem i1)
        have := eqAt_plain (A := X.A.in1.in1) (s := s) ru1 ru2 hpl
        cases hu1
        cases hu2
        simpa using this
end
end Ls
set_option maxRecDepth 100000
set_option maxHeartbeats 4000000
/-! _law_taken, _law_control, _law_names -/
namespace Ls
open PySem PySem.Spec PyProof.Rows L2
section
variable {P : Program} {w : World} {K : PySem.W.Frag} {mg : Str → Option Value} {base : Heap}
/-- a list that was handed in: it stands whatever else changes -/
def SqF (K : PySem.W.Frag) (H : Hp) (a : Addr) (xs : List V) : Prop := (∃ o, H a = some (.frz o (.lst xs))) ∨ ∀ H', SqL K H' a xs
theorem SqF.sq {H : Hp} {a : Addr} {xs : List V} (h : SqF K H a xs) : SqL K H a xs := by
  rcases h with ⟨o, h⟩ | h
  · exact .inl (.inr ⟨o, h⟩)
  · exact h H
theorem SqF.sm {H H' : Hp} {a : Addr} {l : List Addr} {xs : List V} (h : SqF K H a xs) (s : Sm l H H') (hf : ∀ b ∈ l, ∀ o u, H b ≠ some (.frz o u)) : SqF K H' a xs := by
  rcases h with ⟨o, h⟩ | h
  · exact .inl ⟨o, s _ _ h fun z => hf a z _ _ h⟩
  · exact .inr h
/-- the state of the draws at R -/
def RowAt (K : PySem.W.Frag) (H : Hp) (R : Addr) : Prop := ∃ (sc : Addr) (ns : List Int) (a : Nat) (b c : Int), H R = some (.lst [.ref sc, .int (a : Nat), .int b, .int c]) ∧ SqF K H sc (ns.map V.int) ∧ 0 ≤ b ∧ b < 2147483647 ∧ 0 ≤ c
theorem RowAt.ne {H : Hp} {R x : Addr} {o : HO} (h : RowAt K H R) (hx : H x = some o) (hn : ∀ xs, o ≠ .lst xs) : x ≠ R := fun z => by
  obtain ⟨sc, ns, a, b, c, h1, _⟩ := h
  rw [z, h1] at hx
  cases hx
  exact hn _ rfl
theorem RowAt.new {H : Hp} {R x : Addr} (h : RowAt K H R) (hx : H x = none) : x ≠ R := fun z => by
  obtain ⟨sc, ns, a, b, c, h1, _⟩ := h
  rw [z, h1] at hx
  cases hx
theorem SqF.row {H H' : Hp} {R sc : Addr} {xs r : List V} (hR : H R = some (.lst r)) (h : SqF K H sc xs) (s : Sm [R] H H') : SqF K H' sc xs := h.sm s fun b hb o u z => by
  rw [List.mem_singleton.mp hb, hR] at z
  cases z
theorem RowAt.sm {H H' : Hp} {R : Addr} {l : List Addr} (h : RowAt K H R) (s : Sm l H H') (hn : R ∉ l) (hf : ∀ b ∈ l, ∀ o u, H b ≠ some (.frz o u)) : RowAt K H' R := by
  obtain ⟨sc, ns, a, b, c, h1, h2, h3⟩ := h
  exact ⟨sc, ns, a, b, c, s _ _ h1 hn, h2.sm s hf, h3⟩
theorem RowAt.ext {H H' : Hp} {R : Addr} (h : RowAt K H R) (e : Ext H H') : RowAt K H' R := h.sm (l := []) (Sm.of e) (by simp) (by simp)
theorem RowAt.lstD {H : Hp} {R D : Addr} {xs ys : List V} (h : RowAt K H R) (hD : H D = some (.lst xs)) (hn : D ≠ R) : RowAt K (upd H D (.lst ys)) R := h.sm (l := [D]) ((Sm.refl _ _).upd (List.mem_singleton.mpr rfl)) (by simpa using Ne.symm hn) fun b hb o u z => by
  rw [List.mem_singleton.mp hb, hD] at z
  cases z
theorem RowAt.smfz {H H' : Hp} {R : Addr} (h : RowAt K H R) (s : Sm [R] H H') : Fz H H' := by
  obtain ⟨sc, ns, a, b, c, h1, _⟩ := h
  refine s.fz fun b hb o e => ?_
  rw [List.mem_singleton.mp hb, h1] at e
  cases e
  rfl
def spTaken (K : PySem.W.Frag) : Sp := fun vs H Q _ => ∃ (R : Addr) (m : Int), vs = [.ref R, .int m] ∧ RowAt K H R ∧ 1 ≤ m ∧ m < 1000 ∧ ∀ H' (v : Nat), (v : Int) < m → Sm [R] H H' → RowAt K H' R → Q (.int (v : Nat)) H'
theorem sc_law_taken : FnScope ["_law_row", "_law_many", "_law_found", "_law_cell"] ["_law_row", "_law_many"] (defScope s_law_taken) := ⟨rfl, rfl, rfl, by decide +kernel, rfl, by decide +kernel, by decide +kernel⟩
theorem ok_law_taken (T : Txt w K mg) : GF P w K mg base 1 "_law_taken" (He.ga K "_law_taken") (spTaken K) := by
  obtain ⟨fd, F⟩ := T.d_law_taken
  refine gf_of F T.g_law_taken (fnr F sc_law_taken (F.binds fun _ _ _ _ _ _ us hl => match us, hl with | [_, _], _ => rfl) (by rintro vs H Q E ⟨_, _, rfl, _⟩; rfl) fun cdv A outer s H vs Q E hr h => ?_)
  obtain ⟨R, m, rfl, hR, m1, m2, q⟩ := h
  refine ⟨_, (pss_cons (ps_if (pt_cmpR op_gt (pe_ix ix_list (pv 0) pe_int (fun _ _ => rfl)) pe_int (nomark _)) (pss_cons (ps_set (i := 2) sc_law_taken.nd rfl (.inl rfl) (pe_op op_mod (pct call_int1 T.f_int (pa_cons (pe_ix ix_list (pv 0) pe_int (fun _ _ => rfl)) pa_nil)) (pv 1)))
    (pss_cons (ps_asg (pe_op op_fdiv (pe_ix ix_list (pv 0) pe_int (fun _ _ => rfl)) (pv 1)) (pg_sub (pv 0) pe_int set_list))
    (pss_one (ps_ret (pv 2))))) pss_nil)
    (pss_cons (ps_asg (pe_op op_add (pe_ix ix_list (pv 0) pe_int (fun _ _ => rfl)) pe_int) (pg_sub (pv 0) pe_int set_list))
    (pss_cons (ps_if (pt_cmpR op_gt (pe_ix ix_list (pv 0) pe_int (fun _ _ => rfl)) (pcb call_len_seq T.f_len (pa_cons (pe_ix ix_list (pv 0) pe_int (fun _ _ => rfl)) pa_nil)) (nomark _)) (pss_cons (ps_asg (pe_op op_mod (pct call_int1 T.f_int (pa_cons (pe_op op_add (pe_op op_mul (pe_ix ix_list (pv 0) pe_int (fun _ _ => rfl)) pe_int) pe_int) pa_nil)) pe_int) (pg_sub (pv 0) pe_int set_list))
    (pss_one (ps_ret (pe_op op_mod (pct call_int1 T.f_int (pa_cons (pe_op op_fdiv (pe_ix ix_list (pv 0) pe_int (fun _ _ => rfl)) pe_int) pa_nil)) (pv 1))))) pss_nil)
    (pss_cons (ps_set (i := 3) sc_law_taken.nd rfl (.inl rfl) (pe_ix ix_list (pe_ix ix_list (pv 0) pe_int (fun _ _ => rfl)) (pe_op op_sub (pe_ix ix_list (pv 0) pe_int (fun _ _ => rfl)) pe_int) (fun _ _ => rfl)))
    (pss_cons (ps_asg (pe_op op_mod (pct call_int1 T.f_int (pa_cons (pe_op op_add (pe_op op_add (pe_op op_mul (pe_ix ix_list (pv 0) pe_int (fun _ _ => rfl)) pe_int) (pv 3)) pe_int) pa_nil)) pe_int) (pg_sub (pv 0) pe_int set_list))
    (pss_cons (ps_if (pt_cmpR op_ge (pv 3) (pe_op op_pow pe_int pe_int) (nomark _)) (pss_one (ps_asg (pe_op op_fdiv (pv 3) (pv 1)) (pg_sub (pv 0) pe_int set_list))) pss_nil)
    (pss_one (ps_ret (pe_op op_mod (pct call_int1 T.f_int (pa_cons (pv 3) pa_nil)) (pv 1)))))))))), ?_⟩
  obtain ⟨sc, ns, a, b, c, h1, h2, b1, b2, c1⟩ := id hR
  have mod : ∀ z : Int, ∃ v : Nat, (v : Int) < m ∧ (v : Int) = z % m := fun z => by
    have g1 := Int.emod_nonneg z (by omega : m ≠ 0)
    have g2 := Int.emod_lt_of_pos z (by omega : 0 < m)
    exact ⟨(z % m).toNat, by omega, by omega⟩
  have sm1 : ∀ {H' : Hp} (o : HO), Sm [R] H H' → Sm [R] H (upd H' R o) := fun o s => s.upd (List.mem_singleton.mpr rfl)
  have fin : ∀ (H' : Hp) (a' : Nat) (b' c' z : Int), Sm [R] H H' → H' R = some (.lst [.ref sc, .int (a' : Nat), .int b', .int c']) → 0 ≤ b' → b' < 2147483647 → 0 ≤ c' → Q (.int (z % m)) H' := fun H' a' b' c' z s hr' g1 g2 g3 => by
    obtain ⟨v, v1, v2⟩ := mod z
    rw [← v2]
    exact q H' v v1 s ⟨sc, ns, a', b', c', hr', SqF.row h1 h2 s, g1, g2, g3⟩
  have a3 : atI [V.ref sc, .int (a : Nat), .int b, .int c] 3 = some (.int c) := atI_nat (j := 3) rfl
  have a1 : atI [V.ref sc, .int (a : Nat), .int b, .int c] 1 = some (.int (a : Nat)) := atI_nat (j := 1) rfl
  refine ⟨_, rfl, R, _, 3, _, rfl, rfl, SqL.of h1, a3, _, _, rfl, rfl, ?_⟩
  by_cases hc : 0 < c
  · refine ⟨true, blT hc, iteT ?_⟩
    refine ⟨_, rfl, R, _, 3, _, rfl, rfl, SqL.of h1, a3, .inl ⟨_, rfl, _, rfl, _, _, rfl, rfl, (by omega : 0 < m), ?_⟩⟩
    refine ⟨_, rfl, R, _, 3, _, rfl, rfl, SqL.of h1, a3, _, rfl, _, _, rfl, rfl, ⟨(by omega : 0 < m), (by omega : m < 1073741824)⟩, _, rfl, R, _, 3, 3, rfl, rfl, h1, rfl, ?_⟩
    refine ⟨_, rfl, fin _ a b (c / m) c (sm1 _ (Sm.refl _ _)) upd_same b1 b2 (Int.ediv_nonneg c1 (by omega))⟩
  · refine ⟨false, blF hc, iteF ?_⟩
    refine ⟨_, rfl, R, _, 1, _, rfl, rfl, SqL.of h1, a1, _, _, rfl, rfl, _, rfl, R, _, 1, 1, rfl, rfl, h1, rfl, ?_⟩
    have s1 : Sm [R] H (upd H R (.lst [.ref sc, .int ((a : Nat) + 1), .int b, .int c])) := sm1 _ (Sm.refl _ _)
    have hr1 : upd H R (.lst [.ref sc, .int ((a : Nat) + 1), .int b, .int c]) R = some (.lst [.ref sc, .int ((a : Nat) + 1), .int b, .int c]) := upd_same
    have hsc1 := (SqF.row h1 h2 s1).sq
    generalize hH1 : upd H R (.lst ([V.ref sc, .int (a : Nat), .int b, .int c].set 1 (.int ((a : Nat) + 1)))) = H1
    have hH1' : upd H R (.lst [.ref sc, .int ((a : Nat) + 1), .int b, .int c]) = H1 := hH1
    rw [hH1'] at s1 hr1 hsc1
    have d0 : atI [V.ref sc, .int ((a : Nat) + 1), .int b, .int c] 0 = some (.ref sc) := atI_nat (j := 0) rfl
    have d1 : atI [V.ref sc, .int ((a : Nat) + 1), .int b, .int c] 1 = some (.int ((a : Nat) + 1)) := atI_nat (j := 1) rfl
    have d2 : atI [V.ref sc, .int ((a : Nat) + 1), .int b, .int c] 2 = some (.int b) := atI_nat (j := 2) rfl
    refine ⟨_, rfl, R, _, 1, _, rfl, rfl, SqL.of hr1, d1, _, rfl, R, _, 0, _, rfl, rfl, SqL.of hr1, d0, sc, _, rfl, .inl hsc1, _, _, rfl, rfl, ?_⟩
    have nb : ∀ z : Int, 0 ≤ z % 2147483647 ∧ z % 2147483647 < 2147483647 := fun z => by omega
    by_cases hlen : ns.length < a + 1
    · refine ⟨true, blT (by rw [List.length_map]; omega), iteT ?_⟩
      refine ⟨_, rfl, R, _, 2, _, rfl, rfl, SqL.of hr1, d2, _, _, rfl, rfl, .inl (by omega), _, _, rfl, rfl, .inl ⟨_, rfl, _, _, rfl, rfl, (by decide : (0 : Int) < 2147483647), _, rfl, R, _, 2, 2, rfl, rfl, hr1, rfl, ?_⟩⟩
      have n2 := nb (b * 48271 + 11)
      refine ⟨_, rfl, R, _, 2, _, rfl, rfl, SqL.of upd_same, atI_nat (j := 2) rfl, _, _, rfl, rfl, ⟨(by decide : (0 : Int) < 7), (by decide : (7 : Int) < 1073741824)⟩, .inl ⟨_, rfl, _, rfl, _, _, rfl, rfl, (by omega : 0 < m), ?_⟩⟩
      exact fin _ (a + 1) _ c _ (sm1 _ s1) upd_same n2.1 n2.2 c1
    · refine ⟨false, blF (by rw [List.length_map]; omega), iteF ?_⟩
      have hal : a < ns.length := by omega
      obtain ⟨cell, hcell⟩ : ∃ z, ns[a]? = some z := ⟨_, List.getElem?_eq_getElem hal⟩
      have hcell2 : (ns.map V.int)[a]? = some (.int cell) := by rw [List.getElem?_map, hcell]; rfl
      have ea : (((a : Nat) : Int) + 1 - 1) = ((a : Nat) : Int) := by omega
      refine ⟨_, rfl, R, _, 0, _, rfl, rfl, SqL.of hr1, d0, _, rfl, R, _, 1, _, rfl, rfl, SqL.of hr1, d1, _, _, rfl, rfl, sc, _, _, _, rfl, rfl, hsc1, by rw [ea]; exact atI_nat hcell2, ?_⟩
      refine ⟨_, rfl, R, _, 2, _, rfl, rfl, SqL.of hr1, d2, _, _, rfl, rfl, .inl (by omega), _, rfl, _, _, rfl, rfl, _, _, rfl, rfl, .inl ⟨_, rfl, _, _, rfl, rfl, (by decide : (0 : Int) < 2147483647), _, rfl, R, _, 2, 2, rfl, rfl, hr1, rfl, ?_⟩⟩
      have n2 := nb (b * 48271 + cell + 11)
      refine ⟨_, rfl, _, _, rfl, rfl, ⟨by decide, by decide, by decide⟩, _, _, rfl, rfl, ?_⟩
      by_cases hbig : (10 : Int) ^ 18 ≤ cell
      · refine ⟨true, blT hbig, iteT ?_⟩
        have c0 : 0 ≤ cell := Int.le_trans (by decide) hbig
        refine ⟨_, rfl, _, rfl, _, _, rfl, rfl, ⟨(by omega : 0 < m), (by omega : m < 1073741824)⟩, _, rfl, R, _, 3, 3, rfl, rfl, upd_same, rfl, ?_⟩
        refine ⟨_, rfl, .inl ⟨_, rfl, _, rfl, _, _, rfl, rfl, (by omega : 0 < m), ?_⟩⟩
        exact fin _ (a + 1) _ (cell / m) _ (sm1 _ (sm1 _ s1)) upd_same n2.1 n2.2 (Int.ediv_nonneg c0 (by omega))
      · refine ⟨false, blF hbig, iteF ?_⟩
        refine ⟨_, rfl, .inl ⟨_, rfl, _, rfl, _, _, rfl, rfl, (by omega : 0 < m), ?_⟩⟩
        exact fin _ (a + 1) _ c _ (sm1 _ s1) upd_same n2.1 n2.2 c1
end
end Ls
set_option maxRecDepth 100000
set_option maxHeartbeats 4000000
/-! _law_control, _law_names -/
namespace Ls
open PySem PySem.Spec PyProof.Rows L2
section
variable {P : Program} {w : World} {K : PySem.W.Frag} {mg : Str → Option Value} {base : Heap}
def someV : List V := [.str "ok", .str "bad", .str "die", .str "done", .str "ignore", .str "reset", .int 1, .int 2, .str "ok", .str "ignore"]
theorem someV_ok : someV.all isActB = true := by decide +kernel
/-- a list of another place stands through a change of the row -/
theorem RowAt.keep {H H' : Hp} {R x : Addr} {o : HO} (s : Sm [R] H H') (hx : H x = some o) (hn : x ≠ R) : H' x = some o := s _ _ hx (by simpa using hn)
def spLCtl (K : PySem.W.Frag) : Sp := fun vs H Q _ => ∃ R : Addr, vs = [.ref R] ∧ RowAt K H R ∧ ∀ H' c a acts, Sm [R] H H' → RowAt K H' R → Ctl K H' c a acts → plainV c = true → actsOk acts = true → Q c H'
theorem sc_law_control : FnScope ["_law_row", "_law_way", "_law_some", "_law_result"] ["_law_row"] (defScope s_law_control) := ⟨rfl, rfl, rfl, by decide +kernel, rfl, by decide +kernel, by decide +kernel⟩
theorem ok_law_control (T : Txt w K mg) : GF P w K mg base 2 "_law_control" (He.ga K "_law_control") (spLCtl K) := by
  obtain ⟨fd, F⟩ := T.d_law_control
  refine gf_of F T.g_law_control (fnr F sc_law_control (F.binds fun _ _ _ _ _ _ us hl => match us, hl with | [_], _ => rfl) (by rintro vs H Q E ⟨_, rfl, _⟩; rfl) fun cdv A outer s H vs Q E hr h => ?_)
  obtain ⟨R, rfl, hR, q⟩ := h
  refine ⟨_, (pss_cons (ps_set (i := 1) sc_law_control.nd rfl (.inl rfl) (pcall (ok_law_taken T) (hr.mono (by first | decide | omega)) (pa_cons (pv 0) (pa_cons pe_int pa_nil))))
    (pss_cons (ps_if (pt_cmpR op_lt (pv 1) pe_int (nomark _)) (pss_one (ps_ret (pe_ix ix_list (pe_lst (pa_cons pe_str (pa_cons pe_str (pa_cons pe_str (pa_cons pe_str pa_nil))))) (pv 1) (fun _ _ => rfl)))) pss_nil)
    (pss_cons (ps_set (i := 2) sc_law_control.nd rfl (.inr rfl) (pe_lst (pa_cons pe_str (pa_cons pe_str (pa_cons pe_str (pa_cons pe_str (pa_cons pe_str (pa_cons pe_str (pa_cons pe_int (pa_cons pe_int (pa_cons pe_str (pa_cons pe_str pa_nil))))))))))))
    (pss_one (ps_ret (pct call_tuple_of T.f_tuple (pa_cons (pe_lc (own := [("_law_result", 3)]) (g := gName 3) (tt := tYes) (te := tOp (rIxL K) (tVar 2) (tC0 (spTaken K) (tCons (tVar 0) (tCons (tC (.int 10)) tNil)))) rfl sc_law_control.nd (pi_range1 (by rfl) T.f_range (pa_cons pe_int pa_nil)) (blkOk_by (own := [("_law_result", 3)]) (N := ["_law_row", "_law_way", "_law_some", "_law_result"]) (sc := defScope s_law_control) (by decide +kernel)) (fun _ _ _ _ _ => pg_name (i := 3) sc_law_control.nd rfl (Or.inl rfl)) (fun _ _ _ _ _ => pts_nil) (fun _ _ _ _ _ => (pe_ix ix_list (pv 2) (pcall (ok_law_taken T) (hr.mono (by first | decide | omega)) (pa_cons (pv 0) (pa_cons pe_int pa_nil))) (fun _ _ => rfl)))) pa_nil))))))), ?_⟩
  refine ⟨_, rfl, R, 7, rfl, hR, by decide, by decide, fun H1 v hv s1 hR1 => ?_⟩
  refine ⟨_, rfl, _, _, rfl, rfl, ?_⟩
  by_cases h4 : v < 4
  · refine ⟨true, blT (by omega), iteT ?_⟩
    refine ⟨by show 4 ≤ sizeLine; decide, fun L hL => ?_⟩
    have e1 : Ext H1 (upd H1 L (.lst kN)) := Ext.upd hL
    obtain ⟨p, hp⟩ : ∃ p, kindTab[v]? = some p := ⟨_, List.getElem?_eq_getElem (show v < kindTab.length by show v < 4; exact h4)⟩
    have hk := (kN_at hp).1
    have hc : Ctl K (upd H1 L (.lst kN)) (.str p.1) (kindA K v) p.2 := .inl ⟨v, p, hp, rfl, rfl, rfl⟩
    exact ⟨_, rfl, L, kN, _, _, rfl, rfl, SqL.of upd_same, atI_nat hk, q _ _ _ _ (s1.trans (Sm.of e1)) (hR1.ext e1) hc rfl (hc.sq T).2⟩
  · refine ⟨false, blF (by omega), iteF ?_⟩
    refine ⟨by show 10 ≤ sizeLine; decide, fun S hS => ?_⟩
    have e1 : Ext H1 (upd H1 S (.lst someV)) := Ext.upd hS
    have hS1 : upd H1 S (.lst someV) S = some (.lst someV) := upd_same
    generalize hH2 : upd H1 S (.lst [.str "ok", .str "bad", .str "die", .str "done", .str "ignore", .str "reset", .int 1, .int 2, .str "ok", .str "ignore"]) = H2
    have hH2' : upd H1 S (.lst someV) = H2 := hH2
    rw [hH2'] at e1 hS1
    have hR2 := hR1.ext e1
    have hSR : S ≠ R := fun z => by
      obtain ⟨_, _, _, _, _, g, _⟩ := hR1
      rw [← z, hS] at g
      cases g
    refine ⟨_, rfl, by decide, by decide, fun D hD => ?_⟩
    have hSD : S ≠ D := ne_of_none hS1 hD
    have hRD : R ≠ D := fun z => by
      obtain ⟨_, _, _, _, _, g, _⟩ := hR2
      rw [z, hD] at g
      cases g
    refine lc_it walk_range (fun j H' => Sm [D, R] H2 H' ∧ RowAt K H' R ∧ ∃ acts : List V, H' D = some (.lst acts) ∧ acts.length = j ∧ acts.all isActB = true) ⟨(Sm.refl _ _).upd (by simp), hR2.ext (Ext.upd hD), [], upd_same, rfl, rfl⟩ (fun _ _ _ _ => trivial) (fun j v' Ha Hb hj hv' hy => ?_) fun H6 hv' => ?_
    · obtain ⟨s3, hR3, acts, hD3, hl3, ha3⟩ := hv'
      obtain ⟨rfl, rfl⟩ := hy
      have hS3 := s3 _ _ hS1 (by simpa using ⟨hSD, hSR⟩)
      refine ⟨rfl, _, rfl, _, rfl, R, 10, rfl, hR3, by decide, by decide, fun H4 t ht s4 hR4 => ?_⟩
      have hS4 := s4 _ _ hS3 (by simpa using hSR)
      have hD4 := s4 _ _ hD3 (by simpa using Ne.symm hRD)
      have ht10 : t < someV.length := by show t < 10; omega
      obtain ⟨act, hact⟩ : ∃ x, someV[t]? = some x := ⟨_, List.getElem?_eq_getElem ht10⟩
      have sD : Sm [D] H4 (upd H4 D (.lst (acts ++ [act]))) := (Sm.refl _ _).upd (List.mem_singleton.mpr rfl)
      refine ⟨S, someV, _, act, rfl, rfl, SqL.of hS4, atI_nat hact, acts, hD4, ?_, (s3.trans (s4.mono fun b hb => List.mem_cons_of_mem _ hb)).upd (by simp), ?_, acts ++ [act], upd_same, ?_, ?_⟩
      · rw [hl3]
        exact Nat.lt_of_lt_of_le (by have : j < 4 := hj; omega : j < 50) (by decide)
      · exact hR4.lstD hD4 (Ne.symm hRD)
      · rw [List.length_append, hl3]
        rfl
      · rw [List.all_append, ha3]
        simp only [List.all_cons, List.all_nil, Bool.and_true, Bool.true_and]
        exact List.all_eq_true.mp someV_ok act (List.mem_of_getElem? hact)
    · obtain ⟨s3, hR3, acts, hD3, hl3, ha3⟩ := hv'
      have hl4 : acts.length = 4 := hl3
      have hok : actsOk acts = true := by
        unfold actsOk
        rw [hl4, ha3]
        rfl
      refine ⟨D, acts, rfl, .inl ⟨SqL.of hD3, fun l hl => ?_⟩⟩
      have e7 : Ext H6 (upd H6 l (.tup acts)) := Ext.upd hl
      exact q _ _ l acts (((s1.trans (Sm.of e1)).trans (s3.drop hD)).trans (Sm.of e7)) (hR3.ext e7) (.inr ⟨rfl, .inl (.inl upd_same), hok⟩) rfl hok
/-! _law_names -/
def spLNames (K : PySem.W.Frag) : Sp := fun vs H Q _ => ∃ R : Addr, vs = [.ref R, .int 2] ∧ RowAt K H R ∧ ∀ H' q (zs : List Str), Sm [R] H H' → RowAt K H' R → H q = none → H' q = some (.lst (zs.map V.str)) → 1 ≤ zs.length → zs.length ≤ 2 → (∀ z ∈ zs, wordOk z = true) → Q (.ref q) H'
theorem names_cut (b t : Nat) (hb : b < 2) (ht : t < 2) : ∃ zs : List Str, cutV [V.str "card", .str "key", .str "lan", .str "pin", .str "sms"] (some (b : Int)) (some ((b : Int) + 1 + (t : Int))) = zs.map V.str ∧ 1 ≤ zs.length ∧ zs.length ≤ 2 ∧ ∀ z ∈ zs, wordOk z = true := by
  match b, t, hb, ht with
  | 0, 0, _, _ => exact ⟨["card"], by decide +kernel, by decide, by decide, by decide +kernel⟩
  | 0, 1, _, _ => exact ⟨["card", "key"], by decide +kernel, by decide, by decide, by decide +kernel⟩
  | 1, 0, _, _ => exact ⟨["key"], by decide +kernel, by decide, by decide, by decide +kernel⟩
  | 1, 1, _, _ => exact ⟨["key", "lan"], by decide +kernel, by decide, by decide, by decide +kernel⟩
theorem sc_law_names : FnScope ["_law_row", "_law_most", "_law_some", "_law_begin"] ["_law_row", "_law_most"] (defScope s_law_names) := ⟨rfl, rfl, rfl, by decide +kernel, rfl, by decide +kernel, by decide +kernel⟩
theorem ok_law_names (T : Txt w K mg) : GF P w K mg base 2 "_law_names" (He.ga K "_law_names") (spLNames K) := by
  obtain ⟨fd, F⟩ := T.d_law_names
  refine gf_of F T.g_law_names (fnr F sc_law_names (F.binds fun _ _ _ _ _ _ us hl => match us, hl with | [_, _], _ => rfl) (by rintro vs H Q E ⟨_, rfl, _⟩; rfl) fun cdv A outer s H vs Q E hr h => ?_)
  obtain ⟨R, rfl, hR, q⟩ := h
  refine ⟨_, (pss_cons (ps_set (i := 2) sc_law_names.nd rfl (.inl rfl) (pe_lst (pa_cons pe_str (pa_cons pe_str (pa_cons pe_str (pa_cons pe_str (pa_cons pe_str pa_nil)))))))
    (pss_cons (ps_set (i := 3) sc_law_names.nd rfl (.inl rfl) (pcall (ok_law_taken T) (hr.mono (by first | decide | omega)) (pa_cons (pv 0) (pa_cons pe_int pa_nil))))
    (pss_one (ps_ret (pe_slice sl_list (pv 2) (po_some (pv 3)) (po_some (pe_op op_add (pe_op op_add (pv 3) pe_int) (pcall (ok_law_taken T) (hr.mono (by first | decide | omega)) (pa_cons (pv 0) (pa_cons (pv 1) pa_nil)))))))))), ?_⟩
  refine ⟨by show 5 ≤ sizeLine; decide, fun S hS => ?_⟩
  have e1 : Ext H (upd H S (.lst [.str "card", .str "key", .str "lan", .str "pin", .str "sms"])) := Ext.upd hS
  have hS1 : upd H S (.lst [.str "card", .str "key", .str "lan", .str "pin", .str "sms"]) S = some (.lst [.str "card", .str "key", .str "lan", .str "pin", .str "sms"]) := upd_same
  have hSR : S ≠ R := hR.new hS
  generalize upd H S (.lst [.str "card", .str "key", .str "lan", .str "pin", .str "sms"]) = H1 at e1 hS1 ⊢
  refine ⟨_, rfl, R, 2, rfl, hR.ext e1, by decide, by decide, fun H2 b hb s2 hR2 => ?_⟩
  refine ⟨_, rfl, _, rfl, _, rfl, _, rfl, _, _, rfl, rfl, _, rfl, _, rfl, R, 2, rfl, hR2, by decide, by decide, fun H3 t ht s3 hR3 => ?_⟩
  have hS3 := RowAt.keep s3 (RowAt.keep s2 hS1 hSR) hSR
  obtain ⟨zs, z1, z2, z3, z4⟩ := names_cut b t (by omega) (by omega)
  refine ⟨_, _, rfl, rfl, _, rfl, S, _, rfl, SqL.of hS3, fun p hp => ?_⟩
  rw [z1]
  have e4 : Ext H3 (upd H3 p (.lst (zs.map V.str))) := Ext.upd hp
  have sall : Sm [R] H H3 := ((Sm.of e1).trans s2).trans s3
  refine q _ p zs (sall.trans (Sm.of e4)) (hR3.ext e4) ?_ upd_same z2 z3 z4
  cases hz : H p with
  | none => rfl
  | some o =>
    have := sall _ _ hz (by simpa using hR3.new hp)
    rw [hp] at this
    cases this
end
end Ls
set_option maxRecDepth 100000
set_option maxHeartbeats 4000000
/-! _law_stack -/
namespace Ls
open PySem PySem.Spec PyProof.Rows L2
/-- what the law builds: flat enough, of few names -/
structure Gd (d : Nat) (zs : List Str) (es : List Tr) : Prop where
  dep : depL es ≤ d
  mods : ∀ m ∈ modsL es, m ∈ zs
  rus : (stepsL es).all ruOk = true
theorem Gd.nil (d : Nat) (zs : List Str) (h : 1 ≤ d) : Gd d zs [] := ⟨by simpa [depL] using h, fun m hm => by simp [modsL, stepsL] at hm, rfl⟩
theorem Gd.app {d : Nat} {zs : List Str} {es fs : List Tr} (h1 : Gd d zs es) (h2 : Gd d zs fs) : Gd d zs (es ++ fs) := by
  refine ⟨by rw [depL_append]; have := h1.dep; have := h2.dep; omega, fun m hm => ?_, ?_⟩
  · unfold modsL at hm
    rw [stepsL_append, List.map_append, List.mem_append] at hm
    rcases hm with hm | hm
    · exact h1.mods m hm
    · exact h2.mods m hm
  · rw [stepsL_append, List.all_append, h1.rus, h2.rus]
    rfl
theorem Gd.rl {d : Nat} {zs : List Str} {m : Str} {acts : List V} (hd : 1 ≤ d) (hm : m ∈ zs) (hw : wordOk m = true) (ha : actsOk acts = true) : Gd d zs [.rl m acts] := by
  refine ⟨by simpa [depL, Tr.dep] using hd, fun x hx => ?_, ?_⟩
  · have : x = m := by simpa [modsL, stepsL, Tr.steps] using hx
    rw [this]
    exact hm
  · simp [stepsL, Tr.steps, ruOk, hw, ha]
theorem Gd.st {d : Nat} {zs : List Str} {es : List Tr} (h : Gd d zs es) : Gd (d + 1) zs [.st es] := by
  refine ⟨by have := h.dep; simp only [depL, Tr.dep]; omega, fun m hm => ?_, ?_⟩
  · refine h.mods m ?_
    simpa [modsL, stepsL, Tr.steps] using hm
  · simpa [stepsL, Tr.steps] using h.rus
theorem Gd.ok {d : Nat} {zs : List Str} {es : List Tr} (h : Gd d zs es) (hd : d ≤ 3) (hz : zs.length ≤ 6) (hl : es.length ≤ 12) (hr : (stepsL es).length ≤ 12) : Ok es :=
  ⟨hl, by have := h.dep; omega, hr, ⟨zs, hz, h.mods⟩, h.rus⟩
section
variable {P : Program} {w : World} {K : PySem.W.Frag} {mg : Str → Option Value} {base : Heap}
def NamesAt (H : Hp) (N : Addr) (zs : List Str) : Prop := H N = some (.lst (zs.map V.str)) ∧ 1 ≤ zs.length ∧ zs.length ≤ 2 ∧ ∀ z ∈ zs, wordOk z = true
theorem NamesAt.ne {H : Hp} {N : Addr} {zs : List Str} {x : Addr} {v : V} {r : List V} (h : NamesAt H N zs) (hx : H x = some (.lst (v :: r))) (hv : ∀ z, v ≠ .str z) : N ≠ x := fun e => by
  have h1 := h.1
  have h2 := h.2.1
  rw [e, hx] at h1
  match zs, h1, h2 with
  | z :: zs, h1, _ =>
    cases h1
    exact hv z rfl
def spLStack (K : PySem.W.Frag) (d : Nat) : Sp := fun vs H Q _ => ∃ (R N L : Addr) (zs : List Str) (c : Nat), vs = [.ref R, .ref N, .ref L, .int (d : Nat)] ∧ RowAt K H R ∧ NamesAt H N zs ∧ H L = some (.lst [.int (c : Nat)]) ∧ c ≤ 5 ∧
  ∀ H' y es (c' : Nat), Sm [R, L] H H' → RowAt K H' R → H' L = some (.lst [.int (c' : Nat)]) → AtT K H' (.st es) y → es.length ≤ 4 → (stepsL es).length + c' ≤ c → Gd d zs es → Q (.ref y) H'
theorem sc_law_stack : FnScope ["_law_row", "_law_names_here", "_law_left", "_law_depth", "_law_found", "_law_k"] ["_law_row", "_law_names_here", "_law_left", "_law_depth"] (defScope s_law_stack) := ⟨rfl, rfl, rfl, by decide +kernel, rfl, by decide +kernel, by decide +kernel⟩
theorem key_lstack (T : Txt w K mg) (d k : Nat) (hk : 5 ≤ k) (hd1 : 1 ≤ d) (hd2 : d ≤ 2) (G : ∃ spR, GF P w K mg base k "_law_stack" (He.ga K "_law_stack") spR ∧ ∀ vs H Q E, spLStack K (d - 1) vs H Q E → 1 < d → spR vs H Q E) : GF P w K mg base (k + 1) "_law_stack" (He.ga K "_law_stack") (spLStack K d) := by
  obtain ⟨spR, GR, hG⟩ := G
  obtain ⟨fd, F⟩ := T.d_law_stack
  refine gf_of F T.g_law_stack (fnr F sc_law_stack (F.binds fun _ _ _ _ _ _ us hl => match us, hl with | [_, _, _, _], _ => rfl) (by rintro vs H Q E ⟨_, _, _, _, _, rfl, _⟩; rfl) fun cdv A outer s H vs Q E hr h => ?_)
  obtain ⟨R, N, L, zs, c, rfl, hR, hN, hL, hc5, q⟩ := h
  refine ⟨_, (pss_cons (ps_set (i := 4) sc_law_stack.nd rfl (.inl rfl) (pmake0 (ok_Stack T) (hr.mono (by first | decide | omega))))
    (pss_cons (ps_for PassesOwn.never rfl (pi_range1 (by rfl) T.f_range (pa_cons (pcall (ok_law_taken T) (hr.mono (by first | decide | omega)) (pa_cons (pv 0) (pa_cons pe_int pa_nil))) pa_nil)) (pg_name (i := 5) sc_law_stack.nd rfl (.inl rfl))
    (pss_one (ps_if (PW.pt (pw_and (pt_cmpR op_gt (pv 3) pe_int (nomark _)) (pw_and1 (pt_cmpR op_eq (pcall (ok_law_taken T) (hr.mono (by first | decide | omega)) (pa_cons (pv 0) (pa_cons pe_int pa_nil))) pe_int (nomark _))))) (pss_one (ps_set (i := 4) sc_law_stack.nd rfl (.inl rfl) (pe_op (op_addO (ok_Stack_add T) T.sf_Stack (hr.mono (by omega))) (pv 4) (pmake (ok_Stack T) (hr.mono (by first | decide | omega)) (pa_cons (pcall GR (hr.mono (by first | decide | omega)) (pa_cons (pv 0) (pa_cons (pv 1) (pa_cons (pv 2) (pa_cons (pe_op op_sub (pv 3) pe_int) pa_nil))))) pa_nil))))) (pss_one (ps_if (pt_cmpR op_gt (pe_ix ix_list (pv 2) pe_int (fun _ _ => rfl)) pe_int (nomark _)) (pss_cons (ps_asg (pe_op op_sub (pe_ix ix_list (pv 2) pe_int (fun _ _ => rfl)) pe_int) (pg_sub (pv 2) pe_int set_list))
    (pss_one (ps_set (i := 4) sc_law_stack.nd rfl (.inl rfl) (pe_op (op_addO (ok_Stack_add T) T.sf_Stack (hr.mono (by omega))) (pv 4) (pmake (ok_Stack T) (hr.mono (by first | decide | omega)) (pa_cons (pmake (ok_Rule T) (hr.mono (by first | decide | omega)) (pa_cons (pe_ix ix_list (pv 1) (pcall (ok_law_taken T) (hr.mono (by first | decide | omega)) (pa_cons (pv 0) (pa_cons (pcb call_len_seq T.f_len (pa_cons (pv 1) pa_nil)) pa_nil))) (fun _ _ => rfl)) (pa_cons (pcall (ok_law_control T) (hr.mono (by first | decide | omega)) (pa_cons (pv 0) pa_nil)) pa_nil))) pa_nil)))))) pss_nil)))))
    (pss_one (ps_ret (pv 4))))), ?_⟩
  have hNR : N ≠ R := by
    obtain ⟨sc, ns, a, b, c1, h1, _⟩ := hR
    exact hN.ne h1 fun z e => nomatch e
  have hNL : N ≠ L := hN.ne hL fun z e => nomatch e
  have hLR : L ≠ R := fun z => by
    obtain ⟨sc, ns, a, b, c1, h1, _⟩ := hR
    rw [z, h1] at hL
    cases hL
  have hz6 : zs.length ≤ 6 := by have := hN.2.2.1; omega
  refine fun x1 dx1 n1 n2 n3 => mkSt' (as := []) (es := []) (show AtL K H [] [] from trivial) (Gd.ok (Gd.nil d zs hd1) (by omega) hz6 (by decide) (by decide)) n1 n2 n3 fun H1 e1 hy1 => ⟨rfl, ?_⟩
  refine ⟨_, rfl, R, 5, rfl, hR.ext e1, by decide, by decide, fun H2 n hn s2 hR2 => ⟨_, rfl, by omega, by omega, ?_⟩⟩
  rw [Int.toNat_natCast]
  have s02 : Sm [R, L] H H2 := (Sm.of e1).trans (s2.mono fun b hb => by simp [List.mem_singleton.mp hb])
  have fzRL : ∀ {Hx Hy : Hp} {cx : Nat}, RowAt K Hx R → Hx L = some (.lst [.int (cx : Nat)]) → Sm [R, L] Hx Hy → Fz Hx Hy := fun {Hx Hy cx} hr hl s => s.fz fun b hb o e => by
    simp only [List.mem_cons, List.not_mem_nil, or_false] at hb
    rcases hb with z | z
    · obtain ⟨sc, ns, a, b', c1, h1, _⟩ := hr
      rw [z, h1] at e
      cases e
      rfl
    · rw [z, hl] at e
      cases e
      rfl
  refine for_it walk_range (fun i σ Hx => ∃ (y : Addr) (es : List Tr) (c' : Nat) (kv : Option V), σ = [some (.ref R), some (.ref N), some (.ref L), some (.int (d : Nat)), some (.ref y), kv] ∧ Sm [R, L] H Hx ∧ RowAt K Hx R ∧ NamesAt Hx N zs ∧ Hx L = some (.lst [.int (c' : Nat)]) ∧
      AtT K Hx (.st es) y ∧ es.length ≤ i ∧ (stepsL es).length + c' ≤ c ∧ Gd d zs es)
    ⟨x1, [], c, none, rfl, s02, hR2, ⟨s02 _ _ hN.1 (by simpa using ⟨hNR, hNL⟩), hN.2⟩, s2 _ _ (e1 _ _ hL) (by simpa using hLR), hy1.fz ((hR.ext e1).smfz s2), Nat.le_refl _, by simp [stepsL], Gd.nil d zs hd1⟩ (fun _ _ _ _ _ => trivial) (fun i v σ Hy Hx hi hp3 hy => ?_) fun σ Hx hp3 => ?_
  · obtain ⟨y, es, c', kv, rfl, sm, hRx, hNx, hLx, hyx, hlen, hst, hgd⟩ := hp3
    obtain ⟨rfl, rfl⟩ := hy
    have test : ∀ Rk : Bool → Hp → Prop, (∀ b Hz, Sm [R] Hx Hz → RowAt K Hz R → (b = true → 1 < d) → Rk b Hz) →
        tAnd (tTest (tOp (rI0 fun i j => .bl (decide (j < i))) (tVar 3) (tC (.int 1)))) (tTest (tOp rEq (tC0 (spTaken K) (tCons (tVar 0) (tCons (tC (.int 5)) tNil))) (tC (.int 0))))
          [some (.ref R), some (.ref N), some (.ref L), some (.int (d : Nat)), some (.ref y), some (.int (0 + (i : Nat)))] Hx Rk := fun Rk hk => by
      by_cases h1 : 1 < d
      · refine ⟨_, rfl, _, _, rfl, rfl, true, blT (by omega), iteT ?_⟩
        refine ⟨_, rfl, R, 5, rfl, hRx, by decide, by decide, fun H3 t ht s3 hR3 => ⟨rfl, _, rfl, hk _ H3 s3 hR3 fun _ => h1⟩⟩
      · refine ⟨_, rfl, _, _, rfl, rfl, false, blF (by omega), iteF ?_⟩
        exact hk false Hx (Sm.refl _ _) hRx fun z => nomatch z
    refine test _ fun b Hz sz hRz hb => ?_
    have szRL : Sm [R, L] Hx Hz := sz.mono fun b hb => by simp [List.mem_singleton.mp hb]
    have hLz : Hz L = some (.lst [.int (c' : Nat)]) := sz _ _ hLx (by simpa using hLR)
    have hNz : NamesAt Hz N zs := ⟨sz _ _ hNx.1 (by simpa using hNR), hNx.2⟩
    have hyz := hyx.fz (hRx.smfz sz)
    have smz : Sm [R, L] H Hz := sm.trans szRL
    have addS : ∀ (H5 : Hp) (e : Tr) (x2 : Addr) (c5 : Nat), Sm [R, L] Hz H5 → RowAt K H5 R → H5 L = some (.lst [.int (c5 : Nat)]) → AtT K H5 (.st [e]) x2 → e.steps.length + c5 ≤ c' → Gd d zs [e] →
        rAddO (cStack K) (spSAdd K) (.ref y) (.ref x2) H5 fun v H6 => ∃ (y' : Addr) (es' : List Tr) (c'' : Nat) (kv : Option V), [some (.ref R), some (.ref N), some (.ref L), some (.int (d : Nat)), some v, some (.int (0 + (i : Nat)))] = [some (.ref R), some (.ref N), some (.ref L), some (.int (d : Nat)), some (.ref y'), kv] ∧
          Sm [R, L] H H6 ∧ RowAt K H6 R ∧ NamesAt H6 N zs ∧ H6 L = some (.lst [.int (c'' : Nat)]) ∧ AtT K H6 (.st es') y' ∧ es'.length ≤ i + 1 ∧ (stepsL es').length + c'' ≤ c ∧ Gd d zs es' := fun H5 e x2 c5 s5 hR5 hL5 hx2 hle hg => by
      have hy5 := hyz.fz (fzRL hRz hLz s5)
      obtain ⟨dy, tp, ts, tn, as, rs, k1, _⟩ := id hy5
      obtain ⟨dy2, tp2, ts2, tn2, as2, rs2, k2, _⟩ := id hx2
      have hst2 : (stepsL (es ++ [e])).length = (stepsL es).length + e.steps.length := by
        rw [stepsL_append, List.length_append]
        simp [stepsL]
      refine ⟨y, x2, dy, dy2, _, _, rfl, rfl, k1, k2, y, x2, es, [e], rfl, hy5, hx2, Gd.ok (hgd.app hg) (by omega) hz6 ?_ ?_, fun H6 z e6 hz => ?_⟩
      · rw [List.length_append]
        simp only [List.length_cons, List.length_nil]
        omega
      · omega
      · have s6 : Sm [R, L] H H6 := (smz.trans s5).trans (Sm.of e6)
        refine ⟨z, es ++ [e], c5, _, rfl, s6, hR5.ext e6, ⟨s6 _ _ hN.1 (by simpa using ⟨hNR, hNL⟩), hN.2⟩, e6 _ _ hL5, hz, ?_, by omega, hgd.app hg⟩
        rw [List.length_append]
        simp only [List.length_cons, List.length_nil]
        omega
    cases b with
    | true =>
      have h1 := hb rfl
      refine iteT ⟨_, rfl, _, rfl, _, rfl, _, rfl, _, rfl, _, _, rfl, rfl, ?_⟩
      refine hG _ _ _ _ ⟨R, N, L, zs, c', by show [V.ref R, V.ref N, V.ref L, V.int ((d : Int) - 1)] = _; rw [show ((d : Int) - 1) = ((d - 1 : Nat) : Int) by omega], hRz, hNz, hLz, by omega, fun H4 y4 es4 c4 s4 hR4 hL4 hy4 l4 st4 gd4 => ?_⟩ h1
      have gd5 : Gd d zs [.st es4] := by
        have := gd4.st
        rw [show d - 1 + 1 = d by omega] at this
        exact this
      have st5 : (stepsL [Tr.st es4]).length = (stepsL es4).length := by simp [stepsL, Tr.steps]
      refine fun x2 dx2 m1 m2 m3 => mkSt' (as := [y4]) (es := [.st es4]) (show AtL K H4 [.st es4] [y4] from ⟨hy4, trivial⟩) (gd5.ok (by omega) hz6 (show 1 ≤ 12 by decide) (by omega)) m1 m2 m3 fun H5 e5 hy5 => ⟨rfl, ?_⟩
      exact addS H5 (.st es4) x2 c4 (s4.trans (Sm.of e5)) (hR4.ext e5) (e5 _ _ hL4) hy5 (by simpa [Tr.steps] using st4) gd5
    | false =>
      refine iteF ?_
      refine ⟨_, rfl, L, _, 0, _, rfl, rfl, SqL.of hLz, atI_nat (j := 0) rfl, _, _, rfl, rfl, ?_⟩
      by_cases hc0 : 0 < c'
      · refine ⟨true, blT (by omega), iteT ?_⟩
        refine ⟨_, rfl, L, _, 0, _, rfl, rfl, SqL.of hLz, atI_nat (j := 0) rfl, _, _, rfl, rfl, _, rfl, L, _, 0, 0, rfl, rfl, hLz, rfl, ?_⟩
        generalize hH5 : upd Hz L (.lst ([V.int (c' : Nat)].set 0 (.int ((c' : Nat) - 1)))) = H5
        have s5 : Sm [R, L] Hz H5 := by rw [← hH5]; exact (Sm.refl _ _).upd (by simp)
        have hL5 : H5 L = some (.lst [.int ((c' - 1 : Nat) : Nat)]) := by
          rw [← hH5, upd_same]
          show some (HO.lst [V.int ((c' : Nat) - 1)]) = _
          rw [show (((c' : Nat) : Int) - 1) = ((c' - 1 : Nat) : Int) by omega]
        have hR5 : RowAt K H5 R := by rw [← hH5]; exact hRz.lstD hLz hLR
        have hN5 : NamesAt H5 N zs := ⟨s5 _ _ hNz.1 (by simpa using ⟨hNR, hNL⟩), hNz.2⟩
        have h12 := hN.2
        refine ⟨_, rfl, _, rfl, _, rfl, _, rfl, N, _, rfl, .inl (SqL.of hN5.1), R, _, rfl, hR5, by rw [List.length_map]; omega, by rw [List.length_map]; omega, fun H6 t ht s6 hR6 => ?_⟩
        rw [List.length_map] at ht
        obtain ⟨z, hz⟩ : ∃ z, zs[t]? = some z := ⟨_, List.getElem?_eq_getElem (by omega)⟩
        have hzm := List.mem_of_getElem? hz
        have hzV : (zs.map V.str)[t]? = some (.str z) := by rw [List.getElem?_map, hz]; rfl
        have hN6 := s6 _ _ hN5.1 (by simpa using hNR)
        refine ⟨N, _, _, _, rfl, rfl, SqL.of hN6, atI_nat hzV, _, rfl, R, rfl, hR6, fun H7 cc a acts s7 hR7 hctl hpl hok => ?_⟩
        refine fun x3 dx3 r1 r2 r3 => mkRu' T (hN.2.2.2 z hzm) hctl r1 r2 r3 fun H8 e8 hy8 => ⟨rfl, ?_⟩
        have gd5 : Gd d zs [.rl z acts] := Gd.rl hd1 hzm (hN.2.2.2 z hzm) hok
        refine fun x2 dx2 m1 m2 m3 => mkSt' (as := [x3]) (es := [.rl z acts]) (show AtL K H8 [.rl z acts] [x3] from ⟨hy8, trivial⟩) (gd5.ok (by omega) hz6 (show 1 ≤ 12 by decide) (show 1 ≤ 12 by decide)) m1 m2 m3 fun H9 e9 hy9 => ⟨rfl, ?_⟩
        have s79 : Sm [R] H5 H9 := ((s6.trans s7).trans (Sm.of e8)).trans (Sm.of e9)
        exact addS H9 (.rl z acts) x2 (c' - 1) (s5.trans (s79.mono fun b hb => by simp [List.mem_singleton.mp hb])) ((hR7.ext e8).ext e9) (s79 _ _ hL5 (by simpa using hLR)) hy9 (by simp only [Tr.steps, List.length_cons, List.length_nil]; omega) gd5
      · refine ⟨false, blF (by omega), iteF ?_⟩
        exact ⟨y, es, c', _, rfl, smz, hRz, hNz, hLz, hyz, by omega, hst, hgd⟩
  · obtain ⟨y, es, c', kv, rfl, sm, hRx, hNx, hLx, hyx, hlen, hst, hgd⟩ := hp3
    exact ⟨_, rfl, q Hx y es c' sm hRx hLx hyx (by omega) hst hgd⟩
theorem ok_law_stack1 (T : Txt w K mg) : GF P w K mg base 6 "_law_stack" (He.ga K "_law_stack") (spLStack K 1) :=
  key_lstack T 1 5 (by decide) (by decide) (by decide) ⟨fun _ _ _ _ => False, ⟨fun _ _ _ _ _ _ _ _ _ _ _ h => h.elim, by obtain ⟨fd, F⟩ := T.d_law_stack; exact F.kp, T.g_law_stack⟩, fun _ _ _ _ _ z => absurd z (Nat.lt_irrefl _)⟩
theorem ok_law_stack (T : Txt w K mg) : GF P w K mg base 7 "_law_stack" (He.ga K "_law_stack") (spLStack K 2) :=
  key_lstack T 2 6 (by decide) (by decide) (by decide) ⟨spLStack K 1, ok_law_stack1 T, fun _ _ _ _ h _ => h⟩
end
end Ls
set_option maxRecDepth 100000
set_option maxHeartbeats 4000000
/-! the plain law: an edit and the one against it -/
namespace Ls
open PySem PySem.Spec PyProof.Rows L2
theorem cut_at {es : List Tr} {i : Nat} {e : Tr} (h : es[i]? = some e) : es = es.take i ++ e :: es.drop (i + 1) := by
  obtain ⟨hi, he⟩ := List.getElem?_eq_some_iff.mp h
  conv => lhs; rw [← List.take_append_drop i es, List.drop_eq_getElem_cons hi, he]
theorem splice_app (A M B N : List Tr) : splice (A ++ M ++ B) A.length N M.length = A ++ N ++ B := by
  unfold splice
  rw [List.append_assoc A M B, List.take_left, ← List.append_assoc A M B, ← List.length_append, List.drop_left]
theorem splice_at {es A M B N : List Tr} {i c : Nat} (he : es = A ++ M ++ B) (hi : A.length = i) (hc : M.length = c) : splice es i N c = A ++ N ++ B := by
  subst he hi hc
  exact splice_app A M B N
/-- an entry out and in again -/
theorem back_take {es : List Tr} {i : Nat} {e : Tr} (h : es[i]? = some e) : splice (splice es i [] 1) i [e] 0 = es := by
  have hi := (List.getElem?_eq_some_iff.mp h).1
  have hl : (es.take i).length = i := by rw [List.length_take]; omega
  have h1 : splice es i [] 1 = es.take i ++ [] ++ es.drop (i + 1) := splice_at (M := [e]) (by simpa using cut_at h) hl rfl
  refine (congrArg (fun z => splice z i [e] 0) h1).trans ((splice_at (M := []) (N := [e]) (B := es.drop (i + 1)) rfl hl rfl).trans ?_)
  simpa using (cut_at h).symm
/-- an entry in and out again -/
theorem back_put {es : List Tr} {i : Nat} (e : Tr) (hi : i ≤ es.length) : splice (splice es i [e] 0) i [] 1 = es := by
  have hl : (es.take i).length = i := by rw [List.length_take]; omega
  have h0 : es = es.take i ++ [] ++ es.drop i := by rw [List.append_nil, List.take_append_drop]
  have h1 : splice es i [e] 0 = es.take i ++ [e] ++ es.drop i := splice_at (M := []) h0 hl rfl
  exact (congrArg (fun z => splice z i [] 1) h1).trans ((splice_at (M := [e]) (N := []) (B := es.drop i) rfl hl rfl).trans h0.symm)
/-- two entries exchanged, and again -/
theorem cut_two {es : List Tr} {i : Nat} {x y : Tr} (hx : es[i]? = some x) (hy : es[i + 1]? = some y) : es = es.take i ++ [x, y] ++ es.drop (i + 2) := by
  have h1 := cut_at hx
  obtain ⟨hi, he⟩ := List.getElem?_eq_some_iff.mp hy
  have h2 : es.drop (i + 1) = y :: es.drop (i + 2) := by rw [List.drop_eq_getElem_cons hi, he]
  rw [h2] at h1
  simpa using h1
theorem splice_two {es : List Tr} {i : Nat} {x y : Tr} (hx : es[i]? = some x) (hy : es[i + 1]? = some y) : splice es i [y, x] 2 = es.take i ++ [y, x] ++ es.drop (i + 2) := by
  have hi := (List.getElem?_eq_some_iff.mp hx).1
  exact splice_at (M := [x, y]) (cut_two hx hy) (by rw [List.length_take]; omega) rfl
theorem back_swap {es : List Tr} {i : Nat} {x y : Tr} (hx : es[i]? = some x) (hy : es[i + 1]? = some y) : splice (splice es i [y, x] 2) i [x, y] 2 = es ∧ (splice es i [y, x] 2)[i]? = some y ∧ (splice es i [y, x] 2)[i + 1]? = some x := by
  have hi := (List.getElem?_eq_some_iff.mp hx).1
  have hl : (es.take i).length = i := by rw [List.length_take]; omega
  rw [splice_two hx hy]
  refine ⟨?_, ?_, ?_⟩
  · exact (splice_at (M := [y, x]) (N := [x, y]) (B := es.drop (i + 2)) rfl hl rfl).trans (cut_two hx hy).symm
  · rw [List.append_assoc, List.getElem?_append_right (by omega), hl, Nat.sub_self]
    rfl
  · rw [List.append_assoc, List.getElem?_append_right (by omega), hl, Nat.add_sub_cancel_left]
    rfl
/-! a control turned, and back -/
mutual
theorem turnT_back (n : Int) (acts old : List V) : ∀ (b : Int) (t : Tr), (∀ (j : Nat) (r : Ru), b + (j : Nat) = n → t.steps[j]? = some r → r.2 = old) → turnT n old b (turnT n acts b t) = t
  | b, .rl m a, h => by
    by_cases c : b = n
    · have h0 : a = old := h 0 (m, a) (by omega) rfl
      simp only [turnT, if_pos c]
      rw [← h0]
    · simp only [turnT, if_neg c]
  | b, .st es, h => by
    simp only [turnT]
    rw [turnL_back n acts old b es h]
theorem turnL_back (n : Int) (acts old : List V) : ∀ (b : Int) (es : List Tr), (∀ (j : Nat) (r : Ru), b + (j : Nat) = n → (stepsL es)[j]? = some r → r.2 = old) → turnL n old b (turnL n acts b es) = es
  | b, [], _ => rfl
  | b, e :: es, h => by
    have hl : (turnT n acts b e).steps.length = e.steps.length := by
      have := congrArg List.length (turnT_steps n acts b e)
      simpa using this
    have q1 := turnT_back n acts old b e fun j r hj hr => h j r hj (by
      simp only [stepsL]
      rw [List.getElem?_append_left (List.getElem?_eq_some_iff.mp hr).1]
      exact hr)
    have q2 := turnL_back n acts old (b + (e.steps.length : Nat)) es fun j r hj hr => h (e.steps.length + j) r (by omega) (by
      simp only [stepsL]
      rw [List.getElem?_append_right (by omega), Nat.add_sub_cancel_left]
      exact hr)
    simp only [turnL]
    rw [hl, q1, q2]
end
/-! what is built stays within bounds -/
theorem Gd.l {d : Nat} {zs : List Str} {es fs : List Tr} (h : Gd d zs (es ++ fs)) : Gd d zs es := by
  refine ⟨by have := h.dep; rw [depL_append] at this; omega, fun m hm => h.mods m ?_, ?_⟩
  · unfold modsL at hm ⊢
    rw [stepsL_append, List.map_append]
    exact List.mem_append_left _ hm
  · have := h.rus
    rw [stepsL_append, List.all_append, Bool.and_eq_true] at this
    exact this.1
theorem Gd.r {d : Nat} {zs : List Str} {es fs : List Tr} (h : Gd d zs (es ++ fs)) : Gd d zs fs := by
  refine ⟨by have := h.dep; rw [depL_append] at this; omega, fun m hm => h.mods m ?_, ?_⟩
  · unfold modsL at hm ⊢
    rw [stepsL_append, List.map_append]
    exact List.mem_append_right _ hm
  · have := h.rus
    rw [stepsL_append, List.all_append, Bool.and_eq_true] at this
    exact this.2
theorem Gd.turn {d : Nat} {zs : List Str} {es : List Tr} (h : Gd d zs es) {n b : Int} {acts : List V} (ha : actsOk acts = true) : Gd d zs (turnL n acts b es) := by
  refine ⟨by rw [turnL_dep]; exact h.dep, fun m hm => h.mods m ?_, turnL_ru n acts ha b es h.rus⟩
  unfold modsL at hm ⊢
  rw [turnL_steps] at hm
  exact hm
theorem Gd.few {d d' : Nat} {zs : List Str} {es fs : List Tr} (h1 : Gd d zs es) (h2 : Gd d' zs fs) (hz : zs.length ≤ 6) : Few es fs :=
  ⟨zs, hz, fun m hm => (List.mem_append.mp hm).elim (h1.mods m) (h2.mods m)⟩
end Ls
set_option maxRecDepth 100000
set_option maxHeartbeats 4000000
/-! _law_edits -/
namespace Ls
open PySem PySem.Spec PyProof.Rows L2
theorem tand_dec {A B : TT} {p q : Prop} [Decidable p] [Decidable q] {σ : L2.St} {H : Hp} (ha : ∀ R : Bool → Hp → Prop, R (decide p) H → A σ H R) (hb : p → ∀ R : Bool → Hp → Prop, R (decide q) H → B σ H R) (R : Bool → Hp → Prop) (h : R (decide (p ∧ q)) H) : tAnd A B σ H R := by
  refine ha _ ?_
  by_cases c : p
  · rw [decide_eq_true c]
    refine iteT (hb c R ?_)
    have e : decide (p ∧ q) = decide q := decide_eq_decide.mpr ⟨fun z => z.2, fun z => ⟨c, z⟩⟩
    rw [← e]
    exact h
  · rw [decide_eq_false c]
    refine iteF ?_
    have e : decide (p ∧ q) = false := decide_eq_false fun z => c z.1
    rw [← e]
    exact h
section
variable {P : Program} {w : World} {K : PySem.W.Frag} {mg : Str → Option Value} {base : Heap}
theorem RowAt.none_of {H H' : Hp} {R p : Addr} (s : Sm [R] H H') (hR : RowAt K H' R) (hp : H' p = none) : H p = none := by
  cases hz : H p with
  | none => rfl
  | some o =>
    have := s _ _ hz (by simpa using hR.new hp)
    rw [hp] at this
    cases this
def spLEdits (K : PySem.W.Frag) : Sp := fun vs H Q _ => ∃ (R N st : Addr) (zs : List Str) (es : List Tr), vs = [.ref R, .ref N, .ref st] ∧ RowAt K H R ∧ NamesAt H N zs ∧ AtT K H (.st es) st ∧ es.length ≤ 4 ∧ (stepsL es).length ≤ 5 ∧ Gd 2 zs es ∧
  ∀ H' q t1 t2 c1 c2 es', Sm [R] H H' → RowAt K H' R → H q = none → H' q = some (.lst [.ref t1, .ref t2]) → H' t1 = some (.tup c1) → H' t2 = some (.tup c2) → Chain K H' es [c1, c2] [es', es] → c1.all plainV = true → c2.all plainV = true → Q (.ref q) H'
theorem sc_law_edits : FnScope ["_law_row", "_law_names_here", "_law_stack_here", "_law_many", "_law_way", "_law_k", "_law_number"] ["_law_row", "_law_names_here", "_law_stack_here"] (defScope s_law_edits) := ⟨rfl, rfl, rfl, by decide +kernel, rfl, by decide +kernel, by decide +kernel⟩
theorem ok_law_edits (T : Txt w K mg) : GF P w K mg base 6 "_law_edits" (He.ga K "_law_edits") (spLEdits K) := by
  obtain ⟨fd, F⟩ := T.d_law_edits
  refine gf_of F T.g_law_edits (fnr F sc_law_edits (F.binds fun _ _ _ _ _ _ us hl => match us, hl with | [_, _, _], _ => rfl) (by rintro vs H Q E ⟨_, _, _, _, _, rfl, _⟩; rfl) fun cdv A outer s H vs Q E hr h => ?_)
  obtain ⟨R, N, st, zs, es, rfl, hR, hN, hst, h4, h5, gd, q⟩ := h
  refine ⟨_, (pss_cons (ps_par (i := 3) (j := 4) (by rfl) sc_law_edits.nd rfl rfl (by decide) rfl rfl (pa_cons (pcb (call_lenO (ok_Stack_len T) (hr.mono (by first | decide | omega))) T.f_len (pa_cons (pv 2) pa_nil)) (pa_cons (pcall (ok_law_taken T) (hr.mono (by first | decide | omega)) (pa_cons (pv 0) (pa_cons pe_int pa_nil))) pa_nil)) (by rfl))
    (pss_cons (ps_set (i := 5) sc_law_edits.nd rfl (.inl rfl) (pcall (ok_law_taken T) (hr.mono (by first | decide | omega)) (pa_cons (pv 0) (pa_cons (pe_op op_add (pv 3) pe_int) pa_nil))))
    (pss_cons (ps_if (PW.pt (pw_and (pt_cmpR op_eq (pv 4) pe_int (nomark _)) (pw_and1 (pt_cmpR op_lt (pv 5) (pv 3) (nomark _))))) (pss_one (ps_ret (pe_lst (pa_cons (pe_tup (pa_cons pe_str (pa_cons (pv 5) pa_nil))) (pa_cons (pe_tup (pa_cons pe_str (pa_cons (pv 5) (pa_cons (pixO (ok_Stack_getitem T) T.fn_getitem (hr.mono (by first | decide | omega)) (pv 2) (pv 5)) pa_nil)))) pa_nil))))) pss_nil)
    (pss_cons (ps_if (PW.pt (pw_and (pt_cmpR op_eq (pv 4) pe_int (nomark _)) (pw_and1 (pt_cmpR op_lt (pe_op op_add (pv 5) pe_int) (pv 3) (nomark _))))) (pss_one (ps_ret (pe_lst (pa_cons (pe_tup (pa_cons pe_str (pa_cons (pv 5) pa_nil))) (pa_cons (pe_tup (pa_cons pe_str (pa_cons (pv 5) pa_nil))) pa_nil))))) pss_nil)
    (pss_cons (ps_if (PW.pt (pw_and (pt_cmpR op_eq (pv 4) pe_int (nomark _)) (pw_and1 (pt_cmpR op_gt (pcb call_len_seq T.f_len (pa_cons (pprop (pv 2) (ok_Stack_rules T) (hr.mono (by first | decide | omega))) pa_nil)) pe_int (nomark _))))) (pss_cons (ps_set (i := 6) sc_law_edits.nd rfl (.inl rfl) (pcall (ok_law_taken T) (hr.mono (by first | decide | omega)) (pa_cons (pv 0) (pa_cons (pcb call_len_seq T.f_len (pa_cons (pprop (pv 2) (ok_Stack_rules T) (hr.mono (by first | decide | omega))) pa_nil)) pa_nil))))
    (pss_one (ps_ret (pe_lst (pa_cons (pe_tup (pa_cons pe_str (pa_cons (pv 6) (pa_cons (pcall (ok_law_control T) (hr.mono (by first | decide | omega)) (pa_cons (pv 0) pa_nil)) pa_nil)))) (pa_cons (pe_tup (pa_cons pe_str (pa_cons (pv 6) (pa_cons (pprop (pe_ix ix_tup (pprop (pv 2) (ok_Stack_rules T) (hr.mono (by first | decide | omega))) (pv 6) (fun _ _ => rfl)) (ok_Rule_control T) (hr.mono (by first | decide | omega))) pa_nil)))) pa_nil)))))) pss_nil)
    (pss_one (ps_ret (pe_lst (pa_cons (pe_tup (pa_cons pe_str (pa_cons (pv 5) (pa_cons (pmake (ok_Rule T) (hr.mono (by first | decide | omega)) (pa_cons (pe_ix ix_list (pv 1) (pcall (ok_law_taken T) (hr.mono (by first | decide | omega)) (pa_cons (pv 0) (pa_cons (pcb call_len_seq T.f_len (pa_cons (pv 1) pa_nil)) pa_nil))) (fun _ _ => rfl)) (pa_cons (pcall (ok_law_control T) (hr.mono (by first | decide | omega)) (pa_cons (pv 0) pa_nil)) pa_nil))) pa_nil)))) (pa_cons (pe_tup (pa_cons pe_str (pa_cons (pv 5) pa_nil))) pa_nil)))))))))), ?_⟩
  have hz6 : zs.length ≤ 6 := by have := hN.2.2.1; omega
  have ok0 : Ok es := gd.ok (by omega) hz6 (by omega) (by omega)
  obtain ⟨dx, tp, ts, tn, as, rs, g0, g2, g3, g4, g5, _⟩ := id hst
  refine ⟨_, rfl, st, dx, _, rfl, g0, st, es, rfl, hst, es.length, rfl, by omega, ?_⟩
  refine ⟨_, rfl, R, 4, rfl, hR, by decide, by decide, fun H1 way hway s1 hR1 => ⟨_, _, rfl, ?_⟩⟩
  refine ⟨_, rfl, _, rfl, _, _, rfl, rfl, R, _, rfl, hR1, by omega, by omega, fun H2 k hk s2 hR2 => ?_⟩
  have s02 : Sm [R] H H2 := s1.trans s2
  have hk2 : k ≤ es.length := by omega
  have f02 : Fz H H2 := hR.smfz s02
  have hst2 := hst.fz f02
  have g02 := f02 _ _ imm_st g0
  have hNR : N ≠ R := by
    obtain ⟨sc, ns, a, b, c1, h1, _⟩ := hR
    exact hN.ne h1 fun z e => nomatch e
  have hN2 : NamesAt H2 N zs := ⟨s02 _ _ hN.1 (by simpa using hNR), hN.2⟩
  -- the end of all ways
  have fin : ∀ (Hz : Hp) (t1 t2 : Addr) (c1 c2 : List V) (es' : List Tr), Sm [R] H Hz → RowAt K Hz R → Hz t1 = some (.tup c1) → Hz t2 = some (.tup c2) → DoOp K Hz c1 es es' → DoOp K Hz c2 es' es → Gd 2 zs es' → es'.length ≤ 5 → (stepsL es').length ≤ 6 → c1.all plainV = true → c2.all plainV = true →
      [V.ref t1, V.ref t2].length ≤ sizeLine ∧ ∀ l, Hz l = none → Q (.ref l) (upd Hz l (.lst [.ref t1, .ref t2])) := fun Hz t1 t2 c1 c2 es' sz hRz h1 h2 d1 d2 gd' l5 l6 p1 p2 => by
    refine ⟨by show 2 ≤ sizeLine; decide, fun l hl => ?_⟩
    have e1 : Ext Hz (upd Hz l (.lst [.ref t1, .ref t2])) := Ext.upd hl
    have ok1 : Ok es' := gd'.ok (by omega) hz6 (by omega) (by omega)
    exact q _ l t1 t2 c1 c2 es' (sz.trans (Sm.of e1)) (hRz.ext e1) (RowAt.none_of sz hRz hl) upd_same (e1 _ _ h1) (e1 _ _ h2)
      ⟨d1.fz (Fz.of e1), ok1, gd.few gd' hz6, d2.fz (Fz.of e1), ok0, gd'.few gd hz6, trivial⟩ p1 p2
  have test1 : ∀ R' : Bool → Hp → Prop, R' (decide (way = 0 ∧ k < es.length)) H2 → tAnd (tTest (tOp rEq (tVar 4) (tC (.int 0)))) (tTest (tOp (rI0 fun i j => .bl (decide (i < j))) (tVar 5) (tVar 3))) [some (.ref R), some (.ref N), some (.ref st), some (.int (es.length : Nat)), some (.int (way : Nat)), some (.int (k : Nat)), none] H2 R' := tand_dec (p := way = 0) (q := k < es.length) (fun R' hR' => ⟨_, rfl, rfl, _, rfl, by
    rw [show decide (V.int (way : Nat) = V.int 0) = decide (way = 0) from decide_eq_decide.mpr ⟨fun z => by injection z; omega, fun z => by rw [z]; rfl⟩]
    exact hR'⟩) (fun c R' hR' => ⟨_, rfl, _, rfl, _, _, rfl, rfl, _, rfl, by
    rw [show decide (((k : Nat) : Int) < ((es.length : Nat) : Int)) = decide (k < es.length) from decide_eq_decide.mpr (by omega)]
    exact hR'⟩)
  refine test1 _ ?_
  by_cases c1 : way = 0 ∧ k < es.length
  · rw [decide_eq_true c1]
    obtain ⟨e, he⟩ : ∃ e, es[k]? = some e := ⟨_, List.getElem?_eq_getElem c1.2⟩
    refine iteT ⟨_, rfl, by show 2 ≤ sizeLine; decide, fun t1 n1 => ?_⟩
    have e1 : Ext H2 (upd H2 t1 (.tup [.str "take", .int (k : Nat)])) := Ext.upd n1
    have ht1 : upd H2 t1 (.tup [.str "take", .int (k : Nat)]) t1 = some (.tup [.str "take", .int (k : Nat)]) := upd_same
    generalize upd H2 t1 (.tup [.str "take", .int (k : Nat)]) = H3 at e1 ht1 ⊢
    refine ⟨_, rfl, _, rfl, _, rfl, st, dx, _, rfl, e1 _ _ g02, st, es, k, e, rfl, hst2.fz (Fz.of e1), he, fun a ha => ⟨by show 3 ≤ sizeLine; decide, fun t2 n2 => ?_⟩⟩
    have e2 : Ext H3 (upd H3 t2 (.tup [.str "put", .int (k : Nat), .ref a])) := Ext.upd n2
    have l1 : splice es k [] 1 = es.take k ++ [] ++ es.drop (k + 1) := rfl
    have gdc : Gd 2 zs (es.take k ++ ([e] ++ es.drop (k + 1))) := by
      have := gd
      rw [cut_at he] at this
      exact this
    have gd' : Gd 2 zs (splice es k [] 1) := by
      rw [l1, List.append_nil]
      exact gdc.l.app gdc.r.r
    refine fin _ t1 t2 _ _ (splice es k [] 1) (s02.trans (Sm.of (e1.trans e2))) (hR2.ext (e1.trans e2)) (e2 _ _ ht1) upd_same (.inr (.inl ⟨k, rfl, c1.2, rfl⟩)) (.inl ⟨k, a, e, rfl, ha.fz (Fz.of e2), ?_, (back_take he).symm⟩) gd' ?_ ?_ rfl rfl
    · rw [l1]
      simp only [List.length_append, List.length_take, List.length_drop, List.length_nil]
      omega
    · rw [l1]
      simp only [List.length_append, List.length_take, List.length_drop, List.length_nil]
      omega
    · have hs := congrArg (fun z => (stepsL z).length) (cut_at he)
      simp only [stepsL_append, stepsL, List.length_append] at hs
      rw [l1]
      simp only [stepsL_append, stepsL, List.length_append, List.length_nil]
      omega
  rw [decide_eq_false c1]
  refine iteF ?_
  have test2 : ∀ R' : Bool → Hp → Prop, R' (decide (way = 1 ∧ k + 1 < es.length)) H2 → tAnd (tTest (tOp rEq (tVar 4) (tC (.int 1)))) (tTest (tOp (rI0 fun i j => .bl (decide (i < j))) (tOp (rI0 fun i j => .int (i + j)) (tVar 5) (tC (.int 1))) (tVar 3))) [some (.ref R), some (.ref N), some (.ref st), some (.int (es.length : Nat)), some (.int (way : Nat)), some (.int (k : Nat)), none] H2 R' := tand_dec (p := way = 1) (q := k + 1 < es.length) (fun R' hR' => ⟨_, rfl, rfl, _, rfl, by
    rw [show decide (V.int (way : Nat) = V.int 1) = decide (way = 1) from decide_eq_decide.mpr ⟨fun z => by injection z; omega, fun z => by rw [z]; rfl⟩]
    exact hR'⟩) (fun c R' hR' => ⟨_, rfl, _, _, rfl, rfl, _, rfl, _, _, rfl, rfl, _, rfl, by
    rw [show decide (((k : Nat) : Int) + 1 < ((es.length : Nat) : Int)) = decide (k + 1 < es.length) from decide_eq_decide.mpr (by omega)]
    exact hR'⟩)
  refine test2 _ ?_
  by_cases c2 : way = 1 ∧ k + 1 < es.length
  · rw [decide_eq_true c2]
    obtain ⟨x, hx⟩ : ∃ e, es[k]? = some e := ⟨_, List.getElem?_eq_getElem (by omega)⟩
    obtain ⟨y, hy⟩ : ∃ e, es[k + 1]? = some e := ⟨_, List.getElem?_eq_getElem c2.2⟩
    refine iteT ⟨_, rfl, by show 2 ≤ sizeLine; decide, fun t1 n1 => ?_⟩
    have e1 : Ext H2 (upd H2 t1 (.tup [.str "swap", .int (k : Nat)])) := Ext.upd n1
    have ht1 : upd H2 t1 (.tup [.str "swap", .int (k : Nat)]) t1 = some (.tup [.str "swap", .int (k : Nat)]) := upd_same
    generalize upd H2 t1 (.tup [.str "swap", .int (k : Nat)]) = H3 at e1 ht1 ⊢
    refine ⟨_, rfl, by show 2 ≤ sizeLine; decide, fun t2 n2 => ?_⟩
    have e2 : Ext H3 (upd H3 t2 (.tup [.str "swap", .int (k : Nat)])) := Ext.upd n2
    obtain ⟨b1, b2, b3⟩ := back_swap hx hy
    have l1 := splice_two hx hy
    have gdc : Gd 2 zs (es.take k ++ [x, y] ++ es.drop (k + 2)) := by
      have := gd
      rw [cut_two hx hy] at this
      exact this
    have gxy : Gd 2 zs ([x] ++ [y]) := gdc.l.r
    have gd' : Gd 2 zs (splice es k [y, x] 2) := by
      rw [l1]
      exact (gdc.l.l.app (gxy.r.app gxy.l)).app gdc.r
    have hs := congrArg (fun z => (stepsL z).length) (cut_two hx hy)
    have hs1 := congrArg List.length (cut_two hx hy)
    simp only [stepsL_append, stepsL, List.length_append, List.length_cons, List.length_nil] at hs hs1
    refine fin _ t1 t2 _ _ (splice es k [y, x] 2) (s02.trans (Sm.of (e1.trans e2))) (hR2.ext (e1.trans e2)) (e2 _ _ ht1) upd_same (.inr (.inr (.inl ⟨k, x, y, rfl, hx, hy, rfl⟩))) (.inr (.inr (.inl ⟨k, y, x, rfl, b2, b3, b1.symm⟩))) gd' ?_ ?_ rfl rfl
    · rw [l1]
      simp only [List.length_append, List.length_cons, List.length_nil]
      omega
    · rw [l1]
      simp only [stepsL_append, stepsL, List.length_append, List.length_cons, List.length_nil]
      omega
  rw [decide_eq_false c2]
  refine iteF ?_
  have hrl := g5.len
  have test3 : ∀ R' : Bool → Hp → Prop, R' (decide (way = 2 ∧ 0 < (stepsL es).length)) H2 → tAnd (tTest (tOp rEq (tVar 4) (tC (.int 2)))) (tTest (tOp (rI0 fun i j => .bl (decide (j < i))) (tCB (fun xs H Q => ∃ p ys, xs = [V.ref p] ∧ (SqL K H p ys ∨ SqT K H p ys) ∧ Q (V.int (ys.length : Nat)) H) (tCons (tPr (cStack K) (spFld (cStack K) "steps") (tVar 2)) tNil)) (tC (.int 0)))) [some (.ref R), some (.ref N), some (.ref st), some (.int (es.length : Nat)), some (.int (way : Nat)), some (.int (k : Nat)), none] H2 R' := tand_dec (p := way = 2) (q := 0 < (stepsL es).length) (fun R' hR' => ⟨_, rfl, rfl, _, rfl, by
    rw [show decide (V.int (way : Nat) = V.int 2) = decide (way = 2) from decide_eq_decide.mpr ⟨fun z => by injection z; omega, fun z => by rw [z]; rfl⟩]
    exact hR'⟩) (fun c R' hR' => ⟨_, rfl, st, dx, _, rfl, g02, st, dx, _, _, rfl, g02, rfl, ts, _, rfl, .inr (SqT.fz g4 f02), _, _, rfl, rfl, _, rfl, by
    rw [show decide ((0 : Int) < (((rs.map V.ref).length : Nat) : Int)) = decide (0 < (stepsL es).length) from decide_eq_decide.mpr (by rw [List.length_map]; omega)]
    exact hR'⟩)
  refine test3 _ ?_
  by_cases c3 : way = 2 ∧ 0 < (stepsL es).length
  · rw [decide_eq_true c3]
    refine iteT ⟨_, rfl, _, rfl, st, dx, _, rfl, g02, st, dx, _, _, rfl, g02, rfl, ts, _, rfl, .inr (SqT.fz g4 f02), R, _, rfl, hR2, by rw [List.length_map]; omega, by rw [List.length_map]; omega, fun H3 n hn s3 hR3 => ?_⟩
    rw [List.length_map, ← hrl] at hn
    have hn' : n < (stepsL es).length := by omega
    refine ⟨_, rfl, _, rfl, R, rfl, hR3, fun H4 cc a acts s4 hR4 hctl hpl hok => ⟨by show 3 ≤ sizeLine; decide, fun t1 n1 => ?_⟩⟩
    have e1 : Ext H4 (upd H4 t1 (.tup [.str "turn", .int (n : Nat), cc])) := Ext.upd n1
    have ht1 : upd H4 t1 (.tup [.str "turn", .int (n : Nat), cc]) t1 = some (.tup [.str "turn", .int (n : Nat), cc]) := upd_same
    generalize upd H4 t1 (.tup [.str "turn", .int (n : Nat), cc]) = H5 at e1 ht1 ⊢
    have s05 : Sm [R] H H5 := ((s02.trans s3).trans s4).trans (Sm.of e1)
    have f05 : Fz H H5 := hR.smfz s05
    have g05 := f05 _ _ imm_st g0
    obtain ⟨r, hr1⟩ : ∃ r, (stepsL es)[n]? = some r := ⟨_, List.getElem?_eq_getElem hn'⟩
    obtain ⟨ra, hra, hru⟩ := (g5.fz f05).get hr1
    obtain ⟨rdx, rt, k1, k2⟩ := id hru
    have hro : ruOk r = true := List.all_eq_true.mp gd.rus r (List.mem_of_getElem? hr1)
    have hao : actsOk r.2 = true := (Bool.and_eq_true_iff.mp hro).2
    refine ⟨_, rfl, _, rfl, st, dx, _, rfl, g05, st, dx, _, _, rfl, g05, rfl, _, rfl, ts, _, _, _, rfl, rfl, SqT.fz g4 f05, atI_nat (v := V.ref ra) (by rw [List.getElem?_map, hra]; rfl), ra, rdx, _, rfl, k1, ra, rdx, _, _, rfl, k1, ⟨by show 3 ≤ sizeLine; decide, fun t2 n2 => ?_⟩⟩
    have e2 : Ext H5 (upd H5 t2 (.tup [.str "turn", .int (n : Nat), .ref rt])) := Ext.upd n2
    have bk : turnL n r.2 0 (turnL n acts 0 es) = es := turnL_back n acts r.2 0 es fun j r' hj hr' => by
      have : j = n := by omega
      rw [this, hr1] at hr'
      cases hr'
      rfl
    have hsl : (stepsL (turnL n acts 0 es)).length = (stepsL es).length := by
      have := congrArg List.length (turnL_steps n acts 0 es)
      simpa using this
    refine fin _ t1 t2 _ _ (turnL n acts 0 es) (s05.trans (Sm.of e2)) (((hR4.ext e1)).ext e2) (e2 _ _ ht1) upd_same (.inr (.inr (.inr ⟨n, cc, a, acts, rfl, (hctl.fz (Fz.of e1)).fz (Fz.of e2), hn', rfl⟩)))
      (.inr (.inr (.inr ⟨n, .ref rt, rt, r.2, rfl, .inr ⟨rfl, SqT.ext k2 e2, hao⟩, by rw [hsl]; exact hn', bk.symm⟩))) (gd.turn hok) (by rw [turnL_len]; omega) (by rw [hsl]; omega) ?_ rfl
    rw [List.all_cons, List.all_cons, List.all_cons, hpl]
    rfl
  rw [decide_eq_false c3]
  refine iteF ?_
  have h12 := hN.2
  refine ⟨_, rfl, _, rfl, _, rfl, _, rfl, N, _, rfl, .inl (SqL.of hN2.1), R, _, rfl, hR2, by rw [List.length_map]; omega, by rw [List.length_map]; omega, fun H3 t ht s3 hR3 => ?_⟩
  rw [List.length_map] at ht
  obtain ⟨z, hz⟩ : ∃ z, zs[t]? = some z := ⟨_, List.getElem?_eq_getElem (by omega)⟩
  have hzm := List.mem_of_getElem? hz
  have hzV : (zs.map V.str)[t]? = some (.str z) := by rw [List.getElem?_map, hz]; rfl
  have hN3 := s3 _ _ hN2.1 (by simpa using hNR)
  refine ⟨N, _, _, _, rfl, rfl, SqL.of hN3, atI_nat hzV, _, rfl, R, rfl, hR3, fun H4 cc a acts s4 hR4 hctl hpl hok => ?_⟩
  refine fun x3 dx3 r1 r2 r3 => mkRu' T (hN.2.2.2 z hzm) hctl r1 r2 r3 fun H5 e5 hy5 => ⟨rfl, ⟨by show 3 ≤ sizeLine; decide, fun t1 n1 => ?_⟩⟩
  have e1 : Ext H5 (upd H5 t1 (.tup [.str "put", .int (k : Nat), .ref x3])) := Ext.upd n1
  have ht1 : upd H5 t1 (.tup [.str "put", .int (k : Nat), .ref x3]) t1 = some (.tup [.str "put", .int (k : Nat), .ref x3]) := upd_same
  generalize upd H5 t1 (.tup [.str "put", .int (k : Nat), .ref x3]) = H6 at e1 ht1 ⊢
  refine ⟨_, rfl, by show 2 ≤ sizeLine; decide, fun t2 n2 => ?_⟩
  have e2 : Ext H6 (upd H6 t2 (.tup [.str "take", .int (k : Nat)])) := Ext.upd n2
  have l1 : splice es k [.rl z acts] 0 = es.take k ++ [.rl z acts] ++ es.drop k := rfl
  have gd1 : Gd 2 zs [.rl z acts] := Gd.rl (by omega) hzm (hN.2.2.2 z hzm) hok
  have gdc : Gd 2 zs (es.take k ++ es.drop k) := by
    rw [List.take_append_drop]
    exact gd
  have hs := congrArg (fun z => (stepsL z).length) (List.take_append_drop k es).symm
  simp only [stepsL_append, List.length_append] at hs
  refine fin _ t1 t2 _ _ (splice es k [.rl z acts] 0) ((((s02.trans s3).trans s4).trans (Sm.of e5)).trans (Sm.of (e1.trans e2))) (((hR4.ext e5).ext e1).ext e2) (e2 _ _ ht1) upd_same (.inl ⟨k, x3, .rl z acts, rfl, AtT.fz (t := .rl z acts) (Fz.of (e1.trans e2)) hy5, hk2, rfl⟩)
    (.inr (.inl ⟨k, rfl, ?_, (back_put _ hk2).symm⟩)) ?_ ?_ ?_ rfl rfl
  · rw [l1]
    simp only [List.length_append, List.length_take, List.length_drop, List.length_cons, List.length_nil]
    omega
  · rw [l1]
    exact (gdc.l.app gd1).app gdc.r
  · rw [l1]
    simp only [List.length_append, List.length_take, List.length_drop, List.length_cons, List.length_nil]
    omega
  · rw [l1]
    simp only [stepsL_append, stepsL, Tr.steps, List.length_append, List.length_cons, List.length_nil]
    omega
end
end Ls
set_option maxRecDepth 100000
set_option maxHeartbeats 4000000
/-! the law's loop: what stands -/
namespace Ls
open PySem PySem.Spec PyProof.Rows L2
section
variable {K : PySem.W.Frag} {H H' : Hp}
theorem RegAt.smfz {r dr s ds : Addr} {es : List Tr} {ops : List V} (h : RegAt K H r dr s ds es ops) (m : Sm [r, s, ds] H H') : Fz H H' := by
  obtain ⟨f, pr, v, n, pa, un, hS, _⟩ := h
  obtain ⟨vs, e1, e2⟩ := hS.at2
  refine m.fz fun b hb o e => ?_
  simp only [List.mem_cons, List.not_mem_nil, or_false] at hb
  rcases hb with z | z | z
  · rw [z, show H r = _ from f] at e
    cases e
    simp [Imm]
  · rw [z, e1] at e
    cases e
    rfl
  · rw [z, e2] at e
    cases e
    rfl
theorem RegAt.ne_lst {r dr s ds p : Addr} {es : List Tr} {ops xs : List V} (h : RegAt K H r dr s ds es ops) (hp : H p = some (.lst xs)) : p ∉ [r, s, ds] := by
  have h2 := h.2.ne_lst hp
  simp only [List.mem_cons, List.not_mem_nil, or_false, not_or] at h2 ⊢
  refine ⟨fun z => ?_, h2⟩
  rw [z, show H r = _ from h.1] at hp
  cases hp
theorem RegAt.no_frz {r dr s ds : Addr} {es : List Tr} {ops : List V} (h : RegAt K H r dr s ds es ops) : ∀ b ∈ [r, s, ds], ∀ o u, H b ≠ some (.frz o u) := fun b hb o u e => by
  obtain ⟨f, pr, v, n, pa, un, hS, _⟩ := h
  obtain ⟨vs, e1, e2⟩ := hS.at2
  simp only [List.mem_cons, List.not_mem_nil, or_false] at hb
  rcases hb with z | z | z
  · rw [z, show H r = _ from f] at e
    cases e
  · rw [z, e1] at e
    cases e
  · rw [z, e2] at e
    cases e
theorem RowAt.reg {R r dr s ds : Addr} {es : List Tr} {ops : List V} (hR : RowAt K H R) (h : RegAt K H r dr s ds es ops) (m : Sm [r, s, ds] H H') : RowAt K H' R := by
  obtain ⟨sc, ns, a, b, c, h1, h2⟩ := id hR
  exact hR.sm m (h.ne_lst h1) h.no_frz
/-- one desk stands whatever the other does -/
theorem RegAt.other {r dr s ds r2 dr2 s2 ds2 : Addr} {es es2 : List Tr} {ops ops2 : List V} (h2 : RegAt K H r2 dr2 s2 ds2 es2 ops2) (h : RegAt K H r dr s ds es ops) (m : Sm [r, s, ds] H H') (dj : ∀ a ∈ [r2, s2, ds2], a ∉ [r, s, ds]) : RegAt K H' r2 dr2 s2 ds2 es2 ops2 :=
  ⟨m _ _ h2.1 (dj _ (by simp)), h2.2.sm m (h.smfz m) (dj _ (by simp)) (dj _ (by simp))⟩
theorem RegAt.row {R r dr s ds : Addr} {es : List Tr} {ops : List V} (h : RegAt K H r dr s ds es ops) (hR : RowAt K H R) (m : Sm [R] H H') : RegAt K H' r dr s ds es ops := by
  obtain ⟨sc, ns, a, b, c, h1, _⟩ := id hR
  have hn := h.ne_lst h1
  simp only [List.mem_cons, List.not_mem_nil, or_false, not_or] at hn
  exact ⟨m _ _ h.1 (by simpa using Ne.symm hn.1), h.2.sm m (hR.smfz m) (by simpa using Ne.symm hn.2.1) (by simpa using Ne.symm hn.2.2)⟩
/-- a new desk is not an old one -/
theorem RegAt.new {r dr s ds r2 s2 ds2 : Addr} {es : List Tr} {ops : List V} (h : RegAt K H r dr s ds es ops) (n1 : H r2 = none) (n2 : H s2 = none) (n3 : H ds2 = none) : ∀ a ∈ [r2, s2, ds2], a ∉ [r, s, ds] := by
  obtain ⟨f, pr, v, n, pa, un, hS, _⟩ := h
  obtain ⟨vs, e1, e2⟩ := hS.at2
  have key : ∀ a, H a = none → a ∉ [r, s, ds] := fun a ha hm => by
    simp only [List.mem_cons, List.not_mem_nil, or_false] at hm
    rcases hm with z | z | z
    · rw [z, show H r = _ from f] at ha
      cases ha
    · rw [z, e1] at ha
      cases ha
    · rw [z, e2] at ha
      cases ha
  intro a ha
  simp only [List.mem_cons, List.not_mem_nil, or_false] at ha
  rcases ha with z | z | z
  · exact key a (z ▸ n1)
  · exact key a (z ▸ n2)
  · exact key a (z ▸ n3)
theorem dj_symm {l m : List Addr} (h : ∀ a ∈ l, a ∉ m) : ∀ a ∈ m, a ∉ l := fun a ha hl => h a hl ha
/-! chains joined -/
theorem endE_app : ∀ {es : List Tr} {r r' : List (List Tr)}, endE es (r ++ r') = endE (endE es r) r'
  | _, [], _ => rfl
  | _, _ :: _, _ => by
    simp only [List.cons_append, endE]
    exact endE_app
theorem Chain.app : ∀ {es : List Tr} {cs cs' : List (List V)} {r r' : List (List Tr)}, Chain K H es cs r → Chain K H (endE es r) cs' r' → Chain K H es (cs ++ cs') (r ++ r')
  | _, [], _, [], _, _, h => h
  | _, _ :: _, _, _ :: _, _, h, h' => ⟨h.1, h.2.1, h.2.2.1, Chain.app h.2.2.2 h'⟩
  | _, [], _, _ :: _, _, h, _ => h.elim
  | _, _ :: _, _, [], _, h, _ => h.elim
theorem Chain.ops {es : List Tr} {cs : List (List V)} {r : List (List Tr)} (h : Chain K H es cs r) : ∀ c ∈ cs, ∃ (z : Str) (rr : List V), c = .str z :: rr ∧ z ≠ "promise" := fun c hc => by
  obtain ⟨i, hi, e⟩ := List.mem_iff_getElem.mp hc
  obtain ⟨e', _, hd, _⟩ := h.get (j := i) (c := c) (by rw [List.getElem?_eq_getElem hi, e])
  obtain ⟨z, rr, h1, _, h3⟩ := hd.op
  exact ⟨z, rr, h1, h3⟩
/-! the draws, the names, the stack, both desks -/
structure LW (K : PySem.W.Frag) (R N st : Addr) (zs : List Str) (es : List Tr) (r1 dr1 s1 ds1 : Addr) (e1 : List Tr) (t1 : List Addr) (c1 : List (List V)) (r2 dr2 s2 ds2 : Addr) (e2 : List Tr) (t2 : List Addr) (c2 : List (List V)) (H : Hp) : Prop where
  row : RowAt K H R
  nam : NamesAt H N zs
  stk : AtT K H (.st es) st
  d1 : RegAt K H r1 dr1 s1 ds1 e1 (t1.map V.ref)
  o1 : OpsAt H t1 c1
  d2 : RegAt K H r2 dr2 s2 ds2 e2 (t2.map V.ref)
  o2 : OpsAt H t2 c2
variable {R N st : Addr} {zs : List Str} {es : List Tr} {r1 dr1 s1 ds1 : Addr} {e1 : List Tr} {t1 : List Addr} {c1 : List (List V)} {r2 dr2 s2 ds2 : Addr} {e2 : List Tr} {t2 : List Addr} {c2 : List (List V)}
theorem LW.ext (h : LW K R N st zs es r1 dr1 s1 ds1 e1 t1 c1 r2 dr2 s2 ds2 e2 t2 c2 H) (e : Ext H H') : LW K R N st zs es r1 dr1 s1 ds1 e1 t1 c1 r2 dr2 s2 ds2 e2 t2 c2 H' :=
  ⟨h.row.ext e, ⟨e _ _ h.nam.1, h.nam.2⟩, h.stk.fz (Fz.of e), h.d1.ext e, h.o1.fz (Fz.of e), h.d2.ext e, h.o2.fz (Fz.of e)⟩
theorem LW.drawn (h : LW K R N st zs es r1 dr1 s1 ds1 e1 t1 c1 r2 dr2 s2 ds2 e2 t2 c2 H) (m : Sm [R] H H') (hR : RowAt K H' R) : LW K R N st zs es r1 dr1 s1 ds1 e1 t1 c1 r2 dr2 s2 ds2 e2 t2 c2 H' := by
  have f := h.row.smfz m
  have hNR : N ≠ R := by
    obtain ⟨sc, ns, a, b, c1, h1, _⟩ := h.row
    exact h.nam.ne h1 fun z e => nomatch e
  exact ⟨hR, ⟨m _ _ h.nam.1 (by simpa using hNR), h.nam.2⟩, h.stk.fz f, h.d1.row h.row m, h.o1.fz f, h.d2.row h.row m, h.o2.fz f⟩
theorem LW.ap1 (h : LW K R N st zs es r1 dr1 s1 ds1 e1 t1 c1 r2 dr2 s2 ds2 e2 t2 c2 H) (m : Sm [r1, s1, ds1] H H') (dj : ∀ a ∈ [r2, s2, ds2], a ∉ [r1, s1, ds1]) {e1' : List Tr} {t1' : List Addr} {c1' : List (List V)} (hR : RegAt K H' r1 dr1 s1 ds1 e1' ((t1 ++ t1').map V.ref)) (ho : OpsAt H' t1' c1') :
    LW K R N st zs es r1 dr1 s1 ds1 e1' (t1 ++ t1') (c1 ++ c1') r2 dr2 s2 ds2 e2 t2 c2 H' := by
  have f := h.d1.smfz m
  exact ⟨h.row.reg h.d1 m, ⟨m _ _ h.nam.1 (h.d1.ne_lst h.nam.1), h.nam.2⟩, h.stk.fz f, hR, OpsAt.app ho (h.o1.fz f), h.d2.other h.d1 m dj, h.o2.fz f⟩
theorem LW.ap2 (h : LW K R N st zs es r1 dr1 s1 ds1 e1 t1 c1 r2 dr2 s2 ds2 e2 t2 c2 H) (m : Sm [r2, s2, ds2] H H') (dj : ∀ a ∈ [r2, s2, ds2], a ∉ [r1, s1, ds1]) {e2' : List Tr} {t2' : List Addr} {c2' : List (List V)} (hR : RegAt K H' r2 dr2 s2 ds2 e2' ((t2 ++ t2').map V.ref)) (ho : OpsAt H' t2' c2') :
    LW K R N st zs es r1 dr1 s1 ds1 e1 t1 c1 r2 dr2 s2 ds2 e2' (t2 ++ t2') (c2 ++ c2') H' := by
  have f := h.d2.smfz m
  exact ⟨h.row.reg h.d2 m, ⟨m _ _ h.nam.1 (h.d2.ne_lst h.nam.1), h.nam.2⟩, h.stk.fz f, h.d1.other h.d2 m (dj_symm dj), h.o1.fz f, hR, OpsAt.app ho (h.o2.fz f)⟩
end
theorem told_eq (t : Nat) : (!decide (V.bl (id (decide ([V.int (t : Nat)] = [V.int 0]))) = V.bl (decide (t = 0)))) = false := by
  have e : decide ([V.int (t : Nat)] = [V.int 0]) = decide (t = 0) := decide_eq_decide.mpr ⟨fun z => by
    have := (List.cons.inj z).1
    injection this
    omega, fun z => by rw [z]; rfl⟩
  rw [e]
  simp
theorem SqF.ext {K : PySem.W.Frag} {H H' : Hp} {a : Addr} {xs : List V} (h : SqF K H a xs) (e : Ext H H') : SqF K H' a xs := h.sm (l := []) (Sm.of e) fun b hb => by simp at hb
end Ls
set_option maxRecDepth 100000
set_option maxHeartbeats 8000000
/-! law -/
namespace Ls
open PySem PySem.Spec PyProof.Rows L2
theorem iteFb {b : Bool} {X Y : Prop} (h : b = false) (y : Y) : if b = true then X else Y := by
  subst h
  exact iteF y
theorem told_eq2 (a b : List Tr) (v : V) (hv : decide (v = .non) = decide (told b a = 0)) : (!decide (V.bl (id (decide ([V.int (told a b : Nat)] = [V.int 0]))) = V.bl (decide (v = .non)))) = false := by
  rw [hv, told_comm b a]
  exact told_eq _
section
variable {K : PySem.W.Frag} {H : Hp}
theorem neS {a b : Addr} {es : List Tr} {Q : VK} (ha : AtT K H (.st es) a) (hb : AtT K H (.st es) b) (q : ∀ H', Ext H H' → Q (.bl false) H') : rNeO (cStack K) (spEq (reqS K 2)) (.ref a) (.ref b) H Q := by
  obtain ⟨dx, tp, ts, tn, as, rs, h1, _⟩ := id ha
  obtain ⟨dy, up, us, un, bs, cs, k1, _⟩ := id hb
  exact ⟨a, b, dx, dy, _, _, rfl, rfl, h1, k1, a, b, rfl, ⟨es, ha.ok.dep, ha, hb, ha.ok.rus⟩, fun H' e => ⟨true, rfl, q H' e⟩⟩
end
section
variable {P : Program} {w : World} {K : PySem.W.Frag} {mg : Str → Option Value} {base : Heap}
def spFirst2 (K : PySem.W.Frag) : Sp := fun vs H Q _ => ∃ (x y : Addr) (a b : List Tr), vs = [.ref x, .ref y] ∧ AtT K H (.st a) x ∧ AtT K H (.st b) y ∧ Few a b ∧ ∀ (v : V) (H' : Hp), Ext H H' → decide (v = .non) = decide (told a b = 0) → Q v H'
theorem ok_first2 (T : Txt w K mg) : GF P w K mg base 9 "first_difference" (He.ga K "first_difference") (spFirst2 K) :=
  have G : GF P w K mg base 9 "first_difference" (He.ga K "first_difference") (spFirst K) := ok_first_difference T
  ⟨G.run.imp fun vs H Q E ⟨x, y, a, b, e, hx, hy, few, q⟩ => ⟨x, y, a, b, e, hx, hy, few, fun z H' e => q .non H' e (by rw [decide_eq_true z]; rfl), fun z H' p e => q (.ref p) H' e (by rw [decide_eq_false z]; rfl)⟩, G.kp, G.gl⟩
def spLaw (K : PySem.W.Frag) : Sp := fun vs H Q _ => ∃ (a : Addr) (ns : List Int), vs = [.ref a] ∧ SqF K H a (ns.map V.int) ∧ ∀ H', Q (.bl true) H'
theorem sc_law : FnScope ["_law_script", "_law_row", "_law_turn", "_law_names_here", "_law_stack_here", "_law_desk", "_law_other", "_law_again", "_law_there", "_law_back", "_law_told", "_law_later"] ["_law_script"] (defScope s_law) := ⟨rfl, rfl, rfl, by decide +kernel, rfl, by decide +kernel, by decide +kernel⟩
theorem ok_law (T : Txt w K mg) {fd : FuncData} (F : Fun K "law" "law" s_law (He.ga K "law") fd) : FnOk P w K mg base CX0 15 (He.ga K "law") fd ["_law_script"] (spLaw K) := by
  refine F.ok sc_law (by rintro vs H Q E ⟨_, _, rfl, _⟩; rfl) fun cdv A outer s H vs Q E hr h => ?_
  obtain ⟨sc, ns, rfl, hsc, q⟩ := h
  refine ⟨_, (pss_cons (ps_set (i := 1) sc_law.nd rfl (.inl rfl) (pe_lst (pa_cons (pv 0) (pa_cons pe_int (pa_cons pe_int (pa_cons pe_int pa_nil))))))
    (pss_cons (ps_for PassesOwn.never rfl (pi_range1 (by rfl) T.f_range (pa_cons pe_int pa_nil)) (pg_name (i := 2) sc_law.nd rfl (.inl rfl))
    (pss_cons (ps_set (i := 3) sc_law.nd rfl (.inl rfl) (pcall (ok_law_names T) (hr.mono (by first | decide | omega)) (pa_cons (pv 1) (pa_cons pe_int pa_nil))))
    (pss_cons (ps_set (i := 4) sc_law.nd rfl (.inl rfl) (pcall (ok_law_stack T) (hr.mono (by first | decide | omega)) (pa_cons (pv 1) (pa_cons (pv 3) (pa_cons (pe_lst (pa_cons pe_int pa_nil)) (pa_cons pe_int pa_nil))))))
    (pss_cons (ps_set (i := 5) sc_law.nd rfl (.inl rfl) (pmake (ok_Register T) (hr.mono (by first | decide | omega)) (pa_cons (pcall (ok_parse_stack T) (hr.mono (by first | decide | omega)) (pa_cons (pcall (ok_format_stack T) (hr.mono (by first | decide | omega)) (pa_cons (pv 4) pa_nil)) pa_nil)) pa_nil)))
    (pss_cons (ps_set (i := 6) sc_law.nd rfl (.inl rfl) (pmake (ok_Register T) (hr.mono (by first | decide | omega)) (pa_cons (pcall (ok_decode_stack T) (hr.mono (by first | decide | omega)) (pa_cons (pcall (ok_encode_stack T) (hr.mono (by first | decide | omega)) (pa_cons (pv 4) pa_nil)) pa_nil)) pa_nil)))
    (pss_cons (ps_for PassesOwn.never rfl (pi_range1 (by rfl) T.f_range (pa_cons pe_int pa_nil)) (pg_name (i := 7) sc_law.nd rfl (.inl rfl))
    (pss_cons (ps_asg (pcall (ok_law_edits T) (hr.mono (by decide)) (pa_cons (pv 1) (pa_cons (pv 3) (pa_cons (pv 4) pa_nil)))) (pg_unl rfl (pgs_cons (pg_name (i := 8) sc_law.nd rfl (.inl rfl)) (pgs_cons (pg_name (i := 9) sc_law.nd rfl (.inl rfl)) pgs_nil))))
    (pss_cons (ps_set (i := 10) sc_law.nd rfl (.inl rfl) (pmeth (pv 5) (ok_Register_apply_all T) (hr.mono (by first | decide | omega)) (pa_cons (pe_lst (pa_cons (pv 8) pa_nil)) pa_nil)))
    (pss_cons (ps_set (i := 11) sc_law.nd rfl (.inl rfl) (pmeth0 (pv 5) (ok_Register_stack T) (hr.mono (by first | decide | omega))))
    (pss_cons (ps_if (PW.pt (pw_or (pt_cmpR op_ne (pe_cmpR (op_eqL hr.units) (pv 10) (pe_lst (pa_cons pe_int pa_nil)) (nomark _)) (pcall (ok_alike T) (hr.mono (by first | decide | omega)) (pa_cons (pv 4) (pa_cons (pv 11) pa_nil))) (nomark _)) (pw_or1 (pt_cmpR op_ne (pe_cmpR (op_eqL hr.units) (pv 10) (pe_lst (pa_cons pe_int pa_nil)) (nomark _)) (pe_cmpR op_isN (pcall (ok_first2 T) (hr.mono (by first | decide | omega)) (pa_cons (pv 11) (pa_cons (pv 4) pa_nil))) pe_non (nomark _)) (nomark _))))) (pss_one (ps_ret pe_bl)) pss_nil)
    (pss_cons (ps_if (PW.pt (pw_or (pt_cmpR (op_neL hr.units) (pmeth (pv 5) (ok_Register_apply_all T) (hr.mono (by first | decide | omega)) (pa_cons (pe_lst (pa_cons (pv 9) pa_nil)) pa_nil)) (pv 10) (nomark _)) (pw_or1 (pt_cmpR (op_neO (ok_Stack_eq T 2) T.mo_Stack T.ne_Stack (hr.mono (by decide))) (pmeth0 (pv 5) (ok_Register_stack T) (hr.mono (by first | decide | omega))) (pv 4) (nomark _))))) (pss_one (ps_ret pe_bl)) pss_nil)
    (pss_cons (ps_if (PW.pt (pw_or (pt_cmpR (op_neL hr.units) (pmeth (pv 6) (ok_Register_apply_all T) (hr.mono (by first | decide | omega)) (pa_cons (pe_lst (pa_cons (pv 8) (pa_cons (pv 9) pa_nil))) pa_nil)) (pe_op op_cat (pv 10) (pv 10)) (nomark _)) (pw_or1 (pt_cmpR (op_neO (ok_Stack_eq T 2) T.mo_Stack T.ne_Stack (hr.mono (by decide))) (pmeth0 (pv 6) (ok_Register_stack T) (hr.mono (by first | decide | omega))) (pv 4) (nomark _))))) (pss_one (ps_ret pe_bl)) pss_nil)
    (pss_one (ps_if (PW.pt (pw_or (pt_cmpR (op_neO (ok_Stack_eq T 2) T.mo_Stack T.ne_Stack (hr.mono (by decide))) (pcall (ok_decode_stack T) (hr.mono (by first | decide | omega)) (pa_cons (pcall (ok_encode_stack T) (hr.mono (by first | decide | omega)) (pa_cons (pv 11) pa_nil)) pa_nil)) (pv 11) (nomark _)) (pw_or1 (pt_cmpR (op_neO (ok_Stack_eq T 2) T.mo_Stack T.ne_Stack (hr.mono (by decide))) (pcall (ok_parse_stack T) (hr.mono (by first | decide | omega)) (pa_cons (pcall (ok_format_stack T) (hr.mono (by first | decide | omega)) (pa_cons (pv 11) pa_nil)) pa_nil)) (pv 11) (nomark _))))) (pss_one (ps_ret pe_bl)) pss_nil)))))))))
    (pss_cons (ps_if (PW.pt (pw_or (pt_cmpR (op_neHist (Nat.lt_trans (Nat.add_lt_add_left (by decide : 10 < 64) _) hr.units)) (pprop (pv 5) (ok_Register_history T) (hr.mono (by first | decide | omega))) (pprop (pv 6) (ok_Register_history T) (hr.mono (by first | decide | omega))) (nomark _)) (pw_or1 (pt_cmpR op_ne (pcb call_len_seq T.f_len (pa_cons (pprop (pv 5) (ok_Register_history T) (hr.mono (by first | decide | omega))) pa_nil)) pe_int (nomark _))))) (pss_one (ps_ret pe_bl)) pss_nil)
    (pss_one (ps_if (pt_cmpR (op_neO (ok_Stack_eq T 2) T.mo_Stack T.ne_Stack (hr.mono (by decide))) (pmeth0 (ClX.pe_cmeth (pgr T.g_Register) T.cr_Register T.cm_replay (ok_Register_replay T) (hr.mono (by decide)) pass0 (pa_cons (pv 4) (pa_cons (pprop (pv 5) (ok_Register_history T) (hr.mono (by decide))) pa_nil))) (ok_Register_stack T) (hr.mono (by first | decide | omega))) (pv 4) (nomark _)) (pss_one (ps_ret pe_bl)) pss_nil)))))))))
    (pss_one (ps_ret pe_bl)))), ?_⟩
  -- _law_row
  refine ⟨_, rfl, by show 4 ≤ sizeLine; decide, fun R hR0 => ?_⟩
  have e0 : Ext H (upd H R (.lst [.ref sc, .int 0, .int 0, .int 0])) := Ext.upd hR0
  have hRow0 : RowAt K (upd H R (.lst [.ref sc, .int 0, .int 0, .int 0])) R := ⟨sc, ns, 0, 0, 0, upd_same, hsc.ext e0, by decide, by decide, by decide⟩
  generalize upd H R (.lst [.ref sc, .int 0, .int 0, .int 0]) = H1 at hRow0 ⊢
  refine ⟨_, rfl, by decide, by decide, ?_⟩
  refine for_it walk_range (fun i σ Hx => (∃ a2 a3 a4 a5 a6 a7 a8 a9 a10 a11, σ = [some (.ref sc), some (.ref R), a2, a3, a4, a5, a6, a7, a8, a9, a10, a11]) ∧ RowAt K Hx R) ⟨⟨none, none, none, none, none, none, none, none, none, none, rfl⟩, hRow0⟩ (fun _ _ _ _ _ => trivial) (fun i v σ Hy Hx hi hp hy => ?_) fun σ Hx hp => ?_
  · obtain ⟨⟨a2, a3, a4, a5, a6, a7, a8, a9, a10, a11, rfl⟩, hRow⟩ := hp
    obtain ⟨rfl, rfl⟩ := hy
    -- the names, the stack
    refine ⟨_, rfl, R, rfl, hRow, fun H2 N zs s2 hR2 nN hN zl1 zl2 zw => ?_⟩
    refine ⟨_, rfl, _, rfl, by show 1 ≤ sizeLine; decide, fun L nL => ?_⟩
    have e3 : Ext H2 (upd H2 L (.lst [.int 5])) := Ext.upd nL
    have hL3 : upd H2 L (.lst [.int 5]) L = some (.lst [.int ((5 : Nat) : Int)]) := upd_same
    generalize upd H2 L (.lst [.int 5]) = H3 at e3 hL3 ⊢
    have hNm : NamesAt H3 N zs := ⟨e3 _ _ hN, zl1, zl2, zw⟩
    refine ⟨R, N, L, zs, 5, rfl, hR2.ext e3, hNm, hL3, by decide, fun H4 st es c' s4 hR4 hL4 hst hl4 hst5 gd => ?_⟩
    have hNR : N ≠ R := by
      obtain ⟨_, _, _, _, _, h1, _⟩ := hR2.ext e3
      exact hNm.ne h1 fun z e => nomatch e
    have hNL : N ≠ L := fun z => by
      rw [← z, hN] at nL
      cases nL
    have hN4 : NamesAt H4 N zs := ⟨s4 _ _ hNm.1 (by simpa using ⟨hNR, hNL⟩), zl1, zl2, zw⟩
    have hz6 : zs.length ≤ 6 := by omega
    have ok0 : Ok es := gd.ok (by decide) hz6 (by omega) (by omega)
    -- both desks
    refine ⟨_, rfl, st, es, rfl, hst, fun H5 e5 hle => ⟨es, rfl, ⟨_, _, hst⟩, hle, fun H6 y1 e6 hy1 => fun r1 dr1 n1 n2 n3 => mkReg' n1 n2 n3 hy1 fun H7 s1 ds1 e7 m1 m2 hD1 => ⟨rfl, ?_⟩⟩⟩
    have e47 := (e5.trans e6).trans e7
    refine ⟨_, rfl, st, es, rfl, hst.fz (Fz.of e47), fun H8 p8 e8 hp8 hle8 => ⟨p8, es, rfl, SqL.of hp8, hle8, ⟨_, _, hst⟩, fun H9 y2 e9 hy2 => fun r2 dr2 n4 n5 n6 => mkReg' n4 n5 n6 hy2 fun H10 s2 ds2 e10 m4 m5 hD2 => ⟨rfl, ?_⟩⟩⟩
    have e79 := e8.trans e9
    have e410 := e47.trans (e79.trans e10)
    have dj : ∀ a ∈ [r2, s2, ds2], a ∉ [r1, s1, ds1] := (hD1.ext e79).new n4 m4 m5
    have hW0 : LW K R N st zs es r1 dr1 s1 ds1 es [] [] r2 dr2 s2 ds2 es [] [] H10 := ⟨hR4.ext e410, ⟨e410 _ _ hN4.1, hN4.2⟩, hst.fz (Fz.of e410), hD1.ext (e79.trans e10), trivial, hD2, trivial⟩
    refine ⟨_, rfl, by decide, by decide, ?_⟩
    refine for_it walk_range (fun j σ Hx => (∃ b2 b7 b8 b9 b10 b11, σ = [some (.ref sc), some (.ref R), b2, some (.ref N), some (.ref st), some (.ref r1), some (.ref r2), b7, b8, b9, b10, b11]) ∧
      ∃ t1 t2 cs ess, LW K R N st zs es r1 dr1 s1 ds1 es t1 cs r2 dr2 s2 ds2 es t2 cs Hx ∧ Chain K Hx es cs ess ∧ endE es ess = es ∧ cs.length = 2 * j ∧ ∀ c ∈ cs, c.all plainV = true) ⟨⟨_, _, _, _, _, _, rfl⟩, [], [], [], [], hW0, trivial, rfl, rfl, fun c hc => by simp at hc⟩ (fun _ _ _ _ _ => trivial) (fun j v σ Hy Hx hj hp hy => ?_) fun σ Hx hp => ?_
    · obtain ⟨⟨b2, b7, b8, b9, b10, b11, rfl⟩, t1, t2, cs, ess, hW, hch, hend, hcl, hpl⟩ := hp
      obtain ⟨rfl, rfl⟩ := hy
      have hj4 : j < 4 := hj
      have hcl1 := hW.o1.len
      have hcl2 := hW.o2.len
      -- the edits
      refine ⟨_, rfl, _, rfl, _, rfl, R, N, st, zs, es, rfl, hW.row, hW.nam, hW.stk, hl4, by omega, gd, fun Ha q1 u1 u2 k1 k2 es' sa hRa nq hq hu1 hu2 hed pk1 pk2 => ?_⟩
      have hWa := hW.drawn sa hRa
      have hcha := hch.fz (hW.row.smfz sa)
      obtain ⟨g1, ok1, few1, g2, ok2, few2, _⟩ := id hed
      refine ⟨q1, _, rfl, SqL.of hq, rfl, _, _, rfl, _, _, rfl, rfl, ?_⟩
      -- there
      refine ⟨_, rfl, r1, dr1, _, rfl, hWa.d1.1, rfl, _, rfl, by show 1 ≤ sizeLine; decide, fun p1 np1 => ?_⟩
      have eb : Ext Ha (upd Ha p1 (.lst [.ref u1])) := Ext.upd np1
      have hp1 : upd Ha p1 (.lst [.ref u1]) p1 = some (.lst [.ref u1]) := upd_same
      generalize upd Ha p1 (.lst [.ref u1]) = Hb at eb hp1 ⊢
      have hWb := hWa.ext eb
      refine ⟨r1, dr1, s1, ds1, p1, es, t1, [u1], [k1], [es'], rfl, hWb.d1, hp1, ⟨eb _ _ hu1, trivial⟩, ⟨g1.fz (Fz.of eb), ok1, few1, trivial⟩, by show t1.length + 1 ≤ 20; omega, fun Hc qt v1 sc1 hDc hvc hqt nqt => ?_⟩
      have hWc : LW K R N st zs es r1 dr1 s1 ds1 es' (t1 ++ v1) (cs ++ [k1]) r2 dr2 s2 ds2 es t2 cs Hc := hWb.ap1 sc1 dj hDc hvc
      have hqt' : Hc qt = some (.lst [.int (told es es' : Nat)]) := hqt
      have fac : Fz Ha Hc := (Fz.of eb).trans (hWb.d1.smfz sc1)
      have hv1 := hvc.len
      refine ⟨_, rfl, r1, dr1, _, rfl, hWc.d1.1, rfl, r1, dr1, s1, ds1, es', _, rfl, hWc.d1, fun pr hpr => ?_⟩
      -- the number is 0 if the stacks are alike
      refine ⟨_, rfl, by show 1 ≤ sizeLine; decide, fun l1 nl1 => ?_⟩
      have ed : Ext Hc (upd Hc l1 (.lst [.int 0])) := Ext.upd nl1
      have hl1 : upd Hc l1 (.lst [.int 0]) l1 = some (.lst [.int 0]) := upd_same
      generalize upd Hc l1 (.lst [.int 0]) = Hd at ed hl1 ⊢
      refine ⟨qt, l1, [.int (told es es' : Nat)], [.int 0], rfl, rfl, SqL.of (ed _ _ hqt'), SqL.of hl1, rfl, rfl, _, rfl, _, rfl, st, pr, es, es', rfl, (hWc.ext ed).stk, hpr.fz (Fz.of ed), few1, fun He ee => ⟨rfl, _, rfl, iteFb (told_eq _) ?_⟩⟩
      have ece := ed.trans ee
      refine ⟨_, rfl, by show 1 ≤ sizeLine; decide, fun l2 nl2 => ?_⟩
      have ef : Ext He (upd He l2 (.lst [.int 0])) := Ext.upd nl2
      have hl2 : upd He l2 (.lst [.int 0]) l2 = some (.lst [.int 0]) := upd_same
      generalize upd He l2 (.lst [.int 0]) = Hf at ef hl2 ⊢
      have ecf := ece.trans ef
      refine ⟨qt, l2, [.int (told es es' : Nat)], [.int 0], rfl, rfl, SqL.of (ecf _ _ hqt'), SqL.of hl2, rfl, rfl, _, rfl, _, rfl, pr, st, es', es, rfl, hpr.fz (Fz.of ecf), (hWc.ext ecf).stk, few2, ?_⟩
      refine fun v Hg eg hv => ⟨rfl, rfl, _, rfl, iteFb (told_eq2 es es' v hv) ?_⟩
      have ecg := ecf.trans eg
      -- back
      have hWg := hWc.ext ecg
      have fag : Fz Ha Hg := fac.trans (Fz.of ecg)
      refine ⟨_, rfl, r1, dr1, _, rfl, hWg.d1.1, rfl, _, rfl, by show 1 ≤ sizeLine; decide, fun p2 np2 => ?_⟩
      have eh : Ext Hg (upd Hg p2 (.lst [.ref u2])) := Ext.upd np2
      have hp2 : upd Hg p2 (.lst [.ref u2]) p2 = some (.lst [.ref u2]) := upd_same
      generalize upd Hg p2 (.lst [.ref u2]) = Hh at eh hp2 ⊢
      have hWh := hWg.ext eh
      have fah : Fz Ha Hh := fag.trans (Fz.of eh)
      refine ⟨r1, dr1, s1, ds1, p2, es', t1 ++ v1, [u2], [k2], [es], rfl, hWh.d1, hp2, ⟨fah _ _ rfl hu2, trivial⟩, ⟨g2.fz fah, ok2, few2, trivial⟩, ?_, fun Hi qb v2 si hDi hvi hqb nqb => ?_⟩
      · rw [List.length_append, hv1]
        show t1.length + 1 + 1 ≤ 20
        omega
      have hWi : LW K R N st zs es r1 dr1 s1 ds1 es (t1 ++ v1 ++ v2) (cs ++ [k1] ++ [k2]) r2 dr2 s2 ds2 es t2 cs Hi := hWh.ap1 si dj hDi hvi
      have hqb' : Hi qb = some (.lst [.int (told es es' : Nat)]) := by
        rw [told_comm es es']
        exact hqb
      have hqti : Hi qt = some (.lst [.int (told es es' : Nat)]) := si _ _ (eh _ _ (ecg _ _ hqt')) (hWh.d1.ne_lst (eh _ _ (ecg _ _ hqt')))
      have fai : Fz Ha Hi := fah.trans (hWh.d1.smfz si)
      have fci : Fz Hc Hi := (Fz.of (ecg.trans eh)).trans (hWh.d1.smfz si)
      refine ⟨_, rfl, qb, qt, [.int (told es es' : Nat)], [.int (told es es' : Nat)], rfl, rfl, SqL.of hqb', SqL.of hqti, rfl, rfl, _, rfl, iteFb (by rw [decide_eq_true rfl]; rfl) ?_⟩
      refine ⟨_, rfl, r1, dr1, _, rfl, hWi.d1.1, rfl, r1, dr1, s1, ds1, es, _, rfl, hWi.d1, fun pr2 hpr2 => ⟨_, rfl, neS hpr2 hWi.stk fun Hj ej => ⟨false, rfl, iteF ?_⟩⟩⟩
      -- the other desk, both at once
      have hWj := hWi.ext ej
      have faj : Fz Ha Hj := fai.trans (Fz.of ej)
      refine ⟨_, rfl, r2, dr2, _, rfl, hWj.d2.1, rfl, _, rfl, _, rfl, by show 2 ≤ sizeLine; decide, fun p3 np3 => ?_⟩
      have ek : Ext Hj (upd Hj p3 (.lst [.ref u1, .ref u2])) := Ext.upd np3
      have hp3 : upd Hj p3 (.lst [.ref u1, .ref u2]) p3 = some (.lst [.ref u1, .ref u2]) := upd_same
      generalize upd Hj p3 (.lst [.ref u1, .ref u2]) = Hk at ek hp3 ⊢
      have hWk := hWj.ext ek
      have fak : Fz Ha Hk := faj.trans (Fz.of ek)
      refine ⟨r2, dr2, s2, ds2, p3, es, t2, [u1, u2], [k1, k2], [es', es], rfl, hWk.d2, hp3, ⟨fak _ _ rfl hu1, fak _ _ rfl hu2, trivial⟩, hed.fz fak, by show t2.length + 2 ≤ 20; omega, fun Hl qc v3 sl hDl hvl hqc nqc => ?_⟩
      have hWl : LW K R N st zs es r1 dr1 s1 ds1 es (t1 ++ v1 ++ v2) (cs ++ [k1] ++ [k2]) r2 dr2 s2 ds2 es (t2 ++ v3) (cs ++ [k1, k2]) Hl := hWk.ap2 sl dj hDl hvl
      have hqc' : Hl qc = some (.lst [.int (told es es' : Nat), .int (told es es' : Nat)]) := by
        have e : toldL es [es', es] = [V.int (told es es' : Nat), .int (told es es' : Nat)] := by
          show [V.int (told es es' : Nat), .int (told es' es : Nat)] = _
          rw [told_comm es' es]
        rw [← e]
        exact hqc
      have hqtl : Hl qt = some (.lst [.int (told es es' : Nat)]) := sl _ _ (ek _ _ (ej _ _ hqti)) (hWk.d2.ne_lst (ek _ _ (ej _ _ hqti)))
      have fcl : Fz Hc Hl := (fci.trans (Fz.of (ej.trans ek))).trans (hWk.d2.smfz sl)
      have fal : Fz Ha Hl := fak.trans (hWk.d2.smfz sl)
      refine ⟨_, rfl, _, rfl, qt, qt, _, _, rfl, rfl, hqtl, hqtl, by show 2 ≤ sizeLine; decide, fun pm npm => ?_⟩
      have em : Ext Hl (upd Hl pm (.lst ([.int (told es es' : Nat)] ++ [.int (told es es' : Nat)]))) := Ext.upd npm
      have hpm : upd Hl pm (.lst ([.int (told es es' : Nat)] ++ [.int (told es es' : Nat)])) pm = some (.lst [.int (told es es' : Nat), .int (told es es' : Nat)]) := upd_same
      generalize upd Hl pm (.lst ([.int (told es es' : Nat)] ++ [.int (told es es' : Nat)])) = Hm at em hpm ⊢
      have hWm := hWl.ext em
      refine ⟨qc, pm, _, _, rfl, rfl, SqL.of (em _ _ hqc'), SqL.of hpm, rfl, rfl, _, rfl, iteFb (by rw [decide_eq_true rfl]; rfl) ?_⟩
      refine ⟨_, rfl, r2, dr2, _, rfl, hWm.d2.1, rfl, r2, dr2, s2, ds2, es, _, rfl, hWm.d2, fun pr3 hpr3 => ⟨_, rfl, neS hpr3 hWm.stk fun Hn en => ⟨false, rfl, iteF ?_⟩⟩⟩
      -- texts and codes
      have ecn : Fz Hc Hn := fcl.trans (Fz.of (em.trans en))
      have hprn := hpr.fz ecn
      have std : Stood K es' := ⟨_, _, hpr⟩
      refine ⟨_, rfl, pr, es', rfl, hprn, fun Ho po eo hpo hle => ⟨po, es', rfl, SqL.of hpo, hle, std, fun Hp yp ep hyp => ⟨_, rfl, neS hyp (hprn.fz (Fz.of (eo.trans ep))) fun Hq eq => ⟨false, rfl, iteF ?_⟩⟩⟩⟩
      have epq := (eo.trans ep).trans eq
      refine ⟨_, rfl, pr, es', rfl, hprn.fz (Fz.of epq), fun Hr er hle2 => ⟨es', rfl, std, hle2, fun Hs ys es_ hys => ⟨_, rfl, neS hys (hprn.fz (Fz.of (epq.trans (er.trans es_)))) fun Ht et => ⟨false, rfl, iteF ?_⟩⟩⟩⟩
      have ent : Ext Hn Ht := epq.trans ((er.trans es_).trans et)
      have hWt := hWm.ext (en.trans ent)
      have fat : Fz Ha Ht := fal.trans (Fz.of (em.trans (en.trans ent)))
      have ecs : cs ++ [k1] ++ [k2] = cs ++ [k1, k2] := by rw [List.append_assoc]; rfl
      rw [ecs] at hWt
      refine ⟨⟨_, _, _, _, _, _, rfl⟩, t1 ++ v1 ++ v2, t2 ++ v3, cs ++ [k1, k2], ess ++ [es', es], hWt, (hcha.fz fat).app (by rw [hend]; exact hed.fz fat), ?_, ?_, fun c hc => ?_⟩
      · rw [endE_app]
        rfl
      · rw [List.length_append, hcl]
        show 2 * j + 2 = _
        omega
      · rcases List.mem_append.mp hc with z | z
        · exact hpl c z
        · simp only [List.mem_cons, List.not_mem_nil, or_false] at z
          rcases z with z | z
          · rw [z]; exact pk1
          · rw [z]; exact pk2
    · obtain ⟨⟨b2, b7, b8, b9, b10, b11, rfl⟩, t1, t2, cs, ess, hW, hch, hend, hcl, hpl⟩ := hp
      have hcl1 := hW.o1.len
      have hcl2 := hW.o2.len
      -- the histories
      refine ⟨_, rfl, r1, dr1, _, rfl, hW.d1.1, r1, dr1, s1, ds1, es, t1, cs, rfl, hW.d1, hW.o1, hch.ops, by omega, fun Ha ha ea hha => ?_⟩
      have hWa := hW.ext ea
      refine ⟨_, rfl, r2, dr2, _, rfl, hWa.d2.1, r2, dr2, s2, ds2, es, t2, cs, rfl, hWa.d2, hWa.o2, hch.ops, by omega, fun Hb hb eb hhb => ?_⟩
      have hWb := hWa.ext eb
      refine ⟨ha, hb, t1, t2, cs, rfl, rfl, SqL.of (eb _ _ hha), SqL.of hhb, hWb.o1, hWb.o2, hpl, _, rfl, iteF ?_⟩
      refine ⟨_, rfl, r1, dr1, _, rfl, hWb.d1.1, r1, dr1, s1, ds1, es, t1, cs, rfl, hWb.d1, hWb.o1, hch.ops, by omega, fun Hc hc ec hhc => ⟨hc, _, rfl, .inl (SqL.of hhc), rfl, _, rfl, iteFb ?_ ?_⟩⟩
      · rw [List.length_map, hcl1, hcl]
        rfl
      have hWc := hWb.ext ec
      have eac := ea.trans (eb.trans ec)
      refine ⟨rfl, _, rfl, _, rfl, r1, dr1, _, rfl, hWc.d1.1, r1, dr1, s1, ds1, es, t1, cs, rfl, hWc.d1, hWc.o1, hch.ops, by omega, fun Hd hd ed hhd => ?_⟩
      have hWd := hWc.ext ed
      refine ⟨st, hd, es, t1, cs, ess, rfl, hWd.stk, hhd, hWd.o1, hch.fz (Fz.of (eac.trans ed)), by omega, fun He x dx s ds ops ee nx hRe => ?_⟩
      rw [hend] at hRe
      refine ⟨x, dx, _, rfl, hRe.1, rfl, x, dx, s, ds, es, ops, rfl, hRe, fun pr hpr => ⟨_, rfl, neS hpr (hWd.ext ee).stk fun Hf ef => ⟨false, rfl, iteF ?_⟩⟩⟩
      exact ⟨⟨_, _, _, _, _, _, _, _, _, _, rfl⟩, ((hWd.ext ee).ext ef).row⟩
  · obtain ⟨⟨a2, a3, a4, a5, a6, a7, a8, a9, a10, a11, rfl⟩, hRow⟩ := hp
    exact q Hx
end
end Ls
set_option maxRecDepth 100000
set_option maxHeartbeats 4000000
/-! the end -/
namespace Ls
open PySem PySem.Spec PyProof.Rows L2
theorem sqF_of {K : PySem.W.Frag} {H : Hp} {a : Addr} {xs : List V} (hO : Only H) (h : SqL K H a xs) : SqF K H a xs := by
  rcases h with (h | h) | h
  · rcases hO a with z | ⟨o, ys, z⟩
    · rw [z] at h
      cases h
    · rw [z] at h
      cases h
  · exact .inl h
  · exact .inr fun _ => .inr h
theorem end_ {w : World} {h : Heap} {mg : Str → Option Value} {fa : Addr} (Y : hookL.says w h) (G : h.Ns mainGlobals mg) (hmg : mg ("law" : Str) = some (.ref fa)) :
    ∃ (K : PySem.W.Frag) (fd : FuncData) (sp : Sp), K.In h ∧ (∀ (s : Shared) (u : Value), BindsTo s fd ⟨[u], []⟩ [("_law_script", u)]) ∧
      (∀ (H : Hp) (a : Addr) (ns : List Int), ns.length ≤ 63 → Only H → SqL K H a (ns.map V.int) → sp [.ref a] H (fun v _ => v = .bl true) fun _ _ _ => False) ∧
      ∀ base : Heap, K.In base → base.Ns mainGlobals mg → FnOk rwL.prog w K mg base CX0 15 fa fd ["_law_script"] sp := by
  obtain ⟨K, KX, c⟩ := Y
  have T : Txt w K mg := txt_of KX G c
  have e := hmg.symm.trans T.g_law
  cases e
  obtain ⟨fd, F⟩ := T.d_law
  refine ⟨K, fd, spLaw K, KX, fun s u => ?_, fun H a ns _ hO hS => ⟨a, ns, rfl, sqF_of hO hS, fun _ => rfl⟩, fun base _ _ => ok_law T F⟩
  obtain ⟨oc, od, kV, doc, pm, an, cdv, ct, osl, rfl, lk, hcd⟩ := F.ex
  exact .of_eq rfl
end Ls
open PySem PySem.W PySem.Calls PyProof.Rows
theorem PySem.Challenge.cw_loginstacks_k65_whole_edits_and_back_holds : PySem.Challenge.rw_loginstacks_k65_whole_edits_and_back.Holds := by
  w_on; o_law
  refine HandSHeadRun.head_any (r := OpenLaw.row PySem.Challenge.rw_loginstacks_k65_whole_edits_and_back) (q := view (OpenLaw.row PySem.Challenge.rw_loginstacks_k65_whole_edits_and_back).prog [112]) (H := Ls.hookL) (ob := Ls.obL) (M := 40000) (loose := Ls.loose) (d := HandSHeadRun.topDef (OpenLaw.row PySem.Challenge.rw_loginstacks_k65_whole_edits_and_back).prog 112) (kwd := []) Ls.obL_eq
    (by kernel_rfl) (fun s => by kernel_rfl) Ls.runL (by kernel_rfl) (by kernel_rfl) (by kernel_rfl) (by rfl) (by first | assumption | decide +kernel) (by decide +kernel) ⟨rfl, rfl, rfl, rfl, rfl, by decide +kernel⟩ ?hw ?hc
  case hw => w_witness2
  case hc =>
    refine L2.walk_ofE (l := PySem.Challenge.rw_loginstacks_k65_whole_edits_and_back) (n := 63) (k := 15) (x := "_law_script") (CX := L2.CX0) rfl (by decide) (by kernel_rfl) ⟨rfl, by decide, by decide⟩ ?F (fun _ _ _ _ z => z)
    intro w mg fa h Y G hmg0
    have hmg : mg ("law" : PySem.Str) = some (.ref fa) := by
      have e : (HandSHeadRun.topDef (OpenLaw.row PySem.Challenge.rw_loginstacks_k65_whole_edits_and_back).prog 112).name = ("law" : PySem.Str) := by kernel_rfl
      rw [← e]
      exact hmg0
    exact Ls.end_ Y G hmg
