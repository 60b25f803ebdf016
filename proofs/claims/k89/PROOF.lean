import PyProof.Rows.All
import Wide.All
import OpenK.AllK
import Wide.FinOn
import KE.KStateDown
import Lean
import HandS.Base
import HandS.Call
import HandS.Ends
import HandS.More
import HandS.Words
import HandS.WordsExc
import HandS.Defaults
import HandS.Head0
import HandS.Head1
import HandS.Head2
import HandS.HeadEnd
import HandS.HeadHook1
import HandS.HeadHook2
import HandS.HeadHook3
import HandS.HeadHook4
import PySem.Challenge.RW_headerclicks_k89_whole_sessions_and_text
import HandS.Codes
import HandS.ForMost
import HandS.Walk
import HandS.IsInst
import HandS.Style
import HandS.FStr
import HandS.DictComp
import HandS.DictTup
import HandS.SortInts
import HandS.SortRule
import HandS.TryOnly
import HandS.ExcOwn
import HandS.RaiseMore
import HandS.TupLen
import HandS.Evl
import HandS.Conv
import HandS.DictEq
import HandS.Text
import HandS.ListItems
import HandS.Iter
import KE.KDictZip
set_option Elab.async false
set_option linter.all false
set_option maxRecDepth 100000
set_option maxHeartbeats 0
namespace HC
open PySem PySem.Spec PyProof.Rows L2
def top (i : Nat) : Stmt := PySem.Challenge.pw_headerclicks_k89_whole_sessions_and_text.main.body.getD i (.Pass ⟨0, 0, 0, 0⟩)
def fnames : List PySem.Str := ["HeaderClicksError", "InvalidTableError", "InvalidCellError", "InvalidColumnError", "InvalidColumnCountError", "InvalidEffectError", "InvalidRowError", "InvalidTextError", "TooManyRowsError", "EmptyHistoryError", "InvalidClicksError", "NUMBER"]
def fnames1 : List PySem.Str := ["TEXT", "CASELESS", "MAX_COLUMNS", "MAX_ROWS", "MAX_CHARACTERS", "is_integer", "is_kind", "is_cell_character", "is_cell", "is_row", "is_table", "check_table"]
def fnames2 : List PySem.Str := ["is_column", "check_column", "sort_key", "column_keys", "ranks_in", "ranks_of", "check_clicks", "sort_rows", "click_rows", "all_views", "ranks_of_rows", "effect_after"]
def fnames3 : List PySem.Str := ["State", "Session", "MOST_COLUMNS", "ASCENDING", "DESCENDING", "check_columns", "is_sign", "is_key", "is_effect", "COLUMNS", "DIGITS", "SIGN_OF"]
def fnames4 : List PySem.Str := ["MAX_DIGITS", "sign_text", "format_effect", "check_text", "parse_effect", "format_clicks", "parse_clicks", "cell_text", "format_table", "is_integer_text", "parse_cell", "parse_table"]
def fnames5 : List PySem.Str := ["_law_bag", "_law_draw", "_law_cell", "_law_table", "_law_less", "_law_row_less", "_law_sorted", "_law_shown", "_law_effect", "_law_raises", "_law_state_clicked", "_law_operation"]
def fnames6 : List PySem.Str := ["_law_settled", "_law_state_right", "_law_step_right", "_law_line", "_law_text_right", "_law_right"]
def names : List PySem.Str := fnames ++ fnames1 ++ fnames2 ++ fnames3 ++ fnames4 ++ fnames5 ++ fnames6
def d_is_integer : He.DefD := ⟨("is_integer", none), "is_integer", "is_integer", defArgs (top 19), defBody (top 19), defScope (top 19), [], []⟩
def d_is_kind : He.DefD := ⟨("is_kind", none), "is_kind", "is_kind", defArgs (top 20), defBody (top 20), defScope (top 20), [], []⟩
def d_is_cell_character : He.DefD := ⟨("is_cell_character", none), "is_cell_character", "is_cell_character", defArgs (top 21), defBody (top 21), defScope (top 21), [], []⟩
def d_is_cell : He.DefD := ⟨("is_cell", none), "is_cell", "is_cell", defArgs (top 22), defBody (top 22), defScope (top 22), [], []⟩
def d_is_row : He.DefD := ⟨("is_row", none), "is_row", "is_row", defArgs (top 23), defBody (top 23), defScope (top 23), [], []⟩
def d_is_table : He.DefD := ⟨("is_table", none), "is_table", "is_table", defArgs (top 24), defBody (top 24), defScope (top 24), [], []⟩
def d_check_table : He.DefD := ⟨("check_table", none), "check_table", "check_table", defArgs (top 25), defBody (top 25), defScope (top 25), [], []⟩
def d_is_column : He.DefD := ⟨("is_column", none), "is_column", "is_column", defArgs (top 26), defBody (top 26), defScope (top 26), [], []⟩
def d_check_column : He.DefD := ⟨("check_column", none), "check_column", "check_column", defArgs (top 27), defBody (top 27), defScope (top 27), [], []⟩
def d_sort_key : He.DefD := ⟨("sort_key", none), "sort_key", "sort_key", defArgs (top 28), defBody (top 28), defScope (top 28), [], []⟩
def d_column_keys : He.DefD := ⟨("column_keys", none), "column_keys", "column_keys", defArgs (top 29), defBody (top 29), defScope (top 29), [], []⟩
def d_ranks_in : He.DefD := ⟨("ranks_in", none), "ranks_in", "ranks_in", defArgs (top 30), defBody (top 30), defScope (top 30), [], []⟩
def d_ranks_of : He.DefD := ⟨("ranks_of", none), "ranks_of", "ranks_of", defArgs (top 31), defBody (top 31), defScope (top 31), [], []⟩
def d_check_clicks : He.DefD := ⟨("check_clicks", none), "check_clicks", "check_clicks", defArgs (top 33), defBody (top 33), defScope (top 33), [], []⟩
def d_sort_rows : He.DefD := ⟨("sort_rows", none), "sort_rows", "sort_rows", defArgs (top 34), defBody (top 34), defScope (top 34), [], []⟩
def d_click_rows : He.DefD := ⟨("click_rows", none), "click_rows", "click_rows", defArgs (top 35), defBody (top 35), defScope (top 35), [], []⟩
def d_all_views : He.DefD := ⟨("all_views", none), "all_views", "all_views", defArgs (top 36), defBody (top 36), defScope (top 36), [], []⟩
def d_ranks_of_rows : He.DefD := ⟨("ranks_of_rows", none), "ranks_of_rows", "ranks_of_rows", defArgs (top 38), defBody (top 38), defScope (top 38), [], []⟩
def d_effect_after : He.DefD := ⟨("effect_after", none), "effect_after", "effect_after", defArgs (top 39), defBody (top 39), defScope (top 39), [], []⟩
def d_State_init : He.DefD := ⟨("State", some "__init__"), "__init__", "State.__init__", defArgs (inClass (top 40) 0), defBody (inClass (top 40) 0), defScope (inClass (top 40) 0), [], []⟩
def d_Session_init : He.DefD := ⟨("Session", some "__init__"), "__init__", "Session.__init__", defArgs (inClass (top 41) 0), defBody (inClass (top 41) 0), defScope (inClass (top 41) 0), [], []⟩
def d_Session_len : He.DefD := ⟨("Session", some "__len__"), "__len__", "Session.__len__", defArgs (inClass (top 41) 1), defBody (inClass (top 41) 1), defScope (inClass (top 41) 1), [], []⟩
def d_Session_eq : He.DefD := ⟨("Session", some "__eq__"), "__eq__", "Session.__eq__", defArgs (inClass (top 41) 2), defBody (inClass (top 41) 2), defScope (inClass (top 41) 2), [], []⟩
def d_Session_perform : He.DefD := ⟨("Session", some "perform"), "perform", "Session.perform", defArgs (inClass (top 41) 3), defBody (inClass (top 41) 3), defScope (inClass (top 41) 3), [], []⟩
def d_Session_check_row : He.DefD := ⟨("Session", some "check_row"), "check_row", "Session.check_row", defArgs (inClass (top 41) 4), defBody (inClass (top 41) 4), defScope (inClass (top 41) 4), [], []⟩
def d_Session_click : He.DefD := ⟨("Session", some "click"), "click", "Session.click", defArgs (inClass (top 41) 5), defBody (inClass (top 41) 5), defScope (inClass (top 41) 5), [], []⟩
def d_Session_edit_cells : He.DefD := ⟨("Session", some "edit_cells"), "edit_cells", "Session.edit_cells", defArgs (inClass (top 41) 6), defBody (inClass (top 41) 6), defScope (inClass (top 41) 6), [], []⟩
def d_Session_set_cell : He.DefD := ⟨("Session", some "set_cell"), "set_cell", "Session.set_cell", defArgs (inClass (top 41) 7), defBody (inClass (top 41) 7), defScope (inClass (top 41) 7), [], []⟩
def d_Session_add_row : He.DefD := ⟨("Session", some "add_row"), "add_row", "Session.add_row", defArgs (inClass (top 41) 8), defBody (inClass (top 41) 8), defScope (inClass (top 41) 8), [], []⟩
def d_Session_remove_row : He.DefD := ⟨("Session", some "remove_row"), "remove_row", "Session.remove_row", defArgs (inClass (top 41) 9), defBody (inClass (top 41) 9), defScope (inClass (top 41) 9), [], []⟩
def d_Session_undo : He.DefD := ⟨("Session", some "undo"), "undo", "Session.undo", defArgs (inClass (top 41) 10), defBody (inClass (top 41) 10), defScope (inClass (top 41) 10), [], []⟩
def d_Session_redo : He.DefD := ⟨("Session", some "redo"), "redo", "Session.redo", defArgs (inClass (top 41) 11), defBody (inClass (top 41) 11), defScope (inClass (top 41) 11), [], []⟩
def d_Session_view : He.DefD := ⟨("Session", some "view"), "view", "Session.view", defArgs (inClass (top 41) 12), defBody (inClass (top 41) 12), defScope (inClass (top 41) 12), [], []⟩
def d_Session_row_cells : He.DefD := ⟨("Session", some "row_cells"), "row_cells", "Session.row_cells", defArgs (inClass (top 41) 13), defBody (inClass (top 41) 13), defScope (inClass (top 41) 13), [], []⟩
def d_Session_last_clicked : He.DefD := ⟨("Session", some "last_clicked"), "last_clicked", "Session.last_clicked", defArgs (inClass (top 41) 14), defBody (inClass (top 41) 14), defScope (inClass (top 41) 14), [], []⟩
def d_Session_recent_effect : He.DefD := ⟨("Session", some "recent_effect"), "recent_effect", "Session.recent_effect", defArgs (inClass (top 41) 15), defBody (inClass (top 41) 15), defScope (inClass (top 41) 15), [], []⟩
def d_Session_is_settled : He.DefD := ⟨("Session", some "is_settled"), "is_settled", "Session.is_settled", defArgs (inClass (top 41) 16), defBody (inClass (top 41) 16), defScope (inClass (top 41) 16), [], []⟩
def d_Session_duplicate : He.DefD := ⟨("Session", some "duplicate"), "duplicate", "Session.duplicate", defArgs (inClass (top 41) 17), defBody (inClass (top 41) 17), defScope (inClass (top 41) 17), [], []⟩
def d_check_columns : He.DefD := ⟨("check_columns", none), "check_columns", "check_columns", defArgs (top 46), defBody (top 46), defScope (top 46), [], []⟩
def d_is_sign : He.DefD := ⟨("is_sign", none), "is_sign", "is_sign", defArgs (top 47), defBody (top 47), defScope (top 47), [], []⟩
def d_is_key : He.DefD := ⟨("is_key", none), "is_key", "is_key", defArgs (top 48), defBody (top 48), defScope (top 48), [], []⟩
def d_is_effect : He.DefD := ⟨("is_effect", none), "is_effect", "is_effect", defArgs (top 49), defBody (top 49), defScope (top 49), [], []⟩
def d_sign_text : He.DefD := ⟨("sign_text", none), "sign_text", "sign_text", defArgs (top 55), defBody (top 55), defScope (top 55), [], []⟩
def d_format_effect : He.DefD := ⟨("format_effect", none), "format_effect", "format_effect", defArgs (top 56), defBody (top 56), defScope (top 56), [], []⟩
def d_check_text : He.DefD := ⟨("check_text", none), "check_text", "check_text", defArgs (top 57), defBody (top 57), defScope (top 57), [], []⟩
def d_parse_effect : He.DefD := ⟨("parse_effect", none), "parse_effect", "parse_effect", defArgs (top 58), defBody (top 58), defScope (top 58), [], []⟩
def d_format_clicks : He.DefD := ⟨("format_clicks", none), "format_clicks", "format_clicks", defArgs (top 59), defBody (top 59), defScope (top 59), [], []⟩
def d_parse_clicks : He.DefD := ⟨("parse_clicks", none), "parse_clicks", "parse_clicks", defArgs (top 60), defBody (top 60), defScope (top 60), [], []⟩
def d_cell_text : He.DefD := ⟨("cell_text", none), "cell_text", "cell_text", defArgs (top 61), defBody (top 61), defScope (top 61), [], []⟩
def d_format_table : He.DefD := ⟨("format_table", none), "format_table", "format_table", defArgs (top 62), defBody (top 62), defScope (top 62), [], []⟩
def d_is_integer_text : He.DefD := ⟨("is_integer_text", none), "is_integer_text", "is_integer_text", defArgs (top 63), defBody (top 63), defScope (top 63), [], []⟩
def d_parse_cell : He.DefD := ⟨("parse_cell", none), "parse_cell", "parse_cell", defArgs (top 64), defBody (top 64), defScope (top 64), [], []⟩
def d_parse_table : He.DefD := ⟨("parse_table", none), "parse_table", "parse_table", defArgs (top 65), defBody (top 65), defScope (top 65), [], []⟩
def d_law_bag : He.DefD := ⟨("_law_bag", none), "_law_bag", "_law_bag", defArgs (top 67), defBody (top 67), defScope (top 67), [], []⟩
def d_law_draw : He.DefD := ⟨("_law_draw", none), "_law_draw", "_law_draw", defArgs (top 68), defBody (top 68), defScope (top 68), [], []⟩
def d_law_cell : He.DefD := ⟨("_law_cell", none), "_law_cell", "_law_cell", defArgs (top 69), defBody (top 69), defScope (top 69), [], []⟩
def d_law_table : He.DefD := ⟨("_law_table", none), "_law_table", "_law_table", defArgs (top 70), defBody (top 70), defScope (top 70), [], []⟩
def d_law_less : He.DefD := ⟨("_law_less", none), "_law_less", "_law_less", defArgs (top 71), defBody (top 71), defScope (top 71), [], []⟩
def d_law_row_less : He.DefD := ⟨("_law_row_less", none), "_law_row_less", "_law_row_less", defArgs (top 72), defBody (top 72), defScope (top 72), [], []⟩
def d_law_sorted : He.DefD := ⟨("_law_sorted", none), "_law_sorted", "_law_sorted", defArgs (top 73), defBody (top 73), defScope (top 73), [], []⟩
def d_law_effect : He.DefD := ⟨("_law_effect", none), "_law_effect", "_law_effect", defArgs (top 75), defBody (top 75), defScope (top 75), [], []⟩
def d_law_raises : He.DefD := ⟨("_law_raises", none), "_law_raises", "_law_raises", defArgs (top 76), defBody (top 76), defScope (top 76), [], []⟩
def d_law_state_clicked : He.DefD := ⟨("_law_state_clicked", none), "_law_state_clicked", "_law_state_clicked", defArgs (top 77), defBody (top 77), defScope (top 77), [], []⟩
def d_law_operation : He.DefD := ⟨("_law_operation", none), "_law_operation", "_law_operation", defArgs (top 78), defBody (top 78), defScope (top 78), [], []⟩
def d_law_settled : He.DefD := ⟨("_law_settled", none), "_law_settled", "_law_settled", defArgs (top 79), defBody (top 79), defScope (top 79), [], []⟩
def d_law_state_right : He.DefD := ⟨("_law_state_right", none), "_law_state_right", "_law_state_right", defArgs (top 80), defBody (top 80), defScope (top 80), [], []⟩
def d_law_step_right : He.DefD := ⟨("_law_step_right", none), "_law_step_right", "_law_step_right", defArgs (top 81), defBody (top 81), defScope (top 81), [], []⟩
def d_law_line : He.DefD := ⟨("_law_line", none), "_law_line", "_law_line", defArgs (top 82), defBody (top 82), defScope (top 82), [], []⟩
def d_law_text_right : He.DefD := ⟨("_law_text_right", none), "_law_text_right", "_law_text_right", defArgs (top 83), defBody (top 83), defScope (top 83), [], []⟩
def d_law_right : He.DefD := ⟨("_law_right", none), "_law_right", "_law_right", defArgs (top 84), defBody (top 84), defScope (top 84), [], []⟩
def d_law : He.DefD := ⟨("law", none), "law", "law", defArgs (top 85), defBody (top 85), defScope (top 85), [], []⟩
def fn0 : List He.DefD := [d_is_integer, d_is_kind, d_is_cell_character, d_is_cell, d_is_row, d_is_table, d_check_table, d_is_column, d_check_column, d_sort_key, d_column_keys, d_ranks_in, d_ranks_of, d_check_clicks, d_sort_rows, d_click_rows, d_all_views, d_ranks_of_rows, d_effect_after, d_State_init]
def fn1 : List He.DefD := [d_Session_init, d_Session_len, d_Session_eq, d_Session_perform, d_Session_check_row, d_Session_click, d_Session_edit_cells, d_Session_set_cell, d_Session_add_row, d_Session_remove_row, d_Session_undo, d_Session_redo, d_Session_view, d_Session_row_cells, d_Session_last_clicked, d_Session_recent_effect, d_Session_is_settled, d_Session_duplicate, d_check_columns, d_is_sign]
def fn2 : List He.DefD := [d_is_key, d_is_effect, d_sign_text, d_format_effect, d_check_text, d_parse_effect, d_format_clicks, d_parse_clicks, d_cell_text, d_format_table, d_is_integer_text, d_parse_cell, d_parse_table, d_law_bag, d_law_draw, d_law_cell, d_law_table, d_law_less, d_law_row_less, d_law_sorted]
def fn3 : List He.DefD := [d_law_effect, d_law_raises, d_law_state_clicked, d_law_operation, d_law_settled, d_law_state_right, d_law_step_right, d_law_line, d_law_text_right, d_law_right, d_law]
def fn : List He.DefD := fn0 ++ fn1 ++ fn2 ++ fn3
def fa0 : List He.Fa := [.glo "is_integer", .glo "is_kind", .glo "is_cell_character", .glo "is_cell", .glo "is_row", .glo "is_table", .glo "check_table", .glo "is_column", .glo "check_column", .glo "sort_key", .glo "column_keys", .glo "ranks_in", .glo "ranks_of", .glo "check_clicks", .glo "sort_rows", .glo "click_rows", .glo "all_views", .glo "ranks_of_rows", .glo "effect_after", .glo "check_columns"]
def fa1 : List He.Fa := [.glo "is_sign", .glo "is_key", .glo "is_effect", .glo "sign_text", .glo "format_effect", .glo "check_text", .glo "parse_effect", .glo "format_clicks", .glo "parse_clicks", .glo "cell_text", .glo "format_table", .glo "is_integer_text", .glo "parse_cell", .glo "parse_table", .glo "_law_bag", .glo "_law_draw", .glo "_law_cell", .glo "_law_table", .glo "_law_less", .glo "_law_row_less"]
def fa2 : List He.Fa := [.glo "_law_sorted", .glo "_law_effect", .glo "_law_raises", .glo "_law_state_clicked", .glo "_law_operation", .glo "_law_settled", .glo "_law_state_right", .glo "_law_step_right", .glo "_law_line", .glo "_law_text_right", .glo "_law_right", .glo "law", .free "isinstance", .free "int", .free "bool", .free "str", .free "list", .free "tuple", .free "dict", .free "len"]
def fa3 : List He.Fa := [.free "all", .free "zip", .free "sorted", .free "enumerate", .free "range", .str "NUMBER" "number", .str "TEXT" "text", .str "CASELESS" "caseless", .str "COLUMNS" "01234567", .str "DIGITS" "0123456789", .int "MAX_COLUMNS" (8), .int "MAX_ROWS" (60), .int "MAX_CHARACTERS" (20), .int "MOST_COLUMNS" (8), .int "ASCENDING" (1), .int "DESCENDING" (-1), .int "MAX_DIGITS" (31), .glo "State", .cls "State", .mkr "State"]
def fa4 : List He.Fa := [.noat "State" "cells", .noat "State" "shown", .noat "State" "clicked", .noat "State" "recent", .noat "State" "next_row", .glo "Session", .cls "Session", .mkr "Session", .noat "Session" "kinds", .noat "Session" "states", .noat "Session" "undone", .meth "Session" "__init__", .meth "Session" "__len__", .meth "Session" "__eq__", .meth "Session" "perform", .meth "Session" "check_row", .meth "Session" "click", .meth "Session" "edit_cells", .meth "Session" "set_cell", .meth "Session" "add_row"]
def fa5 : List He.Fa := [.meth "Session" "remove_row", .meth "Session" "undo", .meth "Session" "redo", .meth "Session" "view", .meth "Session" "row_cells", .meth "Session" "last_clicked", .meth "Session" "recent_effect", .meth "Session" "is_settled", .meth "Session" "duplicate", .glo "EmptyHistoryError", .exc "EmptyHistoryError", .exm "EmptyHistoryError" "EmptyHistoryError" true, .glo "SIGN_OF"]
def fa : List He.Fa := fa0 ++ fa1 ++ fa2 ++ fa3 ++ fa4 ++ fa5
def ts : List He.Tab := [(fun K => He.ga K "SIGN_OF", ["+", "-"])]
def exS (K : PySem.W.Frag) : Bool := He.eqO (PySem.W.findIn K (.ref (He.ga K "Session")) "__ne__") (some (some (.builtin "object.__ne__"))) && (decide (PySem.W.subIn K (.ref (He.ga K "Session")) (.type "object") = some true) && (He.eqO (PySem.W.findIn K (.ref (He.ga K "Session")) "__class__") (some (some (.builtin "object.__class__"))) &&
  (He.eqO (PySem.W.specialIn K (.builtin "object.__class__") "__get__") (some (some (.builtin "getset_descriptor.__get__"))) && (decide (PySem.W.takesIn K (.builtin "object.__class__") = some true) && (decide (PySem.W.mroIn K (He.ga K "Session") (.type "object") = some true) && decide (PySem.W.kitOne K (.ref (He.ga K "Session")) (.ref (He.ga K "Session")) = some true))))))
def ex (K : PySem.W.Frag) : Bool := He.valsB K (He.ga K "SIGN_OF") [("+", .int 1), ("-", .int (-1))] && exS K
abbrev R : PySem.W.OpenRow := PySem.W.OpenLaw.row PySem.Challenge.rw_headerclicks_k89_whole_sessions_and_text
/-! the part of the heap that the facts need: what the module's names reach, a bit mask tells what was seen -/
def fresh : List Nat → Nat → List Nat
  | [], _ => []
  | a :: r, m => match Nat.testBit m a with
    | true => fresh r m
    | false => a :: fresh r (Nat.lor m (Nat.shiftLeft 1 a))
def seen : List Nat → Nat → Nat
  | [], m => m
  | a :: r, m => seen r (Nat.lor m (Nat.shiftLeft 1 a))
def reach (g : Addr → Option Obj) : Nat → List Addr → Nat → List Addr
  | 0, _, _ => []
  | n + 1, as, m => (fun new => new ++ reach g n new (seen new m)) (fresh (as.flatMap fun a => match g a with
    | some o => He.refsD o
    | none => []) m)
def asB (g : Addr → Option Obj) : List Addr := mainGlobals :: reach g 5 [mainGlobals] (Nat.shiftLeft 1 mainGlobals)
def obsB (g : Addr → Option Obj) : He.AlX := (He.obsT fa fn ts (He.frT g (asB g)), ex (He.frT g (asB g)))
abbrev hk : PySem.W.Hook where
  α := He.AlX
  obs := fun s => obsB s.heap.get?
  val := fun w => He.valX fn ts w
  says := fun w h => ∃ K : PySem.W.Frag, K.In h ∧ He.SaysX fa fn ts [] ex w h K
  of := fun w s e => ⟨He.frT s.heap.get? (asB s.heap.get?), He.frT_in, congrArg (fun z : He.AlX => z.1) e, congrArg (fun z : He.AlX => z.2) e, (fun _ m => nomatch m), (fun _ m => nomatch m), (fun _ m => nomatch m)⟩
  keeps := fun _ _ _ ⟨K, kin, c⟩ k => ⟨K, PySem.W.Frag.In.keeps kin k, ⟨c.t, c.more, (fun _ m => nomatch m), (fun _ m => nomatch m), (fun _ m => nomatch m)⟩⟩
def ob (s : PySem.W.SharedT) : He.AlX := obsB (HandSHeadRun.getT s)
theorem ob_eq (s : PySem.W.SharedT) : ob s = hk.obs s.abs := by
  show obsB (HandSHeadRun.getT s) = obsB s.abs.heap.get?
  rw [funext (HandSHeadRun.getT_eq s)]

theorem runF (w : World) : HandSHeadRun.RunEq R (PySem.W.view R.prog [85]) hk ob 6000 names (w.withFollow "special-get-raises" false) := by
  intro os
  kernel_rfl
theorem runT (w : World) : HandSHeadRun.RunEq R (PySem.W.view R.prog [85]) hk ob 6000 names (w.withFollow "special-get-raises" true) := by
  intro os
  kernel_rfl
theorem run (w : World) : HandSHeadRun.RunEq R (PySem.W.view R.prog [85]) hk ob 6000 names w := PySem.W.byRow2 "special-get-raises" runF runT w
end HC

set_option Elab.async false
set_option linter.all false
set_option maxRecDepth 100000
set_option maxHeartbeats 2000000
namespace HC
open PySem PySem.Spec PyProof.Rows L2
structure Tp (K : PySem.W.Frag) (mg : Str → Option Value) (w : World) : Prop where
  ex : ∃ h : Heap, K.In h ∧ h.Ns mainGlobals mg ∧ He.SaysX fa fn ts [] ex w h K
noncomputable def fdAt (K : PySem.W.Frag) (a : Addr) : FuncData := match K.lookup a with
  | some ⟨_, _, .func fd, _⟩ => fd
  | _ => default
theorem fdAt_of {K : PySem.W.Frag} {a : Addr} {oc : Value} {od : Option Addr} {fd : FuncData} {sl : Array (Option Value)} (h : K.lookup a = some ⟨oc, od, .func fd, sl⟩) : fdAt K a = fd := by
  unfold fdAt
  rw [h]
abbrev aState (K : PySem.W.Frag) : Addr := He.ga K "State"
abbrev aSession (K : PySem.W.Frag) : Addr := He.ga K "Session"
abbrev aEmpty (K : PySem.W.Frag) : Addr := He.ga K "EmptyHistoryError"
abbrev aSign (K : PySem.W.Frag) : Addr := He.ga K "SIGN_OF"
section
variable {K : PySem.W.Frag} {mg : Str → Option Value} {w : World}
theorem Tp.fact (T : Tp K mg w) (i : Nat) {f : He.Fa} (h : fa[i]? = some f) : f.ok K = true := by
  obtain ⟨_, _, _, s⟩ := T.ex
  exact s.t.d.fact i h
theorem Tp.fun_ (T : Tp K mg w) (i : Nat) {d : He.DefD} (h : fn[i]? = some d) : FunD K d.name d.qual d.params d.body d.scope (d.dvs K) (d.kws K) (He.fAd K d.at_) (fdAt K (He.fAd K d.at_)) := by
  obtain ⟨_, _, _, s⟩ := T.ex
  obtain ⟨fd, F⟩ := s.t.d.def_ i h
  obtain ⟨oc, od, dV, kV, doc, pm, an, cdv, ct, osl, e, lk, r⟩ := F.ex
  rw [fdAt_of lk]
  exact F
theorem Tp.glo (T : Tp K mg w) (i : Nat) {x : Str} (h : fa[i]? = some (.glo x)) : mg x = some (.ref (He.ga K x)) := by
  obtain ⟨_, X, G, _⟩ := T.ex
  exact He.glo_ok X G (T.fact i h)
theorem Tp.free (T : Tp K mg w) (i : Nat) {x : Str} (h : fa[i]? = some (.free x)) : mg x = none := by
  obtain ⟨_, X, G, _⟩ := T.ex
  exact He.free_ok X G (T.fact i h)
theorem Tp.con_str (T : Tp K mg w) (i : Nat) {x z : Str} (h : fa[i]? = some (.str x z)) : ∃ u, mg x = some u ∧ RelV (.str z) u := by
  obtain ⟨_, X, G, _⟩ := T.ex
  obtain ⟨t, e⟩ := He.str_ok X G (T.fact i h)
  exact ⟨_, e, t, rfl⟩
theorem Tp.con_int (T : Tp K mg w) (i : Nat) {x : Str} {z : Int} (h : fa[i]? = some (.int x z)) : ∃ u, mg x = some u ∧ RelV (.int z) u := by
  obtain ⟨_, X, G, _⟩ := T.ex
  obtain ⟨t, e⟩ := He.int_ok X G (T.fact i h)
  exact ⟨_, e, t, rfl⟩
abbrev a_is_integer (K : PySem.W.Frag) : Addr := He.ga K "is_integer"
abbrev s_is_integer : Stmt := (top 19)
theorem Tp.f_is_integer (T : Tp K mg w) : FunD K "is_integer" "is_integer" (defArgs s_is_integer) (defBody s_is_integer) (defScope s_is_integer) [] [] (a_is_integer K) (fdAt K (a_is_integer K)) := T.fun_ 0 rfl
theorem Tp.bn_is_integer (T : Tp K mg w) : Binds K (fdAt K (a_is_integer K)) ["value"] [] := T.f_is_integer.bindsN fun _ _ _ _ _ _ us hl => match us, hl with | [_], _ => rfl
abbrev a_is_kind (K : PySem.W.Frag) : Addr := He.ga K "is_kind"
abbrev s_is_kind : Stmt := (top 20)
theorem Tp.f_is_kind (T : Tp K mg w) : FunD K "is_kind" "is_kind" (defArgs s_is_kind) (defBody s_is_kind) (defScope s_is_kind) [] [] (a_is_kind K) (fdAt K (a_is_kind K)) := T.fun_ 1 rfl
theorem Tp.bn_is_kind (T : Tp K mg w) : Binds K (fdAt K (a_is_kind K)) ["value"] [] := T.f_is_kind.bindsN fun _ _ _ _ _ _ us hl => match us, hl with | [_], _ => rfl
abbrev a_is_cell_character (K : PySem.W.Frag) : Addr := He.ga K "is_cell_character"
abbrev s_is_cell_character : Stmt := (top 21)
theorem Tp.f_is_cell_character (T : Tp K mg w) : FunD K "is_cell_character" "is_cell_character" (defArgs s_is_cell_character) (defBody s_is_cell_character) (defScope s_is_cell_character) [] [] (a_is_cell_character K) (fdAt K (a_is_cell_character K)) := T.fun_ 2 rfl
theorem Tp.bn_is_cell_character (T : Tp K mg w) : Binds K (fdAt K (a_is_cell_character K)) ["character"] [] := T.f_is_cell_character.bindsN fun _ _ _ _ _ _ us hl => match us, hl with | [_], _ => rfl
abbrev a_is_cell (K : PySem.W.Frag) : Addr := He.ga K "is_cell"
abbrev s_is_cell : Stmt := (top 22)
theorem Tp.f_is_cell (T : Tp K mg w) : FunD K "is_cell" "is_cell" (defArgs s_is_cell) (defBody s_is_cell) (defScope s_is_cell) [] [] (a_is_cell K) (fdAt K (a_is_cell K)) := T.fun_ 3 rfl
theorem Tp.bn_is_cell (T : Tp K mg w) : Binds K (fdAt K (a_is_cell K)) ["kind", "value"] [] := T.f_is_cell.bindsN fun _ _ _ _ _ _ us hl => match us, hl with | [_, _], _ => rfl
abbrev a_is_row (K : PySem.W.Frag) : Addr := He.ga K "is_row"
abbrev s_is_row : Stmt := (top 23)
theorem Tp.f_is_row (T : Tp K mg w) : FunD K "is_row" "is_row" (defArgs s_is_row) (defBody s_is_row) (defScope s_is_row) [] [] (a_is_row K) (fdAt K (a_is_row K)) := T.fun_ 4 rfl
theorem Tp.bn_is_row (T : Tp K mg w) : Binds K (fdAt K (a_is_row K)) ["kinds", "value"] [] := T.f_is_row.bindsN fun _ _ _ _ _ _ us hl => match us, hl with | [_, _], _ => rfl
abbrev a_is_table (K : PySem.W.Frag) : Addr := He.ga K "is_table"
abbrev s_is_table : Stmt := (top 24)
theorem Tp.f_is_table (T : Tp K mg w) : FunD K "is_table" "is_table" (defArgs s_is_table) (defBody s_is_table) (defScope s_is_table) [] [] (a_is_table K) (fdAt K (a_is_table K)) := T.fun_ 5 rfl
theorem Tp.bn_is_table (T : Tp K mg w) : Binds K (fdAt K (a_is_table K)) ["value"] [] := T.f_is_table.bindsN fun _ _ _ _ _ _ us hl => match us, hl with | [_], _ => rfl
abbrev a_check_table (K : PySem.W.Frag) : Addr := He.ga K "check_table"
abbrev s_check_table : Stmt := (top 25)
theorem Tp.f_check_table (T : Tp K mg w) : FunD K "check_table" "check_table" (defArgs s_check_table) (defBody s_check_table) (defScope s_check_table) [] [] (a_check_table K) (fdAt K (a_check_table K)) := T.fun_ 6 rfl
theorem Tp.bn_check_table (T : Tp K mg w) : Binds K (fdAt K (a_check_table K)) ["table"] [] := T.f_check_table.bindsN fun _ _ _ _ _ _ us hl => match us, hl with | [_], _ => rfl
abbrev a_is_column (K : PySem.W.Frag) : Addr := He.ga K "is_column"
abbrev s_is_column : Stmt := (top 26)
theorem Tp.f_is_column (T : Tp K mg w) : FunD K "is_column" "is_column" (defArgs s_is_column) (defBody s_is_column) (defScope s_is_column) [] [] (a_is_column K) (fdAt K (a_is_column K)) := T.fun_ 7 rfl
theorem Tp.bn_is_column (T : Tp K mg w) : Binds K (fdAt K (a_is_column K)) ["columns", "value"] [] := T.f_is_column.bindsN fun _ _ _ _ _ _ us hl => match us, hl with | [_, _], _ => rfl
abbrev a_check_column (K : PySem.W.Frag) : Addr := He.ga K "check_column"
abbrev s_check_column : Stmt := (top 27)
theorem Tp.f_check_column (T : Tp K mg w) : FunD K "check_column" "check_column" (defArgs s_check_column) (defBody s_check_column) (defScope s_check_column) [] [] (a_check_column K) (fdAt K (a_check_column K)) := T.fun_ 8 rfl
theorem Tp.bn_check_column (T : Tp K mg w) : Binds K (fdAt K (a_check_column K)) ["columns", "column"] [] := T.f_check_column.bindsN fun _ _ _ _ _ _ us hl => match us, hl with | [_, _], _ => rfl
abbrev a_sort_key (K : PySem.W.Frag) : Addr := He.ga K "sort_key"
abbrev s_sort_key : Stmt := (top 28)
theorem Tp.f_sort_key (T : Tp K mg w) : FunD K "sort_key" "sort_key" (defArgs s_sort_key) (defBody s_sort_key) (defScope s_sort_key) [] [] (a_sort_key K) (fdAt K (a_sort_key K)) := T.fun_ 9 rfl
theorem Tp.bn_sort_key (T : Tp K mg w) : Binds K (fdAt K (a_sort_key K)) ["kind", "cell"] [] := T.f_sort_key.bindsN fun _ _ _ _ _ _ us hl => match us, hl with | [_, _], _ => rfl
abbrev a_column_keys (K : PySem.W.Frag) : Addr := He.ga K "column_keys"
abbrev s_column_keys : Stmt := (top 29)
theorem Tp.f_column_keys (T : Tp K mg w) : FunD K "column_keys" "column_keys" (defArgs s_column_keys) (defBody s_column_keys) (defScope s_column_keys) [] [] (a_column_keys K) (fdAt K (a_column_keys K)) := T.fun_ 10 rfl
theorem Tp.bn_column_keys (T : Tp K mg w) : Binds K (fdAt K (a_column_keys K)) ["table", "column"] [] := T.f_column_keys.bindsN fun _ _ _ _ _ _ us hl => match us, hl with | [_, _], _ => rfl
abbrev a_ranks_in (K : PySem.W.Frag) : Addr := He.ga K "ranks_in"
abbrev s_ranks_in : Stmt := (top 30)
theorem Tp.f_ranks_in (T : Tp K mg w) : FunD K "ranks_in" "ranks_in" (defArgs s_ranks_in) (defBody s_ranks_in) (defScope s_ranks_in) [] [] (a_ranks_in K) (fdAt K (a_ranks_in K)) := T.fun_ 11 rfl
theorem Tp.bn_ranks_in (T : Tp K mg w) : Binds K (fdAt K (a_ranks_in K)) ["keys"] [] := T.f_ranks_in.bindsN fun _ _ _ _ _ _ us hl => match us, hl with | [_], _ => rfl
abbrev a_ranks_of (K : PySem.W.Frag) : Addr := He.ga K "ranks_of"
abbrev s_ranks_of : Stmt := (top 31)
theorem Tp.f_ranks_of (T : Tp K mg w) : FunD K "ranks_of" "ranks_of" (defArgs s_ranks_of) (defBody s_ranks_of) (defScope s_ranks_of) [] [] (a_ranks_of K) (fdAt K (a_ranks_of K)) := T.fun_ 12 rfl
theorem Tp.bn_ranks_of (T : Tp K mg w) : Binds K (fdAt K (a_ranks_of K)) ["table"] [] := T.f_ranks_of.bindsN fun _ _ _ _ _ _ us hl => match us, hl with | [_], _ => rfl
abbrev a_check_clicks (K : PySem.W.Frag) : Addr := He.ga K "check_clicks"
abbrev s_check_clicks : Stmt := (top 33)
theorem Tp.f_check_clicks (T : Tp K mg w) : FunD K "check_clicks" "check_clicks" (defArgs s_check_clicks) (defBody s_check_clicks) (defScope s_check_clicks) [] [] (a_check_clicks K) (fdAt K (a_check_clicks K)) := T.fun_ 13 rfl
theorem Tp.bn_check_clicks (T : Tp K mg w) : Binds K (fdAt K (a_check_clicks K)) ["columns", "clicks"] [] := T.f_check_clicks.bindsN fun _ _ _ _ _ _ us hl => match us, hl with | [_, _], _ => rfl
abbrev a_sort_rows (K : PySem.W.Frag) : Addr := He.ga K "sort_rows"
abbrev s_sort_rows : Stmt := (top 34)
theorem Tp.f_sort_rows (T : Tp K mg w) : FunD K "sort_rows" "sort_rows" (defArgs s_sort_rows) (defBody s_sort_rows) (defScope s_sort_rows) [] [] (a_sort_rows K) (fdAt K (a_sort_rows K)) := T.fun_ 14 rfl
theorem Tp.bn_sort_rows (T : Tp K mg w) : Binds K (fdAt K (a_sort_rows K)) ["ranks", "shown"] [] := T.f_sort_rows.bindsN fun _ _ _ _ _ _ us hl => match us, hl with | [_, _], _ => rfl
abbrev a_click_rows (K : PySem.W.Frag) : Addr := He.ga K "click_rows"
abbrev s_click_rows : Stmt := (top 35)
theorem Tp.f_click_rows (T : Tp K mg w) : FunD K "click_rows" "click_rows" (defArgs s_click_rows) (defBody s_click_rows) (defScope s_click_rows) [] [] (a_click_rows K) (fdAt K (a_click_rows K)) := T.fun_ 15 rfl
theorem Tp.bn_click_rows (T : Tp K mg w) : Binds K (fdAt K (a_click_rows K)) ["ranks", "shown", "column", "last"] [] := T.f_click_rows.bindsN fun _ _ _ _ _ _ us hl => match us, hl with | [_, _, _, _], _ => rfl
abbrev a_all_views (K : PySem.W.Frag) : Addr := He.ga K "all_views"
abbrev s_all_views : Stmt := (top 36)
theorem Tp.f_all_views (T : Tp K mg w) : FunD K "all_views" "all_views" (defArgs s_all_views) (defBody s_all_views) (defScope s_all_views) [] [] (a_all_views K) (fdAt K (a_all_views K)) := T.fun_ 16 rfl
theorem Tp.bn_all_views (T : Tp K mg w) : Binds K (fdAt K (a_all_views K)) ["ranks", "shown", "clicks"] [] := T.f_all_views.bindsN fun _ _ _ _ _ _ us hl => match us, hl with | [_, _, _], _ => rfl
abbrev a_ranks_of_rows (K : PySem.W.Frag) : Addr := He.ga K "ranks_of_rows"
abbrev s_ranks_of_rows : Stmt := (top 38)
theorem Tp.f_ranks_of_rows (T : Tp K mg w) : FunD K "ranks_of_rows" "ranks_of_rows" (defArgs s_ranks_of_rows) (defBody s_ranks_of_rows) (defScope s_ranks_of_rows) [] [] (a_ranks_of_rows K) (fdAt K (a_ranks_of_rows K)) := T.fun_ 17 rfl
theorem Tp.bn_ranks_of_rows (T : Tp K mg w) : Binds K (fdAt K (a_ranks_of_rows K)) ["kinds", "cells", "rows"] [] := T.f_ranks_of_rows.bindsN fun _ _ _ _ _ _ us hl => match us, hl with | [_, _, _], _ => rfl
abbrev a_effect_after (K : PySem.W.Frag) : Addr := He.ga K "effect_after"
abbrev s_effect_after : Stmt := (top 39)
theorem Tp.f_effect_after (T : Tp K mg w) : FunD K "effect_after" "effect_after" (defArgs s_effect_after) (defBody s_effect_after) (defScope s_effect_after) [] [] (a_effect_after K) (fdAt K (a_effect_after K)) := T.fun_ 18 rfl
theorem Tp.bn_effect_after (T : Tp K mg w) : Binds K (fdAt K (a_effect_after K)) ["effect", "column", "reverses"] [] := T.f_effect_after.bindsN fun _ _ _ _ _ _ us hl => match us, hl with | [_, _, _], _ => rfl
abbrev a_State_init (K : PySem.W.Frag) : Addr := He.ma K (He.ga K "State") "__init__"
abbrev s_State_init : Stmt := (inClass (top 40) 0)
theorem Tp.f_State_init (T : Tp K mg w) : FunD K "__init__" "State.__init__" (defArgs s_State_init) (defBody s_State_init) (defScope s_State_init) [] [] (a_State_init K) (fdAt K (a_State_init K)) := T.fun_ 19 rfl
theorem Tp.bn_State_init (T : Tp K mg w) : Binds K (fdAt K (a_State_init K)) ["self", "cells", "shown", "clicked", "recent", "next_row"] [] := T.f_State_init.bindsN fun _ _ _ _ _ _ us hl => match us, hl with | [_, _, _, _, _, _], _ => rfl
abbrev a_Session_init (K : PySem.W.Frag) : Addr := He.ma K (He.ga K "Session") "__init__"
abbrev s_Session_init : Stmt := (inClass (top 41) 0)
theorem Tp.f_Session_init (T : Tp K mg w) : FunD K "__init__" "Session.__init__" (defArgs s_Session_init) (defBody s_Session_init) (defScope s_Session_init) [] [] (a_Session_init K) (fdAt K (a_Session_init K)) := T.fun_ 20 rfl
theorem Tp.bn_Session_init (T : Tp K mg w) : Binds K (fdAt K (a_Session_init K)) ["self", "table"] [] := T.f_Session_init.bindsN fun _ _ _ _ _ _ us hl => match us, hl with | [_, _], _ => rfl
abbrev a_Session_len (K : PySem.W.Frag) : Addr := He.ma K (He.ga K "Session") "__len__"
abbrev s_Session_len : Stmt := (inClass (top 41) 1)
theorem Tp.f_Session_len (T : Tp K mg w) : FunD K "__len__" "Session.__len__" (defArgs s_Session_len) (defBody s_Session_len) (defScope s_Session_len) [] [] (a_Session_len K) (fdAt K (a_Session_len K)) := T.fun_ 21 rfl
theorem Tp.bn_Session_len (T : Tp K mg w) : Binds K (fdAt K (a_Session_len K)) ["self"] [] := T.f_Session_len.bindsN fun _ _ _ _ _ _ us hl => match us, hl with | [_], _ => rfl
abbrev a_Session_eq (K : PySem.W.Frag) : Addr := He.ma K (He.ga K "Session") "__eq__"
abbrev s_Session_eq : Stmt := (inClass (top 41) 2)
theorem Tp.f_Session_eq (T : Tp K mg w) : FunD K "__eq__" "Session.__eq__" (defArgs s_Session_eq) (defBody s_Session_eq) (defScope s_Session_eq) [] [] (a_Session_eq K) (fdAt K (a_Session_eq K)) := T.fun_ 22 rfl
theorem Tp.bn_Session_eq (T : Tp K mg w) : Binds K (fdAt K (a_Session_eq K)) ["self", "other"] [] := T.f_Session_eq.bindsN fun _ _ _ _ _ _ us hl => match us, hl with | [_, _], _ => rfl
abbrev a_Session_perform (K : PySem.W.Frag) : Addr := He.ma K (He.ga K "Session") "perform"
abbrev s_Session_perform : Stmt := (inClass (top 41) 3)
theorem Tp.f_Session_perform (T : Tp K mg w) : FunD K "perform" "Session.perform" (defArgs s_Session_perform) (defBody s_Session_perform) (defScope s_Session_perform) [] [] (a_Session_perform K) (fdAt K (a_Session_perform K)) := T.fun_ 23 rfl
theorem Tp.bn_Session_perform (T : Tp K mg w) : Binds K (fdAt K (a_Session_perform K)) ["self", "state"] [] := T.f_Session_perform.bindsN fun _ _ _ _ _ _ us hl => match us, hl with | [_, _], _ => rfl
abbrev a_Session_check_row (K : PySem.W.Frag) : Addr := He.ma K (He.ga K "Session") "check_row"
abbrev s_Session_check_row : Stmt := (inClass (top 41) 4)
theorem Tp.f_Session_check_row (T : Tp K mg w) : FunD K "check_row" "Session.check_row" (defArgs s_Session_check_row) (defBody s_Session_check_row) (defScope s_Session_check_row) [] [] (a_Session_check_row K) (fdAt K (a_Session_check_row K)) := T.fun_ 24 rfl
theorem Tp.bn_Session_check_row (T : Tp K mg w) : Binds K (fdAt K (a_Session_check_row K)) ["self", "row"] [] := T.f_Session_check_row.bindsN fun _ _ _ _ _ _ us hl => match us, hl with | [_, _], _ => rfl
abbrev a_Session_click (K : PySem.W.Frag) : Addr := He.ma K (He.ga K "Session") "click"
abbrev s_Session_click : Stmt := (inClass (top 41) 5)
theorem Tp.f_Session_click (T : Tp K mg w) : FunD K "click" "Session.click" (defArgs s_Session_click) (defBody s_Session_click) (defScope s_Session_click) [] [] (a_Session_click K) (fdAt K (a_Session_click K)) := T.fun_ 25 rfl
theorem Tp.bn_Session_click (T : Tp K mg w) : Binds K (fdAt K (a_Session_click K)) ["self", "column"] [] := T.f_Session_click.bindsN fun _ _ _ _ _ _ us hl => match us, hl with | [_, _], _ => rfl
abbrev a_Session_edit_cells (K : PySem.W.Frag) : Addr := He.ma K (He.ga K "Session") "edit_cells"
abbrev s_Session_edit_cells : Stmt := (inClass (top 41) 6)
theorem Tp.f_Session_edit_cells (T : Tp K mg w) : FunD K "edit_cells" "Session.edit_cells" (defArgs s_Session_edit_cells) (defBody s_Session_edit_cells) (defScope s_Session_edit_cells) [] [] (a_Session_edit_cells K) (fdAt K (a_Session_edit_cells K)) := T.fun_ 26 rfl
theorem Tp.bn_Session_edit_cells (T : Tp K mg w) : Binds K (fdAt K (a_Session_edit_cells K)) ["self", "cells", "shown", "next_row"] [] := T.f_Session_edit_cells.bindsN fun _ _ _ _ _ _ us hl => match us, hl with | [_, _, _, _], _ => rfl
abbrev a_Session_set_cell (K : PySem.W.Frag) : Addr := He.ma K (He.ga K "Session") "set_cell"
abbrev s_Session_set_cell : Stmt := (inClass (top 41) 7)
theorem Tp.f_Session_set_cell (T : Tp K mg w) : FunD K "set_cell" "Session.set_cell" (defArgs s_Session_set_cell) (defBody s_Session_set_cell) (defScope s_Session_set_cell) [] [] (a_Session_set_cell K) (fdAt K (a_Session_set_cell K)) := T.fun_ 27 rfl
theorem Tp.bn_Session_set_cell (T : Tp K mg w) : Binds K (fdAt K (a_Session_set_cell K)) ["self", "row", "column", "value"] [] := T.f_Session_set_cell.bindsN fun _ _ _ _ _ _ us hl => match us, hl with | [_, _, _, _], _ => rfl
abbrev a_Session_add_row (K : PySem.W.Frag) : Addr := He.ma K (He.ga K "Session") "add_row"
abbrev s_Session_add_row : Stmt := (inClass (top 41) 8)
theorem Tp.f_Session_add_row (T : Tp K mg w) : FunD K "add_row" "Session.add_row" (defArgs s_Session_add_row) (defBody s_Session_add_row) (defScope s_Session_add_row) [] [] (a_Session_add_row K) (fdAt K (a_Session_add_row K)) := T.fun_ 28 rfl
theorem Tp.bn_Session_add_row (T : Tp K mg w) : Binds K (fdAt K (a_Session_add_row K)) ["self", "cells"] [] := T.f_Session_add_row.bindsN fun _ _ _ _ _ _ us hl => match us, hl with | [_, _], _ => rfl
abbrev a_Session_remove_row (K : PySem.W.Frag) : Addr := He.ma K (He.ga K "Session") "remove_row"
abbrev s_Session_remove_row : Stmt := (inClass (top 41) 9)
theorem Tp.f_Session_remove_row (T : Tp K mg w) : FunD K "remove_row" "Session.remove_row" (defArgs s_Session_remove_row) (defBody s_Session_remove_row) (defScope s_Session_remove_row) [] [] (a_Session_remove_row K) (fdAt K (a_Session_remove_row K)) := T.fun_ 29 rfl
theorem Tp.bn_Session_remove_row (T : Tp K mg w) : Binds K (fdAt K (a_Session_remove_row K)) ["self", "row"] [] := T.f_Session_remove_row.bindsN fun _ _ _ _ _ _ us hl => match us, hl with | [_, _], _ => rfl
abbrev a_Session_undo (K : PySem.W.Frag) : Addr := He.ma K (He.ga K "Session") "undo"
abbrev s_Session_undo : Stmt := (inClass (top 41) 10)
theorem Tp.f_Session_undo (T : Tp K mg w) : FunD K "undo" "Session.undo" (defArgs s_Session_undo) (defBody s_Session_undo) (defScope s_Session_undo) [] [] (a_Session_undo K) (fdAt K (a_Session_undo K)) := T.fun_ 30 rfl
theorem Tp.bn_Session_undo (T : Tp K mg w) : Binds K (fdAt K (a_Session_undo K)) ["self"] [] := T.f_Session_undo.bindsN fun _ _ _ _ _ _ us hl => match us, hl with | [_], _ => rfl
abbrev a_Session_redo (K : PySem.W.Frag) : Addr := He.ma K (He.ga K "Session") "redo"
abbrev s_Session_redo : Stmt := (inClass (top 41) 11)
theorem Tp.f_Session_redo (T : Tp K mg w) : FunD K "redo" "Session.redo" (defArgs s_Session_redo) (defBody s_Session_redo) (defScope s_Session_redo) [] [] (a_Session_redo K) (fdAt K (a_Session_redo K)) := T.fun_ 31 rfl
theorem Tp.bn_Session_redo (T : Tp K mg w) : Binds K (fdAt K (a_Session_redo K)) ["self"] [] := T.f_Session_redo.bindsN fun _ _ _ _ _ _ us hl => match us, hl with | [_], _ => rfl
abbrev a_Session_view (K : PySem.W.Frag) : Addr := He.ma K (He.ga K "Session") "view"
abbrev s_Session_view : Stmt := (inClass (top 41) 12)
theorem Tp.f_Session_view (T : Tp K mg w) : FunD K "view" "Session.view" (defArgs s_Session_view) (defBody s_Session_view) (defScope s_Session_view) [] [] (a_Session_view K) (fdAt K (a_Session_view K)) := T.fun_ 32 rfl
theorem Tp.bn_Session_view (T : Tp K mg w) : Binds K (fdAt K (a_Session_view K)) ["self"] [] := T.f_Session_view.bindsN fun _ _ _ _ _ _ us hl => match us, hl with | [_], _ => rfl
abbrev a_Session_row_cells (K : PySem.W.Frag) : Addr := He.ma K (He.ga K "Session") "row_cells"
abbrev s_Session_row_cells : Stmt := (inClass (top 41) 13)
theorem Tp.f_Session_row_cells (T : Tp K mg w) : FunD K "row_cells" "Session.row_cells" (defArgs s_Session_row_cells) (defBody s_Session_row_cells) (defScope s_Session_row_cells) [] [] (a_Session_row_cells K) (fdAt K (a_Session_row_cells K)) := T.fun_ 33 rfl
theorem Tp.bn_Session_row_cells (T : Tp K mg w) : Binds K (fdAt K (a_Session_row_cells K)) ["self", "row"] [] := T.f_Session_row_cells.bindsN fun _ _ _ _ _ _ us hl => match us, hl with | [_, _], _ => rfl
abbrev a_Session_last_clicked (K : PySem.W.Frag) : Addr := He.ma K (He.ga K "Session") "last_clicked"
abbrev s_Session_last_clicked : Stmt := (inClass (top 41) 14)
theorem Tp.f_Session_last_clicked (T : Tp K mg w) : FunD K "last_clicked" "Session.last_clicked" (defArgs s_Session_last_clicked) (defBody s_Session_last_clicked) (defScope s_Session_last_clicked) [] [] (a_Session_last_clicked K) (fdAt K (a_Session_last_clicked K)) := T.fun_ 34 rfl
theorem Tp.bn_Session_last_clicked (T : Tp K mg w) : Binds K (fdAt K (a_Session_last_clicked K)) ["self"] [] := T.f_Session_last_clicked.bindsN fun _ _ _ _ _ _ us hl => match us, hl with | [_], _ => rfl
abbrev a_Session_recent_effect (K : PySem.W.Frag) : Addr := He.ma K (He.ga K "Session") "recent_effect"
abbrev s_Session_recent_effect : Stmt := (inClass (top 41) 15)
theorem Tp.f_Session_recent_effect (T : Tp K mg w) : FunD K "recent_effect" "Session.recent_effect" (defArgs s_Session_recent_effect) (defBody s_Session_recent_effect) (defScope s_Session_recent_effect) [] [] (a_Session_recent_effect K) (fdAt K (a_Session_recent_effect K)) := T.fun_ 35 rfl
theorem Tp.bn_Session_recent_effect (T : Tp K mg w) : Binds K (fdAt K (a_Session_recent_effect K)) ["self"] [] := T.f_Session_recent_effect.bindsN fun _ _ _ _ _ _ us hl => match us, hl with | [_], _ => rfl
abbrev a_Session_is_settled (K : PySem.W.Frag) : Addr := He.ma K (He.ga K "Session") "is_settled"
abbrev s_Session_is_settled : Stmt := (inClass (top 41) 16)
theorem Tp.f_Session_is_settled (T : Tp K mg w) : FunD K "is_settled" "Session.is_settled" (defArgs s_Session_is_settled) (defBody s_Session_is_settled) (defScope s_Session_is_settled) [] [] (a_Session_is_settled K) (fdAt K (a_Session_is_settled K)) := T.fun_ 36 rfl
theorem Tp.bn_Session_is_settled (T : Tp K mg w) : Binds K (fdAt K (a_Session_is_settled K)) ["self"] [] := T.f_Session_is_settled.bindsN fun _ _ _ _ _ _ us hl => match us, hl with | [_], _ => rfl
abbrev a_Session_duplicate (K : PySem.W.Frag) : Addr := He.ma K (He.ga K "Session") "duplicate"
abbrev s_Session_duplicate : Stmt := (inClass (top 41) 17)
theorem Tp.f_Session_duplicate (T : Tp K mg w) : FunD K "duplicate" "Session.duplicate" (defArgs s_Session_duplicate) (defBody s_Session_duplicate) (defScope s_Session_duplicate) [] [] (a_Session_duplicate K) (fdAt K (a_Session_duplicate K)) := T.fun_ 37 rfl
theorem Tp.bn_Session_duplicate (T : Tp K mg w) : Binds K (fdAt K (a_Session_duplicate K)) ["self"] [] := T.f_Session_duplicate.bindsN fun _ _ _ _ _ _ us hl => match us, hl with | [_], _ => rfl
abbrev a_check_columns (K : PySem.W.Frag) : Addr := He.ga K "check_columns"
abbrev s_check_columns : Stmt := (top 46)
theorem Tp.f_check_columns (T : Tp K mg w) : FunD K "check_columns" "check_columns" (defArgs s_check_columns) (defBody s_check_columns) (defScope s_check_columns) [] [] (a_check_columns K) (fdAt K (a_check_columns K)) := T.fun_ 38 rfl
theorem Tp.bn_check_columns (T : Tp K mg w) : Binds K (fdAt K (a_check_columns K)) ["columns"] [] := T.f_check_columns.bindsN fun _ _ _ _ _ _ us hl => match us, hl with | [_], _ => rfl
abbrev a_is_sign (K : PySem.W.Frag) : Addr := He.ga K "is_sign"
abbrev s_is_sign : Stmt := (top 47)
theorem Tp.f_is_sign (T : Tp K mg w) : FunD K "is_sign" "is_sign" (defArgs s_is_sign) (defBody s_is_sign) (defScope s_is_sign) [] [] (a_is_sign K) (fdAt K (a_is_sign K)) := T.fun_ 39 rfl
theorem Tp.bn_is_sign (T : Tp K mg w) : Binds K (fdAt K (a_is_sign K)) ["value"] [] := T.f_is_sign.bindsN fun _ _ _ _ _ _ us hl => match us, hl with | [_], _ => rfl
abbrev a_is_key (K : PySem.W.Frag) : Addr := He.ga K "is_key"
abbrev s_is_key : Stmt := (top 48)
theorem Tp.f_is_key (T : Tp K mg w) : FunD K "is_key" "is_key" (defArgs s_is_key) (defBody s_is_key) (defScope s_is_key) [] [] (a_is_key K) (fdAt K (a_is_key K)) := T.fun_ 40 rfl
theorem Tp.bn_is_key (T : Tp K mg w) : Binds K (fdAt K (a_is_key K)) ["columns", "value"] [] := T.f_is_key.bindsN fun _ _ _ _ _ _ us hl => match us, hl with | [_, _], _ => rfl
abbrev a_is_effect (K : PySem.W.Frag) : Addr := He.ga K "is_effect"
abbrev s_is_effect : Stmt := (top 49)
theorem Tp.f_is_effect (T : Tp K mg w) : FunD K "is_effect" "is_effect" (defArgs s_is_effect) (defBody s_is_effect) (defScope s_is_effect) [] [] (a_is_effect K) (fdAt K (a_is_effect K)) := T.fun_ 41 rfl
theorem Tp.bn_is_effect (T : Tp K mg w) : Binds K (fdAt K (a_is_effect K)) ["columns", "value"] [] := T.f_is_effect.bindsN fun _ _ _ _ _ _ us hl => match us, hl with | [_, _], _ => rfl
abbrev a_sign_text (K : PySem.W.Frag) : Addr := He.ga K "sign_text"
abbrev s_sign_text : Stmt := (top 55)
theorem Tp.f_sign_text (T : Tp K mg w) : FunD K "sign_text" "sign_text" (defArgs s_sign_text) (defBody s_sign_text) (defScope s_sign_text) [] [] (a_sign_text K) (fdAt K (a_sign_text K)) := T.fun_ 42 rfl
theorem Tp.bn_sign_text (T : Tp K mg w) : Binds K (fdAt K (a_sign_text K)) ["sign"] [] := T.f_sign_text.bindsN fun _ _ _ _ _ _ us hl => match us, hl with | [_], _ => rfl
abbrev a_format_effect (K : PySem.W.Frag) : Addr := He.ga K "format_effect"
abbrev s_format_effect : Stmt := (top 56)
theorem Tp.f_format_effect (T : Tp K mg w) : FunD K "format_effect" "format_effect" (defArgs s_format_effect) (defBody s_format_effect) (defScope s_format_effect) [] [] (a_format_effect K) (fdAt K (a_format_effect K)) := T.fun_ 43 rfl
theorem Tp.bn_format_effect (T : Tp K mg w) : Binds K (fdAt K (a_format_effect K)) ["effect"] [] := T.f_format_effect.bindsN fun _ _ _ _ _ _ us hl => match us, hl with | [_], _ => rfl
abbrev a_check_text (K : PySem.W.Frag) : Addr := He.ga K "check_text"
abbrev s_check_text : Stmt := (top 57)
theorem Tp.f_check_text (T : Tp K mg w) : FunD K "check_text" "check_text" (defArgs s_check_text) (defBody s_check_text) (defScope s_check_text) [] [] (a_check_text K) (fdAt K (a_check_text K)) := T.fun_ 44 rfl
theorem Tp.bn_check_text (T : Tp K mg w) : Binds K (fdAt K (a_check_text K)) ["text"] [] := T.f_check_text.bindsN fun _ _ _ _ _ _ us hl => match us, hl with | [_], _ => rfl
abbrev a_parse_effect (K : PySem.W.Frag) : Addr := He.ga K "parse_effect"
abbrev s_parse_effect : Stmt := (top 58)
theorem Tp.f_parse_effect (T : Tp K mg w) : FunD K "parse_effect" "parse_effect" (defArgs s_parse_effect) (defBody s_parse_effect) (defScope s_parse_effect) [] [] (a_parse_effect K) (fdAt K (a_parse_effect K)) := T.fun_ 45 rfl
theorem Tp.bn_parse_effect (T : Tp K mg w) : Binds K (fdAt K (a_parse_effect K)) ["text"] [] := T.f_parse_effect.bindsN fun _ _ _ _ _ _ us hl => match us, hl with | [_], _ => rfl
abbrev a_format_clicks (K : PySem.W.Frag) : Addr := He.ga K "format_clicks"
abbrev s_format_clicks : Stmt := (top 59)
theorem Tp.f_format_clicks (T : Tp K mg w) : FunD K "format_clicks" "format_clicks" (defArgs s_format_clicks) (defBody s_format_clicks) (defScope s_format_clicks) [] [] (a_format_clicks K) (fdAt K (a_format_clicks K)) := T.fun_ 46 rfl
theorem Tp.bn_format_clicks (T : Tp K mg w) : Binds K (fdAt K (a_format_clicks K)) ["clicks"] [] := T.f_format_clicks.bindsN fun _ _ _ _ _ _ us hl => match us, hl with | [_], _ => rfl
abbrev a_parse_clicks (K : PySem.W.Frag) : Addr := He.ga K "parse_clicks"
abbrev s_parse_clicks : Stmt := (top 60)
theorem Tp.f_parse_clicks (T : Tp K mg w) : FunD K "parse_clicks" "parse_clicks" (defArgs s_parse_clicks) (defBody s_parse_clicks) (defScope s_parse_clicks) [] [] (a_parse_clicks K) (fdAt K (a_parse_clicks K)) := T.fun_ 47 rfl
theorem Tp.bn_parse_clicks (T : Tp K mg w) : Binds K (fdAt K (a_parse_clicks K)) ["text"] [] := T.f_parse_clicks.bindsN fun _ _ _ _ _ _ us hl => match us, hl with | [_], _ => rfl
abbrev a_cell_text (K : PySem.W.Frag) : Addr := He.ga K "cell_text"
abbrev s_cell_text : Stmt := (top 61)
theorem Tp.f_cell_text (T : Tp K mg w) : FunD K "cell_text" "cell_text" (defArgs s_cell_text) (defBody s_cell_text) (defScope s_cell_text) [] [] (a_cell_text K) (fdAt K (a_cell_text K)) := T.fun_ 48 rfl
theorem Tp.bn_cell_text (T : Tp K mg w) : Binds K (fdAt K (a_cell_text K)) ["cell"] [] := T.f_cell_text.bindsN fun _ _ _ _ _ _ us hl => match us, hl with | [_], _ => rfl
abbrev a_format_table (K : PySem.W.Frag) : Addr := He.ga K "format_table"
abbrev s_format_table : Stmt := (top 62)
theorem Tp.f_format_table (T : Tp K mg w) : FunD K "format_table" "format_table" (defArgs s_format_table) (defBody s_format_table) (defScope s_format_table) [] [] (a_format_table K) (fdAt K (a_format_table K)) := T.fun_ 49 rfl
theorem Tp.bn_format_table (T : Tp K mg w) : Binds K (fdAt K (a_format_table K)) ["table"] [] := T.f_format_table.bindsN fun _ _ _ _ _ _ us hl => match us, hl with | [_], _ => rfl
abbrev a_is_integer_text (K : PySem.W.Frag) : Addr := He.ga K "is_integer_text"
abbrev s_is_integer_text : Stmt := (top 63)
theorem Tp.f_is_integer_text (T : Tp K mg w) : FunD K "is_integer_text" "is_integer_text" (defArgs s_is_integer_text) (defBody s_is_integer_text) (defScope s_is_integer_text) [] [] (a_is_integer_text K) (fdAt K (a_is_integer_text K)) := T.fun_ 50 rfl
theorem Tp.bn_is_integer_text (T : Tp K mg w) : Binds K (fdAt K (a_is_integer_text K)) ["word"] [] := T.f_is_integer_text.bindsN fun _ _ _ _ _ _ us hl => match us, hl with | [_], _ => rfl
abbrev a_parse_cell (K : PySem.W.Frag) : Addr := He.ga K "parse_cell"
abbrev s_parse_cell : Stmt := (top 64)
theorem Tp.f_parse_cell (T : Tp K mg w) : FunD K "parse_cell" "parse_cell" (defArgs s_parse_cell) (defBody s_parse_cell) (defScope s_parse_cell) [] [] (a_parse_cell K) (fdAt K (a_parse_cell K)) := T.fun_ 51 rfl
theorem Tp.bn_parse_cell (T : Tp K mg w) : Binds K (fdAt K (a_parse_cell K)) ["kind", "word"] [] := T.f_parse_cell.bindsN fun _ _ _ _ _ _ us hl => match us, hl with | [_, _], _ => rfl
abbrev a_parse_table (K : PySem.W.Frag) : Addr := He.ga K "parse_table"
abbrev s_parse_table : Stmt := (top 65)
theorem Tp.f_parse_table (T : Tp K mg w) : FunD K "parse_table" "parse_table" (defArgs s_parse_table) (defBody s_parse_table) (defScope s_parse_table) [] [] (a_parse_table K) (fdAt K (a_parse_table K)) := T.fun_ 52 rfl
theorem Tp.bn_parse_table (T : Tp K mg w) : Binds K (fdAt K (a_parse_table K)) ["text"] [] := T.f_parse_table.bindsN fun _ _ _ _ _ _ us hl => match us, hl with | [_], _ => rfl
abbrev a_law_bag (K : PySem.W.Frag) : Addr := He.ga K "_law_bag"
abbrev s_law_bag : Stmt := (top 67)
theorem Tp.f_law_bag (T : Tp K mg w) : FunD K "_law_bag" "_law_bag" (defArgs s_law_bag) (defBody s_law_bag) (defScope s_law_bag) [] [] (a_law_bag K) (fdAt K (a_law_bag K)) := T.fun_ 53 rfl
theorem Tp.bn_law_bag (T : Tp K mg w) : Binds K (fdAt K (a_law_bag K)) ["_law_cell_here", "_law_k"] [] := T.f_law_bag.bindsN fun _ _ _ _ _ _ us hl => match us, hl with | [_, _], _ => rfl
abbrev a_law_draw (K : PySem.W.Frag) : Addr := He.ga K "_law_draw"
abbrev s_law_draw : Stmt := (top 68)
theorem Tp.f_law_draw (T : Tp K mg w) : FunD K "_law_draw" "_law_draw" (defArgs s_law_draw) (defBody s_law_draw) (defScope s_law_draw) [] [] (a_law_draw K) (fdAt K (a_law_draw K)) := T.fun_ 54 rfl
theorem Tp.bn_law_draw (T : Tp K mg w) : Binds K (fdAt K (a_law_draw K)) ["_law_bag_here", "_law_many"] [] := T.f_law_draw.bindsN fun _ _ _ _ _ _ us hl => match us, hl with | [_, _], _ => rfl
abbrev a_law_cell (K : PySem.W.Frag) : Addr := He.ga K "_law_cell"
abbrev s_law_cell : Stmt := (top 69)
theorem Tp.f_law_cell (T : Tp K mg w) : FunD K "_law_cell" "_law_cell" (defArgs s_law_cell) (defBody s_law_cell) (defScope s_law_cell) [] [] (a_law_cell K) (fdAt K (a_law_cell K)) := T.fun_ 55 rfl
theorem Tp.bn_law_cell (T : Tp K mg w) : Binds K (fdAt K (a_law_cell K)) ["_law_bag_here", "_law_kind"] [] := T.f_law_cell.bindsN fun _ _ _ _ _ _ us hl => match us, hl with | [_, _], _ => rfl
abbrev a_law_table (K : PySem.W.Frag) : Addr := He.ga K "_law_table"
abbrev s_law_table : Stmt := (top 70)
theorem Tp.f_law_table (T : Tp K mg w) : FunD K "_law_table" "_law_table" (defArgs s_law_table) (defBody s_law_table) (defScope s_law_table) [] [] (a_law_table K) (fdAt K (a_law_table K)) := T.fun_ 56 rfl
theorem Tp.bn_law_table (T : Tp K mg w) : Binds K (fdAt K (a_law_table K)) ["_law_bag_here", "_law_most_columns", "_law_most_rows"] [] := T.f_law_table.bindsN fun _ _ _ _ _ _ us hl => match us, hl with | [_, _, _], _ => rfl
abbrev a_law_less (K : PySem.W.Frag) : Addr := He.ga K "_law_less"
abbrev s_law_less : Stmt := (top 71)
theorem Tp.f_law_less (T : Tp K mg w) : FunD K "_law_less" "_law_less" (defArgs s_law_less) (defBody s_law_less) (defScope s_law_less) [] [] (a_law_less K) (fdAt K (a_law_less K)) := T.fun_ 57 rfl
theorem Tp.bn_law_less (T : Tp K mg w) : Binds K (fdAt K (a_law_less K)) ["_law_kind", "_law_first", "_law_second"] [] := T.f_law_less.bindsN fun _ _ _ _ _ _ us hl => match us, hl with | [_, _, _], _ => rfl
abbrev a_law_row_less (K : PySem.W.Frag) : Addr := He.ga K "_law_row_less"
abbrev s_law_row_less : Stmt := (top 72)
theorem Tp.f_law_row_less (T : Tp K mg w) : FunD K "_law_row_less" "_law_row_less" (defArgs s_law_row_less) (defBody s_law_row_less) (defScope s_law_row_less) [] [] (a_law_row_less K) (fdAt K (a_law_row_less K)) := T.fun_ 58 rfl
theorem Tp.bn_law_row_less (T : Tp K mg w) : Binds K (fdAt K (a_law_row_less K)) ["_law_table_here", "_law_column", "_law_row", "_law_other"] [] := T.f_law_row_less.bindsN fun _ _ _ _ _ _ us hl => match us, hl with | [_, _, _, _], _ => rfl
abbrev a_law_sorted (K : PySem.W.Frag) : Addr := He.ga K "_law_sorted"
abbrev s_law_sorted : Stmt := (top 73)
theorem Tp.f_law_sorted (T : Tp K mg w) : FunD K "_law_sorted" "_law_sorted" (defArgs s_law_sorted) (defBody s_law_sorted) (defScope s_law_sorted) [] [] (a_law_sorted K) (fdAt K (a_law_sorted K)) := T.fun_ 59 rfl
theorem Tp.bn_law_sorted (T : Tp K mg w) : Binds K (fdAt K (a_law_sorted K)) ["_law_table_here", "_law_shown_here", "_law_column"] [] := T.f_law_sorted.bindsN fun _ _ _ _ _ _ us hl => match us, hl with | [_, _, _], _ => rfl
abbrev a_law_effect (K : PySem.W.Frag) : Addr := He.ga K "_law_effect"
abbrev s_law_effect : Stmt := (top 75)
theorem Tp.f_law_effect (T : Tp K mg w) : FunD K "_law_effect" "_law_effect" (defArgs s_law_effect) (defBody s_law_effect) (defScope s_law_effect) [] [] (a_law_effect K) (fdAt K (a_law_effect K)) := T.fun_ 60 rfl
theorem Tp.bn_law_effect (T : Tp K mg w) : Binds K (fdAt K (a_law_effect K)) ["_law_click_list"] [] := T.f_law_effect.bindsN fun _ _ _ _ _ _ us hl => match us, hl with | [_], _ => rfl
abbrev a_law_raises (K : PySem.W.Frag) : Addr := He.ga K "_law_raises"
abbrev s_law_raises : Stmt := (top 76)
theorem Tp.f_law_raises (T : Tp K mg w) : FunD K "_law_raises" "_law_raises" (defArgs s_law_raises) (defBody s_law_raises) (defScope s_law_raises) [] [] (a_law_raises K) (fdAt K (a_law_raises K)) := T.fun_ 61 rfl
theorem Tp.bn_law_raises (T : Tp K mg w) : Binds K (fdAt K (a_law_raises K)) ["_law_here", "_law_word"] [] := T.f_law_raises.bindsN fun _ _ _ _ _ _ us hl => match us, hl with | [_, _], _ => rfl
abbrev a_law_state_clicked (K : PySem.W.Frag) : Addr := He.ga K "_law_state_clicked"
abbrev s_law_state_clicked : Stmt := (top 77)
theorem Tp.f_law_state_clicked (T : Tp K mg w) : FunD K "_law_state_clicked" "_law_state_clicked" (defArgs s_law_state_clicked) (defBody s_law_state_clicked) (defScope s_law_state_clicked) [] [] (a_law_state_clicked K) (fdAt K (a_law_state_clicked K)) := T.fun_ 62 rfl
theorem Tp.bn_law_state_clicked (T : Tp K mg w) : Binds K (fdAt K (a_law_state_clicked K)) ["_law_kinds", "_law_state", "_law_column"] [] := T.f_law_state_clicked.bindsN fun _ _ _ _ _ _ us hl => match us, hl with | [_, _, _], _ => rfl
abbrev a_law_operation (K : PySem.W.Frag) : Addr := He.ga K "_law_operation"
abbrev s_law_operation : Stmt := (top 78)
theorem Tp.f_law_operation (T : Tp K mg w) : FunD K "_law_operation" "_law_operation" (defArgs s_law_operation) (defBody s_law_operation) (defScope s_law_operation) [] [] (a_law_operation K) (fdAt K (a_law_operation K)) := T.fun_ 63 rfl
theorem Tp.bn_law_operation (T : Tp K mg w) : Binds K (fdAt K (a_law_operation K)) ["_law_bag_here", "_law_here", "_law_kinds", "_law_state"] [] := T.f_law_operation.bindsN fun _ _ _ _ _ _ us hl => match us, hl with | [_, _, _, _], _ => rfl
abbrev a_law_settled (K : PySem.W.Frag) : Addr := He.ga K "_law_settled"
abbrev s_law_settled : Stmt := (top 79)
theorem Tp.f_law_settled (T : Tp K mg w) : FunD K "_law_settled" "_law_settled" (defArgs s_law_settled) (defBody s_law_settled) (defScope s_law_settled) [] [] (a_law_settled K) (fdAt K (a_law_settled K)) := T.fun_ 64 rfl
theorem Tp.bn_law_settled (T : Tp K mg w) : Binds K (fdAt K (a_law_settled K)) ["_law_kinds", "_law_state"] [] := T.f_law_settled.bindsN fun _ _ _ _ _ _ us hl => match us, hl with | [_, _], _ => rfl
abbrev a_law_state_right (K : PySem.W.Frag) : Addr := He.ga K "_law_state_right"
abbrev s_law_state_right : Stmt := (top 80)
theorem Tp.f_law_state_right (T : Tp K mg w) : FunD K "_law_state_right" "_law_state_right" (defArgs s_law_state_right) (defBody s_law_state_right) (defScope s_law_state_right) [] [] (a_law_state_right K) (fdAt K (a_law_state_right K)) := T.fun_ 65 rfl
theorem Tp.bn_law_state_right (T : Tp K mg w) : Binds K (fdAt K (a_law_state_right K)) ["_law_here", "_law_kinds", "_law_state"] [] := T.f_law_state_right.bindsN fun _ _ _ _ _ _ us hl => match us, hl with | [_, _, _], _ => rfl
abbrev a_law_step_right (K : PySem.W.Frag) : Addr := He.ga K "_law_step_right"
abbrev s_law_step_right : Stmt := (top 81)
theorem Tp.f_law_step_right (T : Tp K mg w) : FunD K "_law_step_right" "_law_step_right" (defArgs s_law_step_right) (defBody s_law_step_right) (defScope s_law_step_right) [] [] (a_law_step_right K) (fdAt K (a_law_step_right K)) := T.fun_ 66 rfl
theorem Tp.bn_law_step_right (T : Tp K mg w) : Binds K (fdAt K (a_law_step_right K)) ["_law_bag_here", "_law_here", "_law_kinds", "_law_done", "_law_undone"] [] := T.f_law_step_right.bindsN fun _ _ _ _ _ _ us hl => match us, hl with | [_, _, _, _, _], _ => rfl
abbrev a_law_line (K : PySem.W.Frag) : Addr := He.ga K "_law_line"
abbrev s_law_line : Stmt := (top 82)
theorem Tp.f_law_line (T : Tp K mg w) : FunD K "_law_line" "_law_line" (defArgs s_law_line) (defBody s_law_line) (defScope s_law_line) [] [] (a_law_line K) (fdAt K (a_law_line K)) := T.fun_ 67 rfl
theorem Tp.bn_law_line (T : Tp K mg w) : Binds K (fdAt K (a_law_line K)) ["_law_cells"] [] := T.f_law_line.bindsN fun _ _ _ _ _ _ us hl => match us, hl with | [_], _ => rfl
abbrev a_law_text_right (K : PySem.W.Frag) : Addr := He.ga K "_law_text_right"
abbrev s_law_text_right : Stmt := (top 83)
theorem Tp.f_law_text_right (T : Tp K mg w) : FunD K "_law_text_right" "_law_text_right" (defArgs s_law_text_right) (defBody s_law_text_right) (defScope s_law_text_right) [] [] (a_law_text_right K) (fdAt K (a_law_text_right K)) := T.fun_ 68 rfl
theorem Tp.bn_law_text_right (T : Tp K mg w) : Binds K (fdAt K (a_law_text_right K)) ["_law_kinds", "_law_state"] [] := T.f_law_text_right.bindsN fun _ _ _ _ _ _ us hl => match us, hl with | [_, _], _ => rfl
abbrev a_law_right (K : PySem.W.Frag) : Addr := He.ga K "_law_right"
abbrev s_law_right : Stmt := (top 84)
theorem Tp.f_law_right (T : Tp K mg w) : FunD K "_law_right" "_law_right" (defArgs s_law_right) (defBody s_law_right) (defScope s_law_right) [] [] (a_law_right K) (fdAt K (a_law_right K)) := T.fun_ 69 rfl
theorem Tp.bn_law_right (T : Tp K mg w) : Binds K (fdAt K (a_law_right K)) ["_law_bag_here"] [] := T.f_law_right.bindsN fun _ _ _ _ _ _ us hl => match us, hl with | [_], _ => rfl
abbrev a_law (K : PySem.W.Frag) : Addr := He.ga K "law"
abbrev s_law : Stmt := (top 85)
theorem Tp.f_law (T : Tp K mg w) : FunD K "law" "law" (defArgs s_law) (defBody s_law) (defScope s_law) [] [] (a_law K) (fdAt K (a_law K)) := T.fun_ 70 rfl
theorem Tp.bn_law (T : Tp K mg w) : Binds K (fdAt K (a_law K)) ["_law_script"] [] := T.f_law.bindsN fun _ _ _ _ _ _ us hl => match us, hl with | [_], _ => rfl
theorem Tp.g_is_integer (T : Tp K mg w) : mg "is_integer" = some (.ref (He.ga K "is_integer")) := T.glo 0 rfl
theorem Tp.g_is_kind (T : Tp K mg w) : mg "is_kind" = some (.ref (He.ga K "is_kind")) := T.glo 1 rfl
theorem Tp.g_is_cell_character (T : Tp K mg w) : mg "is_cell_character" = some (.ref (He.ga K "is_cell_character")) := T.glo 2 rfl
theorem Tp.g_is_cell (T : Tp K mg w) : mg "is_cell" = some (.ref (He.ga K "is_cell")) := T.glo 3 rfl
theorem Tp.g_is_row (T : Tp K mg w) : mg "is_row" = some (.ref (He.ga K "is_row")) := T.glo 4 rfl
theorem Tp.g_is_table (T : Tp K mg w) : mg "is_table" = some (.ref (He.ga K "is_table")) := T.glo 5 rfl
theorem Tp.g_check_table (T : Tp K mg w) : mg "check_table" = some (.ref (He.ga K "check_table")) := T.glo 6 rfl
theorem Tp.g_is_column (T : Tp K mg w) : mg "is_column" = some (.ref (He.ga K "is_column")) := T.glo 7 rfl
theorem Tp.g_check_column (T : Tp K mg w) : mg "check_column" = some (.ref (He.ga K "check_column")) := T.glo 8 rfl
theorem Tp.g_sort_key (T : Tp K mg w) : mg "sort_key" = some (.ref (He.ga K "sort_key")) := T.glo 9 rfl
theorem Tp.g_column_keys (T : Tp K mg w) : mg "column_keys" = some (.ref (He.ga K "column_keys")) := T.glo 10 rfl
theorem Tp.g_ranks_in (T : Tp K mg w) : mg "ranks_in" = some (.ref (He.ga K "ranks_in")) := T.glo 11 rfl
theorem Tp.g_ranks_of (T : Tp K mg w) : mg "ranks_of" = some (.ref (He.ga K "ranks_of")) := T.glo 12 rfl
theorem Tp.g_check_clicks (T : Tp K mg w) : mg "check_clicks" = some (.ref (He.ga K "check_clicks")) := T.glo 13 rfl
theorem Tp.g_sort_rows (T : Tp K mg w) : mg "sort_rows" = some (.ref (He.ga K "sort_rows")) := T.glo 14 rfl
theorem Tp.g_click_rows (T : Tp K mg w) : mg "click_rows" = some (.ref (He.ga K "click_rows")) := T.glo 15 rfl
theorem Tp.g_all_views (T : Tp K mg w) : mg "all_views" = some (.ref (He.ga K "all_views")) := T.glo 16 rfl
theorem Tp.g_ranks_of_rows (T : Tp K mg w) : mg "ranks_of_rows" = some (.ref (He.ga K "ranks_of_rows")) := T.glo 17 rfl
theorem Tp.g_effect_after (T : Tp K mg w) : mg "effect_after" = some (.ref (He.ga K "effect_after")) := T.glo 18 rfl
theorem Tp.g_check_columns (T : Tp K mg w) : mg "check_columns" = some (.ref (He.ga K "check_columns")) := T.glo 19 rfl
theorem Tp.g_is_sign (T : Tp K mg w) : mg "is_sign" = some (.ref (He.ga K "is_sign")) := T.glo 20 rfl
theorem Tp.g_is_key (T : Tp K mg w) : mg "is_key" = some (.ref (He.ga K "is_key")) := T.glo 21 rfl
theorem Tp.g_is_effect (T : Tp K mg w) : mg "is_effect" = some (.ref (He.ga K "is_effect")) := T.glo 22 rfl
theorem Tp.g_sign_text (T : Tp K mg w) : mg "sign_text" = some (.ref (He.ga K "sign_text")) := T.glo 23 rfl
theorem Tp.g_format_effect (T : Tp K mg w) : mg "format_effect" = some (.ref (He.ga K "format_effect")) := T.glo 24 rfl
theorem Tp.g_check_text (T : Tp K mg w) : mg "check_text" = some (.ref (He.ga K "check_text")) := T.glo 25 rfl
theorem Tp.g_parse_effect (T : Tp K mg w) : mg "parse_effect" = some (.ref (He.ga K "parse_effect")) := T.glo 26 rfl
theorem Tp.g_format_clicks (T : Tp K mg w) : mg "format_clicks" = some (.ref (He.ga K "format_clicks")) := T.glo 27 rfl
theorem Tp.g_parse_clicks (T : Tp K mg w) : mg "parse_clicks" = some (.ref (He.ga K "parse_clicks")) := T.glo 28 rfl
theorem Tp.g_cell_text (T : Tp K mg w) : mg "cell_text" = some (.ref (He.ga K "cell_text")) := T.glo 29 rfl
theorem Tp.g_format_table (T : Tp K mg w) : mg "format_table" = some (.ref (He.ga K "format_table")) := T.glo 30 rfl
theorem Tp.g_is_integer_text (T : Tp K mg w) : mg "is_integer_text" = some (.ref (He.ga K "is_integer_text")) := T.glo 31 rfl
theorem Tp.g_parse_cell (T : Tp K mg w) : mg "parse_cell" = some (.ref (He.ga K "parse_cell")) := T.glo 32 rfl
theorem Tp.g_parse_table (T : Tp K mg w) : mg "parse_table" = some (.ref (He.ga K "parse_table")) := T.glo 33 rfl
theorem Tp.g_law_bag (T : Tp K mg w) : mg "_law_bag" = some (.ref (He.ga K "_law_bag")) := T.glo 34 rfl
theorem Tp.g_law_draw (T : Tp K mg w) : mg "_law_draw" = some (.ref (He.ga K "_law_draw")) := T.glo 35 rfl
theorem Tp.g_law_cell (T : Tp K mg w) : mg "_law_cell" = some (.ref (He.ga K "_law_cell")) := T.glo 36 rfl
theorem Tp.g_law_table (T : Tp K mg w) : mg "_law_table" = some (.ref (He.ga K "_law_table")) := T.glo 37 rfl
theorem Tp.g_law_less (T : Tp K mg w) : mg "_law_less" = some (.ref (He.ga K "_law_less")) := T.glo 38 rfl
theorem Tp.g_law_row_less (T : Tp K mg w) : mg "_law_row_less" = some (.ref (He.ga K "_law_row_less")) := T.glo 39 rfl
theorem Tp.g_law_sorted (T : Tp K mg w) : mg "_law_sorted" = some (.ref (He.ga K "_law_sorted")) := T.glo 40 rfl
theorem Tp.g_law_effect (T : Tp K mg w) : mg "_law_effect" = some (.ref (He.ga K "_law_effect")) := T.glo 41 rfl
theorem Tp.g_law_raises (T : Tp K mg w) : mg "_law_raises" = some (.ref (He.ga K "_law_raises")) := T.glo 42 rfl
theorem Tp.g_law_state_clicked (T : Tp K mg w) : mg "_law_state_clicked" = some (.ref (He.ga K "_law_state_clicked")) := T.glo 43 rfl
theorem Tp.g_law_operation (T : Tp K mg w) : mg "_law_operation" = some (.ref (He.ga K "_law_operation")) := T.glo 44 rfl
theorem Tp.g_law_settled (T : Tp K mg w) : mg "_law_settled" = some (.ref (He.ga K "_law_settled")) := T.glo 45 rfl
theorem Tp.g_law_state_right (T : Tp K mg w) : mg "_law_state_right" = some (.ref (He.ga K "_law_state_right")) := T.glo 46 rfl
theorem Tp.g_law_step_right (T : Tp K mg w) : mg "_law_step_right" = some (.ref (He.ga K "_law_step_right")) := T.glo 47 rfl
theorem Tp.g_law_line (T : Tp K mg w) : mg "_law_line" = some (.ref (He.ga K "_law_line")) := T.glo 48 rfl
theorem Tp.g_law_text_right (T : Tp K mg w) : mg "_law_text_right" = some (.ref (He.ga K "_law_text_right")) := T.glo 49 rfl
theorem Tp.g_law_right (T : Tp K mg w) : mg "_law_right" = some (.ref (He.ga K "_law_right")) := T.glo 50 rfl
theorem Tp.g_law (T : Tp K mg w) : mg "law" = some (.ref (He.ga K "law")) := T.glo 51 rfl
theorem Tp.b_isinstance (T : Tp K mg w) : mg "isinstance" = none := T.free 52 rfl
theorem Tp.b_int (T : Tp K mg w) : mg "int" = none := T.free 53 rfl
theorem Tp.b_bool (T : Tp K mg w) : mg "bool" = none := T.free 54 rfl
theorem Tp.b_str (T : Tp K mg w) : mg "str" = none := T.free 55 rfl
theorem Tp.b_list (T : Tp K mg w) : mg "list" = none := T.free 56 rfl
theorem Tp.b_tuple (T : Tp K mg w) : mg "tuple" = none := T.free 57 rfl
theorem Tp.b_dict (T : Tp K mg w) : mg "dict" = none := T.free 58 rfl
theorem Tp.b_len (T : Tp K mg w) : mg "len" = none := T.free 59 rfl
theorem Tp.b_all (T : Tp K mg w) : mg "all" = none := T.free 60 rfl
theorem Tp.b_zip (T : Tp K mg w) : mg "zip" = none := T.free 61 rfl
theorem Tp.b_sorted (T : Tp K mg w) : mg "sorted" = none := T.free 62 rfl
theorem Tp.b_enumerate (T : Tp K mg w) : mg "enumerate" = none := T.free 63 rfl
theorem Tp.b_range (T : Tp K mg w) : mg "range" = none := T.free 64 rfl
theorem Tp.c_NUMBER (T : Tp K mg w) : ∃ u, mg "NUMBER" = some u ∧ RelV (.str "number") u := T.con_str 65 rfl
theorem Tp.c_TEXT (T : Tp K mg w) : ∃ u, mg "TEXT" = some u ∧ RelV (.str "text") u := T.con_str 66 rfl
theorem Tp.c_CASELESS (T : Tp K mg w) : ∃ u, mg "CASELESS" = some u ∧ RelV (.str "caseless") u := T.con_str 67 rfl
theorem Tp.c_COLUMNS (T : Tp K mg w) : ∃ u, mg "COLUMNS" = some u ∧ RelV (.str "01234567") u := T.con_str 68 rfl
theorem Tp.c_DIGITS (T : Tp K mg w) : ∃ u, mg "DIGITS" = some u ∧ RelV (.str "0123456789") u := T.con_str 69 rfl
theorem Tp.c_MAX_COLUMNS (T : Tp K mg w) : ∃ u, mg "MAX_COLUMNS" = some u ∧ RelV (.int (8)) u := T.con_int 70 rfl
theorem Tp.c_MAX_ROWS (T : Tp K mg w) : ∃ u, mg "MAX_ROWS" = some u ∧ RelV (.int (60)) u := T.con_int 71 rfl
theorem Tp.c_MAX_CHARACTERS (T : Tp K mg w) : ∃ u, mg "MAX_CHARACTERS" = some u ∧ RelV (.int (20)) u := T.con_int 72 rfl
theorem Tp.c_MOST_COLUMNS (T : Tp K mg w) : ∃ u, mg "MOST_COLUMNS" = some u ∧ RelV (.int (8)) u := T.con_int 73 rfl
theorem Tp.c_ASCENDING (T : Tp K mg w) : ∃ u, mg "ASCENDING" = some u ∧ RelV (.int (1)) u := T.con_int 74 rfl
theorem Tp.c_DESCENDING (T : Tp K mg w) : ∃ u, mg "DESCENDING" = some u ∧ RelV (.int (-1)) u := T.con_int 75 rfl
theorem Tp.c_MAX_DIGITS (T : Tp K mg w) : ∃ u, mg "MAX_DIGITS" = some u ∧ RelV (.int (31)) u := T.con_int 76 rfl
theorem Tp.g_State (T : Tp K mg w) : mg "State" = some (.ref (He.ga K "State")) := T.glo 77 rfl
theorem Tp.cl_State (T : Tp K mg w) : Cls K (aState K) := He.cls_ok (T.fact 78 rfl)
theorem Tp.mk_State (T : Tp K mg w) : Mk K (aState K) (a_State_init K) := He.mkr_ok (T.fact 79 rfl)
theorem Tp.n_State_cells (T : Tp K mg w) : NoAttr K (aState K) "cells" := He.noat_ok (T.fact 80 rfl)
theorem Tp.n_State_shown (T : Tp K mg w) : NoAttr K (aState K) "shown" := He.noat_ok (T.fact 81 rfl)
theorem Tp.n_State_clicked (T : Tp K mg w) : NoAttr K (aState K) "clicked" := He.noat_ok (T.fact 82 rfl)
theorem Tp.n_State_recent (T : Tp K mg w) : NoAttr K (aState K) "recent" := He.noat_ok (T.fact 83 rfl)
theorem Tp.n_State_next_row (T : Tp K mg w) : NoAttr K (aState K) "next_row" := He.noat_ok (T.fact 84 rfl)
theorem Tp.g_Session (T : Tp K mg w) : mg "Session" = some (.ref (He.ga K "Session")) := T.glo 85 rfl
theorem Tp.cl_Session (T : Tp K mg w) : Cls K (aSession K) := He.cls_ok (T.fact 86 rfl)
theorem Tp.mk_Session (T : Tp K mg w) : Mk K (aSession K) (a_Session_init K) := He.mkr_ok (T.fact 87 rfl)
theorem Tp.n_Session_kinds (T : Tp K mg w) : NoAttr K (aSession K) "kinds" := He.noat_ok (T.fact 88 rfl)
theorem Tp.n_Session_states (T : Tp K mg w) : NoAttr K (aSession K) "states" := He.noat_ok (T.fact 89 rfl)
theorem Tp.n_Session_undone (T : Tp K mg w) : NoAttr K (aSession K) "undone" := He.noat_ok (T.fact 90 rfl)
theorem Tp.m_Session_init (T : Tp K mg w) : Meth K (aSession K) "__init__" (a_Session_init K) := He.meth_ok (T.fact 91 rfl)
theorem Tp.m_Session_len (T : Tp K mg w) : Meth K (aSession K) "__len__" (a_Session_len K) := He.meth_ok (T.fact 92 rfl)
theorem Tp.m_Session_eq (T : Tp K mg w) : Meth K (aSession K) "__eq__" (a_Session_eq K) := He.meth_ok (T.fact 93 rfl)
theorem Tp.m_Session_perform (T : Tp K mg w) : Meth K (aSession K) "perform" (a_Session_perform K) := He.meth_ok (T.fact 94 rfl)
theorem Tp.m_Session_check_row (T : Tp K mg w) : Meth K (aSession K) "check_row" (a_Session_check_row K) := He.meth_ok (T.fact 95 rfl)
theorem Tp.m_Session_click (T : Tp K mg w) : Meth K (aSession K) "click" (a_Session_click K) := He.meth_ok (T.fact 96 rfl)
theorem Tp.m_Session_edit_cells (T : Tp K mg w) : Meth K (aSession K) "edit_cells" (a_Session_edit_cells K) := He.meth_ok (T.fact 97 rfl)
theorem Tp.m_Session_set_cell (T : Tp K mg w) : Meth K (aSession K) "set_cell" (a_Session_set_cell K) := He.meth_ok (T.fact 98 rfl)
theorem Tp.m_Session_add_row (T : Tp K mg w) : Meth K (aSession K) "add_row" (a_Session_add_row K) := He.meth_ok (T.fact 99 rfl)
theorem Tp.m_Session_remove_row (T : Tp K mg w) : Meth K (aSession K) "remove_row" (a_Session_remove_row K) := He.meth_ok (T.fact 100 rfl)
theorem Tp.m_Session_undo (T : Tp K mg w) : Meth K (aSession K) "undo" (a_Session_undo K) := He.meth_ok (T.fact 101 rfl)
theorem Tp.m_Session_redo (T : Tp K mg w) : Meth K (aSession K) "redo" (a_Session_redo K) := He.meth_ok (T.fact 102 rfl)
theorem Tp.m_Session_view (T : Tp K mg w) : Meth K (aSession K) "view" (a_Session_view K) := He.meth_ok (T.fact 103 rfl)
theorem Tp.m_Session_row_cells (T : Tp K mg w) : Meth K (aSession K) "row_cells" (a_Session_row_cells K) := He.meth_ok (T.fact 104 rfl)
theorem Tp.m_Session_last_clicked (T : Tp K mg w) : Meth K (aSession K) "last_clicked" (a_Session_last_clicked K) := He.meth_ok (T.fact 105 rfl)
theorem Tp.m_Session_recent_effect (T : Tp K mg w) : Meth K (aSession K) "recent_effect" (a_Session_recent_effect K) := He.meth_ok (T.fact 106 rfl)
theorem Tp.m_Session_is_settled (T : Tp K mg w) : Meth K (aSession K) "is_settled" (a_Session_is_settled K) := He.meth_ok (T.fact 107 rfl)
theorem Tp.m_Session_duplicate (T : Tp K mg w) : Meth K (aSession K) "duplicate" (a_Session_duplicate K) := He.meth_ok (T.fact 108 rfl)
theorem Tp.g_EmptyHistoryError (T : Tp K mg w) : mg "EmptyHistoryError" = some (.ref (He.ga K "EmptyHistoryError")) := T.glo 109 rfl
theorem Tp.exc_Empty (T : Tp K mg w) : PySem.W.excIn K (aEmpty K) He.veBase "ValueError.__new__" = true ∧ PySem.W.keepIn K (.ref (aEmpty K)) = true ∧ PySem.W.subIn K (.ref (aEmpty K)) (.type "BaseException") = some true ∧ PySem.W.typeIn K (.ref (aEmpty K)) = some (.type "type") := He.exc_ok (T.fact 110 rfl)
theorem Tp.exm_Empty (T : Tp K mg w) : PySem.W.exmOne K (.ref (aEmpty K)) (.ref (aEmpty K)) = some true := He.exm_ok (T.fact 111 rfl)
theorem Tp.g_SIGN_OF (T : Tp K mg w) : mg "SIGN_OF" = some (.ref (He.ga K "SIGN_OF")) := T.glo 112 rfl
end
section
variable {K : PySem.W.Frag} {mg : Str → Option Value} {w : World}
theorem Tp.exB (T : Tp K mg w) : HC.ex K = true := by
  obtain ⟨_, _, _, s⟩ := T.ex
  exact s.more
theorem Tp.exS (T : Tp K mg w) : exS K = true := (Bool.and_eq_true_iff.mp T.exB).2
theorem Tp.ne_Session (T : Tp K mg w) : PySem.W.findIn K (.ref (aSession K)) "__ne__" = some (some (.builtin "object.__ne__")) := He.eqO_ok (Bool.and_eq_true_iff.mp T.exS).1
theorem Tp.so_Session (T : Tp K mg w) : PySem.W.subIn K (.ref (aSession K)) (.type "object") = some true := of_decide_eq_true (Bool.and_eq_true_iff.mp (Bool.and_eq_true_iff.mp T.exS).2).1
theorem Tp.insC (T : Tp K mg w) : C8.InsC K (aSession K) := by
  obtain ⟨_, h2⟩ := Bool.and_eq_true_iff.mp T.exS
  obtain ⟨_, h3⟩ := Bool.and_eq_true_iff.mp h2
  obtain ⟨c1, h4⟩ := Bool.and_eq_true_iff.mp h3
  obtain ⟨c2, h5⟩ := Bool.and_eq_true_iff.mp h4
  obtain ⟨c3, h6⟩ := Bool.and_eq_true_iff.mp h5
  obtain ⟨c4, c5⟩ := Bool.and_eq_true_iff.mp h6
  exact ⟨T.cl_Session, He.eqO_ok c1, He.eqO_ok c2, of_decide_eq_true c3, of_decide_eq_true c4, of_decide_eq_true c5⟩
theorem Tp.kdSign (T : Tp K mg w) : ∃ es n, KDict K w (aSign K) es n := by
  obtain ⟨_, _, _, s⟩ := T.ex
  exact s.t.tab 0
theorem Tp.vSign (T : Tp K mg w) {z : Str} {i : Int} (h : (z, He.Dv.int i) ∈ [(("+" : Str), He.Dv.int 1), ("-", .int (-1))]) : ∃ u, PySem.W.nsIn K (aSign K) z = some (some u) ∧ RelV (.int i) u :=
  He.valsB_ok (Bool.and_eq_true_iff.mp T.exB).1 h
end
end HC

set_option Elab.async false
set_option linter.all false
set_option maxRecDepth 100000
set_option maxHeartbeats 2000000
namespace HC
open PySem PySem.Spec PyProof.Rows L2
/-! ### rules -/
/-- a name of the module, by its value -/
theorem pe_gk {X : Cx} {x : Str} {pos : Pos} {v : V} (hg : Gl X x) (h : ∃ u, X.mg x = some u ∧ RelV v u) (hd : (x == ("__debug__" : Str)) = false := by decide) : PE X (.Name x pos) (tC v) := by
  obtain ⟨u, hm, r⟩ := h
  exact pe_glob hg hm r hd
theorem units_of {A : Around} {k : Nat} (hr : Room k A) : A.units + 64 < cLine := by
  have := hr.un
  omega
theorem itT {c : Bool} {A B : Prop} (h : c = true) (q : A) : if c = true then A else B := by
  rw [if_pos h]
  exact q
theorem itF {c : Bool} {A B : Prop} (h : c = false) (q : B) : if c = true then A else B := by
  rw [h, if_neg Bool.false_ne_true]
  exact q
theorem blT {b : Bool} {Q : VK} {H : Hp} (h : b = true) (q : Q (.bl true) H) : Q (.bl b) H := by
  rw [h]
  exact q
theorem blF {b : Bool} {Q : VK} {H : Hp} (h : b = false) (q : Q (.bl false) H) : Q (.bl b) H := by
  rw [h]
  exact q
/-! ### the written part by its own name -/
section
variable {X : Cx} {K : PySem.W.Frag}
theorem kCR {r : PySem.W.Frag → List V → Hp → VK → Prop} {f : Value} (h : CallR X f (r X.K)) (hK : X.K = K) : CallR X f (r K) := hK ▸ h
theorem kOp {r : PySem.W.Frag → R2} {f : Value → Value → Sem Value} (h : OpR X f (r X.K)) (hK : X.K = K) : OpR X f (r K) := hK ▸ h
theorem kIx {r : PySem.W.Frag → R2} (h : IxR X (r X.K)) (hK : X.K = K) : IxR X (r K) := hK ▸ h
theorem kSl {r : PySem.W.Frag → V → Option Int → Option Int → Hp → VK → Prop} (h : SlR X (r X.K)) (hK : X.K = K) : SlR X (r K) := hK ▸ h
theorem kPI {tg e : Expr} {i : PySem.W.Frag → TI} (h : PI X tg e (i X.K)) (hK : X.K = K) : PI X tg e (i K) := hK ▸ h
theorem kFld {e : Expr} {ta : TE} {f : Str} (h : PE X e (tFld X.K ta f)) (hK : X.K = K) : PE X e (tFld K ta f) := hK ▸ h
theorem kBM {e : Expr} {T : String} {r : V → List V → Hp → VK → Prop} {to : TE} {t : TA} (h : PE X e (tBM X.K T r to t)) (hK : X.K = K) : PE X e (tBM K T r to t) := hK ▸ h
theorem kBM0 {e : Expr} {T : String} {r : V → List V → Hp → VK → Prop} {to : TE} (h : PE X e (tBM0 X.K T r to)) (hK : X.K = K) : PE X e (tBM0 K T r to) := hK ▸ h
theorem kRev {e : Expr} {te : TE} (h : PE X e (tRevL X.K te)) (hK : X.K = K) : PE X e (tRevL K te) := hK ▸ h
theorem kTup {e : Expr} {n : Nat} {t : TGs} (h : PG X e (gTup X.K n t)) (hK : X.K = K) : PG X e (gTup K n t) := hK ▸ h
theorem kS {st : Stmt} {ta tv : TE} {f : Str} (h : PS X st (sFld X.K ta tv f)) (hK : X.K = K) : PS X st (sFld K ta tv f) := hK ▸ h
/-- sep.join(xs) -/
def rJoin (K : PySem.W.Frag) : V → List V → Hp → VK → Prop := fun x xs H Q => ∃ a p, ∃ ys : List Str, x = .str a ∧ xs = [.ref p] ∧ (SqL K H p (ys.map V.str) ∨ SqT K H p (ys.map V.str)) ∧ (ys.map (·.length)).sum + ys.length * a.length ≤ 16777216 ∧ Q (.str (Txt.join a ys)) H
theorem kJoin {e : Expr} {to te : TE} (h : PE X e (tM1 (rJoin X.K) to te)) (hK : X.K = K) : PE X e (tM1 (rJoin K) to te) := hK ▸ h
abbrev rLenQ (K : PySem.W.Frag) : List V → Hp → VK → Prop := fun xs H Q => ∃ p ys, xs = [.ref p] ∧ (SqL K H p ys ∨ SqT K H p ys) ∧ Q (.int ys.length) H
abbrev rListQ (K : PySem.W.Frag) : List V → Hp → VK → Prop := fun xs H Q => ∃ p ys, xs = [.ref p] ∧ (SqL K H p ys ∨ SqT K H p ys) ∧ ∀ l, H l = none → Q (.ref l) (upd H l (.lst ys))
end
/-! ### heaps -/
theorem same_new {H : Hp} {p : Addr} {o : HO} (h : H p = none) : Same H (upd H p o) := fun b x e => by
  rw [upd_ne (ne_of_none e h)]
  exact e
theorem same_mut {H H' : Hp} {p : Addr} {o : HO} (s : Same H H') (h : H p = none) : Same H (upd H' p o) := fun b x e => by
  rw [upd_ne (ne_of_none e h)]
  exact s b x e
/-- all but the object at D -/
def But (D : Addr) (H H' : Hp) : Prop := ∀ a o, a ≠ D → H a = some o → H' a = some o
theorem But.of {D : Addr} {H H' : Hp} (s : Same H H') : But D H H' := fun a o _ e => s a o e
theorem But.trans {D : Addr} {H H1 H2 : Hp} (a : But D H H1) (b : But D H1 H2) : But D H H2 := fun c o n e => b c o n (a c o n e)
theorem But.upd {D : Addr} {H : Hp} {o : HO} : But D H (upd H D o) := fun a u n e => by
  rw [upd_ne n]
  exact e
/-! ### what evaluates to what, the heap growing -/
def EvB (tt : TT) (σ : L2.St) (H : Hp) (b : Bool) : Prop := ∀ C : Bool → Hp → Prop, (∀ H', Same H H' → C b H') → tt σ H C
def EvR (te : TE) (σ : L2.St) (H : Hp) (R : V → Hp → Prop) : Prop := ∀ C : VK, (∀ y H', Same H H' → R y H' → C y H') → te σ H C
def EvV (te : TE) (σ : L2.St) (H : Hp) (v : V) : Prop := ∀ C : VK, (∀ H', Same H H' → C v H') → te σ H C
theorem evb_yes {σ : L2.St} {H : Hp} : EvB tYes σ H true := fun C k => k H (Same.refl H)
theorem wipe1 {σ : L2.St} {j : Nat} {x : Option V} : wipe ((wipe σ [j]).set j x) [j] = wipe σ [j] := by
  show ((σ.set j none).set j x).set j none = σ.set j none
  rw [List.set_set, List.set_set]
theorem wipe2 {σ : L2.St} {i j : Nat} {x y : Option V} : wipe (((wipe σ [i, j]).set i x).set j y) [i, j] = wipe σ [i, j] := by
  show (((((σ.set j none).set i none).set i x).set j y).set j none).set i none = (σ.set j none).set i none
  by_cases e : i = j
  · subst e
    rw [List.set_set, List.set_set, List.set_set, List.set_set, List.set_set]
  · rw [List.set_set, List.set_comm _ _ e, List.set_comm _ _ e, List.set_set, List.set_set, List.set_set]
/-- a comprehension over a walk of one name: what is made, item by item -/
theorem lc_one {α : Type} {J : It} {n : Nat} {G : Hp → Prop} {Y : Nat → Hp → V → Hp → Prop} (w : Walk J n G Y) (xs : List α) (enc : α → V) (hn : xs.length = n) (hY : ∀ i H x H', i < n → Y i H x H' → H' = H ∧ ∃ a, xs[i]? = some a ∧ x = enc a)
    {tt : TT} {te : TE} {j : Nat} {σ : L2.St} {H : Hp} {Q : VK} (hz : n ≤ 100000) (hG : ∀ H', Same H H' → G H') (f : α → Bool) (R : α → V → Hp → Prop)
    (ht : ∀ a H1, a ∈ xs → Same H H1 → EvB tt ((wipe σ [j]).set j (some (enc a))) H1 (f a))
    (he : ∀ a H1 D zs, a ∈ xs → Same H H1 → H D = none → H1 D = some (.lst zs) → f a = true → EvR te ((wipe σ [j]).set j (some (enc a))) H1 fun y H' => ∀ H'', But D H' H'' → R a y H'')
    (hd : ∀ D H' ys, H D = none → Same H H' → H' D = some (.lst ys) → Paired (fun a y => R a y H') (xs.filter f) ys → Q (.ref D) H') :
    ∀ D, H D = none → ∃ W : Nat → Nat → Hp → Prop, (∃ m, W 0 m (upd H D (.lst []))) ∧ ∀ i m H, W i m H →
      (J.stop i H ∧ Q (.ref D) H) ∨ (J.go i H ∧ ∃ Nx : Hp → Prop, (∀ H', Nx H' → ∃ m', m' < m ∧ W (i + 1) m' H') ∧ ∀ x H', J.yld i H x H' → gName j x (wipe σ [j]) H' fun σ2 H2 => wipe σ2 [j] = wipe σ [j] ∧ tt σ2 H2 fun b H3 =>
        if b = true then te σ2 H3 fun y H4 => ∃ acc, H4 D = some (.lst acc) ∧ acc.length < sizeLine ∧ Nx (upd H4 D (.lst (acc ++ [y]))) else Nx H3) := by
  intro D hD
  refine lc_it w (fun i H1 => Same H H1 ∧ ∃ ys, H1 D = some (.lst ys) ∧ ys.length ≤ i ∧ Paired (fun a y => ∀ H'', But D H1 H'' → R a y H'') ((xs.take i).filter f) ys) ?_ (fun i H1 _ p => hG H1 p.1) ?_ ?_
  · exact ⟨same_new hD, [], upd_same, Nat.le_refl _, .nil⟩
  · rintro i x H1 H1' hi ⟨s1, ys, e1, l1, p1⟩ y1
    obtain ⟨rfl, a, ha, rfl⟩ := hY i H1 x H1' hi y1
    have hm : a ∈ xs := List.mem_of_getElem? ha
    refine ⟨wipe1, ht a H1' hm s1 _ fun H3 s3 => ?_⟩
    have et : xs.take (i + 1) = xs.take i ++ [a] := by
      rw [List.take_add_one, ha]
      rfl
    cases hf : f a with
    | true =>
      refine iteT (he a H3 D ys hm (s1.trans s3) hD (s3 _ _ e1) hf _ fun y H4 s4 r4 => ?_)
      refine ⟨ys, s4 _ _ (s3 _ _ e1), Nat.lt_of_le_of_lt l1 (Nat.lt_of_lt_of_le hi (Nat.le_trans hz (by decide))), same_mut ((s1.trans s3).trans s4) hD, ys ++ [y], upd_same, by rw [List.length_append, List.length_singleton]; omega, ?_⟩
      rw [et, List.filter_append, List.filter_cons, if_pos hf]
      have q1 : Paired (fun a u => ∀ H'', But D (upd H4 D (.lst (ys ++ [y]))) H'' → R a u H'') ((xs.take i).filter f) ys := Paired.mapP p1 fun _ _ z H'' b => z H'' (((But.of (s3.trans s4)).trans But.upd).trans b)
      exact Paired.snoc q1 fun H'' b => r4 H'' (But.upd.trans b)
    | false =>
      refine iteF ⟨s1.trans s3, ys, s3 _ _ e1, Nat.le_succ_of_le l1, ?_⟩
      rw [et, List.filter_append, List.filter_cons, if_neg (by rw [hf]; decide)]
      show Paired _ (_ ++ []) _
      rw [List.append_nil]
      exact Paired.mapP p1 fun _ _ z H'' b => z H'' ((But.of s3).trans b)
  · rintro H1 ⟨s1, ys, e1, l1, p1⟩
    rw [List.take_of_length_le (by omega)] at p1
    exact hd D H1 ys hD s1 e1 (Paired.mapP p1 fun _ _ z => z H1 (But.of (Same.refl H1)))

/-- the same, of a new pair of two names each -/
theorem lc_two {α : Type} {J : It} {n : Nat} {G : Hp → Prop} {K : PySem.W.Frag} {xf yf : Nat → Option V} (w : Walk J n G (YPair xf yf)) (xs : List α) (e1 e2 : α → V) (hn : xs.length = n) (hx : ∀ i a, xs[i]? = some a → xf i = some (e1 a) ∧ yf i = some (e2 a))
    {tt : TT} {te : TE} {j k : Nat} {σ : L2.St} {H : Hp} {Q : VK} (hz : n ≤ 100000) (hG : ∀ H', Same H H' → G H') (f : α → Bool) (R : α → V → Hp → Prop)
    (ht : ∀ a H1, a ∈ xs → Same H H1 → EvB tt (((wipe σ [j, k]).set j (some (e1 a))).set k (some (e2 a))) H1 (f a))
    (he : ∀ a H1 D zs, a ∈ xs → Same H H1 → H D = none → H1 D = some (.lst zs) → f a = true → EvR te (((wipe σ [j, k]).set j (some (e1 a))).set k (some (e2 a))) H1 fun y H' => ∀ H'', But D H' H'' → R a y H'')
    (hd : ∀ D H' ys, H D = none → Same H H' → H' D = some (.lst ys) → Paired (fun a y => R a y H') (xs.filter f) ys → Q (.ref D) H') :
    ∀ D, H D = none → ∃ W : Nat → Nat → Hp → Prop, (∃ m, W 0 m (upd H D (.lst []))) ∧ ∀ i m H, W i m H →
      (J.stop i H ∧ Q (.ref D) H) ∨ (J.go i H ∧ ∃ Nx : Hp → Prop, (∀ H', Nx H' → ∃ m', m' < m ∧ W (i + 1) m' H') ∧ ∀ x H', J.yld i H x H' → gTup K 2 (gCons (gName j) (gCons (gName k) gNil)) x (wipe σ [j, k]) H' fun σ2 H2 => wipe σ2 [j, k] = wipe σ [j, k] ∧ tt σ2 H2 fun b H3 =>
        if b = true then te σ2 H3 fun y H4 => ∃ acc, H4 D = some (.lst acc) ∧ acc.length < sizeLine ∧ Nx (upd H4 D (.lst (acc ++ [y]))) else Nx H3) := by
  intro D hD
  refine lc_it w (fun i H1 => Same H H1 ∧ ∃ ys, H1 D = some (.lst ys) ∧ ys.length ≤ i ∧ Paired (fun a y => ∀ H'', But D H1 H'' → R a y H'') ((xs.take i).filter f) ys) ?_ (fun i H1 _ p => hG H1 p.1) ?_ ?_
  · exact ⟨same_new hD, [], upd_same, Nat.le_refl _, .nil⟩
  · rintro i x H1 H1' hi ⟨s1, ys, q1, l1, p1⟩ ⟨T, x1, x2, rfl, nT, rfl, f1, f2⟩
    obtain ⟨a, ha⟩ : ∃ a, xs[i]? = some a := ⟨xs[i]'(by omega), List.getElem?_eq_getElem (by omega)⟩
    obtain ⟨g1, g2⟩ := hx i a ha
    obtain rfl : x1 = e1 a := Option.some.inj (f1.symm.trans g1)
    obtain rfl : x2 = e2 a := Option.some.inj (f2.symm.trans g2)
    have hm : a ∈ xs := List.mem_of_getElem? ha
    have sT : Same H1 (upd H1 T (.tup [e1 a, e2 a])) := same_new nT
    refine ⟨T, [e1 a, e2 a], rfl, .inl (.inl upd_same), rfl, e1 a, [e2 a], rfl, e2 a, [], rfl, rfl, wipe2, ht a _ hm (s1.trans sT) _ fun H3 s3' => ?_⟩
    have s3 := sT.trans s3'
    have et : xs.take (i + 1) = xs.take i ++ [a] := by
      rw [List.take_add_one, ha]
      rfl
    cases hf : f a with
    | true =>
      refine iteT (he a H3 D ys hm (s1.trans s3) hD (s3 _ _ q1) hf _ fun y H4 s4 r4 => ?_)
      refine ⟨ys, s4 _ _ (s3 _ _ q1), Nat.lt_of_le_of_lt l1 (Nat.lt_of_lt_of_le hi (Nat.le_trans hz (by decide))), same_mut ((s1.trans s3).trans s4) hD, ys ++ [y], upd_same, by rw [List.length_append, List.length_singleton]; omega, ?_⟩
      rw [et, List.filter_append, List.filter_cons, if_pos hf]
      have q1 : Paired (fun a u => ∀ H'', But D (upd H4 D (.lst (ys ++ [y]))) H'' → R a u H'') ((xs.take i).filter f) ys := Paired.mapP p1 fun _ _ z H'' b => z H'' (((But.of (s3.trans s4)).trans But.upd).trans b)
      exact Paired.snoc q1 fun H'' b => r4 H'' (But.upd.trans b)
    | false =>
      refine iteF ⟨s1.trans s3, ys, s3 _ _ q1, Nat.le_succ_of_le l1, ?_⟩
      rw [et, List.filter_append, List.filter_cons, if_neg (by rw [hf]; decide)]
      show Paired _ (_ ++ []) _
      rw [List.append_nil]
      exact Paired.mapP p1 fun _ _ z H'' b => z H'' ((But.of s3).trans b)
  · rintro H1 ⟨s1, ys, q1, l1, p1⟩
    rw [List.take_of_length_le (by omega)] at p1
    exact hd D H1 ys hD s1 q1 (Paired.mapP p1 fun _ _ z => z H1 (But.of (Same.refl H1)))
/-- values known -/
theorem paired_map {α : Type} {v : α → V} : ∀ {xs : List α} {ys : List V}, Paired (fun a y => y = v a) xs ys → ys = xs.map v
  | _, _, .nil => rfl
  | _, _, .cons h t => by rw [h, paired_map t] <;> rfl
theorem evr_of {te : TE} {σ : L2.St} {H : Hp} {v : V} {R : V → Hp → Prop} (h : EvV te σ H v) (k : ∀ H', Same H H' → R v H') : EvR te σ H R := fun C q => h C fun H' s => q v H' s (k H' s)
section
variable {α : Type} {K : PySem.W.Frag} {tt : TT} {te tl : TE} {j k : Nat} {σ : L2.St} {H : Hp} {Q : VK}
/-- [e for x in xs if t] over a list of values known, e of a value known -/
theorem lcl_val (xs : List α) (enc : α → V) (f : α → Bool) (v : α → V) {a : Addr} (hl : ∀ C : VK, C (.ref a) H → tl σ H C) (ha : SqL K H a (xs.map enc)) (hz : xs.length ≤ 100000)
    (ht : ∀ x H1, x ∈ xs → Same H H1 → EvB tt ((wipe σ [j]).set j (some (enc x))) H1 (f x)) (he : ∀ x H1, x ∈ xs → Same H H1 → f x = true → EvV te ((wipe σ [j]).set j (some (enc x))) H1 (v x))
    (hd : ∀ D H', H D = none → Same H H' → H' D = some (.lst ((xs.filter f).map v)) → Q (.ref D) H') : tLc (iList K tl) (gName j) tt te [j] σ H Q := by
  refine hl _ ⟨a, rfl, ⟨_, ha⟩, ?_⟩
  refine lc_one (walk_list (xs := xs.map enc)) xs enc (by rw [List.length_map]) (fun i H x H' hi y => ?_) (by rw [List.length_map]; exact hz) (fun H' s => s.seq ha) f (fun x y _ => y = v x) ht (fun x H1 D zs hm s1 _ _ hf => evr_of (he x H1 hm s1 hf) fun _ _ _ _ => rfl) (fun D H' ys hD s e p => ?_)
  · obtain ⟨h1, h2⟩ := y
    rw [List.getElem?_map] at h2
    cases q : xs[i]? with
    | none => rw [q] at h2; cases h2
    | some b =>
      rw [q] at h2
      exact ⟨h1, b, rfl, (Option.some.inj h2).symm⟩
  · rw [paired_map p] at e
    exact hd D H' hD s e
theorem lcl_new (xs : List α) (enc : α → V) (f : α → Bool) (R : α → V → Hp → Prop) {a : Addr} (hl : ∀ C : VK, C (.ref a) H → tl σ H C) (ha : SqL K H a (xs.map enc)) (hz : xs.length ≤ 100000)
    (ht : ∀ x H1, x ∈ xs → Same H H1 → EvB tt ((wipe σ [j]).set j (some (enc x))) H1 (f x))
    (he : ∀ x H1 D zs, x ∈ xs → Same H H1 → H D = none → H1 D = some (.lst zs) → f x = true → EvR te ((wipe σ [j]).set j (some (enc x))) H1 fun y H' => ∀ H'', But D H' H'' → R x y H'')
    (hd : ∀ D H' ys, H D = none → Same H H' → H' D = some (.lst ys) → Paired (fun x y => R x y H') (xs.filter f) ys → Q (.ref D) H') : tLc (iList K tl) (gName j) tt te [j] σ H Q := by
  refine hl _ ⟨a, rfl, ⟨_, ha⟩, ?_⟩
  refine lc_one (walk_list (xs := xs.map enc)) xs enc (by rw [List.length_map]) (fun i H x H' hi y => ?_) (by rw [List.length_map]; exact hz) (fun H' s => s.seq ha) f R ht he hd
  obtain ⟨h1, h2⟩ := y
  rw [List.getElem?_map] at h2
  cases q : xs[i]? with
  | none => rw [q] at h2; cases h2
  | some b =>
    rw [q] at h2
    exact ⟨h1, b, rfl, (Option.some.inj h2).symm⟩
end

section
variable {α : Type} {K : PySem.W.Frag} {tt : TT} {te tl : TE} {j k : Nat} {σ : L2.St} {H : Hp} {Q : VK}
/-- isinstance(x, a built-in type) -/
theorem isi {x : V} {t u : String} (b : Bool) (ty : TyX K H x (.type t)) (h : kitB t u = some b) (q : Q (.bl b) H) : rIsi K [x, .ty u] H Q := ⟨x, .ty u, _, _, b, rfl, .ty u, ty, kit_ty h, q⟩
/-- all(a list of True) -/
theorem tall (hl : ∀ C : VK, (∀ D H' (bs : List Bool), H D = none → Same H H' → H' D = some (.lst (bs.map V.bl)) → (∀ b ∈ bs, b = true) → C (.ref D) H') → tl σ H C) (q : ∀ H', Same H H' → Q (.bl true) H') : tCB (rAll K) (tCons tl tNil) σ H Q := by
  refine hl _ fun D H' bs hD s e hb => ⟨D, bs, rfl, .inl (.inl e), ?_⟩
  have e2 : bs.all id = true := List.all_eq_true.mpr fun b m => hb b m
  rw [e2]
  exact q H' s
theorem bls_of {xs : List α} : (xs.map fun _ => V.bl true) = (xs.map fun _ => true).map V.bl := by
  rw [List.map_map]
  rfl
/-- all([e for x in xs]) where each e is True -/
theorem tall_list (xs : List α) (enc : α → V) {a : Addr} (hl : ∀ C : VK, C (.ref a) H → tl σ H C) (ha : SqL K H a (xs.map enc)) (hz : xs.length ≤ 100000)
    (he : ∀ x H1, x ∈ xs → Same H H1 → EvV te ((wipe σ [j]).set j (some (enc x))) H1 (.bl true)) (q : ∀ H', Same H H' → Q (.bl true) H') : tCB (rAll K) (tCons (tLc (iList K tl) (gName j) tYes te [j]) tNil) σ H Q := by
  refine tall (fun C k => ?_) q
  refine lcl_val xs enc (fun _ => true) (fun _ => .bl true) hl ha hz (fun _ _ _ _ => evb_yes) (fun x H1 m s _ => he x H1 m s) fun D H' hD s e => ?_
  rw [bls_of] at e
  exact k D H' _ hD s e fun b m => by
    obtain ⟨_, _, h⟩ := List.mem_map.mp m
    exact h.symm
theorem tall_str (z : Str) (hl : ∀ C : VK, C (.str z) H → tl σ H C) (hz : z.length ≤ 100000)
    (he : ∀ c H1, c ∈ z.cps.toList → Same H H1 → EvV te ((wipe σ [j]).set j (some (.str ⟨#[c]⟩))) H1 (.bl true)) (q : ∀ H', Same H H' → Q (.bl true) H') : tCB (rAll K) (tCons (tLc (iStr tl) (gName j) tYes te [j]) tNil) σ H Q := by
  refine tall (fun C k => ?_) q
  refine hl _ ⟨z, rfl, ?_⟩
  refine lc_one (walk_str (z := z)) z.cps.toList (fun c => .str ⟨#[c]⟩) (by rw [Array.length_toList]) (fun i H x H' hi y => ?_) hz (fun _ _ => trivial) (fun _ => true) (fun _ y _ => y = .bl true) (fun _ _ _ _ => evb_yes) (fun c H1 D zs m s _ _ _ => evr_of (he c H1 m s) fun _ _ _ _ => rfl) fun D H' ys hD s e p => ?_
  · obtain ⟨h1, c, h2, h3⟩ := y
    exact ⟨h1, c, by rw [Array.getElem?_toList]; exact h2, h3⟩
  · rw [paired_map p, bls_of] at e
    exact k D H' _ hD s e fun b m => by
      obtain ⟨_, _, h⟩ := List.mem_map.mp m
      exact h.symm
/-- all([e for x, y in zip(xs, ys)]) -/
theorem tall_zip {β : Type} (xs : List α) (ys : List β) (e1 : α → V) (e2 : β → V) {ta : TA} {a b : Addr} (hl : ∀ C : List V → Hp → Prop, C [.ref a, .ref b] H → ta σ H C) (ha : SqL K H a (xs.map e1)) (hb : SqL K H b (ys.map e2)) (hn : xs.length = ys.length) (hz : xs.length ≤ 100000)
    (he : ∀ (i : Nat) x y H1, xs[i]? = some x → ys[i]? = some y → Same H H1 → EvV te (((wipe σ [j, k]).set j (some (e1 x))).set k (some (e2 y))) H1 (.bl true)) (q : ∀ H', Same H H' → Q (.bl true) H') :
    tCB (rAll K) (tCons (tLc (iZip K ta) (gTup K 2 (gCons (gName j) (gCons (gName k) gNil))) tYes te [j, k]) tNil) σ H Q := by
  refine tall (fun C kk => ?_) q
  refine hl _ ⟨a, b, _, _, rfl, ha, hb, ?_⟩
  have hm : (xs.zip ys).length = min (xs.map e1).length (ys.map e2).length := by rw [List.length_zip, List.length_map, List.length_map]
  refine lc_two (walk_zip (K := K) (a := a) (b := b) (xs := xs.map e1) (ys := ys.map e2) hm) (xs.zip ys) (fun p => e1 p.1) (fun p => e2 p.2) rfl (fun i p hp => ?_) (by rw [List.length_zip]; omega) (fun H' s => ⟨s.seq ha, s.seq hb⟩) (fun _ => true) (fun _ y _ => y = .bl true) (fun _ _ _ _ => evb_yes)
    (fun p H1 D zs m s _ _ _ => ?_) fun D H' ys hD s e p => ?_
  · obtain ⟨h1, h2⟩ := List.getElem?_zip_eq_some.mp hp
    exact ⟨by rw [List.getElem?_map, h1] <;> rfl, by rw [List.getElem?_map, h2] <;> rfl⟩
  · obtain ⟨i, hi⟩ := List.getElem?_of_mem m
    obtain ⟨h1, h2⟩ := List.getElem?_zip_eq_some.mp hi
    exact evr_of (he i p.1 p.2 H1 h1 h2 s) fun _ _ _ _ => rfl
  · rw [paired_map p, bls_of] at e
    exact kk D H' _ hD s e fun b m => by
      obtain ⟨_, _, h⟩ := List.mem_map.mp m
      exact h.symm
end
end HC

set_option Elab.async false
set_option linter.all false
set_option maxRecDepth 100000
set_option maxHeartbeats 2000000
/-! The calculus of HandS.Evl, widened: what a reading evaluates to, at every later heap. -/
namespace HC
open PySem PySem.Spec PyProof.Rows L2 Evl
/-- some value v, told by R (the heap ahead, the heap behind) -/
def EvX (te : TE) (σ : L2.St) (H : Hp) (R : V → Hp → Hp → Prop) : Prop := ∀ H1, Ex H H1 → ∀ Q : VK, (∀ v H2, Ex H1 H2 → R v H1 H2 → Q v H2) → te σ H1 Q
def SpX (sp : Sp) (vs : List V) (H : Hp) (R : V → Hp → Hp → Prop) : Prop := ∀ H1, Ex H H1 → ∀ Q : VK, (∀ v H2, Ex H1 H2 → R v H1 H2 → Q v H2) → ∀ E : XK, sp vs H1 Q E
def RCX (r : List V → Hp → VK → Prop) (vs : List V) (H : Hp) (R : V → Hp → Hp → Prop) : Prop := ∀ H1, Ex H H1 → ∀ Q : VK, (∀ v H2, Ex H1 H2 → R v H1 H2 → Q v H2) → r vs H1 Q
/-- a new list -/
def NewL (xs : List V) : V → Hp → Hp → Prop := fun v H1 H2 => ∃ p, v = .ref p ∧ H1 p = none ∧ H2 p = some (.lst xs)
def NewU (xs : List V) : V → Hp → Hp → Prop := fun v H1 H2 => ∃ p, v = .ref p ∧ H1 p = none ∧ H2 p = some (.tup xs)
section
variable {K : PySem.W.Frag} {σ : L2.St} {H H' : Hp} {ta tb tc te tx : TE} {t u : TT} {x y z v : V} {r r' : R2} {a b : Bool} {R : V → Hp → Hp → Prop}
theorem EvX.of (h : Ev te σ H v) : EvX te σ H fun y _ _ => y = v := fun H1 e Q q => h H1 e Q fun H2 e2 => q v H2 e2 rfl
theorem EvX.ofL {xs : List V} (h : EvL te σ H xs) : EvX te σ H (NewL xs) := fun H1 e Q q => h H1 e Q fun p H2 np e2 hp => q _ H2 e2 ⟨p, rfl, np, hp⟩
theorem EvX.ofU {xs : List V} (h : EvU te σ H xs) : EvX te σ H (NewU xs) := fun H1 e Q q => h H1 e Q fun p H2 np e2 hp => q _ H2 e2 ⟨p, rfl, np, hp⟩
theorem EvX.imp {R' : V → Hp → Hp → Prop} (h : EvX te σ H R) (k : ∀ v H1 H2, Ex H H1 → Ex H1 H2 → R v H1 H2 → R' v H1 H2) : EvX te σ H R' := fun H1 e Q q => h H1 e Q fun v H2 e2 r => q v H2 e2 (k v H1 H2 e e2 r)
theorem EvX.val (h : EvX te σ H fun y _ _ => y = v) : Ev te σ H v := fun H1 e Q q => h H1 e Q fun y H2 e2 ey => by
  subst ey
  exact q H2 e2
theorem EvX.lst {xs : List V} (h : EvX te σ H (NewL xs)) : EvL te σ H xs := fun H1 e Q q => h H1 e Q fun y H2 e2 ⟨p, ey, np, hp⟩ => by
  subst ey
  exact q p H2 np e2 hp
theorem EvX.tup {xs : List V} (h : EvX te σ H (NewU xs)) : EvU te σ H xs := fun H1 e Q q => h H1 e Q fun y H2 e2 ⟨p, ey, np, hp⟩ => by
  subst ey
  exact q p H2 np e2 hp
theorem EvX.mono (e : Ex H H') (h : EvX te σ H R) : EvX te σ H' R := fun H1 a Q q => h H1 (e.trans a) Q q
theorem et_yes : EvT tYes σ H true := fun H1 _ _ q => q H1 (Ex.refl H1)
/-! ### isinstance -/
theorem ev_isiG {t u : String} (ty : ∀ H1, Ex H H1 → TyX K H1 x (.type t)) (ha : Ev ta σ H x) (h : kitB t u = some b) : Ev (tCB (rIsi K) (tCons ta (tCons (tC (.ty u)) tNil))) σ H (.bl b) := fun H1 e Q q =>
  ha H1 e _ fun H2 e2 => isi b (ty H2 (e.trans e2)) h (q H2 e2)
theorem ev_isi_int {i : Int} {u : String} (ha : Ev ta σ H (.int i)) (h : kitB "int" u = some b) : Ev (tCB (rIsi K) (tCons ta (tCons (tC (.ty u)) tNil))) σ H (.bl b) := ev_isiG (fun _ _ => .base (.int i)) ha h
theorem ev_isi_str {i : Str} {u : String} (ha : Ev ta σ H (.str i)) (h : kitB "str" u = some b) : Ev (tCB (rIsi K) (tCons ta (tCons (tC (.ty u)) tNil))) σ H (.bl b) := ev_isiG (fun _ _ => .base (.str i)) ha h
theorem ev_isi_lst {p : Addr} {xs : List V} {u : String} (ha : Ev ta σ H (.ref p)) (hp : H p = some (.lst xs)) (h : kitB "list" u = some b) : Ev (tCB (rIsi K) (tCons ta (tCons (tC (.ty u)) tNil))) σ H (.bl b) := ev_isiG (fun _ e => .base (.lst (e _ _ hp))) ha h
theorem ev_isi_tup {p : Addr} {xs : List V} {u : String} (ha : Ev ta σ H (.ref p)) (hp : H p = some (.tup xs)) (h : kitB "tuple" u = some b) : Ev (tCB (rIsi K) (tCons ta (tCons (tC (.ty u)) tNil))) σ H (.bl b) := ev_isiG (fun _ e => .base (.tup (e _ _ hp))) ha h
/-! ### operators -/
theorem ev_chain (ha : Ev ta σ H x) (hb : Ev tb σ H y) (hr : RV r x y H (.bl a)) (hc : a = true → Ev tc σ H z) (hr' : a = true → RV r' y z H (.bl b)) : Ev (tChain r r' ta tb tc) σ H (.bl (a && b)) := fun H1 e Q q =>
  ha H1 e _ fun H2 e2 => hb H2 (e.trans e2) _ fun H3 e3 => hr H3 ((e.trans e2).trans e3) _ fun H4 e4 => ⟨a, rfl, by
    cases a with
    | true => exact iteT (hc rfl H4 (((e.trans e2).trans e3).trans e4) _ fun H5 e5 => hr' rfl H5 ((((e.trans e2).trans e3).trans e4).trans e5) Q fun H6 e6 => q H6 ((((e2.trans e3).trans e4).trans e5).trans e6))
    | false => exact iteF (q H4 ((e2.trans e3).trans e4))⟩
abbrev rLeS : R2 := fun x y H Q => ∃ i j, x = .str i ∧ y = .str j ∧ Q (.bl (!decide (j.cps.toList < i.cps.toList))) H
abbrev rLtS : R2 := fun x y H Q => ∃ i j, x = .str i ∧ y = .str j ∧ Q (.bl (decide (i.cps.toList < j.cps.toList))) H
theorem rv_leS {i j : Str} : RV rLeS (.str i) (.str j) H (.bl (!decide (j.cps.toList < i.cps.toList))) := fun H1 _ _ q => ⟨i, j, rfl, rfl, q H1 (Ex.refl H1)⟩
theorem rv_ltS {i j : Str} : RV rLtS (.str i) (.str j) H (.bl (decide (i.cps.toList < j.cps.toList))) := fun H1 _ _ q => ⟨i, j, rfl, rfl, q H1 (Ex.refl H1)⟩
abbrev rIsNon : R2 := fun x y H Q => y = .non ∧ Q (.bl (decide (x = .non))) H
abbrev rNotNon : R2 := fun x y H Q => y = .non ∧ Q (.bl (!decide (x = .non))) H
theorem rv_isN : RV rIsNon x .non H (.bl (decide (x = .non))) := fun H1 _ _ q => ⟨rfl, q H1 (Ex.refl H1)⟩
theorem rv_notN : RV rNotNon x .non H (.bl (!decide (x = .non))) := fun H1 _ _ q => ⟨rfl, q H1 (Ex.refl H1)⟩
abbrev rAddS : R2 := fun x y H Q => ∃ i j, x = .str i ∧ y = .str j ∧ i.length + j.length ≤ sizeLine ∧ Q (.str (i ++ j)) H
theorem rv_addS {i j : Str} (h : i.length + j.length ≤ 100000) : RV rAddS (.str i) (.str j) H (.str (i ++ j)) := fun H1 _ _ q => ⟨i, j, rfl, rfl, sz_of h, q H1 (Ex.refl H1)⟩
/-- xs + ys -/
theorem el_cat {p q : Addr} {xs ys : List V} (ha : Ev ta σ H (.ref p)) (hb : Ev tb σ H (.ref q)) (hp : H p = some (.lst xs)) (hq : H q = some (.lst ys)) (hz : xs.length + ys.length ≤ 100000) : EvL (tOp rCat ta tb) σ H (xs ++ ys) := fun H1 e Q k =>
  ha H1 e _ fun H2 e2 => hb H2 (e.trans e2) _ fun H3 e3 => ⟨p, q, xs, ys, rfl, rfl, ((e.trans e2).trans e3) _ _ hp, ((e.trans e2).trans e3) _ _ hq, sz_of hz, fun l hl => k l _ (fresh_back (e2.trans e3) hl) ((e2.trans e3).trans (Ex.new hl)) upd_same⟩
/-- the operands new or old -/
theorem el_catX {R1 R2 : V → Hp → Hp → Prop} (ha : EvX ta σ H R1) (hb : EvX tb σ H R2) (xs ys : List V) (h1 : ∀ v H1 H2, Ex H H1 → Ex H1 H2 → R1 v H1 H2 → ∃ p, v = .ref p ∧ H2 p = some (.lst xs)) (h2 : ∀ v H1 H2, Ex H H1 → Ex H1 H2 → R2 v H1 H2 → ∃ p, v = .ref p ∧ H2 p = some (.lst ys))
    (hz : xs.length + ys.length ≤ 100000) : EvL (tOp rCat ta tb) σ H (xs ++ ys) := fun H1 e Q k =>
  ha H1 e _ fun v1 H2 e2 r1 => hb H2 (e.trans e2) _ fun v2 H3 e3 r2 => by
    obtain ⟨p, rfl, hp⟩ := h1 v1 H1 H2 e e2 r1
    obtain ⟨q, rfl, hq⟩ := h2 v2 H2 H3 (e.trans e2) e3 r2
    exact ⟨p, q, xs, ys, rfl, rfl, e3 _ _ hp, hq, sz_of hz, fun l hl => k l _ (fresh_back (e2.trans e3) hl) ((e2.trans e3).trans (Ex.new hl)) upd_same⟩
/-! ### len -/
theorem rc_lenL {p : Addr} {xs : List V} (h : H p = some (.lst xs)) : RC (rLenQ K) [.ref p] H (.int (xs.length : Int)) := fun H1 e _ q => ⟨p, xs, rfl, .inl (SqL.of (e _ _ h)), q H1 (Ex.refl H1)⟩
theorem rc_lenT {p : Addr} {xs : List V} (h : H p = some (.tup xs)) : RC (rLenQ K) [.ref p] H (.int (xs.length : Int)) := fun H1 e _ q => ⟨p, xs, rfl, .inr (SqT.of (e _ _ h)), q H1 (Ex.refl H1)⟩
abbrev rLenStr : List V → Hp → VK → Prop := fun xs H Q => ∃ z, xs = [.str z] ∧ z.length ≤ sizeLine ∧ Q (.int z.length) H
theorem rc_lenS {z : Str} (h : z.length ≤ 100000) : RC rLenStr [.str z] H (.int (z.length : Int)) := fun H1 _ _ q => ⟨z, rfl, sz_of h, q H1 (Ex.refl H1)⟩
/-! ### fields -/
theorem ev_fld {p C dx : Addr} {fs : List (Str × V)} {f : Str} (ha : Ev ta σ H (.ref p)) (hp : H p = some (.ins C dx fs)) (c : Cls K C) (n : NoAttr K C f) (hl : fs.lookup f = some v) : Ev (tFld K ta f) σ H v := fun H1 e Q q =>
  ha H1 e _ fun H2 e2 => ⟨p, C, dx, fs, v, rfl, (e.trans e2) _ _ hp, c, n, hl, q H2 e2⟩
/-! ### calls -/
theorem SpX.of {sp : Sp} {vs : List V} (h : SpV sp vs H v) : SpX sp vs H fun y _ _ => y = v := fun H1 e Q q E => h H1 e Q (fun H2 e2 => q v H2 e2 rfl) E
theorem ex_call {sp : Sp} {dvs vs : List V} {E : XK} {ta : TA} (h : EvA ta σ H vs) (hs : SpX sp (vs ++ dvs) H R) : EvX (tCall sp dvs E ta) σ H fun v H0 H2 => ∃ H1, Ex H0 H1 ∧ Ex H1 H2 ∧ R v H1 H2 := fun H1 e Q q =>
  h H1 e _ fun H2 e2 => hs H2 (e.trans e2) _ (fun v H3 e3 r => q v H3 (e2.trans e3) ⟨H2, e2, e3, r⟩) E
/-! ### statements -/
variable {D : Ends} {tu tw tz : TS}
theorem q_asgX {i : Nat} (h : EvX te σ H R) (k : ∀ v H1, Ex H H1 → R v H H1 → tz D (σ.set i (some v)) H1) : tSeq (tAsg te (gName i)) tz D σ H := h H (Ex.refl H) _ fun v H1 e r => k v H1 e r
theorem s_asgX {i : Nat} (h : EvX te σ H R) (k : ∀ v H1, Ex H H1 → R v H H1 → D.nx (σ.set i (some v)) H1) : tAsg te (gName i) D σ H := h H (Ex.refl H) _ fun v H1 e r => k v H1 e r
theorem s_retX (h : EvX te σ H R) (k : ∀ v H1, Ex H H1 → R v H H1 → D.rt v H1) : tRet te D σ H := h H (Ex.refl H) _ k
/-- an if whose test is False, True -/
theorem q_no (h : EvT t σ H false) (k : ∀ H1, Ex H H1 → tw { D with nx := tz D } σ H1) : tSeq (tIfS t tu tw) tz D σ H := h H (Ex.refl H) _ fun H1 e => iteF (k H1 e)
theorem q_yes (h : EvT t σ H true) (k : ∀ H1, Ex H H1 → tu { D with nx := tz D } σ H1) : tSeq (tIfS t tu tw) tz D σ H := h H (Ex.refl H) _ fun H1 e => iteT (k H1 e)
theorem s_no (h : EvT t σ H false) (k : ∀ H1, Ex H H1 → tw D σ H1) : tIfS t tu tw D σ H := h H (Ex.refl H) _ fun H1 e => iteF (k H1 e)
theorem s_yes (h : EvT t σ H true) (k : ∀ H1, Ex H H1 → tu D σ H1) : tIfS t tu tw D σ H := h H (Ex.refl H) _ fun H1 e => iteT (k H1 e)
/-- an if without else whose test is False -/
theorem q_pass (h : EvT t σ H false) (k : ∀ H1, Ex H H1 → tz D σ H1) : tSeq (tIfS t tu tNext) tz D σ H := q_no h k
/-- x, y = a tuple -/
theorem q_unp2 {i j : Nat} {p : Addr} {n : Nat} (hn : n = 2) (h : Ev te σ H (.ref p)) (hp : H p = some (.tup [x, y])) (k : ∀ H1, Ex H H1 → tz D ((σ.set i (some x)).set j (some y)) H1) : tSeq (tAsg te (gTup K n (gCons (gName i) (gCons (gName j) gNil)))) tz D σ H :=
  h H (Ex.refl H) _ fun H1 e => ⟨p, [x, y], rfl, SqT.of (e _ _ hp), hn.symm, x, [y], rfl, y, [], rfl, rfl, k H1 e⟩
end
/-! ### comprehensions -/
section
variable {α : Type} {K : PySem.W.Frag} {tt : TT} {te tl : TE} {j k : Nat} {σ : L2.St} {H : Hp}
theorem evb_of {t : TT} {b : Bool} {H1 : Hp} (h : EvT t σ H b) (e : Same H H1) : EvB t σ H1 b := fun C k => h H1 e C k
/-- [e for x in xs if t] -/
theorem el_lc (xs : List α) (enc : α → V) (f : α → Bool) (v : α → V) {a : Addr} (hl : Ev tl σ H (.ref a)) (ha : SqL K H a (xs.map enc)) (hz : xs.length ≤ 100000)
    (ht : ∀ x, x ∈ xs → EvT tt ((wipe σ [j]).set j (some (enc x))) H (f x)) (he : ∀ x, x ∈ xs → f x = true → Ev te ((wipe σ [j]).set j (some (enc x))) H (v x)) :
    EvL (tLc (iList K tl) (gName j) tt te [j]) σ H ((xs.filter f).map v) := fun H1 e Q q => hl H1 e _ fun H2 e2 => by
  refine ⟨a, rfl, ⟨_, ex_l (e.trans e2) ha⟩, ?_⟩
  refine lc_one (walk_list (xs := xs.map enc)) xs enc (by rw [List.length_map]) (fun i H x H' hi y => ?_) (by rw [List.length_map]; exact hz) (fun H' s => ex_l ((e.trans e2).trans s) ha) f (fun x y _ => y = v x)
    (fun x H3 hm s => evb_of (ht x hm) ((e.trans e2).trans s)) (fun x H3 D zs hm s1 _ _ hf C c => he x hm hf H3 ((e.trans e2).trans s1) C fun H4 e4 => c _ H4 e4 fun _ _ => rfl) (fun D H' ys hD s ey p => ?_)
  · obtain ⟨h1, h2⟩ := y
    rw [List.getElem?_map] at h2
    cases q : xs[i]? with
    | none => rw [q] at h2; cases h2
    | some b =>
      rw [q] at h2
      exact ⟨h1, b, rfl, (Option.some.inj h2).symm⟩
  · rw [paired_map p] at ey
    exact q D H' (fresh_back e2 hD) (e2.trans s) ey
/-- new things made: R tells of each, of its own object alone -/
theorem ex_lc (xs : List α) (enc : α → V) (f : α → Bool) (R : α → V → Hp → Prop) {a : Addr} (hl : Ev tl σ H (.ref a)) (ha : SqL K H a (xs.map enc)) (hz : xs.length ≤ 100000)
    (ht : ∀ x, x ∈ xs → EvT tt ((wipe σ [j]).set j (some (enc x))) H (f x))
    (he : ∀ x, x ∈ xs → f x = true → EvX te ((wipe σ [j]).set j (some (enc x))) H fun y H1 H2 => ∀ D H3, (∃ zs, H1 D = some (.lst zs)) → But D H2 H3 → R x y H3) :
    EvX (tLc (iList K tl) (gName j) tt te [j]) σ H fun v H1 H2 => ∃ D ys, v = .ref D ∧ H1 D = none ∧ H2 D = some (.lst ys) ∧ Paired (fun x y => R x y H2) (xs.filter f) ys := fun H1 e Q q => hl H1 e _ fun H2 e2 => by
  refine ⟨a, rfl, ⟨_, ex_l (e.trans e2) ha⟩, ?_⟩
  refine lc_one (walk_list (xs := xs.map enc)) xs enc (by rw [List.length_map]) (fun i H x H' hi y => ?_) (by rw [List.length_map]; exact hz) (fun H' s => ex_l ((e.trans e2).trans s) ha) f R
    (fun x H3 hm s => evb_of (ht x hm) ((e.trans e2).trans s)) (fun x H3 D zs hm s1 _ hz1 hf C c => he x hm hf H3 ((e.trans e2).trans s1) C fun y H4 e4 r => c y H4 e4 fun H5 b => r D H5 ⟨zs, hz1⟩ b) (fun D H' ys hD s ey p => q _ H' (e2.trans s) ⟨D, ys, rfl, fresh_back e2 hD, ey, p⟩)
  obtain ⟨h1, h2⟩ := y
  rw [List.getElem?_map] at h2
  cases q : xs[i]? with
  | none => rw [q] at h2; cases h2
  | some b =>
    rw [q] at h2
    exact ⟨h1, b, rfl, (Option.some.inj h2).symm⟩
theorem ev_allL (xs : List α) (enc : α → V) {a : Addr} (hl : Ev tl σ H (.ref a)) (ha : SqL K H a (xs.map enc)) (hz : xs.length ≤ 100000)
    (he : ∀ x, x ∈ xs → Ev te ((wipe σ [j]).set j (some (enc x))) H (.bl true)) : Ev (tCB (rAll K) (tCons (tLc (iList K tl) (gName j) tYes te [j]) tNil)) σ H (.bl true) := fun H1 e Q q => by
  show tLc (iList K tl) (gName j) tYes te [j] σ H1 fun x H2 => rAll K [x] H2 Q
  exact el_lc (K := K) xs enc (fun _ => true) (fun _ => .bl true) hl ha hz (fun _ _ => et_yes) (fun x m _ => he x m) H1 e _ fun p H2 np e2 hp => by
    rw [bls_of] at hp
    refine ⟨p, _, rfl, SqL.of hp, ?_⟩
    have e3 : ((xs.filter fun _ => true).map fun _ => true).all id = true := List.all_eq_true.mpr fun b m => by
      obtain ⟨_, _, h⟩ := List.mem_map.mp m
      exact h.symm
    rw [e3]
    exact q H2 e2
end
theorem kit_int_int : kitB "int" "int" = some true := by decide +kernel
theorem kit_int_bool : kitB "int" "bool" = some false := by decide +kernel
theorem kit_str_str : kitB "str" "str" = some true := by decide +kernel
theorem kit_list_list : kitB "list" "list" = some true := by decide +kernel
theorem kit_tuple_tuple : kitB "tuple" "tuple" = some true := by decide +kernel
theorem dnI {i : Int} : decide (V.int i = V.non) = false := decide_eq_false (fun h => nomatch h)
theorem dnS {z : Str} : decide (V.str z = V.non) = false := decide_eq_false (fun h => nomatch h)
section
variable {H : Hp}
theorem rv_eqS {i j : Str} : RV rEq (.str i) (.str j) H (.bl (decide (V.str i = V.str j))) := rv_eq rfl
theorem rv_eqI {i j : Int} : RV rEq (.int i) (.int j) H (.bl (decide (V.int i = V.int j))) := rv_eq rfl
theorem rv_eqB {i j : Bool} : RV rEq (.bl i) (.bl j) H (.bl (decide (V.bl i = V.bl j))) := rv_eq rfl
theorem rv_neS {i j : Str} : RV rNe (.str i) (.str j) H (.bl (!decide (V.str i = V.str j))) := rv_ne rfl
theorem rv_neI {i j : Int} : RV rNe (.int i) (.int j) H (.bl (!decide (V.int i = V.int j))) := rv_ne rfl
theorem rv_neB {i j : Bool} : RV rNe (.bl i) (.bl j) H (.bl (!decide (V.bl i = V.bl j))) := rv_ne rfl
theorem rv_eqIN {i : Int} : RV rEq (.int i) .non H (.bl (decide (V.int i = V.non))) := rv_eq rfl
theorem rv_eqNI {i : Int} : RV rEq .non (.int i) H (.bl (decide (V.non = V.int i))) := rv_eq rfl
theorem rv_eqNN : RV rEq .non .non H (.bl (decide (V.non = V.non))) := rv_eq rfl
end
section
variable {K : PySem.W.Frag} {σ : L2.St} {H : Hp} {te ta tb tc : TE} {t u : TT} {b b' : Bool} {x y z : V} {r r' : R2}
theorem et_orF (h1 : EvT t σ H false) (h2 : EvT u σ H false) : EvT (tOr t u) σ H false := et_or h1 fun _ => h2
theorem et_orT (h1 : EvT t σ H true) : EvT (tOr t u) σ H true := et_or (b := true) h1 fun h => nomatch h
theorem et_orT2 (h1 : EvT t σ H false) (h2 : EvT u σ H true) : EvT (tOr t u) σ H true := et_or h1 fun _ => h2
theorem et_andT (h1 : EvT t σ H true) (h2 : EvT u σ H true) : EvT (tAnd t u) σ H true := et_and h1 fun _ => h2
theorem et_andF (h1 : EvT t σ H false) : EvT (tAnd t u) σ H false := et_and (b := false) h1 fun h => nomatch h
theorem et_andF2 (h1 : EvT t σ H true) (h2 : EvT u σ H false) : EvT (tAnd t u) σ H false := et_and h1 fun _ => h2
theorem et_notF (h : EvT t σ H true) : EvT (tNot t) σ H false := et_not h
theorem et_notT (h : EvT t σ H false) : EvT (tNot t) σ H true := et_not h
theorem et_leaf (h : Ev te σ H (.bl b')) (e : b' = b) : EvT (tTest te) σ H b := e ▸ et_test h
theorem et_leafB (h : Ev te σ H (.bl b')) (e : b' = b) : EvT (tB te) σ H b := e ▸ et_B h
theorem et_chT {a : Bool} (ha : Ev ta σ H x) (hb : Ev tb σ H y) (hr : RV r x y H (.bl a)) (e : a = true) (hc : Ev tc σ H z) (hr' : RV r' y z H (.bl b)) (e' : b = true) : EvT (tTest (tChain r r' ta tb tc)) σ H true := by
  subst e e'
  exact et_test (ev_chain ha hb hr (fun _ => hc) fun _ => hr')
end
end HC

set_option Elab.async false
set_option linter.all false
set_option maxRecDepth 100000
set_option maxHeartbeats 4000000
/-! sorted of a list of pairs (an int, an int or a text), the pairs with equal first ones alike in kind: sorted, stable, of any length. -/
namespace HC
open PySem PySem.Spec PyProof.Rows L2
/-- an int before another, a text before another, an int before a text -/
def kLt : Key → Key → Bool
  | .inl i, .inl j => decide (i < j)
  | .inr a, .inr b => decide (a.cps.toList < b.cps.toList)
  | .inl _, .inr _ => true
  | .inr _, .inl _ => false
def keyLt (p q : Int × Key) : Bool := if p.1 = q.1 then kLt p.2 q.2 else decide (p.1 < q.1)
theorem kLt_asym (x y : Key) (h : kLt x y = true) : kLt y x = false := by
  cases x with
  | inl i => cases y with
    | inl j =>
      have a := of_decide_eq_true (p := i < j) h
      exact decide_eq_false (p := j < i) (by omega)
    | inr b => rfl
  | inr a => cases y with
    | inl j => cases h
    | inr b => exact decide_eq_false (List.lt_asymm (of_decide_eq_true (p := a.cps.toList < b.cps.toList) h))
theorem kLt_tr (x y z : Key) (h1 : kLt x y = false) (h2 : kLt y z = false) : kLt x z = false := by
  cases x with
  | inl i => cases y with
    | inl j => cases z with
      | inl k =>
        have a := of_decide_eq_false (p := i < j) h1
        have b := of_decide_eq_false (p := j < k) h2
        exact decide_eq_false (p := i < k) (by omega)
      | inr c => cases h2
    | inr b => cases h1
  | inr a => cases y with
    | inl j => cases z with
      | inl k => rfl
      | inr c => cases h2
    | inr b => cases z with
      | inl k => rfl
      | inr c =>
        have a' := of_decide_eq_false (p := a.cps.toList < b.cps.toList) h1
        have b' := of_decide_eq_false (p := b.cps.toList < c.cps.toList) h2
        exact decide_eq_false (p := a.cps.toList < c.cps.toList) (List.not_lt.mpr (List.le_trans (List.not_lt.mp b') (List.not_lt.mp a')))
theorem keyLt_asym (p q : Int × Key) (h : keyLt p q = true) : keyLt q p = false := by
  unfold keyLt at h ⊢
  by_cases e : p.1 = q.1
  · rw [if_pos e] at h
    rw [if_pos e.symm]
    exact kLt_asym _ _ h
  · rw [if_neg e] at h
    rw [if_neg (Ne.symm e)]
    have a := of_decide_eq_true h
    exact decide_eq_false (by omega)
theorem keyLt_tr (p q r : Int × Key) (h1 : keyLt p q = false) (h2 : keyLt q r = false) : keyLt p r = false := by
  unfold keyLt at h1 h2 ⊢
  by_cases e : p.1 = q.1
  · rw [if_pos e] at h1
    by_cases e' : q.1 = r.1
    · rw [if_pos e'] at h2
      rw [if_pos (e.trans e')]
      exact kLt_tr _ _ _ h1 h2
    · rw [if_neg e'] at h2
      rw [if_neg (by rw [e]; exact e'), e]
      exact h2
  · rw [if_neg e] at h1
    have a := of_decide_eq_false h1
    by_cases e' : q.1 = r.1
    · rw [← e', if_neg e]
      exact h1
    · rw [if_neg e'] at h2
      have b := of_decide_eq_false h2
      rw [if_neg (by omega)]
      exact decide_eq_false (by omega)
theorem keyLt_swo : SrtO.Swo keyLt := ⟨fun x y => keyLt_asym x y, fun x y z a b => keyLt_tr z y x b a⟩
/-- alike in kind -/
def kAlike : Key → Key → Prop
  | .inl _, .inl _ => True
  | .inr _, .inr _ => True
  | _, _ => False
def alike (p q : Int × Key) : Prop := p.1 = q.1 → kAlike p.2 q.2
def IsKeyT (h : Heap) (v : Value) (p : Int × Key) : Prop := ∃ a o t y n, v = .ref a ∧ h.get? a = some o ∧ o.cls = .type "tuple" ∧ o.data = .seq #[.int p.1 t, y] n ∧ keyIs p.2 y = true
theorem IsKeyT.keeps {h h' : Heap} {v : Value} {p : Int × Key} (q : IsKeyT h v p) (k : ∀ b o, h.get? b = some o → o.cls = .type "tuple" → h'.get? b = some o) : IsKeyT h' v p := by
  obtain ⟨a, o, t, y, n, e, ho, hc, hd, hk⟩ := q
  exact ⟨a, o, t, y, n, e, k a o ho hc, hc, hd, hk⟩
section
variable {prog : Program} {w : World} {A : Around} {E : Value → Shared → Prop} {s : Shared}
open Srt
theorem firsts_key {h : Heap} : ∀ {vs : List Value}, (∀ v ∈ vs, ∃ p, IsKeyT h v p) → ∃ fs : List Value, PySem.W.KatTups h vs fs ∧ fs.length = vs.length ∧ ∀ f ∈ fs, ∃ x t, f = Value.int x t
  | [], _ => ⟨[], PySem.W.KatTups.nil, rfl, fun _ hm => by simp at hm⟩
  | v :: vs, hp => by
    obtain ⟨fs, h1, h2, h3⟩ := firsts_key (vs := vs) fun v' hm => hp v' (List.mem_cons_of_mem _ hm)
    obtain ⟨p, a, o, t, y, n, e, ho, hc, hd, _⟩ := hp v (List.mem_cons_self ..)
    subst e
    refine ⟨.int p.1 t :: fs, PySem.W.KatTups.cons ho hc hd rfl h1, by rw [List.length_cons, List.length_cons, h2], fun f hm => ?_⟩
    rcases List.mem_cons.mp hm with rfl | hm
    · exact ⟨p.1, t, rfl⟩
    · exact h3 f hm
theorem key_cmp {vs : List Value} {k : Value → Int × Key} (hp : ∀ v ∈ vs, IsKeyT s.heap v (k v)) (ha : ∀ v ∈ vs, ∀ u ∈ vs, alike (k v) (k u)) : SrtO.Cmp prog w A s (tuples' true) (fun p => p.1 ∈ vs) (SrtO.lt2 fun v u => keyLt (k v) (k u)) := by
  intro p q hm hm'
  have h1 := hp _ hm
  have h2 := hp _ hm'
  have hal := ha _ hm _ hm'
  show wpAny (model prog w) A (keyLt' (tuples' true) p.1 q.1) (fun r s' => s' = s ∧ r = keyLt (k p.1) (k q.1)) (fun _ _ => False) s
  unfold keyLt
  generalize k p.1 = kp at h1 hal ⊢
  generalize k q.1 = kq at h2 hal ⊢
  obtain ⟨x, y⟩ := kp
  obtain ⟨x', y'⟩ := kq
  obtain ⟨a, o, t, u, n, e, ho, hc, hd, hk⟩ := h1
  obtain ⟨a', o', t', u', n', e', ho', hc', hd', hk'⟩ := h2
  rw [e, e']
  dsimp only at hk hk' hd hd' hal ⊢
  refine PySem.W.kat_lt ho hd ho' hd' ?_
  show PySem.W.KatLex prog w A true (decide (2 < 2)) _ [(.int x t, .int x' t'), (u, u')] 0 s
  refine PySem.W.kat_cons (SeqAt.EqAt.int_int x t x' t' prog w _ _ ?_)
  refine PySem.W.kat_go (fun e1 => ?_) (fun e1 => ?_)
  · have ex : x = x' := by simpa using e1
    have al : kAlike y y' := hal ex
    refine PySem.W.kat_yes (PySem.W.kat_cons ?_)
    rw [if_pos ex]
    cases y with
    | inl i => cases y' with
      | inr b => exact al.elim
      | inl j =>
        obtain ⟨_, _, hh, rfl⟩ | ⟨_, _, hh, _⟩ := keyIs_shape hk
        · cases hh
          obtain ⟨_, _, hh, rfl⟩ | ⟨_, _, hh, _⟩ := keyIs_shape hk'
          · cases hh
            refine SeqAt.EqAt.int_int i _ j _ prog w _ _ ?_
            refine PySem.W.kat_go (fun e2 => ?_) (fun e2 => ?_)
            · have ey : i = j := by simpa using e2
              exact PySem.W.kat_yes (PySem.W.kat_nil ⟨rfl, by
                show (decide (2 < 2) : Bool) = decide (i < j)
                rw [ey, decide_eq_false (Int.lt_irrefl j)] <;> rfl⟩)
            · exact PySem.W.kat_no (PySem.W.kat_one _ _ (PyProof.Rows.lt_int ⟨rfl, rfl⟩))
          · cases hh
        · cases hh
    | inr b => cases y' with
      | inl j => exact al.elim
      | inr c =>
        obtain ⟨_, _, hh, _⟩ | ⟨_, _, hh, rfl⟩ := keyIs_shape hk
        · cases hh
        · cases hh
          obtain ⟨_, _, hh, _⟩ | ⟨_, _, hh, rfl⟩ := keyIs_shape hk'
          · cases hh
          · cases hh
            refine wpAny_eqBool_str ?_
            refine PySem.W.kat_go (fun e2 => ?_) (fun e2 => ?_)
            · have ey : b = c := by simpa using e2
              exact PySem.W.kat_yes (PySem.W.kat_nil ⟨rfl, by
                show (decide (2 < 2) : Bool) = decide (b.cps.toList < c.cps.toList)
                rw [ey, decide_eq_false (List.lt_irrefl _)] <;> rfl⟩)
            · refine PySem.W.kat_no (PySem.W.kat_one _ _ ?_)
              exact lt_str ⟨rfl, rfl⟩
  · have ex : ¬ x = x' := by simpa using e1
    rw [if_neg ex]
    exact PySem.W.kat_no (oneLt_int ⟨rfl, rfl⟩)
theorem keys_sortable {a : Addr} {vs : List Value} {k : Value → Int × Key} (h0 : 0 < vs.length) (hp : ∀ v ∈ vs, IsKeyT s.heap v (k v)) (hal : ∀ v ∈ vs, ∀ u ∈ vs, alike (k v) (k u)) (ha : ∀ o, s.heap.get? a = some o → o.cls ≠ .type "tuple") :
    SrtO.SortableO prog w A s a vs fun v u => keyLt (k v) (k u) := by
  intro h' keep
  have hp' : ∀ v ∈ vs, IsKeyT h' v (k v) := fun v hm => (hp v hm).keeps fun b o e c => keep b o (fun z => by subst z; exact ha o e c) e
  obtain ⟨fs, h1, h2, h3⟩ := firsts_key fun v hm => ⟨_, hp' v hm⟩
  refine ⟨tuples' true, fun Q E hq => ?_, key_cmp hp' hal⟩
  refine PySem.W.kat_kind (T := .type "int") h1 (by omega) (fun f hm => ?_) (by rfl) ?_
  · obtain ⟨x, t, rfl⟩ := h3 f hm
    exact PySem.W.Looks.now
  · have e : (Value.type "int" != Value.type "tuple") = true := by first | decide +kernel | rfl | decide
    rw [e]
    exact hq
theorem sorted_keysO {l : Addr} {vs : List Value} {k : Value → Int × Key} {Q : Value → Shared → Prop} (hl : s.heap.IsList l vs.toArray) (hz : vs.length ≤ sizeLine) (hp : ∀ v ∈ vs, IsKeyT s.heap v (k v)) (hal : ∀ v ∈ vs, ∀ u ∈ vs, alike (k v) (k u))
    (h : ∀ (h' : Heap) (d : Addr) (out : List Value), SrtO.Srtd (fun v u => keyLt (k v) (k u)) out → SrtO.Stb (fun v u => keyLt (k v) (k u)) out vs → (∀ b o, s.heap.get? b = some o → h'.get? b = some o) → s.heap.objs.size ≤ d → (∃ n, h'.get? d = some (seqObj "list" out.toArray n)) → Q (.ref d) { s with heap := h' }) :
    wpAny (model prog w) A (call (.builtin "sorted") [.ref l]) Q E s := by
  have O : SrtO.Swo fun v u => keyLt (k v) (k u) := ⟨fun x y => keyLt_asym _ _, fun x y z a b => keyLt_tr _ _ _ b a⟩
  refine SrtO.sorted_ord O hl hz (fun h2 h₁ a ha kk => ?_) fun out hs hb => ?_
  · refine keys_sortable (s := { s with heap := h₁ }) (by omega) (fun v hm => (hp v hm).keeps fun b o e _ => (kk b o e).2) hal fun o e => ?_
    have e' : some o = some (seqObj "list" vs.toArray 0) := e.symm.trans ha
    cases e'
    intro c
    exact absurd (Value.type.inj c) (by decide)
  · exact h _ _ out hs hb (fun b o e => sortedAll_old e) (Nat.le_succ _) (sortedAll_at s.heap vs out.toArray)
end
/-- x before y -/
abbrev ltK (k : V → Int × Key) (x y : V) : Bool := keyLt (k x) (k y)
theorem ltK_swo (k : V → Int × Key) : SrtO.Swo (ltK k) := ⟨fun x y => keyLt_asym _ _, fun x y z a b => keyLt_tr _ _ _ b a⟩
def rSortedK (K : PySem.W.Frag) : List V → Hp → VK → Prop := fun vs H Q => ∃ (a : Addr) (xs : List V) (k : V → Int × Key), vs = [V.ref a] ∧ SqL K H a xs ∧ (∀ x ∈ xs, ∃ t, x = V.ref t ∧ H t = some (.tup [.int (k x).1, kV (k x).2])) ∧ (∀ x ∈ xs, ∀ y ∈ xs, alike (k x) (k y)) ∧
  ∀ ys p, SrtO.Srtd (ltK k) ys → SrtO.Stb (ltK k) ys xs → H p = none → Q (.ref p) (upd H p (.lst ys))
section
variable {X : Cx}
theorem cr_sortedK : CallR X (.builtin "sorted") (rSortedK X.K) := by
  intro pins s σ H vs us Q I r h
  obtain ⟨a, xs, k, rfl, hs, hx, hal, q⟩ := h
  obtain ⟨its, rv, hl, hz⟩ := I.list hs
  obtain ⟨u, rfl, ru⟩ := vals1 r
  obtain rfl : u = Value.ref a := ru
  obtain ⟨e1, e2⟩ := refs_back rv fun x m => by
    obtain ⟨t, e, _⟩ := hx x m
    exact ⟨t, e⟩
  have mem : ∀ t, Value.ref t ∈ its → V.ref t ∈ xs := fun t hv => by rw [e1]; exact List.mem_map.mpr ⟨_, hv, rfl⟩
  refine sorted_keysO (k := fun u => k (backV u)) hl.isList (by rw [← rv.length]; exact hz) (fun v hv => ?_) (fun v hv u hu => ?_) fun h' d out h1 h2 kp hd hn => ?_
  · obtain ⟨t, rfl⟩ := e2 v hv
    obtain ⟨t', e, ht⟩ := hx _ (mem t hv)
    cases e
    obtain ⟨_, its2, r2, o, ho, hc, n, hd⟩ := I.hok _ _ ht
    obtain ⟨u1, u2, rfl, ri, rj⟩ := vals2 r2
    obtain ⟨t1, rfl⟩ := ri
    refine ⟨t, o, t1, u2, n, rfl, ho, hc, hd, ?_⟩
    show keyIs (k (V.ref t)).2 u2 = true
    cases q2 : (k (V.ref t)).2 with
    | inl i =>
      rw [q2] at rj
      obtain ⟨t2, rfl⟩ := rj
      exact keyIs_int i t2
    | inr x =>
      rw [q2] at rj
      obtain ⟨t2, rfl⟩ := rj
      exact keyIs_str x t2
  · obtain ⟨t, rfl⟩ := e2 v hv
    obtain ⟨t', rfl⟩ := e2 u hu
    exact hal _ (mem t hv) _ (mem t' hu)
  · have h3 : ∀ u ∈ out, ∃ a, u = Value.ref a := fun u hu => e2 u (h2.perm.mem_iff.mp hu)
    obtain ⟨n, hn⟩ := hn
    have hb : SrtO.Stb (ltK k) (out.map backV) xs := by
      rw [e1]
      exact SrtO.Stb.map (ltK_swo k) backV h2
    refine ⟨.ref d, upd H d (.lst (out.map backV)), I.laid (t' := s.toks) kp hd ⟨?_, out, n, vals_back h3, hn⟩, rfl, q _ d (SrtO.srtd_map h1) hb (I.hok.fresh hd)⟩
    rw [hb.len]
    exact hz
end
end HC

set_option Elab.async false
set_option linter.all false
set_option maxRecDepth 100000
set_option maxHeartbeats 2000000
/-! Ranks: how many different keys are less. Plain lists. -/
namespace HC
open PySem PySem.Spec PyProof.Rows L2
theorem str_ext {a b : Str} (h : a.cps.toList = b.cps.toList) : a = b := by
  obtain ⟨x⟩ := a
  obtain ⟨y⟩ := b
  have e : x = y := Array.ext' h
  rw [e]
theorem kLt_tri (x y : Key) (h1 : kLt x y = false) (h2 : kLt y x = false) : x = y := by
  cases x with
  | inl i => cases y with
    | inl j =>
      have a := of_decide_eq_false (p := i < j) h1
      have b := of_decide_eq_false (p := j < i) h2
      rw [show i = j by omega]
    | inr b => cases h1
  | inr a => cases y with
    | inl j => cases h2
    | inr b =>
      have a' := of_decide_eq_false (p := a.cps.toList < b.cps.toList) h1
      have b' := of_decide_eq_false (p := b.cps.toList < a.cps.toList) h2
      have e : a.cps.toList = b.cps.toList := List.le_antisymm (List.not_lt.mp b') (List.not_lt.mp a')
      rw [str_ext e]
theorem keyLt_tri (p q : Int × Key) (h1 : keyLt p q = false) (h2 : keyLt q p = false) : p = q := by
  unfold keyLt at h1 h2
  by_cases e : p.1 = q.1
  · rw [if_pos e] at h1
    rw [if_pos e.symm] at h2
    exact Prod.ext e (kLt_tri _ _ h1 h2)
  · rw [if_neg e] at h1
    rw [if_neg (Ne.symm e)] at h2
    have a := of_decide_eq_false h1
    have b := of_decide_eq_false h2
    omega
theorem keyLt_irr (p : Int × Key) : keyLt p p = false := keyLt_swo.refl p
theorem keyLt_trans {p q r : Int × Key} (h1 : keyLt p q = true) (h2 : keyLt q r = true) : keyLt p r = true := keyLt_swo.ltle h1 (keyLt_asym _ _ h2)
/-- the rank of p among the different keys dk -/
def rkIn (dk : List (Int × Key)) (p : Int × Key) : Nat := dk.countP fun d => keyLt d p
theorem countP_le {α : Type} (f g : α → Bool) : ∀ l : List α, (∀ x ∈ l, f x = true → g x = true) → l.countP f ≤ l.countP g
  | [], _ => Nat.le_refl _
  | x :: l, h => by
    have ih := countP_le f g l fun y m => h y (List.mem_cons_of_mem _ m)
    rw [List.countP_cons, List.countP_cons]
    by_cases e : f x = true
    · rw [if_pos e, if_pos (h x List.mem_cons_self e)]
      omega
    · rw [if_neg e]
      split <;> omega
theorem countP_lt {α : Type} (f g : α → Bool) : ∀ l : List α, (∀ x ∈ l, f x = true → g x = true) → (∃ x ∈ l, f x = false ∧ g x = true) → l.countP f < l.countP g
  | [], _, h => by
    obtain ⟨_, m, _⟩ := h
    cases m
  | x :: l, h, h2 => by
    have le := countP_le f g l fun y m => h y (List.mem_cons_of_mem _ m)
    rw [List.countP_cons, List.countP_cons]
    by_cases e : f x = true
    · rw [if_pos e, if_pos (h x List.mem_cons_self e)]
      obtain ⟨y, m, e1, e2⟩ := h2
      rcases List.mem_cons.mp m with q | m
      · rw [q, e] at e1
        cases e1
      · have ih := countP_lt f g l (fun y m => h y (List.mem_cons_of_mem _ m)) ⟨y, m, e1, e2⟩
        omega
    · rw [if_neg e]
      by_cases e3 : g x = true
      · rw [if_pos e3]
        omega
      · obtain ⟨y, m, e1, e2⟩ := h2
        rcases List.mem_cons.mp m with q | m
        · rw [q] at e2
          exact absurd e2 e3
        · have ih := countP_lt f g l (fun y m => h y (List.mem_cons_of_mem _ m)) ⟨y, m, e1, e2⟩
          rw [if_neg e3]
          omega
theorem rk_lt {dk : List (Int × Key)} {p q : Int × Key} (hp : p ∈ dk) (h : keyLt p q = true) : rkIn dk p < rkIn dk q :=
  countP_lt _ _ dk (fun x _ hx => keyLt_trans hx h) ⟨p, hp, keyLt_irr p, h⟩
theorem rk_le {dk : List (Int × Key)} {p q : Int × Key} (h : keyLt p q = false) : rkIn dk q ≤ rkIn dk p :=
  countP_le _ _ dk fun x _ hx => keyLt_swo.ltle hx h
theorem rk_iff {dk : List (Int × Key)} {p q : Int × Key} (hp : p ∈ dk) : ((rkIn dk p : Int) < (rkIn dk q : Int)) ↔ keyLt p q = true := by
  constructor
  · intro h
    cases e : keyLt p q with
    | true => rfl
    | false =>
      have := rk_le (dk := dk) e
      omega
  · intro h
    have := rk_lt hp h
    omega
/-- a key above all others joins -/
theorem rk_snoc_old {dk : List (Int × Key)} {p q : Int × Key} (h : keyLt p q = false) : rkIn (dk ++ [p]) q = rkIn dk q := by
  unfold rkIn
  rw [List.countP_append, List.countP_cons, List.countP_nil, if_neg (by rw [h]; decide)]
  rfl
theorem rk_snoc_new {dk : List (Int × Key)} {p : Int × Key} (h : ∀ d ∈ dk, keyLt d p = true) : rkIn (dk ++ [p]) p = dk.length := by
  rw [rk_snoc_old (keyLt_irr p)]
  exact List.countP_eq_length.mpr h
/-- ranks by what they are for -/
structure RankOk (ps : List (Int × Key)) (rk : List Int) : Prop where
  len : rk.length = ps.length
  lt : ∀ (i j : Nat) p q a b, ps[i]? = some p → ps[j]? = some q → rk[i]? = some a → rk[j]? = some b → (a < b ↔ keyLt p q = true)
theorem rankOk_of {ps dk : List (Int × Key)} (h : ∀ p ∈ ps, p ∈ dk) : RankOk ps (ps.map fun p => (rkIn dk p : Int)) := by
  refine ⟨List.length_map _, fun i j p q a b hp hq ha hb => ?_⟩
  rw [List.getElem?_map, hp] at ha
  rw [List.getElem?_map, hq] at hb
  have ea : (rkIn dk p : Int) = a := Option.some.inj ha
  have eb : (rkIn dk q : Int) = b := Option.some.inj hb
  rw [← ea, ← eb]
  exact rk_iff (h p (List.mem_of_getElem? hp))
end HC

set_option Elab.async false
set_option linter.all false
set_option maxRecDepth 100000
set_option maxHeartbeats 2000000
/-! What the cells, rows, tables are; plain data. -/
namespace HC
open PySem PySem.Spec PyProof.Rows L2
inductive Kind where
  | num | txt | cas
  deriving DecidableEq
def Kind.s : Kind → Str
  | .num => "number"
  | .txt => "text"
  | .cas => "caseless"
abbrev Kind.v (k : Kind) : V := .str k.s
def numCells : List Int := [0, 1, 2, -1, 100000000000000000000]
def txtCells : List Str := ["a", "b", "B", "ab", "A", "_"]
inductive CellOk : Kind → V → Prop where
  | non (k : Kind) : CellOk k .non
  | num (i : Int) (h : i ∈ numCells) : CellOk .num (.int i)
  | str (k : Kind) (s : Str) (hk : k ≠ .num) (h : s ∈ txtCells) : CellOk k (.str s)
abbrev RowOk (ks : List Kind) (row : List V) : Prop := Paired CellOk ks row
def RowAt (H : Hp) (v : V) (row : List V) : Prop := ∃ a, v = .ref a ∧ H a = some (.lst row)
theorem RowAt.mono {H H' : Hp} {v : V} {row : List V} (s : Same H H') (h : RowAt H v row) : RowAt H' v row := by
  obtain ⟨a, e, h⟩ := h
  exact ⟨a, e, s _ _ h⟩
structure TabAt (H : Hp) (v : V) (ks : List Kind) (rows : List (List V)) : Prop where
  ex : ∃ t a b rs, v = .ref t ∧ H t = some (.tup [.ref a, .ref b]) ∧ H a = some (.lst (ks.map Kind.v)) ∧ H b = some (.lst rs) ∧ Paired (RowAt H) rs rows
theorem TabAt.mono {H H' : Hp} {v : V} {ks : List Kind} {rows : List (List V)} (s : Same H H') (h : TabAt H v ks rows) : TabAt H' v ks rows := by
  obtain ⟨t, a, b, rs, e, h1, h2, h3, h4⟩ := h.ex
  exact ⟨t, a, b, rs, e, s _ _ h1, s _ _ h2, s _ _ h3, Paired.mapP h4 fun _ _ q => RowAt.mono s q⟩
structure TabOk (ks : List Kind) (rows : List (List V)) : Prop where
  k1 : 1 ≤ ks.length
  k8 : ks.length ≤ 8
  r1 : 1 ≤ rows.length
  r60 : rows.length ≤ 60
  ok : ∀ row ∈ rows, RowOk ks row
/-- the key by which a cell is sorted -/
def skey : Kind → V → Int × Key
  | .cas, .str s => (1, .inr (Txt.lower s))
  | _, .str s => (1, .inr s)
  | _, .int i => (1, .inl i)
  | _, _ => (0, .inl 0)
def keyTup (p : Int × Key) : List V := [.int p.1, kV p.2]
def keyL (p : Int × Key) : List Key := [.inl p.1, p.2]
/-- the tuple of a key -/
def KeyAt (H : Hp) (v : V) (p : Int × Key) : Prop := ∃ t, v = .ref t ∧ H t = some (.tup (keyTup p))
theorem KeyAt.mono {H H' : Hp} {v : V} {p : Int × Key} (s : Same H H') (h : KeyAt H v p) : KeyAt H' v p := by
  obtain ⟨t, e, h⟩ := h
  exact ⟨t, e, s _ _ h⟩
theorem skey_alike (k : Kind) {u v : V} (hu : CellOk k u) (hv : CellOk k v) : alike (skey k u) (skey k v) := by
  cases hu with
  | non => cases hv with
    | non => cases k <;> exact fun _ => trivial
    | num i h => exact fun e => absurd (show (0 : Int) = 1 from e) (by decide)
    | str k s hk h => cases k <;> exact fun e => absurd (show (0 : Int) = 1 from e) (by decide)
  | num i h => cases hv with
    | non => exact fun e => absurd (show (1 : Int) = 0 from e) (by decide)
    | num j h' => exact fun _ => trivial
    | str k s hk h' => exact absurd rfl hk
  | str k s hk h => cases hv with
    | non => cases k <;> exact fun e => absurd (show (1 : Int) = 0 from e) (by decide)
    | num j h' => exact absurd rfl hk
    | str k s' hk' h' => cases k <;> first | exact absurd rfl hk | exact fun _ => trivial
theorem paired_mem {α β : Type} {F : α → β → Prop} : ∀ {xs : List α} {ys : List β}, Paired F xs ys → ∀ {y : β}, y ∈ ys → ∃ x ∈ xs, F x y
  | _, _, .cons h t, y, hy => by
    rcases List.mem_cons.mp hy with e | hy
    · exact ⟨_, List.mem_cons_self, e ▸ h⟩
    · obtain ⟨x, hx, q⟩ := paired_mem t hy
      exact ⟨x, List.mem_cons_of_mem _ hx, q⟩
theorem paired_at {α β : Type} {F : α → β → Prop} : ∀ {xs : List α} {ys : List β} {i : Nat} {x : α} {y : β}, Paired F xs ys → xs[i]? = some x → ys[i]? = some y → F x y
  | _, _, i, _, _, .nil, h, _ => by simp at h
  | _, _, 0, _, _, .cons r t, h, h2 => by
    simp at h h2
    subst h h2
    exact r
  | _, _, i + 1, _, _, .cons r t, h, h2 => paired_at t (by simpa using h) (by simpa using h2)
theorem paired_flip {α β : Type} {F : α → β → Prop} : ∀ {xs : List α} {ys : List β}, Paired F xs ys → Paired (fun y x => F x y) ys xs
  | _, _, .nil => .nil
  | _, _, .cons h t => .cons h (paired_flip t)
end HC

set_option Elab.async false
set_option linter.all false
set_option maxRecDepth 100000
set_option maxHeartbeats 2000000
/-! Comprehensions over anything walked, with any target. -/
namespace HC
open PySem PySem.Spec PyProof.Rows L2 Evl
/-- what a comprehension leaves: a new list, its items told one by one -/
def LcR {α : Type} (xs : List α) (f : α → Bool) (R : α → V → Hp → Prop) : V → Hp → Hp → Prop := fun v H1 H2 => ∃ D ys, v = .ref D ∧ H1 D = none ∧ H2 D = some (.lst ys) ∧ Paired (fun x y => R x y H2) (xs.filter f) ys
/-- the made item y, whatever happens to the list D that is being made -/
def Made (R : V → Hp → Prop) : V → Hp → Hp → Prop := fun y H1 H2 => ∀ D H3, (∃ o, H1 D = some o) → But D H2 H3 → R y H3
theorem lc_gen {α : Type} {J : It} {n : Nat} {G : Hp → Prop} {Y : Nat → Hp → V → Hp → Prop} (w : Walk J n G Y) (xs : List α) (hn : xs.length = n) {g : TG} {vs : List Nat} {slot : α → L2.St}
    {tt : TT} {te : TE} {σ : L2.St} {H : Hp} {Q : VK} (hz : n ≤ 100000) (hG : ∀ H', Same H H' → G H')
    (hg : ∀ i a H1 x H1', xs[i]? = some a → Same H H1 → Y i H1 x H1' → ∀ C : L2.St → Hp → Prop, (∀ H'', Same H1 H'' → C (slot a) H'') → g x (wipe σ vs) H1' C) (hw : ∀ a, wipe (slot a) vs = wipe σ vs)
    (f : α → Bool) (R : α → V → Hp → Prop) (ht : ∀ a, a ∈ xs → EvT tt (slot a) H (f a)) (he : ∀ a, a ∈ xs → f a = true → EvX te (slot a) H (Made (R a)))
    (hd : ∀ v H', Same H H' → LcR xs f R v H H' → Q v H') :
    ∀ D, H D = none → ∃ W : Nat → Nat → Hp → Prop, (∃ m, W 0 m (upd H D (.lst []))) ∧ ∀ i m H, W i m H →
      (J.stop i H ∧ Q (.ref D) H) ∨ (J.go i H ∧ ∃ Nx : Hp → Prop, (∀ H', Nx H' → ∃ m', m' < m ∧ W (i + 1) m' H') ∧ ∀ x H', J.yld i H x H' → g x (wipe σ vs) H' fun σ2 H2 => wipe σ2 vs = wipe σ vs ∧ tt σ2 H2 fun b H3 =>
        if b = true then te σ2 H3 fun y H4 => ∃ acc, H4 D = some (.lst acc) ∧ acc.length < sizeLine ∧ Nx (upd H4 D (.lst (acc ++ [y]))) else Nx H3) := by
  intro D hD
  refine lc_it w (fun i H1 => Same H H1 ∧ ∃ ys, H1 D = some (.lst ys) ∧ ys.length ≤ i ∧ Paired (fun a y => ∀ H'', But D H1 H'' → R a y H'') ((xs.take i).filter f) ys) ?_ (fun i H1 _ p => hG H1 p.1) ?_ ?_
  · exact ⟨same_new hD, [], upd_same, Nat.le_refl _, .nil⟩
  · rintro i x H1 H1' hi ⟨s1, ys, q1, l1, p1⟩ y1
    obtain ⟨a, ha⟩ : ∃ a, xs[i]? = some a := ⟨xs[i]'(by omega), List.getElem?_eq_getElem (by omega)⟩
    have hm : a ∈ xs := List.mem_of_getElem? ha
    refine hg i a H1 x H1' ha s1 y1 _ fun H2 s2 => ⟨hw a, ht a hm H2 (s1.trans s2) _ fun H3 s3' => ?_⟩
    have s3 : Same H1 H3 := Same.trans s2 s3'
    have et : xs.take (i + 1) = xs.take i ++ [a] := by
      rw [List.take_add_one, ha]
      rfl
    cases hf : f a with
    | true =>
      refine iteT (he a hm hf H3 (s1.trans s3) _ fun y H4 s4 r4 => ?_)
      refine ⟨ys, s4 _ _ (s3 _ _ q1), Nat.lt_of_le_of_lt l1 (Nat.lt_of_lt_of_le hi (Nat.le_trans hz (by decide))), same_mut ((s1.trans s3).trans s4) hD, ys ++ [y], upd_same, by rw [List.length_append, List.length_singleton]; omega, ?_⟩
      rw [et, List.filter_append, List.filter_cons, if_pos hf]
      have q2 : Paired (fun a u => ∀ H'', But D (upd H4 D (.lst (ys ++ [y]))) H'' → R a u H'') ((xs.take i).filter f) ys := Paired.mapP p1 fun _ _ z H'' b => z H'' (((But.of (s3.trans s4)).trans But.upd).trans b)
      exact Paired.snoc q2 fun H'' b => r4 D H'' ⟨_, s3 _ _ q1⟩ (But.upd.trans b)
    | false =>
      refine iteF ⟨s1.trans s3, ys, s3 _ _ q1, Nat.le_succ_of_le l1, ?_⟩
      rw [et, List.filter_append, List.filter_cons, if_neg (by rw [hf]; decide)]
      show Paired _ (_ ++ []) _
      rw [List.append_nil]
      exact Paired.mapP p1 fun _ _ z H'' b => z H'' ((But.of s3).trans b)
  · rintro H1 ⟨s1, ys, q1, l1, p1⟩
    rw [List.take_of_length_le (by omega)] at p1
    exact hd _ H1 s1 ⟨D, ys, rfl, hD, q1, Paired.mapP p1 fun _ _ z => z H1 (But.of (Same.refl H1))⟩
section
variable {α : Type} {K : PySem.W.Frag} {tt : TT} {te tl : TE} {ta : TA} {j k : Nat} {σ : L2.St} {H : Hp} {R : α → V → Hp → Prop}
theorem LcR.lst {xs : List α} {f : α → Bool} {v : α → V} (h : EvX te σ H (LcR xs f fun x y _ => y = v x)) : EvL te σ H ((xs.filter f).map v) := EvX.lst (h.imp fun y H1 H2 _ _ ⟨D, ys, e, n, hp, p⟩ => ⟨D, e, n, by rw [← paired_map p]; exact hp⟩)
theorem made_val {v : V} (h : Ev te σ H v) : EvX te σ H (Made fun y _ => y = v) := (EvX.of h).imp fun y _ _ _ _ e _ _ _ _ => e
theorem LcR.mono {xs : List α} {f : α → Bool} {v : V} {H1 H0 H2 : Hp} (e : Ex H0 H1) (h : LcR xs f R v H1 H2) : LcR xs f R v H0 H2 := by
  obtain ⟨D, ys, h1, h2, h3, h4⟩ := h
  exact ⟨D, ys, h1, fresh_back e h2, h3, h4⟩
/-- over a list -/
theorem ex_lcL (xs : List α) (enc : α → V) (f : α → Bool) (R : α → V → Hp → Prop) {a : Addr} (hl : Ev tl σ H (.ref a)) (ha : SqL K H a (xs.map enc)) (hz : xs.length ≤ 100000)
    (ht : ∀ x, x ∈ xs → EvT tt ((wipe σ [j]).set j (some (enc x))) H (f x)) (he : ∀ x, x ∈ xs → f x = true → EvX te ((wipe σ [j]).set j (some (enc x))) H (Made (R x))) :
    EvX (tLc (iList K tl) (gName j) tt te [j]) σ H (LcR xs f R) := fun H1 e Q q => hl H1 e _ fun H2 e2 => by
  refine ⟨a, rfl, ⟨_, ex_l (e.trans e2) ha⟩, ?_⟩
  refine lc_gen (walk_list (xs := xs.map enc)) xs (by rw [List.length_map]) (slot := fun x => (wipe σ [j]).set j (some (enc x))) (by rw [List.length_map]; exact hz) (fun H' s => ex_l ((e.trans e2).trans s) ha) (fun i x H1 v H1' hx s y C c => ?_) (fun _ => wipe1) f R
    (fun x hm => (ht x hm).mono (e.trans e2)) (fun x hm hf => (he x hm hf).mono (e.trans e2)) fun v H' s r => q v H' (e2.trans s) (r.mono e2)
  obtain ⟨h1, h2⟩ := y
  rw [List.getElem?_map, hx] at h2
  have h3 : enc x = v := Option.some.inj h2
  subst h1 h3
  exact c _ (Same.refl _)
theorem el_lcL (xs : List α) (enc : α → V) (f : α → Bool) (v : α → V) {a : Addr} (hl : Ev tl σ H (.ref a)) (ha : SqL K H a (xs.map enc)) (hz : xs.length ≤ 100000)
    (ht : ∀ x, x ∈ xs → EvT tt ((wipe σ [j]).set j (some (enc x))) H (f x)) (he : ∀ x, x ∈ xs → f x = true → Ev te ((wipe σ [j]).set j (some (enc x))) H (v x)) : EvL (tLc (iList K tl) (gName j) tt te [j]) σ H ((xs.filter f).map v) :=
  LcR.lst (ex_lcL xs enc f _ hl ha hz ht fun x hm hf => made_val (he x hm hf))
/-- over a new list -/
theorem ex_lcN (xs : List α) (enc : α → V) (f : α → Bool) (R : α → V → Hp → Prop) (hl : EvL tl σ H (xs.map enc)) (hz : xs.length ≤ 100000)
    (ht : ∀ x, x ∈ xs → EvT tt ((wipe σ [j]).set j (some (enc x))) H (f x)) (he : ∀ x, x ∈ xs → f x = true → EvX te ((wipe σ [j]).set j (some (enc x))) H (Made (R x))) :
    EvX (tLc (iList K tl) (gName j) tt te [j]) σ H (LcR xs f R) := fun H1 e Q q => hl H1 e _ fun a H2 na e2 ha => by
  refine ⟨a, rfl, ⟨_, SqL.of ha⟩, ?_⟩
  refine lc_gen (walk_list (xs := xs.map enc)) xs (by rw [List.length_map]) (slot := fun x => (wipe σ [j]).set j (some (enc x))) (by rw [List.length_map]; exact hz) (fun H' s => SqL.of (s _ _ ha)) (fun i x H1 v H1' hx s y C c => ?_) (fun _ => wipe1) f R
    (fun x hm => (ht x hm).mono (e.trans e2)) (fun x hm hf => (he x hm hf).mono (e.trans e2)) fun v H' s r => q v H' (e2.trans s) (r.mono e2)
  obtain ⟨h1, h2⟩ := y
  rw [List.getElem?_map, hx] at h2
  have h3 : enc x = v := Option.some.inj h2
  subst h1 h3
  exact c _ (Same.refl _)
/-- over range(n) -/
theorem ex_lcR (n : Nat) (f : Nat → Bool) (R : Nat → V → Hp → Prop) (hl : EvA ta σ H [.int n]) (hz : n ≤ 100000)
    (ht : ∀ i, i < n → EvT tt ((wipe σ [j]).set j (some (.int (i : Int)))) H (f i)) (he : ∀ i, i < n → f i = true → EvX te ((wipe σ [j]).set j (some (.int (i : Int)))) H (Made (R i))) :
    EvX (tLc (iRng1 ta) (gName j) tt te [j]) σ H (LcR (List.range n) f R) := fun H1 e Q q => hl H1 e _ fun H2 e2 => by
  refine ⟨n, rfl, by omega, by omega, ?_⟩
  refine lc_gen (walk_range (lo := 0) (n := ((n : Nat) : Int).toNat)) (List.range n) (by rw [List.length_range]; rfl) (slot := fun i => (wipe σ [j]).set j (some (.int (i : Int)))) (by show n ≤ _; exact hz) (fun _ _ => trivial) (fun i x H1 v H1' hx s y C c => ?_) (fun _ => wipe1) f R
    (fun x hm => (ht x (List.mem_range.mp hm)).mono (e.trans e2)) (fun x hm hf => (he x (List.mem_range.mp hm) hf).mono (e.trans e2)) fun v H' s r => q v H' (e2.trans s) (r.mono e2)
  obtain ⟨h1, h2⟩ := y
  have hi : i < n := by
    have := (List.getElem?_eq_some_iff.mp hx).1
    rw [List.length_range] at this
    exact this
  rw [List.getElem?_range hi] at hx
  obtain rfl : i = x := Option.some.inj hx
  have h3 : v = .int (i : Int) := by
    rw [h2]
    show V.int (0 + (i : Int)) = _
    rw [Int.zero_add]
  subst h1 h3
  exact c _ (Same.refl _)
/-- over a list of pairs that stand -/
theorem ex_lcP (xs : List α) (e1 e2 : α → V) (vs : List V) (f : α → Bool) (R : α → V → Hp → Prop) {a : Addr} (hl : Ev tl σ H (.ref a)) (ha : SqL K H a vs) (hp : Paired (fun x v => ∃ t, v = .ref t ∧ H t = some (.tup [e1 x, e2 x])) xs vs) (hz : xs.length ≤ 100000)
    (ht : ∀ x, x ∈ xs → EvT tt (((wipe σ [j, k]).set j (some (e1 x))).set k (some (e2 x))) H (f x)) (he : ∀ x, x ∈ xs → f x = true → EvX te (((wipe σ [j, k]).set j (some (e1 x))).set k (some (e2 x))) H (Made (R x))) :
    EvX (tLc (iList K tl) (gTup K 2 (gCons (gName j) (gCons (gName k) gNil))) tt te [j, k]) σ H (LcR xs f R) := fun H1 e Q q => hl H1 e _ fun H2 e2' => by
  refine ⟨a, rfl, ⟨_, ex_l (e.trans e2') ha⟩, ?_⟩
  refine lc_gen (walk_list (xs := vs)) xs (Paired.length hp) (slot := fun x => ((wipe σ [j, k]).set j (some (e1 x))).set k (some (e2 x))) (by rw [← Paired.length hp]; exact hz) (fun H' s => ex_l ((e.trans e2').trans s) ha) (fun i x H1 v H1' hx s y C c => ?_) (fun _ => wipe2) f R
    (fun x hm => (ht x hm).mono (e.trans e2')) (fun x hm hf => (he x hm hf).mono (e.trans e2')) fun v H' s r => q v H' (e2'.trans s) (r.mono e2')
  obtain ⟨h1, h2⟩ := y
  subst h1
  obtain ⟨t, rfl, htt⟩ := paired_at hp hx h2
  exact ⟨t, [e1 x, e2 x], rfl, SqT.of (s _ _ ((e.trans e2') _ _ htt)), rfl, e1 x, [e2 x], rfl, e2 x, [], rfl, rfl, c _ (Same.refl _)⟩
theorem el_lcP (xs : List α) (e1 e2 : α → V) (vs : List V) (f : α → Bool) (v : α → V) {a : Addr} (hl : Ev tl σ H (.ref a)) (ha : SqL K H a vs) (hp : Paired (fun x v => ∃ t, v = .ref t ∧ H t = some (.tup [e1 x, e2 x])) xs vs) (hz : xs.length ≤ 100000)
    (ht : ∀ x, x ∈ xs → EvT tt (((wipe σ [j, k]).set j (some (e1 x))).set k (some (e2 x))) H (f x)) (he : ∀ x, x ∈ xs → f x = true → Ev te (((wipe σ [j, k]).set j (some (e1 x))).set k (some (e2 x))) H (v x)) :
    EvL (tLc (iList K tl) (gTup K 2 (gCons (gName j) (gCons (gName k) gNil))) tt te [j, k]) σ H ((xs.filter f).map v) := LcR.lst (ex_lcP xs e1 e2 vs f _ hl ha hp hz ht fun x hm hf => made_val (he x hm hf))
/-- over enumerate(list) -/
theorem ex_lcE (xs : List α) (enc : α → V) (f : Nat × α → Bool) (R : Nat × α → V → Hp → Prop) {a : Addr} (hl : EvA ta σ H [.ref a]) (ha : SqL K H a (xs.map enc)) (hz : xs.length ≤ 100000)
    (ht : ∀ (i : Nat) x, xs[i]? = some x → EvT tt (((wipe σ [j, k]).set j (some (.int (i : Int)))).set k (some (enc x))) H (f (i, x)))
    (he : ∀ (i : Nat) x, xs[i]? = some x → f (i, x) = true → EvX te (((wipe σ [j, k]).set j (some (.int (i : Int)))).set k (some (enc x))) H (Made (R (i, x)))) :
    EvX (tLc (iEnum K ta) (gTup K 2 (gCons (gName j) (gCons (gName k) gNil))) tt te [j, k]) σ H (LcR ((List.range xs.length).zip xs) f R) := fun H1 e Q q => hl H1 e _ fun H2 e2 => by
  refine ⟨a, xs.map enc, rfl, ex_l (e.trans e2) ha, ?_⟩
  have mm : ∀ (i : Nat) (p : Nat × α), ((List.range xs.length).zip xs)[i]? = some p → p.1 = i ∧ xs[i]? = some p.2 := fun i p hp => by
    obtain ⟨h1, h2⟩ := List.getElem?_zip_eq_some.mp hp
    have hi : i < xs.length := (List.getElem?_eq_some_iff.mp h2).1
    rw [List.getElem?_range hi] at h1
    exact ⟨(Option.some.inj h1).symm, h2⟩
  refine lc_gen (walk_enum (K := K) (a := a) (xs := xs.map enc)) ((List.range xs.length).zip xs) (by rw [List.length_zip, List.length_range, List.length_map]; omega) (slot := fun p => ((wipe σ [j, k]).set j (some (.int (p.1 : Int)))).set k (some (enc p.2))) (by rw [List.length_map]; exact hz)
    (fun H' s => ex_l ((e.trans e2).trans s) ha) (fun i p H1 v H1' hx s y C c => ?_) (fun _ => wipe2) f R (fun p hm => ?_) (fun p hm hf => ?_) fun v H' s r => q v H' (e2.trans s) (r.mono e2)
  · obtain ⟨h1, h2⟩ := mm i p hx
    obtain ⟨T, x1, x2, rfl, nT, rfl, f1, f2⟩ := y
    have g1 : V.int (i : Nat) = x1 := Option.some.inj f1
    have f3 : (xs.map enc)[i]? = some x2 := f2
    rw [List.getElem?_map, h2] at f3
    have g2 : enc p.2 = x2 := Option.some.inj f3
    subst g1 g2
    refine ⟨T, _, rfl, .inl (.inl upd_same), rfl, _, _, rfl, _, [], rfl, rfl, ?_⟩
    have z := c _ (same_new (o := .tup [V.int (i : Nat), enc p.2]) nT)
    rw [h1] at z
    exact z
  · obtain ⟨i, hi⟩ := List.getElem?_of_mem hm
    obtain ⟨h1, h2⟩ := mm i p hi
    obtain ⟨p1, p2⟩ := p
    have h1 : p1 = i := h1
    subst h1
    exact (ht p1 p2 h2).mono (e.trans e2)
  · obtain ⟨i, hi⟩ := List.getElem?_of_mem hm
    obtain ⟨h1, h2⟩ := mm i p hi
    obtain ⟨p1, p2⟩ := p
    have h1 : p1 = i := h1
    subst h1
    exact (he p1 p2 h2 hf).mono (e.trans e2)
/-- over a list whose items are told by a relation -/
theorem paired_zip {α β : Type} {P : α → β → Prop} : ∀ {xs : List α} {ys : List β}, Paired P xs ys → ∀ p ∈ xs.zip ys, P p.1 p.2 ∧ p.1 ∈ xs
  | _, _, .cons h t, p, hm => by
    rcases List.mem_cons.mp hm with e | hm
    · rw [e]
      exact ⟨h, List.mem_cons_self⟩
    · obtain ⟨a, b⟩ := paired_zip t p hm
      exact ⟨a, List.mem_cons_of_mem _ b⟩
theorem zip_snd {α β : Type} {P : α → β → Prop} : ∀ {xs : List α} {ys : List β}, Paired P xs ys → (xs.zip ys).map Prod.snd = ys
  | _, _, .nil => rfl
  | _, _, .cons _ t => congrArg (_ :: ·) (zip_snd t)
theorem zip_fil {α β : Type} {P : α → β → Prop} {f : α → Bool} {R : α → V → Prop} : ∀ {xs : List α} {vs : List β} {ys : List V}, Paired P xs vs → Paired (fun p y => R p.1 y) ((xs.zip vs).filter fun p => f p.1) ys → Paired R (xs.filter f) ys
  | _, _, _, .nil, h => by
    cases h
    exact .nil
  | x :: xs, v :: vs, ys, .cons _ t, h => by
    rw [List.zip_cons_cons, List.filter_cons] at h
    rw [List.filter_cons]
    by_cases e : f x = true
    · rw [if_pos e] at h
      rw [if_pos e]
      cases h with
      | cons h1 h2 => exact .cons h1 (zip_fil t h2)
    · rw [if_neg e] at h
      rw [if_neg e]
      exact zip_fil t h
theorem ex_lcQ (xs : List α) (vs : List V) {P : α → V → Prop} (hp : Paired P xs vs) (f : α → Bool) (R : α → V → Hp → Prop) {a : Addr} (hl : Ev tl σ H (.ref a)) (ha : SqL K H a vs) (hz : xs.length ≤ 100000)
    (ht : ∀ x v, x ∈ xs → P x v → EvT tt ((wipe σ [j]).set j (some v)) H (f x)) (he : ∀ x v, x ∈ xs → P x v → f x = true → EvX te ((wipe σ [j]).set j (some v)) H (Made (R x))) :
    EvX (tLc (iList K tl) (gName j) tt te [j]) σ H (LcR xs f R) := by
  refine (ex_lcL (K := K) (xs.zip vs) Prod.snd (fun p => f p.1) (fun p y H => R p.1 y H) hl (by rw [zip_snd hp]; exact ha) (by rw [List.length_zip]; omega) (fun p hm => ?_) (fun p hm hf => ?_)).imp fun v H1 H2 _ _ h => ?_
  · obtain ⟨h1, h2⟩ := paired_zip hp p hm
    exact ht p.1 p.2 h2 h1
  · obtain ⟨h1, h2⟩ := paired_zip hp p hm
    exact he p.1 p.2 h2 h1 hf
  · obtain ⟨D, ys, h1, h2, h3, h4⟩ := h
    exact ⟨D, ys, h1, h2, h3, zip_fil (R := fun x y => R x y H2) hp h4⟩
end
end HC

set_option Elab.async false
set_option linter.all false
set_option maxRecDepth 100000
set_option maxHeartbeats 2000000
/-! More of the calculus: loops over what is made, dicts, sorted. -/
namespace HC
open PySem PySem.Spec PyProof.Rows L2 Evl
section
variable {K : PySem.W.Frag} {σ : L2.St} {H H' : Hp} {ta tb tc te tx tl : TE} {t u : TT} {x y z v : V} {D : Ends} {tu tw tz : TS} {g : TG} {R : V → Hp → Hp → Prop}
/-- a loop over a list that is made: the list first -/
theorem q_forX (h : EvX tl σ H R) (k : ∀ v H1, Ex H H1 → R v H H1 → tSeq (tFor (iList K (tC v)) g tu) tz D σ H1) : tSeq (tFor (iList K tl) g tu) tz D σ H := h H (Ex.refl H) _ fun v H1 e r => k v H1 e r
theorem s_forX (h : EvX tl σ H R) (k : ∀ v H1, Ex H H1 → R v H H1 → tFor (iList K (tC v)) g tu D σ H1) : tFor (iList K tl) g tu D σ H := h H (Ex.refl H) _ fun v H1 e r => k v H1 e r
/-- d[y] -/
theorem ev_dget {a : Addr} (hd : Ev ta σ H (.ref a)) (hy : Ev tb σ H y) (hg : ∀ H1, Ex H H1 → DGet H1 a y (some v)) : Ev (tDGet ta tb) σ H v := fun H1 e Q q =>
  hd H1 e _ fun H2 e2 => hy H2 (e.trans e2) _ fun H3 e3 => ⟨a, v, rfl, hg H3 ((e.trans e2).trans e3), q H3 (e2.trans e3)⟩
theorem ev_din {a : Addr} {o : Option V} (hy : Ev tb σ H y) (hd : Ev ta σ H (.ref a)) (hg : ∀ H1, Ex H H1 → DGet H1 a y o) : Ev (tDIn tb ta) σ H (.bl o.isSome) := fun H1 e Q q =>
  hy H1 e _ fun H2 e2 => hd H2 (e.trans e2) _ fun H3 e3 => ⟨a, o, rfl, hg H3 ((e.trans e2).trans e3), q H3 (e2.trans e3)⟩
theorem ev_dnotin {a : Addr} {o : Option V} (hy : Ev tb σ H y) (hd : Ev ta σ H (.ref a)) (hg : ∀ H1, Ex H H1 → DGet H1 a y o) : Ev (tDNotIn tb ta) σ H (.bl (!o.isSome)) := fun H1 e Q q =>
  hy H1 e _ fun H2 e2 => hd H2 (e.trans e2) _ fun H3 e3 => ⟨a, o, rfl, hg H3 ((e.trans e2).trans e3), q H3 (e2.trans e3)⟩
/-- d[y] = v -/
theorem s_dput {a : Addr} (hv : Ev tc σ H v) (hd : Ev ta σ H (.ref a)) (hy : Ev tb σ H y) (k : ∀ H1, Ex H H1 → ∃ H2, DPut H1 a y v H2 ∧ D.nx σ H2) : sDPut ta tb tc D σ H :=
  hv H (Ex.refl H) _ fun H1 e1 => hd H1 e1 _ fun H2 e2 => hy H2 (e1.trans e2) _ fun H3 e3 => by
    obtain ⟨H4, p, q⟩ := k H3 ((e1.trans e2).trans e3)
    exact ⟨a, H4, rfl, p, q⟩
/-- a key told by its tuple -/
def kOf (H : Hp) : V → Int × Key
  | .ref t => match H t with
    | some (.tup [.int i, .int j]) => (i, .inl j)
    | some (.tup [.int i, .str s]) => (i, .inr s)
    | _ => (0, .inl 0)
  | _ => (0, .inl 0)
theorem kOf_at {x : V} {p : Int × Key} {t : Addr} (e : x = .ref t) (h : H t = some (.tup [.int p.1, kV p.2])) : kOf H x = p := by
  subst e
  obtain ⟨i, k⟩ := p
  cases k with
  | inl j =>
    show (match H t with
    | some (.tup [.int i, .int j]) => (i, Sum.inl j)
    | some (.tup [.int i, .str s]) => (i, .inr s)
    | _ => (0, .inl 0)) = _
    rw [show H t = some (.tup [.int i, .int j]) from h]
  | inr s =>
    show (match H t with
    | some (.tup [.int i, .int j]) => (i, Sum.inl j)
    | some (.tup [.int i, .str s]) => (i, .inr s)
    | _ => (0, .inl 0)) = _
    rw [show H t = some (.tup [.int i, .str s]) from h]
/-- sorted(keys) -/
theorem ex_sortedK {a : Addr} {us : List V} (hl : Ev te σ H (.ref a)) (ha : H a = some (.lst us)) (hk : ∀ x ∈ us, ∃ t, x = V.ref t ∧ H t = some (.tup [.int (kOf H x).1, kV (kOf H x).2])) (hal : ∀ x ∈ us, ∀ y ∈ us, alike (kOf H x) (kOf H y)) :
    EvX (tCB (rSortedK K) (tCons te tNil)) σ H fun v H1 H2 => ∃ ys p, v = .ref p ∧ SrtO.Srtd (ltK (kOf H)) ys ∧ SrtO.Stb (ltK (kOf H)) ys us ∧ H1 p = none ∧ H2 p = some (.lst ys) := fun H1 e Q q =>
  hl H1 e _ fun H2 e2 => ⟨a, us, kOf H, rfl, SqL.of ((e.trans e2) _ _ ha), fun x m => by
    obtain ⟨t, e1, h1⟩ := hk x m
    exact ⟨t, e1, (e.trans e2) _ _ h1⟩, hal, fun ys p h1 h2 hp => q _ _ (e2.trans (Ex.new hp)) ⟨ys, p, rfl, h1, h2, fresh_back e2 hp, upd_same⟩⟩
/-- a call of one argument that is made -/
theorem ex_cb1 {r : List V → Hp → VK → Prop} {R' : V → Hp → Hp → Prop} (h : EvX te σ H R) (hr : ∀ v H1 H2, Ex H H1 → Ex H1 H2 → R v H1 H2 → ∀ Q : VK, (∀ u H3, Ex H2 H3 → R' u H1 H3 → Q u H3) → r [v] H2 Q) : EvX (tCB r (tCons te tNil)) σ H R' := fun H1 e Q q =>
  h H1 e _ fun v H2 e2 r => hr v H1 H2 e e2 r Q fun u H3 e3 r3 => q u H3 (e2.trans e3) r3
theorem el_ifT {xs : List V} (h : EvT t σ H true) (k : EvL ta σ H xs) : EvL (tIf t ta tb) σ H xs := fun H1 e Q q => h H1 e _ fun H2 e2 => iteT (k H2 (e.trans e2) _ fun p H3 np e3 hp => q p H3 (fresh_back e2 np) (e2.trans e3) hp)
theorem el_ifF {xs : List V} (h : EvT t σ H false) (k : EvL tb σ H xs) : EvL (tIf t ta tb) σ H xs := fun H1 e Q q => h H1 e _ fun H2 e2 => iteF (k H2 (e.trans e2) _ fun p H3 np e3 hp => q p H3 (fresh_back e2 np) (e2.trans e3) hp)
theorem el_rev {a : Addr} {xs : List V} (h : Ev te σ H (.ref a)) (ha : H a = some (.lst xs)) : EvL (tRevL K te) σ H xs.reverse := fun H1 e Q q => h H1 e _ fun H2 e2 => ⟨a, xs, rfl, SqL.of ((e.trans e2) _ _ ha), fun p hp => q p _ (fresh_back e2 hp) (e2.trans (Ex.new hp)) upd_same⟩
/-- list(xs) -/
theorem rcl_list {a : Addr} {xs : List V} (ha : H a = some (.lst xs)) : RCL (rListQ K) [.ref a] H xs := fun H1 e Q q => ⟨a, xs, rfl, .inl (SqL.of (e _ _ ha)), fun l hl => q l _ hl (Ex.new hl) upd_same⟩
/-- a list of one new list -/
theorem ex_lst1L {xs : List V} (h : EvL te σ H xs) : EvX (tLst (tCons te tNil)) σ H fun v H1 H2 => ∃ D l, v = .ref D ∧ H1 D = none ∧ H2 D = some (.lst [.ref l]) ∧ H2 l = some (.lst xs) := fun H1 e Q q =>
  h H1 e _ fun l H2 nl e2 hl => ⟨by show 1 ≤ sizeLine; decide, fun D hD => q _ _ (e2.trans (Ex.new hD)) ⟨D, l, rfl, fresh_back e2 hD, upd_same, by rw [upd_ne (ne_of_none hl hD)]; exact hl⟩⟩
/-- a call on one thing that is made -/
theorem ex_call1 {sp : Sp} {dvs : List V} {E : XK} {R1 : V → Hp → Hp → Prop} (h : EvX te σ H R1) (hs : ∀ v H1 H2, Ex H H1 → Ex H1 H2 → R1 v H1 H2 → SpX sp ([v] ++ dvs) H2 R) : EvX (tCall sp dvs E (tCons te tNil)) σ H fun v H0 H2 => ∃ H1, Ex H0 H1 ∧ Ex H1 H2 ∧ R v H1 H2 := fun H1 e Q q =>
  h H1 e _ fun v H2 e2 r1 => hs v H1 H2 e e2 r1 H2 (Ex.refl H2) _ (fun u H3 e3 r => q u H3 (e2.trans e3) ⟨H2, e2, e3, r⟩) E
theorem made_newL {α : Type} {F : α → Prop} {f : α → List V} (h : EvX te σ H fun y H0 H2 => ∃ H1, Ex H0 H1 ∧ Ex H1 H2 ∧ ∃ a, F a ∧ NewL (f a) y H1 H2) : EvX te σ H (Made fun y H => ∃ a, F a ∧ ∃ l, y = .ref l ∧ H l = some (.lst (f a))) :=
  h.imp fun y H1 H2 e1 e2 ⟨G, g1, g2, a, fa, t, ey, nt, ht⟩ D H3 ⟨zs, hz⟩ b => ⟨a, fa, t, ey, b t _ (fun z => by
    rw [z, g1 _ _ hz] at nt
    cases nt) ht⟩
end
end HC

set_option Elab.async false
set_option linter.all false
set_option maxRecDepth 100000
set_option maxHeartbeats 4000000
namespace HC
open PySem PySem.Spec PyProof.Rows L2 Evl
local macro_rules
  | `(tactic| walk_at "ev") => `(tactic| first
    | exact ev_c
    | exact ev_var rfl
    | exact ea_nil
    | exact et_yes
    | exact eo_none
    | exact rv_I0
    | exact rv_eqI
    | exact rv_neI
    | exact rv_eqS
    | exact rv_neS
    | exact rv_eqB
    | exact rv_neB
    | exact rv_isN
    | exact rv_notN
    | exact rv_leS
    | exact rv_ltS
    | exact ru_neg
    | assumption
    | (apply ea_cons <;> walk_at "ev")
    | (apply et_test <;> walk_at "ev")
    | (apply et_B <;> walk_at "ev")
    | (apply et_not <;> walk_at "ev")
    | (apply ev_op <;> walk_at "ev")
    | (apply ev_un <;> walk_at "ev")
    | (apply ev_isi_int (h := kit_int_int) <;> walk_at "ev")
    | (apply ev_isi_int (h := kit_int_bool) <;> walk_at "ev")
    | (apply ev_isi_str (h := kit_str_str) <;> walk_at "ev")
    | (apply ev_isi_lst (h := kit_list_list) <;> walk_at "ev")
    | (apply ev_isi_tup (h := kit_tuple_tuple) <;> walk_at "ev")
    | (apply rc_lenL ; assumption)
    | (apply rc_lenT ; assumption)
    | (apply rc_lenS ; assumption)
    | (apply ev_chain <;> first | walk_at "ev" | (intro _; walk_at "ev"))
    | (apply et_or <;> first | walk_at "ev" | (intro _; walk_at "ev"))
    | (apply et_and <;> first | walk_at "ev" | (intro _; walk_at "ev"))
    | (apply ev_orV <;> first | walk_at "ev" | (intro _; walk_at "ev"))
    | (apply ev_andV <;> first | walk_at "ev" | (intro _; walk_at "ev"))
    | (apply ev_notV <;> walk_at "ev")
    | (apply ev_cb <;> walk_at "ev")
    | (apply eo_some <;> walk_at "ev"))
local macro_rules
  | `(tactic| walk_at "dec") => `(tactic| first
    | assumption
    | exact dnI
    | exact dnS
    | decide +kernel
    | (with_reducible rfl)
    | (simp only [decide_eq_true_eq, Bool.and_eq_true, Bool.not_eq_true', decide_eq_false_iff_not, Bool.not_true, Bool.not_false, Bool.and_eq_false_iff, Bool.or_eq_false_iff, Bool.or_eq_true]; omega)
    | rfl)
local macro_rules
  | `(tactic| walk_at "dt") => `(tactic| first
    | assumption
    | exact et_yes
    | (apply et_orF <;> walk_at "dt")
    | (apply et_andT <;> walk_at "dt")
    | (apply et_notF; walk_at "dt")
    | (apply et_notT; walk_at "dt")
    | (apply et_chT <;> first | walk_at "ev" | walk_at "dec")
    | (apply et_leaf <;> first | walk_at "ev" | walk_at "dec")
    | (apply et_leafB <;> first | walk_at "ev" | walk_at "dec"))
local macro_rules
  | `(tactic| walk_at "pass") => `(tactic| (refine' q_pass ?zzh ?zzk; (case zzh => walk_at "dt")))
local macro_rules
  | `(tactic| walk_at "yes") => `(tactic| ((first | refine' q_yes ?zzh ?zzk | refine' s_yes ?zzh ?zzk); (case zzh => walk_at "dt")))
local macro_rules
  | `(tactic| walk_at "no") => `(tactic| ((first | refine' q_no ?zzh ?zzk | refine' s_no ?zzh ?zzk); (case zzh => walk_at "dt")))
local macro_rules
  | `(tactic| walk_at "ret") => `(tactic| (refine' s_ret (v := _) ?zzh ?zzk; (case zzh => walk_at "ev")))
local macro_rules
  | `(tactic| walk_at "set") => `(tactic| ((first | refine' q_asg (v := _) ?zzh ?zzk | refine' s_asg (v := _) ?zzh ?zzk); (case zzh => walk_at "ev")))
section
variable {P : Program} {w : World} {K : PySem.W.Frag} {mg : Str → Option Value} {base : Heap}
def sp_is_integer (_ : PySem.W.Frag) : Sp := fun vs H Q _ => ∃ i : Int, vs = [.int i] ∧ Q (.bl true) H
/-! is_integer: slots 0:value -/
theorem sc_is_integer : FnScope ["value"] ["value"] (defScope s_is_integer) := ⟨rfl, rfl, rfl, by decide +kernel, rfl, by decide +kernel, by decide +kernel⟩
theorem ok_is_integer (T : Tp K mg w) : FnOk P w K mg base CX0 1 (a_is_integer K) (fdAt K (a_is_integer K)) ["value"] (sp_is_integer K) := by
  refine T.f_is_integer.ok sc_is_integer (fun vs H Q E h => ?_) (fun cdv A outer s H vs Q E hr h => ?_)
  · obtain ⟨i, rfl, q⟩ := h
    rfl
  · obtain ⟨i, rfl, q⟩ := h
    refine ⟨_, PSs.nox (pss_one (ps_ret (pe_and (pe_callB (kCR (K := K) (r := rIsi) call_isi rfl) rfl T.b_isinstance (by decide +kernel) (pa_cons (pv 0) (pa_cons (pe_bltn (v := .ty "int") rfl T.b_int (by decide +kernel) rfl) pa_nil))) (pe_one (pe_not (pe_callB (kCR (K := K) (r := rIsi) call_isi rfl) rfl T.b_isinstance (by decide +kernel) (pa_cons (pv 0) (pa_cons (pe_bltn (v := .ty "bool") rfl T.b_bool (by decide +kernel) rfl) pa_nil)))))))), ?_⟩
    refine ⟨_, rfl, _, _, _, _, true, rfl, .ty "int", .base (.int i), kit_ty (by decide +kernel), true, rfl, iteT ?_⟩
    exact ⟨_, rfl, _, _, _, _, false, rfl, .ty "bool", .base (.int i), kit_ty (by decide +kernel), false, rfl, q⟩
theorem spv_is_integer {H : Hp} (i : Int) : SpV (sp_is_integer K) ([.int i] ++ []) H (.bl true) := fun H1 _ _ q _ => ⟨i, rfl, q H1 (Ex.refl H1)⟩
def sp_is_kind (_ : PySem.W.Frag) : Sp := fun vs H Q _ => ∃ k : Kind, vs = [k.v] ∧ ∀ H', Same H H' → Q (.bl true) H'
/-! is_kind: slots 0:value -/
theorem sc_is_kind : FnScope ["value"] ["value"] (defScope s_is_kind) := ⟨rfl, rfl, rfl, by decide +kernel, rfl, by decide +kernel, by decide +kernel⟩
theorem ok_is_kind (T : Tp K mg w) : FnOk P w K mg base CX0 1 (a_is_kind K) (fdAt K (a_is_kind K)) ["value"] (sp_is_kind K) := by
  refine T.f_is_kind.ok sc_is_kind (fun vs H Q E h => ?_) (fun cdv A outer s H vs Q E hr h => ?_)
  · obtain ⟨k, rfl, q⟩ := h
    rfl
  · obtain ⟨k, rfl, q⟩ := h
    refine ⟨_, PSs.nox (pss_one (ps_ret (pe_and (pe_callB (kCR (K := K) (r := rIsi) call_isi rfl) rfl T.b_isinstance (by decide +kernel) (pa_cons (pv 0) (pa_cons (pe_bltn (v := .ty "str") rfl T.b_str (by decide +kernel) rfl) pa_nil))) (pe_one (pe_cmpR (kOp (K := K) (r := fun K => rIn K false) op_in_seq rfl) (pv 0) (pe_tup (pa_cons (pe_gk rfl T.c_NUMBER) (pa_cons (pe_gk rfl T.c_TEXT) (pa_cons (pe_gk rfl T.c_CASELESS) pa_nil)))) rfl))))), ?_⟩
    refine ⟨_, rfl, _, _, _, _, true, rfl, .ty "str", .base (.str _), kit_ty (by decide +kernel), true, rfl, iteT ?_⟩
    refine ⟨_, rfl, (by show 3 ≤ sizeLine; decide), fun p hp => ⟨p, _, rfl, .inr (SqT.of upd_same), rfl, rfl, ?_⟩⟩
    have e : (if false = true then !inV k.v [.str "number", .str "text", .str "caseless"] else inV k.v [.str "number", .str "text", .str "caseless"]) = true := by cases k <;> decide +kernel
    rw [e]
    exact q _ (same_new hp)
theorem spv_is_kind {H : Hp} (k : Kind) : SpV (sp_is_kind K) ([k.v] ++ []) H (.bl true) := fun H1 _ _ q _ => ⟨k, rfl, fun H' s => q H' s⟩
def sp_is_cell_character (_ : PySem.W.Frag) : Sp := fun vs H Q _ => ∃ c : Nat, c ∈ [97, 98, 66, 65, 95] ∧ vs = [.str ⟨#[c]⟩] ∧ Q (.bl true) H
/-! is_cell_character: slots 0:character -/
theorem sc_is_cell_character : FnScope ["character"] ["character"] (defScope s_is_cell_character) := ⟨rfl, rfl, rfl, by decide +kernel, rfl, by decide +kernel, by decide +kernel⟩
theorem ok_is_cell_character (T : Tp K mg w) : FnOk P w K mg base CX0 1 (a_is_cell_character K) (fdAt K (a_is_cell_character K)) ["character"] (sp_is_cell_character K) := by
  refine T.f_is_cell_character.ok sc_is_cell_character (fun vs H Q E h => ?_) (fun cdv A outer s H vs Q E hr h => ?_)
  · obtain ⟨c, hc, rfl, q⟩ := h
    rfl
  · obtain ⟨c, hc, rfl, q⟩ := h
    refine ⟨_, PSs.nox (pss_one (ps_ret (pe_and (pe_chain op_le_str op_le_str pe_str (pv 0) pe_str) (pe_and (pe_cmpR op_ne (pv 0) pe_str (nomark _)) (pe_one (pe_not (pe_chain op_lt_str op_lt_str pe_str (pv 0) pe_str))))))), ?_⟩
    have go : ∀ c : Nat, (!decide ((⟨#[c]⟩ : Str).cps.toList < (" " : Str).cps.toList)) = true → (!decide (("~" : Str).cps.toList < (⟨#[c]⟩ : Str).cps.toList)) = true → (!decide (V.str (⟨#[c]⟩ : Str) = V.str "|")) = true → (decide (("$" : Str).cps.toList < (⟨#[c]⟩ : Str).cps.toList) && decide ((⟨#[c]⟩ : Str).cps.toList < ("&" : Str).cps.toList)) = false →
        Q (.bl true) H → tRet (tAndV (tChain (fun x y H Q => ∃ i j, x = V.str i ∧ y = V.str j ∧ Q (V.bl !decide (j.cps.toList < i.cps.toList)) H) (fun x y H Q => ∃ i j, x = V.str i ∧ y = V.str j ∧ Q (V.bl !decide (j.cps.toList < i.cps.toList)) H) (tC (V.str " ")) (tVar 0) (tC (V.str "~")))
        (tAndV (tOp rNe (tVar 0) (tC (V.str "|"))) (tNotV (tChain (fun x y H Q => ∃ i j, x = V.str i ∧ y = V.str j ∧ Q (V.bl (decide (i.cps.toList < j.cps.toList))) H) (fun x y H Q => ∃ i j, x = V.str i ∧ y = V.str j ∧ Q (V.bl (decide (i.cps.toList < j.cps.toList))) H) (tC (V.str "$")) (tVar 0) (tC (V.str "&"))))))
        { nx := fun x H' => Q V.non H', rt := Q } (L2.start ["character"] [V.str ⟨#[c]⟩]) H := fun c e1 e2 e3 e4 q => by
      refine ⟨_, rfl, _, _, rfl, rfl, _, rfl, itT e1 ⟨_, _, rfl, rfl, _, rfl, itT e2 ?_⟩⟩
      refine ⟨_, rfl, rfl, _, rfl, itT e3 ?_⟩
      refine ⟨_, rfl, _, _, rfl, rfl, _, rfl, ?_⟩
      cases e5 : decide (("$" : Str).cps.toList < (⟨#[c]⟩ : Str).cps.toList) with
      | true =>
        rw [e5, Bool.true_and] at e4
        exact iteT ⟨_, _, rfl, rfl, _, rfl, blT (by rw [e4]; rfl) q⟩
      | false => exact iteF ⟨_, rfl, q⟩
    simp only [List.mem_cons, List.not_mem_nil, or_false] at hc
    rcases hc with rfl | rfl | rfl | rfl | rfl <;> exact go _ (by decide +kernel) (by decide +kernel) (by decide +kernel) (by decide +kernel) q
theorem txt_codes : ∀ s ∈ txtCells, (1 ≤ s.length ∧ s.length ≤ 20) ∧ ∀ c ∈ s.cps.toList, c ∈ [97, 98, 66, 65, 95] := by decide +kernel
def sp_is_cell (_ : PySem.W.Frag) : Sp := fun vs H Q _ => ∃ (k : Kind) (v : V), vs = [k.v, v] ∧ CellOk k v ∧ ∀ H', Same H H' → Q (.bl true) H'
/-! is_cell: slots 0:kind 1:value 2:character -/
theorem sc_is_cell : FnScope ["kind", "value", "character"] ["kind", "value"] (defScope s_is_cell) := ⟨rfl, rfl, rfl, by decide +kernel, rfl, by decide +kernel, by decide +kernel⟩
theorem ok_is_cell (T : Tp K mg w) : FnOk P w K mg base CX0 2 (a_is_cell K) (fdAt K (a_is_cell K)) ["kind", "value"] (sp_is_cell K) := by
  refine T.f_is_cell.ok sc_is_cell (fun vs H Q E h => ?_) (fun cdv A outer s H vs Q E hr h => ?_)
  · obtain ⟨k, v, rfl, ok, q⟩ := h
    rfl
  · obtain ⟨k, v, rfl, ok, q⟩ := h
    refine ⟨_, PSs.nox (pss_cons (ps_if (pt_cmpR op_isN (pv 1) pe_non (nomark _)) (pss_one (ps_ret pe_bl)) pss_nil)
      (pss_cons (ps_if (pt_cmpR op_eq (pv 0) (pe_gk rfl T.c_NUMBER) (nomark _)) (pss_one (ps_ret (pe_call (ok_is_integer (K := K) T) (hr.mono (by decide)) rfl T.g_is_integer T.f_is_integer.kp T.bn_is_integer .nil pass0 (pa_cons (pv 1) pa_nil)))) pss_nil)
      (pss_cons (ps_if (PW.pt (pw_or (pt_not (pt_val (pe_callB (kCR (K := K) (r := rIsi) call_isi rfl) rfl T.b_isinstance (by decide +kernel) (pa_cons (pv 1) (pa_cons (pe_bltn (v := .ty "str") rfl T.b_str (by decide +kernel) rfl) pa_nil))))) (pw_or1 (pt_not (pt_chain op_le op_le pe_int (pe_callB call_len_str rfl T.b_len (by decide +kernel) (pa_cons (pv 1) pa_nil)) (pe_gk rfl T.c_MAX_CHARACTERS)))))) (pss_one (ps_ret pe_bl)) pss_nil)
      (pss_one (ps_ret (pe_callB (kCR (K := K) (r := rAll) (cr_all rfl) rfl) rfl T.b_all (by decide +kernel) (pa_cons (pe_lc (own := [("character", 2)]) (g := (gName 2)) rfl sc_is_cell.nd (pi_str (pv 1)) (blkOk_by (own := [("character", 2)]) (N := ["kind", "value", "character"]) (sc := defScope s_is_cell) (by decide +kernel)) (fun _ _ _ _ _ => (pg_name (i := 2) sc_is_cell.nd rfl (Or.inl rfl) (.inr rfl))) (fun _ _ _ _ _ => pts_nil) (fun _ _ _ _ _ => (pe_call (ok_is_cell_character (K := K) T) (hr.mono (by decide)) rfl T.g_is_cell_character T.f_is_cell_character.kp T.bn_is_cell_character .nil pass0 (pa_cons (pv 2) pa_nil)))) pa_nil))))))), ?_⟩
    cases ok with
    | non =>
      walk_at "yes"; intro H1 e1
      walk_at "ret"; intro H2 e2
      exact q H2 (e1.trans e2)
    | num i hi =>
      walk_at "pass"; intro H1 e1
      walk_at "yes"; intro H2 e2
      exact s_ret (ev_call (ea_cons (ev_var rfl) ea_nil) (spv_is_integer (K := K) i)) fun H3 e3 => q H3 ((e1.trans e2).trans e3)
    | str k z hk hz =>
      obtain ⟨⟨h1, h2⟩, h3⟩ := txt_codes z hz
      have lz : z.length ≤ 100000 := by omega
      have nk : decide (k.v = V.str "number") = false := by cases k <;> first | exact absurd rfl hk | decide +kernel
      walk_at "pass"; intro H1 e1
      walk_at "pass"; intro H2 e2
      walk_at "pass"; intro H3 e3
      exact tall_str z (fun C k => ⟨_, rfl, k⟩) lz (fun c H1 hc s1 C k => ⟨_, rfl, c, h3 c hc, rfl, k H1 (Same.refl H1)⟩) fun H' s => q H' (((e1.trans e2).trans e3).trans s)
def sp_is_row (_ : PySem.W.Frag) : Sp := fun vs H Q _ => ∃ (ks : List Kind) (row : List V) (a b : Addr), vs = [.ref a, .ref b] ∧ H a = some (.lst (ks.map Kind.v)) ∧ H b = some (.lst row) ∧ RowOk ks row ∧ ks.length ≤ 1000 ∧ ∀ H', Same H H' → Q (.bl true) H'
/-! is_row: slots 0:kinds 1:value 2:kind 3:cell -/
theorem sc_is_row : FnScope ["kinds", "value", "kind", "cell"] ["kinds", "value"] (defScope s_is_row) := ⟨rfl, rfl, rfl, by decide +kernel, rfl, by decide +kernel, by decide +kernel⟩
theorem ok_is_row (T : Tp K mg w) : FnOk P w K mg base CX0 3 (a_is_row K) (fdAt K (a_is_row K)) ["kinds", "value"] (sp_is_row K) := by
  refine T.f_is_row.ok sc_is_row (fun vs H Q E h => ?_) (fun cdv A outer s H vs Q E hr h => ?_)
  · obtain ⟨ks, row, a, b, rfl, ha, hb, ok, hz, q⟩ := h
    rfl
  · obtain ⟨ks, row, a, b, rfl, ha, hb, ok, hz, q⟩ := h
    refine ⟨_, PSs.nox (pss_cons (ps_if (PW.pt (pw_or (pt_not (pt_val (pe_callB (kCR (K := K) (r := rIsi) call_isi rfl) rfl T.b_isinstance (by decide +kernel) (pa_cons (pv 1) (pa_cons (pe_bltn (v := .ty "list") rfl T.b_list (by decide +kernel) rfl) pa_nil))))) (pw_or1 (pt_cmpR op_ne (pe_callB (kCR (K := K) (r := rLenQ) call_len_seq rfl) rfl T.b_len (by decide +kernel) (pa_cons (pv 1) pa_nil)) (pe_callB (kCR (K := K) (r := rLenQ) call_len_seq rfl) rfl T.b_len (by decide +kernel) (pa_cons (pv 0) pa_nil)) (nomark _))))) (pss_one (ps_ret pe_bl)) pss_nil)
      (pss_one (ps_ret (pe_callB (kCR (K := K) (r := rAll) (cr_all rfl) rfl) rfl T.b_all (by decide +kernel) (pa_cons (pe_lc (own := [("kind", 2), ("cell", 3)]) (g := (gTup K 2 (gCons (gName 2) (gCons (gName 3) gNil)))) rfl sc_is_row.nd (kPI (K := K) (i := fun K => iZip K _) (pi_zip rfl T.b_zip (pa_cons (pv 0) (pa_cons (pv 1) pa_nil))) rfl) (blkOk_by (own := [("kind", 2), ("cell", 3)]) (N := ["kinds", "value", "kind", "cell"]) (sc := defScope s_is_row) (by decide +kernel)) (fun _ _ _ _ _ => (kTup (K := K) (pg_tup (n := 2) rfl (pgs_cons (pg_name (i := 2) sc_is_row.nd rfl (Or.inl rfl) (.inr rfl)) (pgs_cons (pg_name (i := 3) sc_is_row.nd rfl (Or.inl rfl) (.inr rfl)) pgs_nil))) rfl)) (fun _ _ _ _ _ => pts_nil) (fun _ _ _ _ _ => (pe_call (ok_is_cell (K := K) T) (hr.mono (by decide)) rfl T.g_is_cell T.f_is_cell.kp T.bn_is_cell .nil pass0 (pa_cons (pv 2) (pa_cons (pv 3) pa_nil))))) pa_nil))))), ?_⟩
    have el : row.length = ks.length := (Paired.length ok).symm
    refine q_pass ?_ fun H1 e1 => ?_
    · refine et_orF (by walk_at "dt") (et_leaf (ev_op (ev_cb (ea_cons (ev_var rfl) ea_nil) (rc_lenL hb)) (ev_cb (ea_cons (ev_var rfl) ea_nil) (rc_lenL ha)) rv_neI) ?_)
      rw [List.length_map, el, decide_eq_true rfl] <;> rfl
    · refine tall_zip (e2 := id) ks row Kind.v (fun C k => ⟨_, rfl, _, rfl, k⟩) (SqL.of (e1 _ _ ha)) (by rw [List.map_id]; exact SqL.of (e1 _ _ hb)) el.symm (by omega) (fun i x y H1 hx hy s1 C k => ?_) fun H' s => q H' (e1.trans s)
      exact ⟨_, rfl, _, rfl, x, y, rfl, paired_at ok hx hy, fun H' s => k H' s⟩
theorem spv_is_row {H : Hp} {ks : List Kind} {row : List V} {a b : Addr} (ha : H a = some (.lst (ks.map Kind.v))) (hb : H b = some (.lst row)) (ok : RowOk ks row) (hz : ks.length ≤ 1000) : SpV (sp_is_row K) ([.ref a, .ref b] ++ []) H (.bl true) := fun H1 e _ q _ => ⟨ks, row, a, b, rfl, e _ _ ha, e _ _ hb, ok, hz, fun H' s => q H' s⟩
def sp_is_table (_ : PySem.W.Frag) : Sp := fun vs H Q _ => ∃ (v : V) (ks : List Kind) (rows : List (List V)), vs = [v] ∧ TabAt H v ks rows ∧ TabOk ks rows ∧ ∀ H', Same H H' → Q (.bl true) H'
/-! is_table: slots 0:value 1:kinds 2:rows 3:row 4:kind -/
theorem sc_is_table : FnScope ["value", "kinds", "rows", "row", "kind"] ["value"] (defScope s_is_table) := ⟨rfl, rfl, rfl, by decide +kernel, rfl, by decide +kernel, by decide +kernel⟩
theorem ok_is_table (T : Tp K mg w) : FnOk P w K mg base CX0 4 (a_is_table K) (fdAt K (a_is_table K)) ["value"] (sp_is_table K) := by
  refine T.f_is_table.ok sc_is_table (fun vs H Q E h => ?_) (fun cdv A outer s H vs Q E hr h => ?_)
  · obtain ⟨v, ks, rows, rfl, ta, ok, q⟩ := h
    rfl
  · obtain ⟨v, ks, rows, rfl, ta, ok, q⟩ := h
    refine ⟨_, PSs.nox (pss_cons (ps_if (PW.pt (pw_or (pt_not (pt_val (pe_callB (kCR (K := K) (r := rIsi) call_isi rfl) rfl T.b_isinstance (by decide +kernel) (pa_cons (pv 0) (pa_cons (pe_bltn (v := .ty "tuple") rfl T.b_tuple (by decide +kernel) rfl) pa_nil))))) (pw_or1 (pt_cmpR op_ne (pe_callB (kCR (K := K) (r := rLenQ) call_len_seq rfl) rfl T.b_len (by decide +kernel) (pa_cons (pv 0) pa_nil)) pe_int (nomark _))))) (pss_one (ps_ret pe_bl)) pss_nil)
      (pss_cons (ps_asg (pv 0) (kTup (K := K) (pg_tup (n := 2) rfl (pgs_cons (pg_name (i := 1) sc_is_table.nd rfl (Or.inr rfl) (.inl rfl)) (pgs_cons (pg_name (i := 2) sc_is_table.nd rfl (Or.inl rfl)) pgs_nil))) rfl))
      (pss_cons (ps_if (PW.pt (pw_or (pt_not (pt_val (pe_callB (kCR (K := K) (r := rIsi) call_isi rfl) rfl T.b_isinstance (by decide +kernel) (pa_cons (pv 1) (pa_cons (pe_bltn (v := .ty "list") rfl T.b_list (by decide +kernel) rfl) pa_nil))))) (pw_or (pt_not (pt_chain op_le op_le pe_int (pe_callB (kCR (K := K) (r := rLenQ) call_len_seq rfl) rfl T.b_len (by decide +kernel) (pa_cons (pv 1) pa_nil)) (pe_gk rfl T.c_MAX_COLUMNS))) (pw_or1 (pt_not (pt_val (pe_callB (kCR (K := K) (r := rAll) (cr_all rfl) rfl) rfl T.b_all (by decide +kernel) (pa_cons (pe_lc (own := [("kind", 4)]) (g := (gName 4)) rfl sc_is_table.nd (kPI (K := K) (i := fun K => iList K _) (pi_list (pv 1)) rfl) (blkOk_by (own := [("kind", 4)]) (N := ["value", "kinds", "rows", "row", "kind"]) (sc := defScope s_is_table) (by decide +kernel)) (fun _ _ _ _ _ => (pg_name (i := 4) sc_is_table.nd rfl (Or.inl rfl) (.inr rfl))) (fun _ _ _ _ _ => pts_nil) (fun _ _ _ _ _ => (pe_call (ok_is_kind (K := K) T) (hr.mono (by decide)) rfl T.g_is_kind T.f_is_kind.kp T.bn_is_kind .nil pass0 (pa_cons (pv 4) pa_nil)))) pa_nil)))))))) (pss_one (ps_ret pe_bl)) pss_nil)
      (pss_cons (ps_if (PW.pt (pw_or (pt_not (pt_val (pe_callB (kCR (K := K) (r := rIsi) call_isi rfl) rfl T.b_isinstance (by decide +kernel) (pa_cons (pv 2) (pa_cons (pe_bltn (v := .ty "list") rfl T.b_list (by decide +kernel) rfl) pa_nil))))) (pw_or1 (pt_not (pt_chain op_le op_le pe_int (pe_callB (kCR (K := K) (r := rLenQ) call_len_seq rfl) rfl T.b_len (by decide +kernel) (pa_cons (pv 2) pa_nil)) (pe_gk rfl T.c_MAX_ROWS)))))) (pss_one (ps_ret pe_bl)) pss_nil)
      (pss_one (ps_ret (pe_callB (kCR (K := K) (r := rAll) (cr_all rfl) rfl) rfl T.b_all (by decide +kernel) (pa_cons (pe_lc (own := [("row", 3)]) (g := (gName 3)) rfl sc_is_table.nd (kPI (K := K) (i := fun K => iList K _) (pi_list (pv 2)) rfl) (blkOk_by (own := [("row", 3)]) (N := ["value", "kinds", "rows", "row", "kind"]) (sc := defScope s_is_table) (by decide +kernel)) (fun _ _ _ _ _ => (pg_name (i := 3) sc_is_table.nd rfl (Or.inl rfl) (.inr rfl))) (fun _ _ _ _ _ => pts_nil) (fun _ _ _ _ _ => (pe_call (ok_is_row (K := K) T) (hr.mono (by decide)) rfl T.g_is_row T.f_is_row.kp T.bn_is_row .nil pass0 (pa_cons (pv 1) (pa_cons (pv 3) pa_nil))))) pa_nil)))))))), ?_⟩
    obtain ⟨t, a, b, rs, rfl, ht, ha, hb, hr2⟩ := ta.ex
    have hk := ok.k1
    have hk8 := ok.k8
    have hn := ok.r1
    have hn60 := ok.r60
    have hl : rs.length = rows.length := Paired.length hr2
    walk_at "pass"; intro H1 e1
    have ha1 := e1 _ _ ha
    have hb1 := e1 _ _ hb
    refine q_unp2 rfl (ev_var rfl) (e1 _ _ ht) fun H2 e2 => ?_
    have ha2 := e2 _ _ ha1
    have hb2 := e2 _ _ hb1
    refine q_pass ?_ fun H3 e3 => ?_
    · refine et_orF (by walk_at "dt") (et_orF ?_ (et_notF (et_B (ev_allL ks Kind.v (ev_var rfl) (SqL.of ha2) (by omega) fun k m => ev_call (ea_cons (ev_var rfl) ea_nil) (spv_is_kind (K := K) k)))))
      have hk' : (ks.map Kind.v).length = ks.length := List.length_map _
      walk_at "dt"
    have ha3 := e3 _ _ ha2
    have hb3 := e3 _ _ hb2
    walk_at "pass"; intro H4 e4
    have ha4 := e4 _ _ ha3
    have e14 : Ex H H4 := ((e1.trans e2).trans e3).trans e4
    refine s_ret (ev_allL rs id (ev_var rfl) (by rw [List.map_id]; exact SqL.of (e4 _ _ hb3)) (by omega) fun x hx => ?_) fun H5 e5 => q H5 (e14.trans e5)
    obtain ⟨i, hi⟩ := List.getElem?_of_mem hx
    have hi2 : rows[i]? = some (rows[i]'(by have := (List.getElem?_eq_some_iff.mp hi).1; omega)) := List.getElem?_eq_getElem _
    obtain ⟨c, rfl, hc⟩ := paired_at hr2 hi hi2
    exact ev_call (ea_cons (ev_var rfl) (ea_cons (ev_var rfl) ea_nil)) (spv_is_row (K := K) ha4 (e14 _ _ hc) (ok.ok _ (List.mem_of_getElem? hi2)) (by omega))
def sp_check_table (_ : PySem.W.Frag) : Sp := fun vs H Q _ => ∃ (v : V) (ks : List Kind) (rows : List (List V)), vs = [v] ∧ TabAt H v ks rows ∧ TabOk ks rows ∧ ∀ H', Same H H' → Q .non H'
/-! check_table: slots 0:table -/
theorem sc_check_table : FnScope ["table"] ["table"] (defScope s_check_table) := ⟨rfl, rfl, rfl, by decide +kernel, rfl, by decide +kernel, by decide +kernel⟩
theorem ok_check_table (T : Tp K mg w) : FnOk P w K mg base CX0 5 (a_check_table K) (fdAt K (a_check_table K)) ["table"] (sp_check_table K) := by
  refine T.f_check_table.ok sc_check_table (fun vs H Q E h => ?_) (fun cdv A outer s H vs Q E hr h => ?_)
  · obtain ⟨v, ks, rows, rfl, ta, ok, q⟩ := h
    rfl
  · obtain ⟨v, ks, rows, rfl, ta, ok, q⟩ := h
    refine ⟨_, PSs.nox (pss_one (ps_if (pt_not (pt_val (pe_call (ok_is_table (K := K) T) (hr.mono (by decide)) rfl T.g_is_table T.f_is_table.kp T.bn_is_table .nil pass0 (pa_cons (pv 0) pa_nil)))) (pss_one ps_never) pss_nil)), ?_⟩
    exact ⟨_, rfl, v, ks, rows, rfl, ta, ok, fun H' s => ⟨true, rfl, iteF (q H' s)⟩⟩
def sp_is_column (_ : PySem.W.Frag) : Sp := fun vs H Q _ => ∃ n c : Int, vs = [.int n, .int c] ∧ 0 ≤ c ∧ c < n ∧ Q (.bl true) H
/-! is_column: slots 0:columns 1:value -/
theorem sc_is_column : FnScope ["columns", "value"] ["columns", "value"] (defScope s_is_column) := ⟨rfl, rfl, rfl, by decide +kernel, rfl, by decide +kernel, by decide +kernel⟩
theorem ok_is_column (T : Tp K mg w) : FnOk P w K mg base CX0 2 (a_is_column K) (fdAt K (a_is_column K)) ["columns", "value"] (sp_is_column K) := by
  refine T.f_is_column.ok sc_is_column (fun vs H Q E h => ?_) (fun cdv A outer s H vs Q E hr h => ?_)
  · obtain ⟨n, c, rfl, h0, h1, q⟩ := h
    rfl
  · obtain ⟨n, c, rfl, h0, h1, q⟩ := h
    refine ⟨_, PSs.nox (pss_one (ps_ret (pe_and (pe_call (ok_is_integer (K := K) T) (hr.mono (by decide)) rfl T.g_is_integer T.f_is_integer.kp T.bn_is_integer .nil pass0 (pa_cons (pv 1) pa_nil)) (pe_one (pe_chain op_le op_lt pe_int (pv 1) (pv 0)))))), ?_⟩
    refine ⟨_, rfl, c, rfl, true, rfl, iteT ?_⟩
    exact ⟨_, rfl, _, _, rfl, rfl, _, rfl, itT (decide_eq_true h0) ⟨_, rfl, _, _, rfl, rfl, blT (decide_eq_true h1) q⟩⟩
def sp_check_column (_ : PySem.W.Frag) : Sp := fun vs H Q _ => ∃ n c : Int, vs = [.int n, .int c] ∧ 0 ≤ c ∧ c < n ∧ Q .non H
/-! check_column: slots 0:columns 1:column -/
theorem sc_check_column : FnScope ["columns", "column"] ["columns", "column"] (defScope s_check_column) := ⟨rfl, rfl, rfl, by decide +kernel, rfl, by decide +kernel, by decide +kernel⟩
theorem ok_check_column (T : Tp K mg w) : FnOk P w K mg base CX0 3 (a_check_column K) (fdAt K (a_check_column K)) ["columns", "column"] (sp_check_column K) := by
  refine T.f_check_column.ok sc_check_column (fun vs H Q E h => ?_) (fun cdv A outer s H vs Q E hr h => ?_)
  · obtain ⟨n, c, rfl, h0, h1, q⟩ := h
    rfl
  · obtain ⟨n, c, rfl, h0, h1, q⟩ := h
    refine ⟨_, PSs.nox (pss_one (ps_if (pt_not (pt_val (pe_call (ok_is_column (K := K) T) (hr.mono (by decide)) rfl T.g_is_column T.f_is_column.kp T.bn_is_column .nil pass0 (pa_cons (pv 0) (pa_cons (pv 1) pa_nil))))) (pss_one ps_never) pss_nil)), ?_⟩
    exact ⟨_, rfl, _, rfl, n, c, rfl, h0, h1, true, rfl, iteF q⟩
def sp_sort_key (_ : PySem.W.Frag) : Sp := fun vs H Q _ => ∃ (k : Kind) (v : V), vs = [k.v, v] ∧ CellOk k v ∧ ∀ t, H t = none → Q (.ref t) (upd H t (.tup (keyTup (skey k v))))
/-! sort_key: slots 0:kind 1:cell -/
theorem sc_sort_key : FnScope ["kind", "cell"] ["kind", "cell"] (defScope s_sort_key) := ⟨rfl, rfl, rfl, by decide +kernel, rfl, by decide +kernel, by decide +kernel⟩
theorem ok_sort_key (T : Tp K mg w) : FnOk P w K mg base CX0 1 (a_sort_key K) (fdAt K (a_sort_key K)) ["kind", "cell"] (sp_sort_key K) := by
  refine T.f_sort_key.ok sc_sort_key (fun vs H Q E h => ?_) (fun cdv A outer s H vs Q E hr h => ?_)
  · obtain ⟨k, v, rfl, ok, q⟩ := h
    rfl
  · obtain ⟨k, v, rfl, ok, q⟩ := h
    refine ⟨_, PSs.nox (pss_cons (ps_if (pt_cmpR op_isN (pv 1) pe_non (nomark _)) (pss_one (ps_ret (pe_tup (pa_cons pe_int (pa_cons pe_int pa_nil))))) pss_nil)
      (pss_one (ps_ret (pe_tup (pa_cons pe_int (pa_cons (pe_ifExp (pt_cmpR op_eq (pv 0) (pe_gk rfl T.c_CASELESS) (nomark _)) (pe_lower (pv 1)) (pv 1)) pa_nil)))))), ?_⟩
    cases ok with
    | non => exact ⟨_, rfl, rfl, _, rfl, itT rfl ⟨by show 2 ≤ sizeLine; decide, fun t ht => by cases k <;> exact q t ht⟩⟩
    | num i hi => exact ⟨_, rfl, rfl, _, rfl, itF dnI ⟨_, rfl, rfl, _, rfl, itF (by decide +kernel) ⟨_, rfl, by show 2 ≤ sizeLine; decide, fun t ht => q t ht⟩⟩⟩
    | str k z hk hz =>
      obtain ⟨⟨h1, h2⟩, h3⟩ := txt_codes z hz
      refine ⟨_, rfl, rfl, _, rfl, itF dnS ⟨_, rfl, rfl, _, rfl, ?_⟩⟩
      cases k with
      | num => exact absurd rfl hk
      | txt => exact itF (by decide +kernel) ⟨_, rfl, by show 2 ≤ sizeLine; decide, fun t ht => q t ht⟩
      | cas => exact itT (by decide +kernel) ⟨_, rfl, ⟨_, rfl⟩, z, rfl, rfl, by omega, by show 2 ≤ sizeLine; decide, fun t ht => q t ht⟩
end
end HC


set_option Elab.async false
set_option linter.all false
set_option maxRecDepth 100000
set_option maxHeartbeats 4000000
namespace HC
open PySem PySem.Spec PyProof.Rows L2 Evl
local macro_rules
  | `(tactic| walk_at "ev") => `(tactic| first
    | exact ev_c
    | exact ev_var rfl
    | exact ea_nil
    | exact et_yes
    | exact eo_none
    | exact rv_I0
    | exact rv_eqI
    | exact rv_neI
    | exact rv_eqS
    | exact rv_neS
    | exact rv_eqB
    | exact rv_neB
    | exact rv_isN
    | exact rv_notN
    | exact rv_leS
    | exact rv_ltS
    | exact ru_neg
    | assumption
    | (apply ea_cons <;> walk_at "ev")
    | (apply et_test <;> walk_at "ev")
    | (apply et_B <;> walk_at "ev")
    | (apply et_not <;> walk_at "ev")
    | (apply ev_op <;> walk_at "ev")
    | (apply ev_un <;> walk_at "ev")
    | (apply ev_isi_int (h := kit_int_int) <;> walk_at "ev")
    | (apply ev_isi_int (h := kit_int_bool) <;> walk_at "ev")
    | (apply ev_isi_str (h := kit_str_str) <;> walk_at "ev")
    | (apply ev_isi_lst (h := kit_list_list) <;> walk_at "ev")
    | (apply ev_isi_tup (h := kit_tuple_tuple) <;> walk_at "ev")
    | (apply rc_lenL ; assumption)
    | (apply rc_lenT ; assumption)
    | (apply rc_lenS ; assumption)
    | (apply ev_chain <;> first | walk_at "ev" | (intro _; walk_at "ev"))
    | (apply et_or <;> first | walk_at "ev" | (intro _; walk_at "ev"))
    | (apply et_and <;> first | walk_at "ev" | (intro _; walk_at "ev"))
    | (apply ev_orV <;> first | walk_at "ev" | (intro _; walk_at "ev"))
    | (apply ev_andV <;> first | walk_at "ev" | (intro _; walk_at "ev"))
    | (apply ev_notV <;> walk_at "ev")
    | (apply ev_cb <;> walk_at "ev")
    | (apply eo_some <;> walk_at "ev"))
local macro_rules
  | `(tactic| walk_at "dec") => `(tactic| first
    | assumption
    | exact dnI
    | exact dnS
    | decide +kernel
    | (with_reducible rfl)
    | (simp only [decide_eq_true_eq, Bool.and_eq_true, Bool.not_eq_true', decide_eq_false_iff_not, Bool.not_true, Bool.not_false, Bool.and_eq_false_iff, Bool.or_eq_false_iff, Bool.or_eq_true]; omega)
    | rfl)
local macro_rules
  | `(tactic| walk_at "dt") => `(tactic| first
    | assumption
    | exact et_yes
    | (apply et_orF <;> walk_at "dt")
    | (apply et_andT <;> walk_at "dt")
    | (apply et_notF; walk_at "dt")
    | (apply et_notT; walk_at "dt")
    | (apply et_chT <;> first | walk_at "ev" | walk_at "dec")
    | (apply et_leaf <;> first | walk_at "ev" | walk_at "dec")
    | (apply et_leafB <;> first | walk_at "ev" | walk_at "dec"))
local macro_rules
  | `(tactic| walk_at "pass") => `(tactic| (refine' q_pass ?zzh ?zzk; (case zzh => walk_at "dt")))
local macro_rules
  | `(tactic| walk_at "yes") => `(tactic| ((first | refine' q_yes ?zzh ?zzk | refine' s_yes ?zzh ?zzk); (case zzh => walk_at "dt")))
local macro_rules
  | `(tactic| walk_at "no") => `(tactic| ((first | refine' q_no ?zzh ?zzk | refine' s_no ?zzh ?zzk); (case zzh => walk_at "dt")))
local macro_rules
  | `(tactic| walk_at "ret") => `(tactic| (refine' s_ret (v := _) ?zzh ?zzk; (case zzh => walk_at "ev")))
local macro_rules
  | `(tactic| walk_at "set") => `(tactic| ((first | refine' q_asg (v := _) ?zzh ?zzk | refine' s_asg (v := _) ?zzh ?zzk); (case zzh => walk_at "ev")))
section
variable {P : Program} {w : World} {K : PySem.W.Frag} {mg : Str → Option Value} {base : Heap}
def KeyList (k : Kind) (c : Nat) (rows : List (List V)) : V → Hp → Hp → Prop := LcR rows (fun _ => true) fun row y H => KeyAt H y (skey k (row.getD c .non))
def sp_column_keys (_ : PySem.W.Frag) : Sp := fun vs H Q _ => ∃ (v : V) (ks : List Kind) (rows : List (List V)) (c : Nat) (k : Kind), vs = [v, .int (c : Int)] ∧ TabAt H v ks rows ∧ ks[c]? = some k ∧ (∀ row ∈ rows, ∃ x, row[c]? = some x ∧ CellOk k x) ∧ rows.length ≤ 1000 ∧
  ∀ v' H', Same H H' → KeyList k c rows v' H H' → Q v' H'
theorem made_tup {R : V → Hp → Prop} {xs : List V} {te : TE} {σ : L2.St} {H : Hp} (h : EvX te σ H (NewU xs)) (k : ∀ t H, H t = some (.tup xs) → R (.ref t) H) : EvX te σ H (Made R) :=
  h.imp fun y H1 H2 e1 e2 ⟨t, ey, nt, ht⟩ D H3 ⟨zs, hz⟩ b => by
    subst ey
    refine k t H3 (b t _ (fun z => ?_) ht)
    rw [z, hz] at nt
    cases nt
/-! column_keys: slots 0:table 1:column 2:kinds 3:rows 4:row -/
theorem sc_column_keys : FnScope ["table", "column", "kinds", "rows", "row"] ["table", "column"] (defScope s_column_keys) := ⟨rfl, rfl, rfl, by decide +kernel, rfl, by decide +kernel, by decide +kernel⟩
theorem ok_column_keys (T : Tp K mg w) : FnOk P w K mg base CX0 2 (a_column_keys K) (fdAt K (a_column_keys K)) ["table", "column"] (sp_column_keys K) := by
  refine T.f_column_keys.ok sc_column_keys (fun vs H Q E h => ?_) (fun cdv A outer s H vs Q E hr h => ?_)
  · obtain ⟨v, ks, rows, c, k, rfl, ta, hk, hc, hz, q⟩ := h
    rfl
  · obtain ⟨v, ks, rows, c, k, rfl, ta, hk, hc, hz, q⟩ := h
    refine ⟨_, PSs.nox (pss_cons (ps_asg (pv 0) (kTup (K := K) (pg_tup (n := 2) rfl (pgs_cons (pg_name (i := 2) sc_column_keys.nd rfl (Or.inr rfl) (.inl rfl)) (pgs_cons (pg_name (i := 3) sc_column_keys.nd rfl (Or.inl rfl)) pgs_nil))) rfl))
      (pss_one (ps_ret (pe_lc (own := [("row", 4)]) (g := (gName 4)) rfl sc_column_keys.nd (kPI (K := K) (i := fun K => iList K _) (pi_list (pv 3)) rfl) (blkOk_by (own := [("row", 4)]) (N := ["table", "column", "kinds", "rows", "row"]) (sc := defScope s_column_keys) (by decide +kernel)) (fun _ _ _ _ _ => (pg_name (i := 4) sc_column_keys.nd rfl (Or.inl rfl) (.inr rfl))) (fun _ _ _ _ _ => pts_nil) (fun _ _ _ _ _ => (pe_call (ok_sort_key (K := K) T) (hr.mono (by decide)) rfl T.g_sort_key T.f_sort_key.kp T.bn_sort_key .nil pass0 (pa_cons (pe_ix (kIx (K := K) (r := rIxL) ix_list rfl) (pv 2) (pv 1) (fun _ _ => rfl)) (pa_cons (pe_ix (kIx (K := K) (r := rIxL) ix_list rfl) (pv 4) (pv 1) (fun _ _ => rfl)) pa_nil)))))))), ?_⟩
    obtain ⟨t, a, b, rs, rfl, ht, ha, hb, hp⟩ := ta.ex
    refine q_unp2 rfl (ev_var rfl) ht fun H1 e1 => ?_
    have ha1 := e1 _ _ ha
    refine s_retX (R := KeyList k c rows) (ex_lcQ rows rs (P := fun row v => RowAt H1 v row) ?_ (fun _ => true) _ (ev_var rfl) (SqL.of (e1 _ _ hb)) (by omega) (fun _ _ _ _ => et_yes) fun row v m p _ => ?_) fun v H2 e2 r => q v H2 (e1.trans e2) (r.mono e1)
    · exact paired_flip (Paired.mapP hp fun _ _ r => RowAt.mono e1 r)
    · obtain ⟨x, hx, ok⟩ := hc row m
      obtain ⟨d, rfl, hd⟩ := p
      refine made_tup (xs := keyTup (skey k x)) ?_ fun t H ht => ⟨t, rfl, ?_⟩
      · refine (ex_call (R := NewU (keyTup (skey k x))) (vs := [k.v, x]) (ea_cons (ev_op (ev_var rfl) (ev_var rfl) (rv_ixL (SqL.of ha1) (atI_nat ?_))) (ea_cons (ev_op (ev_var rfl) (ev_var rfl) (rv_ixL (SqL.of hd) (atI_nat hx))) ea_nil)) ?_).imp fun y G1 G2 _ _ ⟨G, h1, h2, p, e, n, hp⟩ => ⟨p, e, fresh_back h1 n, hp⟩
        · rw [List.getElem?_map, hk] <;> rfl
        · exact fun G1 _ Q kk E => ⟨k, x, rfl, ok, fun t ht => kk _ _ (Ex.new ht) ⟨t, rfl, ht, upd_same⟩⟩
      · rw [List.getD_eq_getElem?_getD, hx]
        exact ht
theorem paired_map' {α β : Type} {f : α → β} : ∀ {xs : List α} {ys : List β}, Paired (fun x y => y = f x) xs ys → ys = xs.map f
  | _, _, .nil => rfl
  | _, _, .cons h t => by rw [h, paired_map' t] <;> rfl
def sp_ranks_in (_ : PySem.W.Frag) : Sp := fun vs H Q _ => ∃ (a : Addr) (us : List V) (ps : List (Int × Key)), vs = [.ref a] ∧ H a = some (.lst us) ∧ Paired (KeyAt H) us ps ∧ (∀ p ∈ ps, ∀ q ∈ ps, alike p q) ∧ us.length ≤ 1000 ∧
  ∀ rk l H', RankOk ps rk → H l = none → Same H H' → H' l = some (.lst (rk.map .int)) → Q (.ref l) H'
structure RkInv (B : Hp) (us : List V) (D : Addr) (done : List (Int × Key)) (H : Hp) (kvs : List (List Key × V)) (dk : List (Int × Key)) : Prop where
  sm : Same B H
  hd : H D = some (.dT kvs)
  ln : kvs.length = dk.length
  le : dk.length ≤ done.length
  hit : ∀ p : Int × Key, p ∈ dk → valV kvs (keyL p) = some (V.int (rkIn dk p : Int))
  mis : ∀ p : Int × Key, ¬ p ∈ dk → valV kvs (keyL p) = none
  mm : ∀ p, p ∈ dk ↔ p ∈ done
/-! ranks_in: slots 0:keys 1:rank_by_key 2:key -/
theorem sc_ranks_in : FnScope ["keys", "rank_by_key", "key"] ["keys"] (defScope s_ranks_in) := ⟨rfl, rfl, rfl, by decide +kernel, rfl, by decide +kernel, by decide +kernel⟩
theorem ok_ranks_in (T : Tp K mg w) : FnOk P w K mg base CX0 1 (a_ranks_in K) (fdAt K (a_ranks_in K)) ["keys"] (sp_ranks_in K) := by
  refine T.f_ranks_in.ok sc_ranks_in (fun vs H Q E h => ?_) (fun cdv A outer s H vs Q E hr h => ?_)
  · obtain ⟨a, us, ps, rfl, ha, hp, hal, hz, q⟩ := h
    rfl
  · obtain ⟨a, us, ps, rfl, ha, hp, hal, hz, q⟩ := h
    refine ⟨_, PSs.nox (pss_cons (ps_set (i := 1) sc_ranks_in.nd rfl (Or.inr rfl) pe_dnewT)
      (pss_cons (ps_for PassesOwn.never rfl (kPI (K := K) (i := fun K => iList K _) (pi_list (pe_callB (kCR (K := K) (r := rSortedK) cr_sortedK rfl) rfl T.b_sorted (by decide +kernel) (pa_cons (pv 0) pa_nil))) rfl) (pg_name (i := 2) sc_ranks_in.nd rfl (Or.inl rfl)) (pss_one (ps_if (pt_cmp (pc_dnotin (hu_of hr) (pv 2) (pv 1)) rfl) (pss_one (ps_dput (hu_of hr) (pv 1) (pv 2) (pe_callB call_len_dT rfl T.b_len (by decide +kernel) (pa_cons (pv 1) pa_nil)) rfl)) pss_nil)))
      (pss_one (ps_ret (pe_lc (own := [("key", 2)]) (g := (gName 2)) rfl sc_ranks_in.nd (kPI (K := K) (i := fun K => iList K _) (pi_list (pv 0)) rfl) (blkOk_by (own := [("key", 2)]) (N := ["keys", "rank_by_key", "key"]) (sc := defScope s_ranks_in) (by decide +kernel)) (fun _ _ _ _ _ => (pg_name (i := 2) sc_ranks_in.nd rfl (Or.inl rfl) (.inr rfl))) (fun _ _ _ _ _ => pts_nil) (fun _ _ _ _ _ => (pe_dget (hu_of hr) (pv 1) (pv 2) (fun _ _ => rfl)))))))), ?_⟩
    have hk : ∀ x p, KeyAt H x p → kOf H x = p := fun x p ⟨t, e, h⟩ => kOf_at e h
    have hps : ps = us.map (kOf H) := paired_map' (Paired.mapP hp fun x p h => (hk x p h).symm)
    have hmem : ∀ x ∈ us, kOf H x ∈ ps := fun x m => by
      rw [hps]
      exact List.mem_map_of_mem m
    have htup : ∀ x ∈ us, ∃ t, x = V.ref t ∧ H t = some (.tup [.int (kOf H x).1, kV (kOf H x).2]) := fun x m => by
      obtain ⟨i, hi⟩ := List.getElem?_of_mem m
      obtain ⟨p, hp2⟩ : ∃ p, ps[i]? = some p := ⟨kOf H x, by rw [hps, List.getElem?_map, hi] <;> rfl⟩
      obtain ⟨t, e, h⟩ := paired_at hp hi hp2
      refine ⟨t, e, ?_⟩
      rw [kOf_at e h]
      exact h
    intro D hD
    have hk2 : ∀ x ∈ us, kOf (upd H D (.dT [])) x = kOf H x := fun x m => by
      obtain ⟨t, e, h⟩ := htup x m
      exact kOf_at e (by rw [upd_ne (ne_of_none h hD)]; exact h)
    refine q_forX (ex_sortedK (us := us) (ev_var rfl) (by rw [upd_ne (ne_of_none ha hD)]; exact ha) (fun x m => ?_) fun x mx y my => ?_) fun v H1 e1 ⟨ys, l, ev, srt, stb, nl, hl⟩ => ?_
    · obtain ⟨t, e, h⟩ := htup x m
      rw [hk2 x m]
      exact ⟨t, e, by rw [upd_ne (ne_of_none h hD)]; exact h⟩
    · rw [hk2 x mx, hk2 y my]
      exact hal _ (hmem x mx) _ (hmem y my)
    · subst ev
      have mem : ∀ y ∈ ys, y ∈ us := fun y m => stb.perm.mem_iff.mp m
      have hl0 : H l = none := fresh_back (same_new hD) nl
      have srt' : ∀ i j (x y : V), i < j → ys[i]? = some x → ys[j]? = some y → keyLt (kOf H y) (kOf H x) = false := fun i j x y hij hx hy => by
        obtain ⟨hi, rfl⟩ := List.getElem?_eq_some_iff.mp hx
        obtain ⟨hj, rfl⟩ := List.getElem?_eq_some_iff.mp hy
        have h := List.pairwise_iff_getElem.mp srt i j hi hj hij
        rw [ltK, hk2 _ (mem _ (List.getElem_mem hi)), hk2 _ (mem _ (List.getElem_mem hj))] at h
        exact h
      have ly : ys.length = us.length := stb.perm.length_eq
      refine q_forLn (K := K) ev_c (SqL.of hl) (fun i σ' H' => (∃ z, σ' = [some (.ref a), some (.ref D), z]) ∧ H' l = some (.lst ys) ∧ ∃ kvs dk, RkInv H us D ((ys.take i).map (kOf H)) H' kvs dk) (fun H2 e2 => ?_) (fun i σ' H' _ p => SqL.of p.2.1) (fun i y σ' H' hy p => ?_) fun σ' H' p => ?_
      · exact ⟨⟨_, rfl⟩, e2 _ _ hl, [], [], (same_new hD).trans (e1.trans e2), e2 _ _ (e1 _ _ upd_same), rfl, Nat.le_refl _, fun p h => by simp at h, fun p h => rfl, fun p => Iff.rfl⟩
      · obtain ⟨⟨z, rfl⟩, hl', kvs, dk, I⟩ := p
        obtain ⟨t, ey, ht⟩ := htup y (mem y (List.mem_of_getElem? hy))
        subst ey
        have ht' := I.sm _ _ ht
        have et : (ys.take (i + 1)).map (kOf H) = (ys.take i).map (kOf H) ++ [kOf H (.ref t)] := by
          rw [List.take_add_one, hy, List.map_append]
          rfl
        have hg : ∀ H1, Ex H' H1 → DGet H1 D (.ref t) (valV kvs (keyL (kOf H (.ref t)))) := fun H1 e => DGet.t (e _ _ I.hd) (e _ _ ht')
        have il : i < ys.length := (List.getElem?_eq_some_iff.mp hy).1
        have ltk : ((ys.take i).map (kOf H)).length ≤ 1000 := by
          rw [List.length_map, List.length_take]
          omega
        by_cases m : kOf H (.ref t) ∈ dk
        · refine s_no (et_leaf (ev_dnotin (ev_var rfl) (ev_var rfl) hg) (by rw [I.hit _ m] <;> rfl)) fun H2 e2 => ?_
          refine ⟨⟨_, rfl⟩, e2 _ _ hl', kvs, dk, I.sm.trans e2, e2 _ _ I.hd, I.ln, by rw [et, List.length_append]; exact Nat.le_trans I.le (Nat.le_add_right _ _), I.hit, I.mis, fun p => ?_⟩
          rw [et, List.mem_append, List.mem_singleton, ← I.mm p]
          exact ⟨Or.inl, fun h => h.elim id fun h => by rw [h]; exact m⟩
        · refine s_yes (et_leaf (ev_dnotin (ev_var rfl) (ev_var rfl) hg) (by rw [I.mis _ m] <;> rfl)) fun H2 e2 => ?_
          refine s_dput (v := .int (kvs.length : Int)) (ev_cb (ea_cons (ev_var rfl) ea_nil) (fun H3 e3 Q k => ⟨D, kvs, rfl, e3 _ _ (e2 _ _ I.hd), k H3 (Ex.refl H3)⟩)) (ev_var rfl) (ev_var rfl) fun H3 e3 => ?_
          have h3 := e3 _ _ (e2 _ _ I.hd)
          refine ⟨_, DPut.t (k := keyL (kOf H (.ref t))) h3 (e3 _ _ (e2 _ _ ht')) (sz_lt (by have := I.le; have := I.ln; omega)), ⟨_, rfl⟩, ?_, putK kvs (keyL (kOf H (.ref t))) (.int (kvs.length : Int)), dk ++ [kOf H (.ref t)], ?_⟩
          · rw [upd_ne]
            · exact e3 _ _ (e2 _ _ hl')
            · intro e
              rw [e] at hl'
              rw [I.hd] at hl'
              cases hl'
          · have hlt : ∀ d ∈ dk, keyLt d (kOf H (.ref t)) = true := fun d hd => by
              have hd2 := (I.mm d).mp hd
              obtain ⟨x, hx, rfl⟩ := List.mem_map.mp hd2
              obtain ⟨j, hj⟩ := List.getElem?_of_mem hx
              rw [List.getElem?_take] at hj
              split at hj
              case isFalse => cases hj
              case isTrue hji =>
                have h1 := srt' j i x (.ref t) hji hj hy
                cases h2 : keyLt (kOf H x) (kOf H (.ref t)) with
                | true => rfl
                | false => exact absurd (keyLt_tri _ _ h2 h1 ▸ hd) m
            have kinj : ∀ p : Int × Key, keyL p = keyL (kOf H (.ref t)) → p = kOf H (.ref t) := fun p h => by
              obtain ⟨h1, h2⟩ := List.cons.inj h
              exact Prod.ext (Sum.inl.inj h1) (List.cons.inj h2).1
            refine ⟨same_mut (I.sm.trans (e2.trans e3)) hD, upd_same, ?_, ?_, fun p hp => ?_, fun p hp => ?_, fun p => ?_⟩
            · rw [putK_new _ (I.mis _ m), List.length_append, List.length_append, I.ln]
              rfl
            · rw [et, List.length_append, List.length_append]
              exact Nat.add_le_add_right I.le 1
            · rw [valV_put]
              rcases List.mem_append.mp hp with hp | hp
              · rw [if_neg (fun h => m (kinj p h ▸ hp)), I.hit p hp, rk_snoc_old (keyLt_asym _ _ (hlt p hp))]
              · rw [List.mem_singleton.mp hp, if_pos rfl, rk_snoc_new hlt, I.ln]
            · rw [valV_put]
              have hp1 : ¬ p ∈ dk := fun h => hp (List.mem_append_left _ h)
              rw [if_neg (fun h => hp (List.mem_append_right _ (List.mem_singleton.mpr (kinj p h)))), I.mis p hp1]
            · rw [et, List.mem_append, List.mem_append, I.mm p]
      · obtain ⟨⟨z, rfl⟩, hl', kvs, dk, I⟩ := p
        rw [List.take_of_length_le (Nat.le_refl _)] at I
        refine s_retL (el_lcL (K := K) us id (fun _ => true) (fun x => .int (rkIn dk (kOf H x) : Int)) (ev_var rfl) (by rw [List.map_id]; exact SqL.of (I.sm _ _ ha)) (by omega) (fun _ _ => et_yes) fun x m _ => ?_) fun p H2 np e2 hp => ?_
        · obtain ⟨t, ex, ht⟩ := htup x m
          refine ev_dget (a := D) (ev_var rfl) (ev_var rfl) fun H1 e => ?_
          subst ex
          have hin : kOf H (.ref t) ∈ dk := (I.mm _).mpr (List.mem_map_of_mem (stb.perm.mem_iff.mpr m))
          rw [← I.hit _ hin]
          exact DGet.t (k := keyL (kOf H (.ref t))) (e _ _ I.hd) (e _ _ (I.sm _ _ ht))
        · refine q (ps.map fun p => (rkIn dk p : Int)) p H2 (rankOk_of fun p hp => ?_) (fresh_back I.sm np) (I.sm.trans e2) ?_
          · rw [hps] at hp
            obtain ⟨x, hx, rfl⟩ := List.mem_map.mp hp
            exact (I.mm _).mpr (List.mem_map_of_mem (stb.perm.mem_iff.mpr hx))
          · rw [hp, hps, List.filter_eq_self.mpr fun _ _ => rfl, List.map_map, List.map_map]
            rfl
end
end HC


set_option Elab.async false
set_option linter.all false
set_option maxRecDepth 100000
set_option maxHeartbeats 2000000
/-! The stable sort by insertion, clicks, views. Plain lists. -/
namespace HC
open PySem PySem.Spec PyProof.Rows L2
def put (lt : Nat → Nat → Bool) (acc : List Nat) (x : Nat) : List Nat := acc.takeWhile (fun y => !lt x y) ++ x :: acc.dropWhile (fun y => !lt x y)
def isrtA (lt : Nat → Nat → Bool) (acc l : List Nat) : List Nat := l.foldl (put lt) acc
def isrt (lt : Nat → Nat → Bool) (l : List Nat) : List Nat := isrtA lt [] l
theorem drop_above {lt : Nat → Nat → Bool} (O : SrtO.Swo lt) {x : Nat} : ∀ {acc : List Nat}, SrtO.Srtd lt acc → ∀ z ∈ acc.dropWhile (fun y => !lt x y), lt x z = true
  | [], _, z, h => by simp at h
  | y :: acc, hs, z, h => by
    rw [List.dropWhile_cons] at h
    by_cases e : lt x y = true
    · rw [if_neg (by rw [e]; decide)] at h
      exact O.lt_all hs e z h
    · rw [if_pos (by simpa using e)] at h
      exact drop_above O (List.pairwise_cons.mp hs).2 z h
theorem take_below {lt : Nat → Nat → Bool} {x : Nat} : ∀ {acc : List Nat}, ∀ z ∈ acc.takeWhile (fun y => !lt x y), lt x z = false
  | [], z, h => by simp at h
  | y :: acc, z, h => by
    rw [List.takeWhile_cons] at h
    by_cases e : lt x y = true
    · rw [if_neg (by rw [e]; decide)] at h
      cases h
    · rw [if_pos (by simpa using e)] at h
      rcases List.mem_cons.mp h with h | h
      · rw [h]
        simpa using e
      · exact take_below z h
theorem put_ok {lt : Nat → Nat → Bool} (O : SrtO.Swo lt) {acc m : List Nat} {x : Nat} (hs : SrtO.Srtd lt acc) (hb : SrtO.Stb lt acc m) : SrtO.Srtd lt (put lt acc x) ∧ SrtO.Stb lt (put lt acc x) (m ++ [x]) := by
  have e : acc.takeWhile (fun y => !lt x y) ++ acc.dropWhile (fun y => !lt x y) = acc := List.takeWhile_append_dropWhile
  have h2 := drop_above O hs (x := x)
  exact ⟨SrtO.ins_srtd O (e.symm ▸ hs) take_below h2, SrtO.ins_stb O h2 (e.symm ▸ hb)⟩
theorem isrtA_ok {lt : Nat → Nat → Bool} (O : SrtO.Swo lt) : ∀ {l acc m : List Nat}, SrtO.Srtd lt acc → SrtO.Stb lt acc m → SrtO.Srtd lt (isrtA lt acc l) ∧ SrtO.Stb lt (isrtA lt acc l) (m ++ l)
  | [], acc, m, hs, hb => ⟨hs, by rw [List.append_nil]; exact hb⟩
  | x :: l, acc, m, hs, hb => by
    obtain ⟨h1, h2⟩ := put_ok O hs hb (x := x)
    have h := isrtA_ok O (l := l) h1 h2
    rw [List.append_assoc] at h
    exact h
theorem isrt_ok {lt : Nat → Nat → Bool} (O : SrtO.Swo lt) (l : List Nat) : SrtO.Srtd lt (isrt lt l) ∧ SrtO.Stb lt (isrt lt l) l := isrtA_ok O (l := l) (m := []) List.Pairwise.nil (SrtO.Stb.refl [])
theorem isrt_uniq {lt : Nat → Nat → Bool} (O : SrtO.Swo lt) {l out : List Nat} (hs : SrtO.Srtd lt out) (hb : SrtO.Stb lt out l) : out = isrt lt l := by
  obtain ⟨h1, h2⟩ := isrt_ok O l
  exact SrtO.stb_uniq O hs h1 ⟨hb.perm.trans h2.perm.symm, fun x => (hb.cls x).trans (h2.cls x).symm⟩
theorem put_map {lt : Nat → Nat → Bool} (f : Nat → Nat) (acc : List Nat) (x : Nat) : (put (fun a b => lt (f a) (f b)) acc x).map f = put lt (acc.map f) (f x) := by
  unfold put
  rw [List.map_append, List.map_cons, List.takeWhile_map, List.dropWhile_map]
  rfl
theorem isrtA_map {lt : Nat → Nat → Bool} (f : Nat → Nat) : ∀ (l acc : List Nat), (isrtA (fun a b => lt (f a) (f b)) acc l).map f = isrtA lt (acc.map f) (l.map f)
  | [], acc => rfl
  | x :: l, acc => by
    show (isrtA (fun a b => lt (f a) (f b)) (put _ acc x) l).map f = isrtA lt (put lt (acc.map f) (f x)) (l.map f)
    rw [isrtA_map f l, put_map]
theorem isrt_map {lt : Nat → Nat → Bool} (f : Nat → Nat) (l : List Nat) : (isrt (fun a b => lt (f a) (f b)) l).map f = isrt lt (l.map f) := isrtA_map f l []
theorem put_mem {lt : Nat → Nat → Bool} {acc : List Nat} {x y : Nat} : y ∈ put lt acc x ↔ y ∈ acc ∨ y = x := by
  have e : acc.takeWhile (fun y => !lt x y) ++ acc.dropWhile (fun y => !lt x y) = acc := List.takeWhile_append_dropWhile
  have h : y ∈ acc ↔ y ∈ acc.takeWhile (fun y => !lt x y) ∨ y ∈ acc.dropWhile (fun y => !lt x y) := by rw [← List.mem_append, e]
  unfold put
  rw [List.mem_append, List.mem_cons, h]
  constructor
  · rintro (h | h | h)
    · exact .inl (.inl h)
    · exact .inr h
    · exact .inl (.inr h)
  · rintro ((h | h) | h)
    · exact .inl h
    · exact .inr (.inr h)
    · exact .inr (.inl h)
theorem tw_congr {p q : Nat → Bool} : ∀ {l : List Nat}, (∀ y ∈ l, p y = q y) → l.takeWhile p = l.takeWhile q ∧ l.dropWhile p = l.dropWhile q
  | [], _ => ⟨rfl, rfl⟩
  | y :: l, h => by
    have h1 := h y List.mem_cons_self
    have ⟨a, b⟩ := tw_congr fun z m => h z (List.mem_cons_of_mem _ m)
    rw [List.takeWhile_cons, List.takeWhile_cons, List.dropWhile_cons, List.dropWhile_cons, h1, a, b]
    exact ⟨rfl, rfl⟩
theorem isrtA_congr {lt lt' : Nat → Nat → Bool} : ∀ {l acc : List Nat} (S : Nat → Prop), (∀ x, S x → ∀ y, S y → lt x y = lt' x y) → (∀ x ∈ l, S x) → (∀ x ∈ acc, S x) → isrtA lt acc l = isrtA lt' acc l
  | [], acc, _, _, _, _ => rfl
  | x :: l, acc, S, h, h1, h2 => by
    have e : put lt acc x = put lt' acc x := by
      have ⟨a, b⟩ := tw_congr (p := fun y => !lt x y) (q := fun y => !lt' x y) (l := acc) fun y m => by rw [h x (h1 x List.mem_cons_self) y (h2 y m)]
      unfold put
      rw [a, b]
    show isrtA lt (put lt acc x) l = isrtA lt' (put lt' acc x) l
    rw [e]
    exact isrtA_congr S h (fun y m => h1 y (List.mem_cons_of_mem _ m)) fun y m => (put_mem.mp m).elim (h2 y) fun e => e ▸ h1 x List.mem_cons_self
theorem isrt_congr {lt lt' : Nat → Nat → Bool} {l : List Nat} (h : ∀ x ∈ l, ∀ y ∈ l, lt x y = lt' x y) : isrt lt l = isrt lt' l := isrtA_congr (· ∈ l) h (fun _ m => m) fun _ m => by simp at m
theorem isrtA_perm {lt : Nat → Nat → Bool} : ∀ (l acc : List Nat), (isrtA lt acc l).Perm (acc ++ l)
  | [], acc => by rw [List.append_nil]; exact List.Perm.refl _
  | x :: l, acc => by
    refine (isrtA_perm l (put lt acc x)).trans ?_
    have e : acc.takeWhile (fun y => !lt x y) ++ acc.dropWhile (fun y => !lt x y) = acc := List.takeWhile_append_dropWhile
    have h : (put lt acc x).Perm (acc ++ [x]) := by
      unfold put
      refine List.perm_middle.trans ?_
      rw [e]
      exact (List.perm_append_comm (l₁ := [x]))
    refine (h.append_right l).trans ?_
    rw [List.append_assoc]
    exact List.Perm.refl _
theorem isrt_perm {lt : Nat → Nat → Bool} (l : List Nat) : (isrt lt l).Perm l := isrtA_perm l []
/-! ### clicks -/
/-- what a click on column c shows -/
def clk (lt : Nat → Nat → Nat → Bool) (shown : List Nat) (c : Nat) (last : Option Nat) : List Nat := if last = some c then shown.reverse else isrt (lt c) shown
def vw (lt : Nat → Nat → Nat → Bool) : List Nat → List Nat → Option Nat → List Nat
  | shown, [], _ => shown
  | shown, c :: cs, last => vw lt (clk lt shown c last) cs (some c)
theorem clk_perm {lt : Nat → Nat → Nat → Bool} (shown : List Nat) (c : Nat) (last : Option Nat) : (clk lt shown c last).Perm shown := by
  unfold clk
  split
  · exact List.reverse_perm shown
  · exact isrt_perm shown
theorem clk_map {lt : Nat → Nat → Nat → Bool} (f : Nat → Nat) (shown : List Nat) (c : Nat) (last : Option Nat) : (clk (fun c a b => lt c (f a) (f b)) shown c last).map f = clk lt (shown.map f) c last := by
  unfold clk
  split
  · exact List.map_reverse
  · exact isrt_map (lt := lt c) f shown
theorem clk_congr {lt lt' : Nat → Nat → Nat → Bool} {shown : List Nat} {c : Nat} {last : Option Nat} (h : ∀ x ∈ shown, ∀ y ∈ shown, lt c x y = lt' c x y) : clk lt shown c last = clk lt' shown c last := by
  unfold clk
  split
  · rfl
  · exact isrt_congr h
theorem vw_perm {lt : Nat → Nat → Nat → Bool} : ∀ (cs shown : List Nat) (last : Option Nat), (vw lt shown cs last).Perm shown
  | [], shown, _ => List.Perm.refl _
  | c :: cs, shown, last => (vw_perm cs _ (some c)).trans (clk_perm shown c last)
theorem vw_map {lt : Nat → Nat → Nat → Bool} (f : Nat → Nat) : ∀ (cs shown : List Nat) (last : Option Nat), (vw (fun c a b => lt c (f a) (f b)) shown cs last).map f = vw lt (shown.map f) cs last
  | [], shown, _ => rfl
  | c :: cs, shown, last => by
    show (vw _ (clk _ shown c last) cs (some c)).map f = vw lt (clk lt (shown.map f) c last) cs (some c)
    rw [vw_map f cs, clk_map]
theorem vw_congr {lt lt' : Nat → Nat → Nat → Bool} : ∀ {cs shown : List Nat} {last : Option Nat}, (∀ c ∈ cs, ∀ x ∈ shown, ∀ y ∈ shown, lt c x y = lt' c x y) → vw lt shown cs last = vw lt' shown cs last
  | [], shown, _, _ => rfl
  | c :: cs, shown, last, h => by
    show vw lt (clk lt shown c last) cs (some c) = vw lt' (clk lt' shown c last) cs (some c)
    rw [clk_congr (h c List.mem_cons_self)]
    have p : (clk lt' shown c last).Perm shown := clk_perm shown c last
    exact vw_congr fun d m x hx y hy => h d (List.mem_cons_of_mem _ m) x (p.mem_iff.mp hx) y (p.mem_iff.mp hy)
theorem vw_snoc {lt : Nat → Nat → Nat → Bool} (c : Nat) : ∀ (cs shown : List Nat) (last : Option Nat), vw lt shown (cs ++ [c]) last = clk lt (vw lt shown cs last) c (if cs = [] then last else cs.getLast?)
  | [], shown, last => rfl
  | [d], shown, last => rfl
  | d :: e :: cs, shown, last => by
    show vw lt (clk lt shown d last) ((e :: cs) ++ [c]) (some d) = _
    rw [vw_snoc c (e :: cs)]
    rfl
/-! ### sorted by (rank, place) -/
theorem decLt_swo (r : Nat → Int) : SrtO.Swo fun a b => decide (r a < r b) := by
  refine ⟨fun x y h => ?_, fun x y z h1 h2 => ?_⟩
  · have a := of_decide_eq_true h
    exact decide_eq_false (by omega)
  · have a := of_decide_eq_false h1
    have b := of_decide_eq_false h2
    exact decide_eq_false (by omega)
theorem rank_sort {n : Nat} {r : Nat → Int} {pl : List Nat} (hp : pl.Perm (List.range n)) (hs : pl.Pairwise fun a b => SrtO.lexB (r b, (b : Int)) (r a, (a : Int)) = false) : pl = isrt (fun a b => decide (r a < r b)) (List.range n) := by
  refine isrt_uniq (decLt_swo r) (hs.imp fun {a b} h => ?_) ⟨hp, fun x => ?_⟩
  · have h := SrtO.lexB_no.mp h
    exact decide_eq_false (by show ¬ r b < r a; intro q; exact h (.inl q))
  · refine List.Perm.eq_of_pairwise (le := fun a b => a ≤ b) (fun a b _ _ h1 h2 => Nat.le_antisymm h1 h2) ?_ ?_ (hp.filter _)
    · refine (hs.filter _).imp_of_mem fun {a b} ha hb h => ?_
      have h := SrtO.lexB_no.mp h
      obtain ⟨_, ea⟩ := List.mem_filter.mp ha
      obtain ⟨_, eb⟩ := List.mem_filter.mp hb
      obtain ⟨a1, a2⟩ := SrtO.eqv_iff.mp ea
      obtain ⟨b1, b2⟩ := SrtO.eqv_iff.mp eb
      have a1 := of_decide_eq_false a1
      have a2 := of_decide_eq_false a2
      have b1 := of_decide_eq_false b1
      have b2 := of_decide_eq_false b2
      have h' : ¬ (r b < r a ∨ (r b = r a ∧ (b : Int) < (a : Int))) := h
      omega
    · exact (List.pairwise_lt_range.filter _).imp fun h => Nat.le_of_lt h
/-- the ranks' order -/
def rkLt (rk : List Int) (x y : Nat) : Bool := decide (rk.getD x 0 < rk.getD y 0)
theorem map_range_getD : ∀ (l : List Nat), (List.range l.length).map (fun i => l.getD i 0) = l := fun l => by
  refine List.ext_getElem (by simp) fun i h1 h2 => ?_
  simp at h1
  simp [h1]
end HC

set_option Elab.async false
set_option linter.all false
set_option maxRecDepth 100000
set_option maxHeartbeats 4000000
namespace HC
open PySem PySem.Spec PyProof.Rows L2 Evl
local macro_rules
  | `(tactic| walk_at "ev") => `(tactic| first
    | exact ev_c
    | exact ev_var rfl
    | exact ea_nil
    | exact et_yes
    | exact eo_none
    | exact rv_I0
    | exact rv_eqI
    | exact rv_neI
    | exact rv_eqS
    | exact rv_neS
    | exact rv_eqB
    | exact rv_neB
    | exact rv_isN
    | exact rv_notN
    | exact rv_leS
    | exact rv_ltS
    | exact ru_neg
    | assumption
    | (apply ea_cons <;> walk_at "ev")
    | (apply et_test <;> walk_at "ev")
    | (apply et_B <;> walk_at "ev")
    | (apply et_not <;> walk_at "ev")
    | (apply ev_op <;> walk_at "ev")
    | (apply ev_un <;> walk_at "ev")
    | (apply ev_isi_int (h := kit_int_int) <;> walk_at "ev")
    | (apply ev_isi_int (h := kit_int_bool) <;> walk_at "ev")
    | (apply ev_isi_str (h := kit_str_str) <;> walk_at "ev")
    | (apply ev_isi_lst (h := kit_list_list) <;> walk_at "ev")
    | (apply ev_isi_tup (h := kit_tuple_tuple) <;> walk_at "ev")
    | (apply rc_lenL ; assumption)
    | (apply rc_lenT ; assumption)
    | (apply rc_lenS ; assumption)
    | (apply ev_chain <;> first | walk_at "ev" | (intro _; walk_at "ev"))
    | (apply et_or <;> first | walk_at "ev" | (intro _; walk_at "ev"))
    | (apply et_and <;> first | walk_at "ev" | (intro _; walk_at "ev"))
    | (apply ev_orV <;> first | walk_at "ev" | (intro _; walk_at "ev"))
    | (apply ev_andV <;> first | walk_at "ev" | (intro _; walk_at "ev"))
    | (apply ev_notV <;> walk_at "ev")
    | (apply ev_cb <;> walk_at "ev")
    | (apply eo_some <;> walk_at "ev"))
local macro_rules
  | `(tactic| walk_at "dec") => `(tactic| first
    | assumption
    | exact dnI
    | exact dnS
    | decide +kernel
    | (with_reducible rfl)
    | (simp only [decide_eq_true_eq, Bool.and_eq_true, Bool.not_eq_true', decide_eq_false_iff_not, Bool.not_true, Bool.not_false, Bool.and_eq_false_iff, Bool.or_eq_false_iff, Bool.or_eq_true]; omega)
    | rfl)
local macro_rules
  | `(tactic| walk_at "dt") => `(tactic| first
    | assumption
    | exact et_yes
    | (apply et_orF <;> walk_at "dt")
    | (apply et_andT <;> walk_at "dt")
    | (apply et_notF; walk_at "dt")
    | (apply et_notT; walk_at "dt")
    | (apply et_chT <;> first | walk_at "ev" | walk_at "dec")
    | (apply et_leaf <;> first | walk_at "ev" | walk_at "dec")
    | (apply et_leafB <;> first | walk_at "ev" | walk_at "dec"))
local macro_rules
  | `(tactic| walk_at "pass") => `(tactic| (refine' q_pass ?zzh ?zzk; (case zzh => walk_at "dt")))
local macro_rules
  | `(tactic| walk_at "yes") => `(tactic| ((first | refine' q_yes ?zzh ?zzk | refine' s_yes ?zzh ?zzk); (case zzh => walk_at "dt")))
local macro_rules
  | `(tactic| walk_at "no") => `(tactic| ((first | refine' q_no ?zzh ?zzk | refine' s_no ?zzh ?zzk); (case zzh => walk_at "dt")))
local macro_rules
  | `(tactic| walk_at "ret") => `(tactic| (refine' s_ret (v := _) ?zzh ?zzk; (case zzh => walk_at "ev")))
local macro_rules
  | `(tactic| walk_at "set") => `(tactic| ((first | refine' q_asg (v := _) ?zzh ?zzk | refine' s_asg (v := _) ?zzh ?zzk); (case zzh => walk_at "ev")))
section
variable {P : Program} {w : World} {K : PySem.W.Frag} {mg : Str → Option Value} {base : Heap}
abbrev nV (n : Nat) : V := .int (n : Int)
def kPO (H : Hp) : V → Int × Int
  | .ref t => match H t with
    | some (.tup [.int i, .int j]) => (i, j)
    | _ => (0, 0)
  | _ => (0, 0)
theorem kPO_at {H : Hp} {x : V} {i j : Int} {t : Addr} (e : x = .ref t) (h : H t = some (.tup [.int i, .int j])) : kPO H x = (i, j) := by
  subst e
  show (match H t with
    | some (.tup [.int i, .int j]) => (i, j)
    | _ => (0, 0)) = _
  rw [h]
theorem filter_tt {α : Type} (l : List α) : (l.filter fun _ => true) = l := List.filter_eq_self.mpr fun _ _ => rfl
theorem atI_map {xs : List Nat} {i : Nat} (h : i < xs.length) : atI (xs.map nV) (i : Int) = some (nV (xs.getD i 0)) := atI_nat (by rw [List.getElem?_map, List.getD_eq_getElem?_getD, List.getElem?_eq_getElem h] <;> rfl)
theorem atI_mapI {xs : List Int} {i : Nat} (h : i < xs.length) : atI (xs.map V.int) (i : Int) = some (.int (xs.getD i 0)) := atI_nat (by rw [List.getElem?_map, List.getD_eq_getElem?_getD, List.getElem?_eq_getElem h] <;> rfl)
theorem paired_mapeq {α β γ : Type} {f : β → γ} {g : α → γ} : ∀ {xs : List α} {ys : List β}, Paired (fun x y => f y = g x) xs ys → ys.map f = xs.map g
  | _, _, .nil => rfl
  | _, _, .cons h t => by rw [List.map_cons, List.map_cons, h, paired_mapeq t]
theorem paired_of_map {α β : Type} {F : α → β → Prop} {f : β → α} : ∀ {ys : List β}, (∀ y ∈ ys, F (f y) y) → Paired F (ys.map f) ys
  | [], _ => .nil
  | y :: ys, h => .cons (h y List.mem_cons_self) (paired_of_map fun z m => h z (List.mem_cons_of_mem _ m))
theorem zip_range_map {γ : Type} (G : Nat → Nat → γ) (l : List Nat) : ((List.range l.length).zip l).map (fun x => G x.1 x.2) = (List.range l.length).map fun i => G i (l.getD i 0) := by
  refine List.ext_getElem (by simp) fun i h1 h2 => ?_
  simp at h1
  simp [h1]
/-- the places by rank -/
def Places (rk : List Int) (shown : List Nat) (v : V) (H : Hp) : Prop := ∃ (ys : List V) (p : Addr) (pl : List Nat), v = .ref p ∧ H p = some (.lst ys) ∧ Paired (fun (i : Nat) (v : V) => ∃ t, v = V.ref t ∧ H t = some (.tup [.int (rk.getD (shown.getD i 0) 0), nV i])) pl ys ∧ (∀ i ∈ pl, i < shown.length) ∧ pl.length = shown.length ∧ pl.map (fun i => shown.getD i 0) = isrt (rkLt rk) shown
def sp_sort_rows (_ : PySem.W.Frag) : Sp := fun vs H Q _ => ∃ (a b : Addr) (rk : List Int) (shown : List Nat), vs = [.ref a, .ref b] ∧ H a = some (.lst (rk.map .int)) ∧ H b = some (.lst (shown.map nV)) ∧ (∀ x ∈ shown, x < rk.length) ∧ shown.length ≤ 1000 ∧
  ∀ l H', H l = none → Same H H' → H' l = some (.lst ((isrt (rkLt rk) shown).map nV)) → Q (.ref l) H'
/-! sort_rows: slots 0:ranks 1:shown 2:places 3:rank 4:place 5:row -/
theorem sc_sort_rows : FnScope ["ranks", "shown", "places", "rank", "place", "row"] ["ranks", "shown"] (defScope s_sort_rows) := ⟨rfl, rfl, rfl, by decide +kernel, rfl, by decide +kernel, by decide +kernel⟩
theorem ok_sort_rows (T : Tp K mg w) : FnOk P w K mg base CX0 1 (a_sort_rows K) (fdAt K (a_sort_rows K)) ["ranks", "shown"] (sp_sort_rows K) := by
  refine T.f_sort_rows.ok sc_sort_rows (fun vs H Q E h => ?_) (fun cdv A outer s H vs Q E hr h => ?_)
  · obtain ⟨a, b, rk, shown, rfl, ha, hb, hin, hz, q⟩ := h
    rfl
  · obtain ⟨a, b, rk, shown, rfl, ha, hb, hin, hz, q⟩ := h
    refine ⟨_, PSs.nox (pss_cons (ps_set (i := 2) sc_sort_rows.nd rfl (Or.inl rfl) (pe_callB (kCR (K := K) (r := rSortedPO) cr_sortedPO rfl) rfl T.b_sorted (by decide +kernel) (pa_cons (pe_lc (own := [("place", 4), ("row", 5)]) (g := (gTup K 2 (gCons (gName 4) (gCons (gName 5) gNil)))) rfl sc_sort_rows.nd (kPI (K := K) (i := fun K => iEnum K _) (pi_enum rfl T.b_enumerate (pa_cons (pv 1) pa_nil)) rfl) (blkOk_by (own := [("place", 4), ("row", 5)]) (N := ["ranks", "shown", "places", "rank", "place", "row"]) (sc := defScope s_sort_rows) (by decide +kernel)) (fun _ _ _ _ _ => (kTup (K := K) (pg_tup (n := 2) rfl (pgs_cons (pg_name (i := 4) sc_sort_rows.nd rfl (Or.inl rfl) (.inr rfl)) (pgs_cons (pg_name (i := 5) sc_sort_rows.nd rfl (Or.inl rfl) (.inr rfl)) pgs_nil))) rfl)) (fun _ _ _ _ _ => pts_nil) (fun _ _ _ _ _ => (pe_tup (pa_cons (pe_ix (kIx (K := K) (r := rIxL) ix_list rfl) (pv 0) (pv 5) (fun _ _ => rfl)) (pa_cons (pv 4) pa_nil))))) pa_nil)))
      (pss_one (ps_ret (pe_lc (own := [("rank", 3), ("place", 4)]) (g := (gTup K 2 (gCons (gName 3) (gCons (gName 4) gNil)))) rfl sc_sort_rows.nd (kPI (K := K) (i := fun K => iList K _) (pi_list (pv 2)) rfl) (blkOk_by (own := [("rank", 3), ("place", 4)]) (N := ["ranks", "shown", "places", "rank", "place", "row"]) (sc := defScope s_sort_rows) (by decide +kernel)) (fun _ _ _ _ _ => (kTup (K := K) (pg_tup (n := 2) rfl (pgs_cons (pg_name (i := 3) sc_sort_rows.nd rfl (Or.inl rfl) (.inr rfl)) (pgs_cons (pg_name (i := 4) sc_sort_rows.nd rfl (Or.inl rfl) (.inr rfl)) pgs_nil))) rfl)) (fun _ _ _ _ _ => pts_nil) (fun _ _ _ _ _ => (pe_ix (kIx (K := K) (r := rIxL) ix_list rfl) (pv 1) (pv 4) (fun _ _ => rfl))))))), ?_⟩
    refine q_asgX (R := fun v _ H2 => Places rk shown v H2) ?_ fun v H1 e1 ⟨ys, p, pl, ev, hp, pr, pin, pln, pe⟩ => ?_
    · refine ex_cb1 (ex_lcE (K := K) shown nV (fun _ => true) (fun x y H => ∃ t, y = V.ref t ∧ H t = some (.tup [.int (rk.getD x.2 0), nV x.1])) (ea_cons (ev_var rfl) ea_nil) (SqL.of hb) (by omega) (fun _ _ _ => et_yes) (fun i x hx _ => ?_)) fun v H1 H2 e e2 ⟨D, us, ev, nD, hD, pr⟩ Q k => ?_
      · refine made_tup (xs := [.int (rk.getD x 0), nV i]) (EvX.ofU (eu_tup (ea_cons (ev_op (ev_var rfl) (ev_var rfl) (rv_ixL (SqL.of ha) (atI_mapI (hin x (List.mem_of_getElem? hx))))) (ea_cons (ev_var rfl) ea_nil)) (by show 2 ≤ 100000; omega))) fun t H ht => ⟨t, rfl, ht⟩
      · subst ev
        rw [filter_tt] at pr
        have hu : ∀ y ∈ us, ∃ i, i < shown.length ∧ kPO H2 y = (rk.getD (shown.getD i 0) 0, (i : Int)) ∧ ∃ t, y = V.ref t ∧ H2 t = some (.tup [.int (rk.getD (shown.getD i 0) 0), nV i]) := fun y m => by
          obtain ⟨x, hx, t, e, ht⟩ := paired_mem pr m
          obtain ⟨j, hj⟩ := List.getElem?_of_mem hx
          obtain ⟨h1, h2⟩ := List.getElem?_zip_eq_some.mp hj
          have hl := (List.getElem?_eq_some_iff.mp h2).1
          rw [List.getElem?_range hl] at h1
          have h1 := Option.some.inj h1
          have h3 : shown.getD x.1 0 = x.2 := by rw [← h1, List.getD_eq_getElem?_getD, h2] <;> rfl
          rw [← h3] at ht
          exact ⟨x.1, h1 ▸ hl, kPO_at e ht, t, e, ht⟩
        have hmap : us.map (kPO H2) = (List.range shown.length).map fun (i : Nat) => (rk.getD (shown.getD i 0) 0, (i : Int)) := by
          rw [paired_mapeq (f := kPO H2) (g := fun (x : Nat × Nat) => (rk.getD x.2 0, (x.1 : Int))) (Paired.mapP pr fun x y ⟨t, e, ht⟩ => kPO_at e ht)]
          exact zip_range_map (fun i r => (rk.getD r 0, (i : Int))) shown
        refine ⟨D, us, kPO H2, rfl, SqL.of hD, fun y m => ?_, fun ys p h1 h2 hp => ?_⟩
        · obtain ⟨i, hi, e, t, e2, ht⟩ := hu y m
          rw [e]
          exact ⟨t, e2, ht⟩
        · have mem : ∀ y ∈ ys, y ∈ us := fun y m => h2.perm.mem_iff.mp m
          have hg : ∀ y ∈ ys, kPO H2 y = (rk.getD (shown.getD (kPO H2 y).2.toNat 0) 0, ((kPO H2 y).2.toNat : Int)) := fun y m => by
            obtain ⟨i, hi, e, _⟩ := hu y (mem y m)
            rw [e]
            rfl
          have pperm : (ys.map fun y => (kPO H2 y).2.toNat).Perm (List.range shown.length) := by
            have h3 := (h2.perm.map (kPO H2)).map fun p => p.2.toNat
            rw [hmap, List.map_map, List.map_map] at h3
            have e1 : ((fun p : Int × Int => p.2.toNat) ∘ fun (i : Nat) => (rk.getD (shown.getD i 0) 0, (i : Int))) = id := rfl
            rw [e1, List.map_id] at h3
            exact h3
          have es := rank_sort (r := fun i => rk.getD (shown.getD i 0) 0) pperm (List.pairwise_map.mpr (h1.imp_of_mem fun {x y} mx my h => by
            have h : SrtO.lexB (kPO H2 y) (kPO H2 x) = false := h
            rw [hg x mx, hg y my] at h
            exact h))
          refine k _ _ (Ex.new hp) ⟨ys, p, ys.map fun y => (kPO H2 y).2.toNat, rfl, upd_same, paired_of_map fun y m => ?_, fun i m => List.mem_range.mp (pperm.mem_iff.mp m), ?_, ?_⟩
          · obtain ⟨i, hi, e, t, e2, ht⟩ := hu y (mem y m)
            refine ⟨t, e2, ?_⟩
            rw [upd_ne (ne_of_none ht hp), ht, e]
            rfl
          · rw [pperm.length_eq, List.length_range]
          · rw [es]
            have := isrt_map (lt := rkLt rk) (fun i => shown.getD i 0) (List.range shown.length)
            rw [map_range_getD] at this
            exact this
    · subst ev
      refine s_retL (el_lcP (K := K) pl (fun i => .int (rk.getD (shown.getD i 0) 0)) nV ys (fun _ => true) (fun i => nV (shown.getD i 0)) (ev_var rfl) (SqL.of hp) pr (by omega) (fun _ _ => et_yes) fun i m _ => ?_) fun l H2 nl e2 hl => q l H2 (fresh_back e1 nl) (e1.trans e2) ?_
      · exact ev_op (ev_var rfl) (ev_var rfl) (rv_ixL (SqL.of (e1 _ _ hb)) (atI_map (pin i m)))
      · rw [hl, filter_tt, ← pe, List.map_map]
        rfl
/-- lists of ranks, by column -/
def RanksAt (H : Hp) (v : V) (rks : List (List Int)) : Prop := ∃ a rvs, v = .ref a ∧ H a = some (.lst rvs) ∧ Paired (fun (rk : List Int) v => ∃ l, v = .ref l ∧ H l = some (.lst (rk.map .int))) rks rvs
theorem RanksAt.mono {H H' : Hp} {v : V} {rks : List (List Int)} (s : Same H H') (h : RanksAt H v rks) : RanksAt H' v rks := by
  obtain ⟨a, rvs, e, h1, h2⟩ := h
  exact ⟨a, rvs, e, s _ _ h1, Paired.mapP h2 fun _ _ ⟨l, e, h⟩ => ⟨l, e, s _ _ h⟩⟩
def ltR (rks : List (List Int)) (c x y : Nat) : Bool := rkLt (rks.getD c []) x y
def lastV : Option Nat → V
  | none => .non
  | some c => nV c
theorem lastV_scal (c : Nat) (o : Option Nat) : scal (nV c) (lastV o) = true := by cases o <;> rfl
theorem lastV_eq (c : Nat) (o : Option Nat) : decide (nV c = lastV o) = decide (o = some c) := by
  cases o with
  | none => exact (decide_eq_false (fun h => nomatch h)).trans (decide_eq_false (fun h => nomatch h)).symm
  | some d =>
    by_cases e : d = c
    · rw [e]
      exact (decide_eq_true rfl).trans (decide_eq_true rfl).symm
    · refine (decide_eq_false fun h => e ?_).trans (decide_eq_false fun h => e (Option.some.inj h)).symm
      have := V.int.inj (show V.int (c : Int) = V.int (d : Int) from h)
      omega
def sp_click_rows (_ : PySem.W.Frag) : Sp := fun vs H Q _ => ∃ (v : V) (b : Addr) (rks : List (List Int)) (shown : List Nat) (c : Nat) (last : Option Nat), vs = [v, .ref b, nV c, lastV last] ∧ RanksAt H v rks ∧ H b = some (.lst (shown.map nV)) ∧ c < rks.length ∧ (∀ rk ∈ rks, ∀ x ∈ shown, x < rk.length) ∧ shown.length ≤ 1000 ∧
  ∀ l H', H l = none → Same H H' → H' l = some (.lst ((clk (ltR rks) shown c last).map nV)) → Q (.ref l) H'
/-! click_rows: slots 0:ranks 1:shown 2:column 3:last -/
theorem sc_click_rows : FnScope ["ranks", "shown", "column", "last"] ["ranks", "shown", "column", "last"] (defScope s_click_rows) := ⟨rfl, rfl, rfl, by decide +kernel, rfl, by decide +kernel, by decide +kernel⟩
theorem ok_click_rows (T : Tp K mg w) : FnOk P w K mg base CX0 2 (a_click_rows K) (fdAt K (a_click_rows K)) ["ranks", "shown", "column", "last"] (sp_click_rows K) := by
  refine T.f_click_rows.ok sc_click_rows (fun vs H Q E h => ?_) (fun cdv A outer s H vs Q E hr h => ?_)
  · obtain ⟨v, b, rks, shown, c, last, rfl, hr1, hb, hc, hin, hz, q⟩ := h
    rfl
  · obtain ⟨v, b, rks, shown, c, last, rfl, hr1, hb, hc, hin, hz, q⟩ := h
    refine ⟨_, PSs.nox (pss_one (ps_ret (pe_ifExp (pt_cmpR op_eq (pv 2) (pv 3) (nomark _)) (kRev (K := K) (pe_revL (pv 1)) rfl) (pe_call (ok_sort_rows (K := K) T) (hr.mono (by decide)) rfl T.g_sort_rows T.f_sort_rows.kp T.bn_sort_rows .nil pass0 (pa_cons (pe_ix (kIx (K := K) (r := rIxL) ix_list rfl) (pv 0) (pv 2) (fun _ _ => rfl)) (pa_cons (pv 1) pa_nil)))))), ?_⟩
    obtain ⟨a, rvs, rfl, ha, pr⟩ := hr1
    have eT : EvT (tTest (tOp rEq (tVar 2) (tVar 3))) (L2.start ["ranks", "shown", "column", "last"] [.ref a, .ref b, nV c, lastV last]) H (decide (last = some c)) := et_leaf (ev_op (ev_var rfl) (ev_var rfl) (rv_eq (lastV_scal c last))) (lastV_eq c last)
    refine s_retL (xs := (clk (ltR rks) shown c last).map nV) ?_ fun l H1 nl e1 hl => q l H1 nl e1 hl
    unfold clk
    by_cases h : last = some c
    · rw [decide_eq_true h] at eT
      rw [if_pos h, List.map_reverse]
      exact el_ifT eT (el_rev (ev_var rfl) hb)
    · rw [decide_eq_false h] at eT
      rw [if_neg h]
      have hrk : rks[c]? = some (rks.getD c []) := by rw [List.getD_eq_getElem?_getD, List.getElem?_eq_getElem hc] <;> rfl
      have hl : rvs.length = rks.length := (Paired.length pr).symm
      have hrv : rvs[c]? = some (rvs[c]'(by omega)) := List.getElem?_eq_getElem _
      obtain ⟨l, el, hl2⟩ := paired_at pr hrk hrv
      rw [el] at hrv
      refine el_ifF eT (el_call (vs := [.ref l, .ref b]) (ea_cons (ev_op (ev_var rfl) (ev_var rfl) (rv_ixL (SqL.of ha) (atI_nat hrv))) (ea_cons (ev_var rfl) ea_nil)) fun H1 e Q k E => ⟨l, b, _, shown, rfl, e _ _ hl2, e _ _ hb, hin _ (List.mem_of_getElem? hrk), hz, fun l H' nl s hl => k l H' nl s hl⟩)
def sp_all_views (_ : PySem.W.Frag) : Sp := fun vs H Q _ => ∃ (v : V) (b d : Addr) (rks : List (List Int)) (shown clicks : List Nat), vs = [v, .ref b, .ref d] ∧ RanksAt H v rks ∧ H b = some (.lst (shown.map nV)) ∧ H d = some (.lst (clicks.map nV)) ∧ (∀ c ∈ clicks, c < rks.length) ∧ (∀ rk ∈ rks, ∀ x ∈ shown, x < rk.length) ∧ shown.length ≤ 1000 ∧ clicks.length ≤ 1000 ∧
  ∀ D H' ys l, Same H H' → H' D = some (.lst (ys ++ [.ref l])) → H' l = some (.lst ((vw (ltR rks) shown clicks none).map nV)) → Q (.ref D) H'
/-! all_views: slots 0:ranks 1:shown 2:clicks 3:found 4:last 5:column -/
theorem sc_all_views : FnScope ["ranks", "shown", "clicks", "found", "last", "column"] ["ranks", "shown", "clicks"] (defScope s_all_views) := ⟨rfl, rfl, rfl, by decide +kernel, rfl, by decide +kernel, by decide +kernel⟩
theorem ok_all_views (T : Tp K mg w) : FnOk P w K mg base CX0 3 (a_all_views K) (fdAt K (a_all_views K)) ["ranks", "shown", "clicks"] (sp_all_views K) := by
  refine T.f_all_views.ok sc_all_views (fun vs H Q E h => ?_) (fun cdv A outer s H vs Q E hr h => ?_)
  · obtain ⟨v, b, d, rks, shown, clicks, rfl, hr1, hb, hd, hc, hin, hz, hz2, q⟩ := h
    rfl
  · obtain ⟨v, b, d, rks, shown, clicks, rfl, hr1, hb, hd, hc, hin, hz, hz2, q⟩ := h
    refine ⟨_, PSs.nox (pss_cons (ps_set (i := 3) sc_all_views.nd rfl (Or.inl rfl) (pe_lst (pa_cons (pe_callTy (kCR (K := K) (r := rListQ) call_list_of rfl) rfl T.b_list (by decide +kernel) (pa_cons (pv 1) pa_nil)) pa_nil)))
      (pss_cons (ps_set (i := 4) sc_all_views.nd rfl (Or.inl rfl) pe_non)
      (pss_cons (ps_for PassesOwn.never rfl (kPI (K := K) (i := fun K => iList K _) (pi_list (pv 2)) rfl) (pg_name (i := 5) sc_all_views.nd rfl (Or.inl rfl)) (pss_cons (ps_expr (kBM (K := K) (pe_bm PySem.F.plainAttrs_list PySem.F.slot_list_append PySem.F.type_list_append mt_append (pv 3) (pa_cons (pe_call (ok_click_rows (K := K) T) (hr.mono (by decide)) rfl T.g_click_rows T.f_click_rows.kp T.bn_click_rows .nil pass0 (pa_cons (pv 0) (pa_cons (pe_ix (kIx (K := K) (r := rIxL) ix_list rfl) (pv 3) (pe_un un_neg pe_int) (fun _ _ => rfl)) (pa_cons (pv 5) (pa_cons (pv 4) pa_nil))))) pa_nil)) rfl))
      (pss_one (ps_set (i := 4) sc_all_views.nd rfl (Or.inl rfl) (pv 5)))))
      (pss_one (ps_ret (pv 3)))))), ?_⟩
    refine q_asgX (ex_lst1L (el_cb (ea_cons (ev_var rfl) ea_nil) (rcl_list hb))) fun v1 H1 e1 ⟨D, l, ev, nD, hD, hl⟩ => ?_
    subst ev
    refine q_asg ev_c fun H2 e2 => ?_
    refine q_forLn (K := K) (xs := clicks.map nV) (ev_var rfl) (SqL.of (e2 _ _ (e1 _ _ hd))) (fun i σ' H' => ∃ last z ys l cur, σ' = [some v, some (.ref b), some (.ref d), some (.ref D), some (lastV last), z] ∧ Same H H' ∧ H' D = some (.lst (ys ++ [.ref l])) ∧ H' l = some (.lst (cur.map nV)) ∧ cur.Perm shown ∧ ys.length ≤ i ∧ vw (ltR rks) cur (clicks.drop i) last = vw (ltR rks) shown clicks none) (fun H3 e3 => ?_) (fun i σ' H' _ p => ?_) (fun i y σ' H' hy p => ?_) fun σ' H' p => ?_
    · exact ⟨none, none, [], l, shown, rfl, (e1.trans e2).trans e3, e3 _ _ (e2 _ _ hD), e3 _ _ (e2 _ _ hl), List.Perm.refl _, Nat.le_refl _, rfl⟩
    · obtain ⟨_, _, _, _, _, _, s, _⟩ := p
      exact SqL.of (s _ _ hd)
    · obtain ⟨last, z, ys, l, cur, rfl, s, hD', hl', pm, ln, ve⟩ := p
      rw [List.getElem?_map] at hy
      obtain ⟨c, hc1, rfl⟩ : ∃ c, clicks[i]? = some c ∧ nV c = y := by
        cases h : clicks[i]? with
        | none => rw [h] at hy; cases hy
        | some c =>
          rw [h] at hy
          exact ⟨c, rfl, Option.some.inj hy⟩
      have il : i < clicks.length := (List.getElem?_eq_some_iff.mp hc1).1
      have edr : clicks.drop i = c :: clicks.drop (i + 1) := by
        rw [List.drop_eq_getElem_cons il]
        have := (List.getElem?_eq_some_iff.mp hc1).2
        rw [this]
      rw [edr] at ve
      refine q_appL (K := K) (xs := ys ++ [.ref l]) (ys := (clk (ltR rks) cur c last).map nV) hD' (ev_var rfl) (el_call (vs := [v, .ref l, nV c, lastV last]) (ea_cons (ev_var rfl) (ea_cons (ev_op (ev_var rfl) (ev_un ev_c ru_neg) (rv_ixL (SqL.of hD') (atI_last _ _))) (ea_cons (ev_var rfl) (ea_cons (ev_var rfl) ea_nil)))) fun H3 e Q k E =>
        ⟨v, l, rks, cur, c, last, rfl, hr1.mono (s.trans e), e _ _ hl', hc _ (List.mem_of_getElem? hc1), fun rk m x hx => hin rk m x (pm.mem_iff.mp hx), by rw [pm.length_eq]; exact hz, fun l H' nl s hl => k l H' nl s hl⟩) (by rw [List.length_append, List.length_singleton]; omega) fun p H3 np e3 hp => ?_
      refine s_asg (ev_var rfl) fun H4 e4 => ?_
      refine ⟨some c, some (nV c), ys ++ [.ref l], p, clk (ltR rks) cur c last, rfl, ?_, e4 _ _ upd_same, e4 _ _ ?_, (clk_perm cur c last).trans pm, by rw [List.length_append, List.length_singleton]; omega, ve⟩
      · exact (same_mut (s.trans e3) nD).trans e4
      · rw [upd_ne (ne_of_none hD' np).symm]
        exact hp
    · obtain ⟨last, z, ys, l, cur, rfl, s, hD', hl', pm, ln, ve⟩ := p
      rw [List.length_map, List.drop_length] at ve
      refine s_ret (ev_var rfl) fun H3 e3 => q D H3 ys l (s.trans e3) (e3 _ _ hD') ?_
      rw [← ve]
      exact e3 _ _ hl'
/-- the keys of a column -/
def colKeys (ks : List Kind) (rows : List (List V)) (c : Nat) : List (Int × Key) := rows.map fun row => skey (ks.getD c .num) (row.getD c .non)
def tabRanks (ks : List Kind) (rows : List (List V)) (rks : List (List Int)) : Prop := rks.length = ks.length ∧ ∀ c rk, rks[c]? = some rk → RankOk (colKeys ks rows c) rk
def sp_ranks_of (_ : PySem.W.Frag) : Sp := fun vs H Q _ => ∃ (v : V) (ks : List Kind) (rows : List (List V)), vs = [v] ∧ TabAt H v ks rows ∧ (∀ row ∈ rows, RowOk ks row) ∧ ks.length ≤ 1000 ∧ rows.length ≤ 1000 ∧
  ∀ v' H' rks, Same H H' → tabRanks ks rows rks → RanksAt H' v' rks → Q v' H'
theorem row_at {ks : List Kind} {row : List V} (h : RowOk ks row) {c : Nat} (hc : c < ks.length) : row[c]? = some (row.getD c .non) ∧ CellOk (ks.getD c .num) (row.getD c .non) := by
  have hl : row.length = ks.length := (Paired.length h).symm
  have h1 : row[c]? = some (row.getD c .non) := by rw [List.getD_eq_getElem?_getD, List.getElem?_eq_getElem (by omega)] <;> rfl
  have h2 : ks[c]? = some (ks.getD c .num) := by rw [List.getD_eq_getElem?_getD, List.getElem?_eq_getElem hc] <;> rfl
  exact ⟨h1, paired_at h h2 h1⟩
theorem paired_flip' {α β γ : Type} {F : β → γ → Prop} {f : α → γ} : ∀ {xs : List α} {ys : List β}, Paired (fun x y => F y (f x)) xs ys → Paired F ys (xs.map f)
  | _, _, .nil => .nil
  | _, _, .cons h t => .cons h (paired_flip' t)
theorem paired_choose {α β γ : Type} {A : α → β → Prop} {B : β → γ → Prop} : ∀ {xs : List α} {ys : List γ}, Paired (fun x y => ∃ r, A x r ∧ B r y) xs ys → ∃ rs : List β, Paired B rs ys ∧ Paired A xs rs
  | _, _, .nil => ⟨[], .nil, .nil⟩
  | _, _, .cons ⟨r, h1, h2⟩ t => by
    obtain ⟨rs, a, b⟩ := paired_choose t
    exact ⟨r :: rs, .cons h2 a, .cons h1 b⟩
/-! ranks_of: slots 0:table 1:column -/
theorem sc_ranks_of : FnScope ["table", "column"] ["table"] (defScope s_ranks_of) := ⟨rfl, rfl, rfl, by decide +kernel, rfl, by decide +kernel, by decide +kernel⟩
theorem ok_ranks_of (T : Tp K mg w) : FnOk P w K mg base CX0 3 (a_ranks_of K) (fdAt K (a_ranks_of K)) ["table"] (sp_ranks_of K) := by
  refine T.f_ranks_of.ok sc_ranks_of (fun vs H Q E h => ?_) (fun cdv A outer s H vs Q E hr h => ?_)
  · obtain ⟨v, ks, rows, rfl, ta, ok, hk, hz, q⟩ := h
    rfl
  · obtain ⟨v, ks, rows, rfl, ta, ok, hk, hz, q⟩ := h
    refine ⟨_, PSs.nox (pss_one (ps_ret (pe_lc (own := [("column", 1)]) (g := (gName 1)) rfl sc_ranks_of.nd (pi_range1 rfl T.b_range (pa_cons (pe_callB (kCR (K := K) (r := rLenQ) call_len_seq rfl) rfl T.b_len (by decide +kernel) (pa_cons (pe_ix (kIx (K := K) (r := rIxT) ix_tup rfl) (pv 0) pe_int (fun _ _ => rfl)) pa_nil)) pa_nil)) (blkOk_by (own := [("column", 1)]) (N := ["table", "column"]) (sc := defScope s_ranks_of) (by decide +kernel)) (fun _ _ _ _ _ => (pg_name (i := 1) sc_ranks_of.nd rfl (Or.inl rfl) (.inr rfl))) (fun _ _ _ _ _ => pts_nil) (fun _ _ _ _ _ => (pe_call (ok_ranks_in (K := K) T) (hr.mono (by decide)) rfl T.g_ranks_in T.f_ranks_in.kp T.bn_ranks_in .nil pass0 (pa_cons (pe_call (ok_column_keys (K := K) T) (hr.mono (by decide)) rfl T.g_column_keys T.f_column_keys.kp T.bn_column_keys .nil pass0 (pa_cons (pv 0) (pa_cons (pv 1) pa_nil))) pa_nil)))))), ?_⟩
    obtain ⟨t, a, b, rs, rfl, ht, ha, hb, hp⟩ := ta.ex
    refine s_retX (R := LcR (List.range ks.length) (fun _ => true) fun c y H => ∃ rk, RankOk (colKeys ks rows c) rk ∧ ∃ l, y = .ref l ∧ H l = some (.lst (rk.map .int))) (ex_lcR ks.length _ _ (ea_cons ?_ ea_nil) (by omega) (fun _ _ => et_yes) fun c hc _ => made_newL ?_) fun v H1 e1 ⟨D, ys, ev, nD, hD, pr⟩ => ?_
    · have h := ev_cb (r := rLenQ K) (ea_cons (ev_op (r := rIxT K) (ev_var (i := 0) (σ := L2.start ["table", "column"] [.ref t]) (H := H) rfl) (ev_c (v := .int 0)) (rv_ixT (SqT.of ht) (atI_nat (j := 0) rfl))) ea_nil) (rc_lenL ha)
      rw [List.length_map] at h
      exact h
    · have hkc : ks[c]? = some (ks.getD c .num) := by rw [List.getD_eq_getElem?_getD, List.getElem?_eq_getElem hc] <;> rfl
      refine ex_call1 (R1 := fun v H0 H2 => ∃ H1, Ex H0 H1 ∧ Ex H1 H2 ∧ KeyList (ks.getD c .num) c rows v H1 H2) (R := fun y H1 H2 => ∃ rk, RankOk (colKeys ks rows c) rk ∧ NewL (rk.map V.int) y H1 H2) (ex_call (vs := [.ref t, nV c]) (ea_cons (ev_var rfl) (ea_cons (ev_var rfl) ea_nil)) fun H1 e Q k E => ?_) fun v H1 H2 e1 e2 ⟨G, g1, g2, D, us, ev, nD, hD, pr⟩ => fun H3 e3 Q k E => ?_
      · exact ⟨.ref t, ks, rows, c, _, rfl, ta.mono e, hkc, fun row m => ⟨_, row_at (ok row m) hc⟩, hz, fun v' H' s r => k v' H' s r⟩
      · subst ev
        rw [filter_tt] at pr
        refine ⟨D, us, colKeys ks rows c, rfl, e3 _ _ hD, paired_flip' (Paired.mapP pr fun row y h => KeyAt.mono e3 h), fun p mp q mq => ?_, by rw [← Paired.length pr]; exact hz, fun rk l H' hr nl s hl => k _ H' s ⟨rk, hr, l, rfl, nl, hl⟩⟩
        obtain ⟨r1, m1, rfl⟩ := List.mem_map.mp mp
        obtain ⟨r2, m2, rfl⟩ := List.mem_map.mp mq
        exact skey_alike _ (row_at (ok r1 m1) hc).2 (row_at (ok r2 m2) hc).2
    · subst ev
      rw [filter_tt] at pr
      obtain ⟨rks, p1, p2⟩ := paired_choose (A := fun c rk => RankOk (colKeys ks rows c) rk) (B := fun rk y => ∃ l, y = V.ref l ∧ H1 l = some (.lst (rk.map .int))) pr
      have hl : rks.length = ks.length := by rw [← Paired.length p2, List.length_range]
      refine q _ H1 rks e1 ⟨hl, fun c rk hc => ?_⟩ ⟨D, ys, rfl, hD, p1⟩
      have : c < ks.length := by
        rw [← hl]
        exact (List.getElem?_eq_some_iff.mp hc).1
      exact paired_at (F := fun c rk => RankOk (colKeys ks rows c) rk) p2 (List.getElem?_range this) hc
end
end HC


set_option Elab.async false
set_option linter.all false
set_option maxRecDepth 100000
set_option maxHeartbeats 2000000
/-! How the states stand in the heap. B: what never changes; H: the heap. -/
namespace HC
open PySem PySem.Spec PyProof.Rows L2 Evl
structure St where
  cells : Nat → List V
  shown : List Nat
  clicked : List Nat
  keys : List (Nat × Int)
  base : Int
  next : Nat
structure StOk (ks : List Kind) (n : Nat) (st : St) : Prop where
  rows : ∀ r ∈ st.shown, RowOk ks (st.cells r)
  lt : ∀ r ∈ st.shown, r < st.next
  nx : st.next ≤ n
  cl : st.clicked.length ≤ n
  cc : ∀ c ∈ st.clicked, c < ks.length
  kl : st.keys.length ≤ st.clicked.length
  sl : st.shown.length ≤ n
  nd : st.shown.Nodup
  kc : ∀ p ∈ st.keys, p.1 < ks.length ∧ (p.2 = 1 ∨ p.2 = -1)
  kn : (st.keys.map Prod.fst).Nodup
  bs : st.base = 1 ∨ st.base = -1
def EffAt (B : Hp) (v : V) (keys : List (Nat × Int)) (b : Int) : Prop := ∃ t l ys, v = .ref t ∧ B t = some (.tup [.ref l, .int b]) ∧ B l = some (.lst ys) ∧ Paired (fun (p : Nat × Int) y => ∃ t, y = V.ref t ∧ B t = some (.tup [nV p.1, .int p.2])) keys ys
theorem EffAt.mono {B B' : Hp} {v : V} {keys : List (Nat × Int)} {b : Int} (s : Same B B') (h : EffAt B v keys b) : EffAt B' v keys b := by
  obtain ⟨t, l, ys, e, h1, h2, h3⟩ := h
  exact ⟨t, l, ys, e, s _ _ h1, s _ _ h2, Paired.mapP h3 fun _ _ ⟨t, e, h⟩ => ⟨t, e, s _ _ h⟩⟩
def CellsAt (B : Hp) (n : Nat) (d : Addr) (shown : List Nat) (cells : Nat → List V) : Prop := ∃ kvs : List (Key × V), B d = some (.dK kvs) ∧ kvs.length ≤ n ∧ ∀ r ∈ shown, ∃ x, valV kvs (.inl (r : Int)) = some (.ref x) ∧ B x = some (.lst (cells r))
theorem CellsAt.mono {B B' : Hp} {n n' : Nat} {d : Addr} {shown : List Nat} {cells : Nat → List V} (s : Same B B') (hn : n ≤ n') (h : CellsAt B n d shown cells) : CellsAt B' n' d shown cells := by
  obtain ⟨kvs, h1, h2, h3⟩ := h
  refine ⟨kvs, s _ _ h1, Nat.le_trans h2 hn, fun r m => ?_⟩
  obtain ⟨x, e, hx⟩ := h3 r m
  exact ⟨x, e, s _ _ hx⟩
/-- all values are lists of cells -/
def FullD (B : Hp) (ks : List Kind) (d : Addr) : Prop := ∃ kvs : List (Key × V), B d = some (.dK kvs) ∧ (∀ p ∈ kvs, ∃ x row, p.2 = .ref x ∧ B x = some (.lst row) ∧ RowOk ks row) ∧ (kvs.map (·.1)).Nodup
theorem FullD.mono {B B' : Hp} {ks : List Kind} {d : Addr} (s : Same B B') (h : FullD B ks d) : FullD B' ks d := by
  obtain ⟨kvs, h1, h2, h3⟩ := h
  refine ⟨kvs, s _ _ h1, fun p m => ?_, h3⟩
  obtain ⟨x, row, e, hx, ok⟩ := h2 p m
  exact ⟨x, row, e, s _ _ hx, ok⟩
abbrev stFs (d s c : Addr) (e : V) (nx : Nat) : List (Str × V) := [("cells", .ref d), ("shown", .ref s), ("clicked", .ref c), ("recent", e), ("next_row", nV nx)]
def StRep (K : PySem.W.Frag) (ks : List Kind) (n : Nat) (B : Hp) (v : V) (st : St) : Prop := ∃ a dx d s c e, v = .ref a ∧ B a = some (.ins (aState K) dx (stFs d s c e st.next)) ∧
  CellsAt B n d st.shown st.cells ∧ FullD B ks d ∧ B s = some (.lst (st.shown.map nV)) ∧ B c = some (.lst (st.clicked.map nV)) ∧ EffAt B e st.keys st.base
theorem StRep.mono {K : PySem.W.Frag} {ks : List Kind} {n n' : Nat} {B B' : Hp} {v : V} {st : St} (s : Same B B') (hn : n ≤ n') (h : StRep K ks n B v st) : StRep K ks n' B' v st := by
  obtain ⟨a, dx, d, l, c, e, ev, h1, h2, h3, h4, h5, h6⟩ := h
  exact ⟨a, dx, d, l, c, e, ev, s _ _ h1, h2.mono s hn, h3.mono s, s _ _ h4, s _ _ h5, h6.mono s⟩
def LRep (n : Nat) (B : Hp) (v : V) (st : St) : Prop := ∃ t d s c e, v = .ref t ∧ B t = some (.tup [.ref d, .ref s, .ref c, e, nV st.next]) ∧
  CellsAt B n d st.shown st.cells ∧ B s = some (.lst (st.shown.map nV)) ∧ B c = some (.lst (st.clicked.map nV)) ∧ EffAt B e st.keys st.base
theorem LRep.mono {n n' : Nat} {B B' : Hp} {v : V} {st : St} (s : Same B B') (hn : n ≤ n') (h : LRep n B v st) : LRep n' B' v st := by
  obtain ⟨a, d, l, c, e, ev, h1, h2, h4, h5, h6⟩ := h
  exact ⟨a, d, l, c, e, ev, s _ _ h1, h2.mono s hn, s _ _ h4, s _ _ h5, h6.mono s⟩
abbrev seFs (k L U : Addr) : List (Str × V) := [("kinds", .ref k), ("states", .ref L), ("undone", .ref U)]
/-- what reading a session needs: its last state -/
def Top (K : PySem.W.Frag) (ks : List Kind) (n : Nat) (H : Hp) (s : Addr) (st : St) : Prop := ∃ dx k L U svs v, H s = some (.ins (aSession K) dx (seFs k L U)) ∧ H k = some (.lst (ks.map Kind.v)) ∧ H L = some (.lst (svs ++ [v])) ∧ StRep K ks n H v st
theorem Top.mono {K : PySem.W.Frag} {ks : List Kind} {n : Nat} {H H' : Hp} {a : Addr} {st : St} (s : Same H H') (h : Top K ks n H a st) : Top K ks n H' a st := by
  obtain ⟨dx, k, L, U, svs, v, h1, h2, h3, h4⟩ := h
  exact ⟨dx, k, L, U, svs, v, s _ _ h1, s _ _ h2, s _ _ h3, h4.mono s (Nat.le_refl _)⟩
/-- a session with its history -/
structure SesAt (K : PySem.W.Frag) (ks : List Kind) (n : Nat) (B H : Hp) (s L U : Addr) (sts uns : List St) : Prop where
  ex : ∃ dx k svs uvs, H s = some (.ins (aSession K) dx (seFs k L U)) ∧ B k = some (.lst (ks.map Kind.v)) ∧ H L = some (.lst svs) ∧ H U = some (.lst uvs) ∧ Paired (fun st v => StRep K ks n B v st) sts svs ∧ Paired (fun st v => StRep K ks n B v st) uns uvs
  bs : B s = none
  bL : B L = none
  bU : B U = none
  ne : L ≠ U
  sm : Same B H
/-- a step: M may change, B grows by what is new -/
structure Step (M : List Addr) (B H B' H' : Hp) : Prop where
  sB : Same B B'
  sH : Same B' H'
  fr : ∀ a o, ¬ a ∈ M → H a = some o → H' a = some o
  mu : ∀ a, H a ≠ none → B a = none → B' a = none
  al : ∀ a, H a ≠ none → H' a ≠ none
theorem Step.trans {M : List Addr} {B H B1 H1 B2 H2 : Hp} (p : Step M B H B1 H1) (q : Step M B1 H1 B2 H2) : Step M B H B2 H2 :=
  ⟨p.sB.trans q.sB, q.sH, fun a o m h => q.fr a o m (p.fr a o m h), fun a h b => q.mu a (p.al a h) (p.mu a h b), fun a h => q.al a (p.al a h)⟩
theorem Step.wide {M M' : List Addr} {B H B' H' : Hp} (p : Step M B H B' H') (h : ∀ a ∈ M, a ∈ M') : Step M' B H B' H' := ⟨p.sB, p.sH, fun a o m e => p.fr a o (fun z => m (h a z)) e, p.mu, p.al⟩
/-- B and all that is new in H' ahead of H -/
def ext (B H H' : Hp) : Hp := fun a => match B a with
  | some o => some o
  | none => match H a with
    | some _ => none
    | none => H' a
theorem ext_old {B H H' : Hp} : Same B (ext B H H') := fun a o h => by
  unfold ext
  rw [h]
theorem ext_new {B H H' : Hp} {a : Addr} {o : HO} (s : Same B H) (h : H a = none) (h' : H' a = some o) : ext B H H' a = some o := by
  unfold ext
  rw [fresh_back s h, h]
  exact h'
theorem ext_same {B H H' : Hp} (s : Same B H) (s' : Same H H') : Same (ext B H H') H' := fun a o h => by
  unfold ext at h
  cases e : B a with
  | some u =>
    rw [e] at h
    cases h
    exact s' _ _ (s _ _ e)
  | none =>
    rw [e] at h
    cases e2 : H a with
    | some u =>
      rw [e2] at h
      cases h
    | none =>
      rw [e2] at h
      exact h
theorem ext_none {B H H' : Hp} {a : Addr} (h : H a ≠ none) (b : B a = none) : ext B H H' a = none := by
  unfold ext
  rw [b]
  cases e : H a with
  | none => exact absurd e h
  | some o => rfl
theorem ext_le {B H H1 H2 H' : Hp} (s1 : Same H H1) (s2 : Same H2 H') : Same (ext B H1 H2) (ext B H H') := fun a o h => by
  unfold ext at h ⊢
  cases e : B a with
  | some u =>
    rw [e] at h
    exact h
  | none =>
    rw [e] at h
    cases e1 : H1 a with
    | some u =>
      rw [e1] at h
      cases h
    | none =>
      rw [e1] at h
      rw [fresh_back s1 e1]
      exact s2 _ _ h
theorem Step.pure {B H H' : Hp} (s : Same B H) (s' : Same H H') (M : List Addr) : Step M B H (ext B H H') H' :=
  ⟨ext_old, ext_same s s', fun a o _ h => s' a o h, fun a h b => ext_none h b, fun a h e => by
    cases q : H a with
    | none => exact h q
    | some o =>
      rw [s' _ _ q] at e
      cases e⟩
/-- an object that B does not know changes -/
theorem Step.mut {B H : Hp} {m : Addr} {o o' : HO} (s : Same B H) (b : B m = none) (hm : H m = some o) : Step [m] B H B (upd H m o') :=
  ⟨Same.refl B, same_mut s b, fun a u n h => by
    rw [upd_ne (fun e => n (List.mem_singleton.mpr e))]
    exact h, fun _ _ b => b, fun a h e => by
    by_cases q : a = m
    · rw [q, upd_same] at e
      cases e
    · rw [upd_ne q] at e
      exact h e⟩
/-- a new object that will change -/
theorem Step.new {B H : Hp} {m : Addr} {o : HO} (s : Same B H) (b : H m = none) (M : List Addr) : Step M B H B (upd H m o) :=
  ⟨Same.refl B, s.trans (same_new b), fun a u _ h => same_new b _ _ h, fun _ _ b => b, fun a h e => by
    cases q : H a with
    | none => exact h q
    | some o' =>
      rw [same_new b _ _ q] at e
      cases e⟩
theorem SesAt.step {K : PySem.W.Frag} {ks : List Kind} {n n' : Nat} {B H B' H' : Hp} {s L U : Addr} {sts uns : List St} {M : List Addr} (A : SesAt K ks n B H s L U sts uns) (p : Step M B H B' H') (hs : ¬ s ∈ M) (hL : ¬ L ∈ M) (hU : ¬ U ∈ M) (hn : n ≤ n') : SesAt K ks n' B' H' s L U sts uns := by
  obtain ⟨dx, k, svs, uvs, h1, h2, h3, h4, h5, h6⟩ := A.ex
  have nn : ∀ {a : Addr} {o : HO}, H a = some o → H a ≠ none := fun h e => by
    rw [h] at e
    cases e
  exact ⟨⟨dx, k, svs, uvs, p.fr _ _ hs h1, p.sB _ _ h2, p.fr _ _ hL h3, p.fr _ _ hU h4, Paired.mapP h5 fun _ _ r => r.mono p.sB hn, Paired.mapP h6 fun _ _ r => r.mono p.sB hn⟩, p.mu _ (nn h1) A.bs, p.mu _ (nn h3) A.bL, p.mu _ (nn h4) A.bU, A.ne, p.sH⟩
theorem paired_snoc_inv {α β : Type} {P : α → β → Prop} {x : α} : ∀ {xs : List α} {zs : List β}, Paired P (xs ++ [x]) zs → ∃ ys y, zs = ys ++ [y] ∧ Paired P xs ys ∧ P x y
  | [], _, .cons h .nil => ⟨[], _, rfl, .nil, h⟩
  | a :: xs, _, .cons h t => by
    obtain ⟨ys, y, e, p, q⟩ := paired_snoc_inv t
    exact ⟨_ :: ys, y, by rw [e] <;> rfl, .cons h p, q⟩
theorem SesAt.top {K : PySem.W.Frag} {ks : List Kind} {n : Nat} {B H : Hp} {s L U : Addr} {sts uns : List St} {st : St} (A : SesAt K ks n B H s L U (sts ++ [st]) uns) : Top K ks n H s st := by
  obtain ⟨dx, k, svs, uvs, h1, h2, h3, h4, h5, h6⟩ := A.ex
  obtain ⟨ys, y, rfl, _, q⟩ := paired_snoc_inv h5
  exact ⟨dx, k, L, U, ys, y, h1, A.sm _ _ h2, h3, q.mono A.sm (Nat.le_refl _)⟩
end HC

set_option Elab.async false
set_option linter.all false
set_option maxRecDepth 100000
set_option maxHeartbeats 2000000
/-! Data compared by ==. -/
namespace HC
open PySem PySem.Spec PyProof.Rows L2 Evl
theorem dp_mono {K : PySem.W.Frag} {H H' : Hp} (e : Same H H') {v : V} {d : PyData} (h : Dp K H v d) : Dp K H' v d :=
  Dp.rec (K := K) (H := H) (motive_1 := fun v d _ => Dp K H' v d) (motive_2 := fun vs ds _ => DpAll K H' vs ds) .non .bl .int .str (fun s _ a => .lst (ex_l e s) a) (fun s _ a => .tup (ex_t e s) a) .nil (fun _ _ a b => .cons a b) h
/-- data of small depth that the model lays out -/
def Lay (n : Nat) (d : PyData) : Prop := PyData.canLay0 d = true ∧ PyData.depth d ≤ n
theorem lay_int {n : Nat} {i : Int} : Lay n (.int i) := ⟨by simp [PyData.canLay0], by simp [PyData.depth]⟩
theorem lay_str {n : Nat} {i : Str} (h : PyData.strOk i = true) : Lay n (.str i) := ⟨by simp [PyData.canLay0, h], by simp [PyData.depth]⟩
theorem txt_strOk : ∀ s ∈ txtCells, PyData.strOk s = true := by decide +kernel
theorem lay_non {n : Nat} : Lay n .none := ⟨by simp [PyData.canLay0], by simp [PyData.depth]⟩
theorem layAll {n : Nat} : ∀ {ds : List PyData}, (∀ d ∈ ds, Lay n d) → PyData.canLayAll0 ds = true ∧ PyData.depthAll ds ≤ n
  | [], _ => ⟨by simp [PyData.canLayAll0], by simp [PyData.depthAll]⟩
  | d :: ds, h => by
    obtain ⟨h1, h2⟩ := h d List.mem_cons_self
    obtain ⟨h3, h4⟩ := layAll fun z m => h z (List.mem_cons_of_mem _ m)
    exact ⟨by simp [PyData.canLayAll0, h1, h3], by simp only [PyData.depthAll]; omega⟩
theorem lay_list {n : Nat} {ds : List PyData} (h : ∀ d ∈ ds, Lay n d) : Lay (n + 1) (.list ds) := by
  obtain ⟨h1, h2⟩ := layAll h
  exact ⟨by simp [PyData.canLay0, h1], by simp only [PyData.depth]; omega⟩
theorem lay_tup {n : Nat} {ds : List PyData} (h : ∀ d ∈ ds, Lay n d) : Lay (n + 1) (.tuple ds) := by
  obtain ⟨h1, h2⟩ := layAll h
  exact ⟨by simp [PyData.canLay0, h1], by simp only [PyData.depth]; omega⟩
theorem lay_map {α : Type} {n : Nat} {g : α → PyData} {xs : List α} (h : ∀ x ∈ xs, Lay n (g x)) : Lay (n + 1) (.list (xs.map g)) := lay_list fun d m => by
  obtain ⟨x, hx, rfl⟩ := List.mem_map.mp m
  exact h x hx
theorem lay_shaped {d : PyData} (h : Lay 60 d) : SeqAt.shaped d = true := by
  show (PyData.canLay0 d && decide (PyData.depth d ≤ 64)) = true
  rw [h.1, decide_eq_true (by have := h.2; omega)]
  rfl
theorem dpAll_of {α : Type} {K : PySem.W.Frag} {H : Hp} {g : α → PyData} {xs : List α} {ys : List V} (h : Paired (fun x y => Dp K H y (g x)) xs ys) : DpAll K H ys (xs.map g) := by
  induction h with
  | nil => exact .nil
  | cons h _ ih => exact .cons h ih
theorem paired_self {α β : Type} {F : α → β → Prop} {f : α → β} : ∀ {xs : List α}, (∀ x ∈ xs, F x (f x)) → Paired F xs (xs.map f)
  | [], _ => .nil
  | x :: xs, h => .cons (h x List.mem_cons_self) (paired_self fun y m => h y (List.mem_cons_of_mem _ m))
section
variable {K : PySem.W.Frag} {H : Hp} {x y : V} {d e : PyData}
theorem rv_eqDt (hx : Dp K H x d) (hy : Dp K H y d) (l : Lay 60 d) : RV (rEqD K) x y H (.bl true) := fun H1 e Q q => ⟨d, d, dp_mono e hx, dp_mono e hy, lay_shaped l, lay_shaped l, by
  rw [PySem.SeqAt.eqv_refl _ l.1]
  exact q H1 (Ex.refl H1)⟩
theorem rv_neDt (hx : Dp K H x d) (hy : Dp K H y d) (l : Lay 60 d) : RV (rNeD K) x y H (.bl false) := fun H1 e Q q => ⟨d, d, dp_mono e hx, dp_mono e hy, lay_shaped l, lay_shaped l, by
  rw [PySem.SeqAt.eqv_refl _ l.1]
  exact q H1 (Ex.refl H1)⟩
/-! ### lists of numbers -/
abbrev dN (n : Nat) : PyData := .int (n : Int)
abbrev dNs (xs : List Nat) : PyData := .list (xs.map dN)
theorem dp_ns {a : Addr} {xs : List Nat} (h : H a = some (.lst (xs.map nV))) : Dp K H (.ref a) (dNs xs) := .lst (SqL.of h) (dpAll_of (paired_self fun n _ => .int _))
theorem lay_ns {n : Nat} (xs : List Nat) : Lay (n + 1) (dNs xs) := lay_map fun _ _ => lay_int
theorem eqv_ns : ∀ xs ys : List Nat, PyData.eqvAll (xs.map dN) (ys.map dN) = decide (xs = ys)
  | [], [] => by simp [PyData.eqvAll]
  | [], _ :: _ => by simp [PyData.eqvAll]
  | _ :: _, [] => by simp [PyData.eqvAll]
  | a :: r, b :: t => by
    simp only [List.map_cons, PyData.eqvAll, PyData.eqv, eqv_ns r t]
    by_cases h : a = b <;> by_cases h' : r = t <;> simp [h, h'] <;> omega
theorem rv_eqNs {a b : Addr} {xs ys : List Nat} (ha : H a = some (.lst (xs.map nV))) (hb : H b = some (.lst (ys.map nV))) : RV (rEqD K) (.ref a) (.ref b) H (.bl (decide (xs = ys))) := fun H1 e Q q => ⟨dNs xs, dNs ys, dp_ns (e _ _ ha), dp_ns (e _ _ hb), lay_shaped (lay_ns _), lay_shaped (lay_ns _), by
  have h : PyData.eqv (dNs xs) (dNs ys) = decide (xs = ys) := by
    rw [← eqv_ns, PyData.eqv]
  rw [h]
  exact q H1 (Ex.refl H1)⟩
theorem rv_neNs {a b : Addr} {xs ys : List Nat} (ha : H a = some (.lst (xs.map nV))) (hb : H b = some (.lst (ys.map nV))) : RV (rNeD K) (.ref a) (.ref b) H (.bl (!decide (xs = ys))) := fun H1 e Q q => ⟨dNs xs, dNs ys, dp_ns (e _ _ ha), dp_ns (e _ _ hb), lay_shaped (lay_ns _), lay_shaped (lay_ns _), by
  have h : PyData.eqv (dNs xs) (dNs ys) = decide (xs = ys) := by
    rw [← eqv_ns, PyData.eqv]
  rw [h]
  exact q H1 (Ex.refl H1)⟩
/-! ### effects, rows -/
abbrev dP (p : Nat × Int) : PyData := .tuple [.int (p.1 : Int), .int p.2]
abbrev dEff (keys : List (Nat × Int)) (b : Int) : PyData := .tuple [.list (keys.map dP), .int b]
theorem dp_eff {v : V} {keys : List (Nat × Int)} {b : Int} (h : EffAt H v keys b) : Dp K H v (dEff keys b) := by
  obtain ⟨t, l, ys, rfl, h1, h2, h3⟩ := h
  refine .tup (SqT.of h1) (.cons (.lst (SqL.of h2) (dpAll_of (Paired.mapP h3 fun p y h => ?_))) (.cons (.int b) .nil))
  obtain ⟨t, rfl, ht⟩ := h
  exact .tup (SqT.of ht) (.cons (.int _) (.cons (.int _) .nil))
theorem lay_eff (keys : List (Nat × Int)) (b : Int) : Lay 60 (dEff keys b) := by
  refine lay_tup (n := 59) fun d m => ?_
  rcases List.mem_cons.mp m with rfl | m
  · exact lay_map (n := 58) fun p _ => lay_tup (n := 57) fun d m => by
      rcases List.mem_cons.mp m with rfl | m
      · exact lay_int
      · rw [List.mem_singleton.mp m]
        exact lay_int
  · rw [List.mem_singleton.mp m]
    exact lay_int
/-- a cell's data -/
def dC : V → PyData
  | .int i => .int i
  | .str s => .str s
  | _ => .none
theorem dp_cell {k : Kind} {v : V} (h : CellOk k v) : Dp K H v (dC v) := by
  cases h with
  | non => exact .non
  | num i _ => exact .int i
  | str k s _ _ => exact .str s
theorem lay_cell {n : Nat} {k : Kind} {v : V} (h : CellOk k v) : Lay n (dC v) := by
  cases h with
  | non => exact lay_non
  | num i _ => exact lay_int
  | str k s _ hs => exact lay_str (txt_strOk s hs)
theorem dp_row {ks : List Kind} {row : List V} {a : Addr} (ok : RowOk ks row) (h : H a = some (.lst row)) : Dp K H (.ref a) (.list (row.map dC)) := by
  refine .lst (SqL.of h) (dpAll_of ?_)
  have : Paired (fun x y => Dp K H y (dC x)) row (row.map id) := paired_self fun v m => by
    obtain ⟨k, _, h⟩ := paired_mem ok m
    exact dp_cell h
  rw [List.map_id] at this
  exact this
theorem lay_row {n : Nat} {ks : List Kind} {row : List V} (ok : RowOk ks row) : Lay (n + 1) (.list (row.map dC)) := lay_map fun v m => by
  obtain ⟨k, _, h⟩ := paired_mem ok m
  exact lay_cell h
end
end HC

set_option Elab.async false
set_option linter.all false
set_option maxRecDepth 100000
set_option maxHeartbeats 2000000
namespace HC
open PySem PySem.Spec PyProof.Rows L2 Evl
section
variable {K : PySem.W.Frag} {σ : L2.St} {H H' : Hp} {ta tb tc te tx tl : TE} {t u : TT} {x y z v : V} {D : Ends} {tu tw tz : TS} {g : TG} {R R1 : V → Hp → Hp → Prop}
/-- a pair whose second part is made -/
theorem ex_tup2 (ha : Ev ta σ H x) (hb : EvX tb σ H R) : EvX (tTup (tCons ta (tCons tb tNil))) σ H fun v H1 H2 => ∃ t y G0 G, v = .ref t ∧ Ex H1 G0 ∧ Ex G0 G ∧ Ex G H2 ∧ R y G0 G ∧ H1 t = none ∧ H2 t = some (.tup [x, y]) := fun H1 e Q q =>
  ha H1 e _ fun H2 e2 => hb H2 (e.trans e2) _ fun y H3 e3 r => ⟨by show 2 ≤ sizeLine; decide, fun p hp => q _ _ ((e2.trans e3).trans (Ex.new hp)) ⟨p, y, H2, H3, rfl, e2, e3, Ex.new hp, r, fresh_back (e2.trans e3) hp, upd_same⟩⟩
/-- a pair whose first part is made -/
theorem ex_tup1 (ha : EvX ta σ H R) (hb : Ev tb σ H y) : EvX (tTup (tCons ta (tCons tb tNil))) σ H fun v H1 H2 => ∃ t x G, v = .ref t ∧ Ex H1 G ∧ Ex G H2 ∧ R x H1 G ∧ H1 t = none ∧ H2 t = some (.tup [x, y]) := fun H1 e Q q =>
  ha H1 e _ fun x H2 e2 r => hb H2 (e.trans e2) _ fun H3 e3 => ⟨by show 2 ≤ sizeLine; decide, fun p hp => q _ _ ((e2.trans e3).trans (Ex.new hp)) ⟨p, x, H2, rfl, e2, e3.trans (Ex.new hp), r, fresh_back (e2.trans e3) hp, upd_same⟩⟩
/-- an operator whose operands are made -/
theorem ev_opXE {r : R2} (ha : EvX ta σ H R1) (hb : Ev tb σ H y) (hr : ∀ v H1 H2, Ex H H1 → Ex H1 H2 → R1 v H1 H2 → RV r v y H2 z) : Ev (tOp r ta tb) σ H z := fun H1 e Q q =>
  ha H1 e _ fun v H2 e2 r1 => hb H2 (e.trans e2) _ fun H3 e3 => hr v H1 H2 e e2 r1 H3 e3 Q fun H4 e4 => q H4 ((e2.trans e3).trans e4)
theorem ev_opEX {r : R2} (ha : Ev ta σ H x) (hb : EvX tb σ H R1) (hr : ∀ v H1 H2, Ex H H1 → Ex H1 H2 → R1 v H1 H2 → RV r x v H2 z) : Ev (tOp r ta tb) σ H z := fun H1 e Q q =>
  ha H1 e _ fun H2 e2 => hb H2 (e.trans e2) _ fun v H3 e3 r1 => hr v H2 H3 (e.trans e2) e3 r1 H3 (Ex.refl H3) Q fun H4 e4 => q H4 ((e2.trans e3).trans e4)
theorem ev_opXX {r : R2} (ha : EvX ta σ H R1) (hb : EvX tb σ H R) (hr : ∀ u v H1 H2 H3 H4, Ex H H1 → Ex H1 H2 → Ex H2 H3 → Ex H3 H4 → R1 u H1 H2 → R v H3 H4 → RV r u v H4 z) : Ev (tOp r ta tb) σ H z := fun H1 e Q q =>
  ha H1 e _ fun u H2 e2 r1 => hb H2 (e.trans e2) _ fun v H3 e3 r2 => hr u v H1 H2 H2 H3 e e2 (Ex.refl H2) e3 r1 r2 H3 (Ex.refl H3) Q fun H4 e4 => q H4 ((e2.trans e3).trans e4)
/-- list(range(n)) -/
theorem el_lrg {n : Nat} (h : Ev te σ H (.int (n : Int))) (hz : n ≤ 100000) : EvL (tLstRg (tRg1 te)) σ H ((List.range n).map nV) := fun H1 e Q q =>
  h H1 e _ fun H2 e2 => ⟨n, rfl, RgOk.of_le (by omega) (by omega) (by omega) (by omega), fun p hp => q p _ (fresh_back e2 hp) (e2.trans (Ex.new hp)) (by
    rw [upd_same]
    have : rgV 0 (n : Int) = (List.range n).map nV := by
      unfold rgV
      rw [show ((n : Int) - 0).toNat = n by omega]
      exact List.map_congr_left fun i _ => by show V.int (0 + (i : Int)) = V.int (i : Int); rw [Int.zero_add]
    rw [this])⟩
/-- [] -/
theorem el_nil : EvL (tLst tNil) σ H [] := el_lst ea_nil (by show 0 ≤ 100000; omega)
/-- a call of two arguments, the first made, .. -/
theorem ea_X {tr : TA} {P : List V → Hp → Hp → Prop} (h : EvX te σ H R) (hr : ∀ H1, Ex H H1 → ∀ Q : List V → Hp → Prop, (∀ vs H2, Ex H1 H2 → P vs H1 H2 → Q vs H2) → tr σ H1 Q) :
    ∀ H1, Ex H H1 → ∀ Q : List V → Hp → Prop, (∀ v vs G H2, Ex H1 G → Ex G H2 → R v H1 G → P vs G H2 → Q (v :: vs) H2) → tCons te tr σ H1 Q := fun H1 e Q q =>
  h H1 e _ fun v H2 e2 r => hr H2 (e.trans e2) _ fun vs H3 e3 p => q v vs H2 H3 e2 e3 r p
/-- arguments, made or known: A tells of them in the heap behind -/
def EvAX (t : TA) (σ : L2.St) (H : Hp) (A : List V → Hp → Prop) : Prop := ∀ H1, Ex H H1 → ∀ Q : List V → Hp → Prop, (∀ vs H2, Ex H1 H2 → A vs H2 → Q vs H2) → t σ H1 Q
theorem eax_nil : EvAX tNil σ H fun vs _ => vs = [] := fun H1 _ _ q => q [] H1 (Ex.refl H1) rfl
theorem eax_v {tr : TA} {A : List V → Hp → Prop} (h : Ev te σ H v) (hr : EvAX tr σ H A) : EvAX (tCons te tr) σ H fun vs H2 => ∃ us, vs = v :: us ∧ A us H2 := fun H1 e Q q =>
  h H1 e _ fun H2 e2 => hr H2 (e.trans e2) _ fun us H3 e3 a => q _ H3 (e2.trans e3) ⟨us, rfl, a⟩
theorem eax_l {tr : TA} {A : List V → Hp → Prop} {xs : List V} (h : EvL te σ H xs) (hr : EvAX tr σ H A) : EvAX (tCons te tr) σ H fun vs H2 => ∃ us p, vs = .ref p :: us ∧ H2 p = some (.lst xs) ∧ A us H2 := fun H1 e Q q =>
  h H1 e _ fun p H2 _ e2 hp => hr H2 (e.trans e2) _ fun us H3 e3 a => q _ H3 (e2.trans e3) ⟨us, p, rfl, e3 _ _ hp, a⟩
theorem eax_x {tr : TA} {A : List V → Hp → Prop} {B : V → Hp → Prop} (h : EvX te σ H R) (hb : ∀ v H1 H2 H3, Ex H H1 → Ex H1 H2 → Ex H2 H3 → R v H1 H2 → B v H3) (hr : EvAX tr σ H A) : EvAX (tCons te tr) σ H fun vs H2 => ∃ us v, vs = v :: us ∧ B v H2 ∧ A us H2 := fun H1 e Q q =>
  h H1 e _ fun v H2 e2 r => hr H2 (e.trans e2) _ fun us H3 e3 a => q _ H3 (e2.trans e3) ⟨us, v, rfl, hb v H1 H2 H3 e e2 e3 r, a⟩
/-- a call: what its arguments are, what it promises -/
theorem ex_callA {sp : Sp} {dvs : List V} {E : XK} {t : TA} {A : List V → Hp → Prop} (h : EvAX t σ H A) (hs : ∀ vs H1, Ex H H1 → A vs H1 → SpX sp (vs ++ dvs) H1 R) : EvX (tCall sp dvs E t) σ H fun v H0 H2 => ∃ H1, Ex H0 H1 ∧ Ex H1 H2 ∧ R v H1 H2 := fun H1 e Q q =>
  h H1 e _ fun vs H2 e2 a => hs vs H2 (e.trans e2) a H2 (Ex.refl H2) _ (fun u H3 e3 r => q u H3 (e2.trans e3) ⟨H2, e2, e3, r⟩) E
/-- a method that reads -/
theorem ex_meth {C p dx : Addr} {fs : List (Str × V)} {m : Str} {sp : Sp} {dvs : List V} {E : XK} {t : TA} {A : List V → Hp → Prop} (ho : Ev ta σ H (.ref p)) (hp : H p = some (.ins C dx fs)) (hl : fs.lookup m = none) (h : EvAX t σ H A) (hs : ∀ vs H1, Ex H H1 → A vs H1 → SpX sp (.ref p :: (vs ++ dvs)) H1 R) :
    EvX (tMeth C m sp dvs E ta t) σ H fun v H0 H2 => ∃ H1, Ex H0 H1 ∧ Ex H1 H2 ∧ R v H1 H2 := fun H1 e Q q =>
  ho H1 e _ fun H2 e2 => ⟨p, dx, fs, rfl, (e.trans e2) _ _ hp, hl, h H2 (e.trans e2) _ fun vs H3 e3 a => hs vs H3 ((e.trans e2).trans e3) a H3 (Ex.refl H3) _ (fun u H4 e4 r => q u H4 ((e2.trans e3).trans e4) ⟨H3, e2.trans e3, e4, r⟩) E⟩
theorem ev_meth {C p dx : Addr} {fs : List (Str × V)} {m : Str} {sp : Sp} {dvs vs : List V} {E : XK} {t : TA} (ho : Ev ta σ H (.ref p)) (hp : H p = some (.ins C dx fs)) (hl : fs.lookup m = none) (h : EvA t σ H vs) (hs : SpV sp (.ref p :: (vs ++ dvs)) H z) : Ev (tMeth C m sp dvs E ta t) σ H z := fun H1 e Q q =>
  ho H1 e _ fun H2 e2 => ⟨p, dx, fs, rfl, (e.trans e2) _ _ hp, hl, h H2 (e.trans e2) _ fun H3 e3 => hs H3 ((e.trans e2).trans e3) Q (fun H4 e4 => q H4 ((e2.trans e3).trans e4)) E⟩
theorem el_meth {C p dx : Addr} {fs : List (Str × V)} {m : Str} {sp : Sp} {dvs vs xs : List V} {E : XK} {t : TA} (ho : Ev ta σ H (.ref p)) (hp : H p = some (.ins C dx fs)) (hl : fs.lookup m = none) (h : EvA t σ H vs) (hs : SpL sp (.ref p :: (vs ++ dvs)) H xs) : EvL (tMeth C m sp dvs E ta t) σ H xs := fun H1 e Q q =>
  ho H1 e _ fun H2 e2 => ⟨p, dx, fs, rfl, (e.trans e2) _ _ hp, hl, h H2 (e.trans e2) _ fun H3 e3 => hs H3 ((e.trans e2).trans e3) Q (fun l H4 nl e4 hl => q l H4 (fresh_back (e2.trans e3) nl) ((e2.trans e3).trans e4) hl) E⟩
/-- sorted(ints) -/
theorem swoN : SrtO.Swo fun a b : Nat => decide (a < b) := by
  refine ⟨fun x y h => ?_, fun x y z h1 h2 => ?_⟩
  · have a := of_decide_eq_true h
    exact decide_eq_false (by omega)
  · have a := of_decide_eq_false h1
    have b := of_decide_eq_false h2
    exact decide_eq_false (by omega)
def srtN (l : List Nat) : List Nat := isrt (fun a b => decide (a < b)) l
theorem srtN_perm (l : List Nat) : (srtN l).Perm l := isrt_perm l
theorem srtN_of {l : List Nat} {ns : List Int} (hp : ns.Perm (l.map fun n : Nat => (n : Int))) (hs : ns.Pairwise (· ≤ ·)) : ns = (srtN l).map fun n : Nat => (n : Int) := by
  refine List.Perm.eq_of_pairwise (le := (· ≤ ·)) (fun a b _ _ h1 h2 => Int.le_antisymm h1 h2) hs ?_ (hp.trans ((srtN_perm l).map _).symm)
  exact List.pairwise_map.mpr ((isrt_ok swoN l).1.imp fun {a b} h => by
    have h := of_decide_eq_false h
    omega)
theorem el_sortedN {a : Addr} {l : List Nat} (h : Ev te σ H (.ref a)) (ha : H a = some (.lst (l.map nV))) : EvL (tCB (rSortedI K) (tCons te tNil)) σ H ((srtN l).map nV) := fun H1 e Q q =>
  h H1 e _ fun H2 e2 => ⟨a, l.map fun n : Nat => (n : Int), rfl, SqL.of (by rw [List.map_map]; exact (e.trans e2) _ _ ha), fun ns p hp hs np => q p _ (fresh_back e2 np) (e2.trans (Ex.new np)) (by
    rw [upd_same, srtN_of hp hs, List.map_map]
    rfl)⟩
end
end HC

set_option Elab.async false
set_option linter.all false
set_option maxRecDepth 100000
set_option maxHeartbeats 4000000
namespace HC
open PySem PySem.Spec PyProof.Rows L2 Evl
local macro_rules
  | `(tactic| walk_at "ev") => `(tactic| first
    | exact ev_c
    | exact ev_var rfl
    | exact ea_nil
    | exact et_yes
    | exact eo_none
    | exact rv_I0
    | exact rv_eqI
    | exact rv_neI
    | exact rv_eqS
    | exact rv_neS
    | exact rv_eqB
    | exact rv_neB
    | exact rv_isN
    | exact rv_notN
    | exact rv_leS
    | exact rv_ltS
    | exact ru_neg
    | assumption
    | (apply ea_cons <;> walk_at "ev")
    | (apply et_test <;> walk_at "ev")
    | (apply et_B <;> walk_at "ev")
    | (apply et_not <;> walk_at "ev")
    | (apply ev_op <;> walk_at "ev")
    | (apply ev_un <;> walk_at "ev")
    | (apply ev_isi_int (h := kit_int_int) <;> walk_at "ev")
    | (apply ev_isi_int (h := kit_int_bool) <;> walk_at "ev")
    | (apply ev_isi_str (h := kit_str_str) <;> walk_at "ev")
    | (apply ev_isi_lst (h := kit_list_list) <;> walk_at "ev")
    | (apply ev_isi_tup (h := kit_tuple_tuple) <;> walk_at "ev")
    | (apply rc_lenL ; assumption)
    | (apply rc_lenT ; assumption)
    | (apply rc_lenS ; assumption)
    | (apply ev_chain <;> first | walk_at "ev" | (intro _; walk_at "ev"))
    | (apply et_or <;> first | walk_at "ev" | (intro _; walk_at "ev"))
    | (apply et_and <;> first | walk_at "ev" | (intro _; walk_at "ev"))
    | (apply ev_orV <;> first | walk_at "ev" | (intro _; walk_at "ev"))
    | (apply ev_andV <;> first | walk_at "ev" | (intro _; walk_at "ev"))
    | (apply ev_notV <;> walk_at "ev")
    | (apply ev_cb <;> walk_at "ev")
    | (apply eo_some <;> walk_at "ev"))
local macro_rules
  | `(tactic| walk_at "dec") => `(tactic| first
    | assumption
    | exact dnI
    | exact dnS
    | decide +kernel
    | (with_reducible rfl)
    | (simp only [decide_eq_true_eq, Bool.and_eq_true, Bool.not_eq_true', decide_eq_false_iff_not, Bool.not_true, Bool.not_false, Bool.and_eq_false_iff, Bool.or_eq_false_iff, Bool.or_eq_true]; omega)
    | rfl)
local macro_rules
  | `(tactic| walk_at "dt") => `(tactic| first
    | assumption
    | exact et_yes
    | (apply et_orF <;> walk_at "dt")
    | (apply et_andT <;> walk_at "dt")
    | (apply et_notF; walk_at "dt")
    | (apply et_notT; walk_at "dt")
    | (apply et_chT <;> first | walk_at "ev" | walk_at "dec")
    | (apply et_leaf <;> first | walk_at "ev" | walk_at "dec")
    | (apply et_leafB <;> first | walk_at "ev" | walk_at "dec"))
local macro_rules
  | `(tactic| walk_at "pass") => `(tactic| (refine' q_pass ?zzh ?zzk; (case zzh => walk_at "dt")))
local macro_rules
  | `(tactic| walk_at "yes") => `(tactic| ((first | refine' q_yes ?zzh ?zzk | refine' s_yes ?zzh ?zzk); (case zzh => walk_at "dt")))
local macro_rules
  | `(tactic| walk_at "no") => `(tactic| ((first | refine' q_no ?zzh ?zzk | refine' s_no ?zzh ?zzk); (case zzh => walk_at "dt")))
local macro_rules
  | `(tactic| walk_at "ret") => `(tactic| (refine' s_ret (v := _) ?zzh ?zzk; (case zzh => walk_at "ev")))
local macro_rules
  | `(tactic| walk_at "set") => `(tactic| ((first | refine' q_asg (v := _) ?zzh ?zzk | refine' s_asg (v := _) ?zzh ?zzk); (case zzh => walk_at "ev")))
section
variable {P : Program} {w : World} {K : PySem.W.Frag} {mg : Str → Option Value} {base : Heap}
theorem CellsAt.of {B : Hp} {n : Nat} {d : Addr} {rows rows' : List Nat} {cells : Nat → List V} (h : CellsAt B n d rows cells) (m : ∀ r ∈ rows', r ∈ rows) : CellsAt B n d rows' cells := by
  obtain ⟨kvs, h1, h2, h3⟩ := h
  exact ⟨kvs, h1, h2, fun r hr => h3 r (m r hr)⟩
def sp_ranks_of_rows (_ : PySem.W.Frag) : Sp := fun vs H Q _ => ∃ (k d l : Addr) (ks : List Kind) (n : Nat) (rows : List Nat) (cells : Nat → List V), vs = [.ref k, .ref d, .ref l] ∧ H k = some (.lst (ks.map Kind.v)) ∧ CellsAt H n d rows cells ∧ H l = some (.lst (rows.map nV)) ∧ (∀ r ∈ rows, RowOk ks (cells r)) ∧ ks.length ≤ 1000 ∧ rows.length ≤ 1000 ∧
  ∀ v' H' rks, Same H H' → tabRanks ks (rows.map cells) rks → RanksAt H' v' rks → Q v' H'
/-! ranks_of_rows: slots 0:kinds 1:cells 2:rows 3:row -/
theorem sc_ranks_of_rows : FnScope ["kinds", "cells", "rows", "row"] ["kinds", "cells", "rows"] (defScope s_ranks_of_rows) := ⟨rfl, rfl, rfl, by decide +kernel, rfl, by decide +kernel, by decide +kernel⟩
theorem ok_ranks_of_rows (T : Tp K mg w) : FnOk P w K mg base CX0 4 (a_ranks_of_rows K) (fdAt K (a_ranks_of_rows K)) ["kinds", "cells", "rows"] (sp_ranks_of_rows K) := by
  refine T.f_ranks_of_rows.ok sc_ranks_of_rows (fun vs H Q E h => ?_) (fun cdv A outer s H vs Q E hr h => ?_)
  · obtain ⟨k, d, l, ks, n, rows, cells, rfl, hk, hd, hl, ok, hz1, hz2, q⟩ := h
    rfl
  · obtain ⟨k, d, l, ks, n, rows, cells, rfl, hk, hd, hl, ok, hz1, hz2, q⟩ := h
    refine ⟨_, PSs.nox (pss_one (ps_ret (pe_call (ok_ranks_of (K := K) T) (hr.mono (by decide)) rfl T.g_ranks_of T.f_ranks_of.kp T.bn_ranks_of .nil pass0 (pa_cons (pe_tup (pa_cons (pv 0) (pa_cons (pe_lc (own := [("row", 3)]) (g := (gName 3)) rfl sc_ranks_of_rows.nd (kPI (K := K) (i := fun K => iList K _) (pi_list (pv 2)) rfl) (blkOk_by (own := [("row", 3)]) (N := ["kinds", "cells", "rows", "row"]) (sc := defScope s_ranks_of_rows) (by decide +kernel)) (fun _ _ _ _ _ => (pg_name (i := 3) sc_ranks_of_rows.nd rfl (Or.inl rfl) (.inr rfl))) (fun _ _ _ _ _ => pts_nil) (fun _ _ _ _ _ => (pe_dget (hu_of hr) (pv 1) (pv 3) (fun _ _ => rfl)))) pa_nil))) pa_nil)))), ?_⟩
    obtain ⟨kvs, hkv, _, hc⟩ := hd
    have hv : ∀ r ∈ rows, ∃ x, (valV kvs (.inl (r : Int))).getD .non = .ref x ∧ valV kvs (.inl (r : Int)) = some (.ref x) ∧ H x = some (.lst (cells r)) := fun r m => by
      obtain ⟨x, e, h⟩ := hc r m
      exact ⟨x, by rw [e] <;> rfl, e, h⟩
    refine s_retX (ex_callA (R := fun v H1 H2 => ∃ rks, tabRanks ks (rows.map cells) rks ∧ RanksAt H2 v rks) (A := fun vs H => ∃ us v, vs = v :: us ∧ TabAt H v ks (rows.map cells) ∧ us = []) (eax_x (ex_tup2 (x := .ref k) (ev_var rfl) (EvX.ofL (el_lcL (K := K) rows nV (fun _ => true) (fun r => (valV kvs (.inl (r : Int))).getD .non) (ev_var rfl) (SqL.of hl) (by omega) (fun _ _ => et_yes) fun r m _ => ?_))) (fun v H1 H2 H3 e1 e2 e3 ⟨t, y, G0, G, ev, g1, g2, g3, ⟨p, ey, np, hp⟩, nt, ht⟩ => ?_) eax_nil) fun vs H1 e ⟨us, v, ev, ta, eu⟩ => ?_) fun v H1 e1 ⟨G, g1, g2, rks, tr, ra⟩ => q v H1 rks e1 tr ra
    · obtain ⟨x, e1, e2, h⟩ := hv r m
      refine ev_dget (a := d) (ev_var rfl) (ev_var rfl) fun H1 e => ?_
      rw [e1, ← e2]
      exact DGet.k (k := .inl (r : Int)) (e _ _ hkv)
    · subst ev ey
      rw [filter_tt] at hp
      refine ⟨t, k, p, _, rfl, e3 _ _ ht, e3 _ _ (e2 _ _ (e1 _ _ hk)), e3 _ _ (g3 _ _ hp), ?_⟩
      refine paired_flip' (paired_self fun r m => ?_)
      obtain ⟨x, e1', e2', h⟩ := hv r m
      exact ⟨x, e1', e3 _ _ (e2 _ _ (e1 _ _ h))⟩
    · subst ev eu
      refine fun H2 e2 Q k E => ⟨v, ks, rows.map cells, rfl, ta.mono e2, fun row m => ?_, hz1, by rw [List.length_map]; exact hz2, fun v' H' rks s tr ra => k v' H' s ⟨rks, tr, ra⟩⟩
      obtain ⟨r, m2, rfl⟩ := List.mem_map.mp m
      exact ok r m2
theorem ev_state (T : Tp K mg w) {ta : TE} {σ : L2.St} {H : Hp} {s dx k L U : Addr} {svs : List V} {v : V} (ha : Ev ta σ H (.ref s)) (hs : H s = some (.ins (aSession K) dx (seFs k L U))) (hL : H L = some (.lst (svs ++ [v]))) :
    Ev (tOp (rIxL K) (tFld K ta "states") (tUn (rU fun i => .int (-i)) (tC (.int 1)))) σ H v := ev_op (ev_fld ha hs T.cl_Session T.n_Session_states rfl) (ev_un ev_c ru_neg) (rv_ixL (SqL.of hL) (atI_last _ _))
def sp_Session_len (K : PySem.W.Frag) : Sp := fun vs H Q _ => ∃ s ks n st, vs = [.ref s] ∧ Top K ks n H s st ∧ RetV (.int (st.shown.length : Int)) H Q
/-! Session.__len__: slots 0:self -/
theorem sc_Session_len : FnScope ["self"] ["self"] (defScope s_Session_len) := ⟨rfl, rfl, rfl, by decide +kernel, rfl, by decide +kernel, by decide +kernel⟩
theorem ok_Session_len (T : Tp K mg w) : FnOk P w K mg base CX0 1 (a_Session_len K) (fdAt K (a_Session_len K)) ["self"] (sp_Session_len K) := by
  refine T.f_Session_len.ok sc_Session_len (fun vs H Q E h => ?_) (fun cdv A outer s H vs Q E hr h => ?_)
  · obtain ⟨s, ks, n, st, rfl, ⟨dx, k, L, U, svs, v, hs, hk, hL, a, da, d, l, c, e, rfl, ha, hd, hf, hl, hc, he⟩, q⟩ := h
    rfl
  · obtain ⟨s, ks, n, st, rfl, ⟨dx, k, L, U, svs, v, hs, hk, hL, a, da, d, l, c, e, rfl, ha, hd, hf, hl, hc, he⟩, q⟩ := h
    refine ⟨_, PSs.nox (pss_one (ps_ret (pe_callB (kCR (K := K) (r := rLenQ) call_len_seq rfl) rfl T.b_len (by decide +kernel) (pa_cons (kFld (K := K) (pe_fld (pe_ix (kIx (K := K) (r := rIxL) ix_list rfl) (kFld (K := K) (pe_fld (pv 0) rfl) rfl) (pe_un un_neg pe_int) (fun _ _ => rfl)) rfl) rfl) pa_nil)))), ?_⟩
    refine s_ret (v := .int (st.shown.length : Int)) ?_ q
    have h := ev_cb (r := rLenQ K) (ea_cons (ev_fld (ev_state (σ := L2.start ["self"] [.ref s]) T (ev_var (i := 0) rfl) hs hL) ha T.cl_State T.n_State_shown rfl) ea_nil) (rc_lenL hl)
    rw [List.length_map] at h
    exact h
def sp_Session_check_row (K : PySem.W.Frag) : Sp := fun vs H Q _ => ∃ s ks n st r, vs = [.ref s, nV r] ∧ Top K ks n H s st ∧ r ∈ st.shown ∧ RetV .non H Q
/-! Session.check_row: slots 0:self 1:row -/
theorem sc_Session_check_row : FnScope ["self", "row"] ["self", "row"] (defScope s_Session_check_row) := ⟨rfl, rfl, rfl, by decide +kernel, rfl, by decide +kernel, by decide +kernel⟩
theorem ok_Session_check_row (T : Tp K mg w) : FnOk P w K mg base CX0 2 (a_Session_check_row K) (fdAt K (a_Session_check_row K)) ["self", "row"] (sp_Session_check_row K) := by
  refine T.f_Session_check_row.ok sc_Session_check_row (fun vs H Q E h => ?_) (fun cdv A outer s H vs Q E hr h => ?_)
  · obtain ⟨s, ks, n, st, r, rfl, ⟨dx, k, L, U, svs, v, hs, hk, hL, a, da, d, l, c, e, rfl, ha, ⟨kvs, hkv, _, hcc⟩, hf, hl, hc, he⟩, hr1, q⟩ := h
    rfl
  · obtain ⟨s, ks, n, st, r, rfl, ⟨dx, k, L, U, svs, v, hs, hk, hL, a, da, d, l, c, e, rfl, ha, ⟨kvs, hkv, _, hcc⟩, hf, hl, hc, he⟩, hr1, q⟩ := h
    refine ⟨_, PSs.nox (pss_one (ps_if (PW.pt (pw_or (pt_not (pt_val (pe_call (ok_is_integer (K := K) T) (hr.mono (by decide)) rfl T.g_is_integer T.f_is_integer.kp T.bn_is_integer .nil pass0 (pa_cons (pv 1) pa_nil)))) (pw_or1 (pt_cmp (pc_dnotin (hu_of hr) (pv 1) (kFld (K := K) (pe_fld (pe_ix (kIx (K := K) (r := rIxL) ix_list rfl) (kFld (K := K) (pe_fld (pv 0) rfl) rfl) (pe_un un_neg pe_int) (fun _ _ => rfl)) rfl) rfl)) rfl)))) (pss_one ps_never) pss_nil)), ?_⟩
    obtain ⟨x, hx, _⟩ := hcc r hr1
    refine s_no (et_orF (et_notF (et_B (ev_call (ea_cons (ev_var rfl) ea_nil) (spv_is_integer (K := K) (r : Int))))) (et_leaf (ev_dnotin (a := d) (o := some (.ref x)) (ev_var rfl) (ev_fld (ev_state T (ev_var rfl) hs hL) ha T.cl_State T.n_State_cells rfl) fun H1 e => ?_) rfl)) fun H1 e1 => q H1 e1
    rw [← hx]
    exact DGet.k (k := .inl (r : Int)) (e _ _ hkv)
def sp_Session_view (K : PySem.W.Frag) : Sp := fun vs H Q _ => ∃ s ks n st, vs = [.ref s] ∧ Top K ks n H s st ∧ RetL (st.shown.map nV) H Q
/-! Session.view: slots 0:self -/
theorem sc_Session_view : FnScope ["self"] ["self"] (defScope s_Session_view) := ⟨rfl, rfl, rfl, by decide +kernel, rfl, by decide +kernel, by decide +kernel⟩
theorem ok_Session_view (T : Tp K mg w) : FnOk P w K mg base CX0 1 (a_Session_view K) (fdAt K (a_Session_view K)) ["self"] (sp_Session_view K) := by
  refine T.f_Session_view.ok sc_Session_view (fun vs H Q E h => ?_) (fun cdv A outer s H vs Q E hr h => ?_)
  · obtain ⟨s, ks, n, st, rfl, ⟨dx, k, L, U, svs, v, hs, hk, hL, a, da, d, l, c, e, rfl, ha, hd, hf, hl, hc, he⟩, q⟩ := h
    rfl
  · obtain ⟨s, ks, n, st, rfl, ⟨dx, k, L, U, svs, v, hs, hk, hL, a, da, d, l, c, e, rfl, ha, hd, hf, hl, hc, he⟩, q⟩ := h
    refine ⟨_, PSs.nox (pss_one (ps_ret (pe_callTy (kCR (K := K) (r := rListQ) call_list_of rfl) rfl T.b_list (by decide +kernel) (pa_cons (kFld (K := K) (pe_fld (pe_ix (kIx (K := K) (r := rIxL) ix_list rfl) (kFld (K := K) (pe_fld (pv 0) rfl) rfl) (pe_un un_neg pe_int) (fun _ _ => rfl)) rfl) rfl) pa_nil)))), ?_⟩
    exact s_retL (el_cb (ea_cons (ev_fld (ev_state T (ev_var rfl) hs hL) ha T.cl_State T.n_State_shown rfl) ea_nil) (rcl_list hl)) q
def sp_Session_row_cells (K : PySem.W.Frag) : Sp := fun vs H Q _ => ∃ s ks n st r, vs = [.ref s, nV r] ∧ Top K ks n H s st ∧ r ∈ st.shown ∧ RetL (st.cells r) H Q
/-! Session.row_cells: slots 0:self 1:row -/
theorem sc_Session_row_cells : FnScope ["self", "row"] ["self", "row"] (defScope s_Session_row_cells) := ⟨rfl, rfl, rfl, by decide +kernel, rfl, by decide +kernel, by decide +kernel⟩
theorem ok_Session_row_cells (T : Tp K mg w) : FnOk P w K mg base CX0 3 (a_Session_row_cells K) (fdAt K (a_Session_row_cells K)) ["self", "row"] (sp_Session_row_cells K) := by
  refine T.f_Session_row_cells.ok sc_Session_row_cells (fun vs H Q E h => ?_) (fun cdv A outer s H vs Q E hr h => ?_)
  · obtain ⟨s, ks, n, st, r, rfl, tp, hr1, q⟩ := h
    rfl
  · obtain ⟨s, ks, n, st, r, rfl, tp, hr1, q⟩ := h
    refine ⟨_, PSs.nox (pss_cons (ps_expr (pe_meth (pv 0) T.cl_Session T.m_Session_check_row (ok_Session_check_row (K := K) T) (hr.mono (by decide)) T.bn_Session_check_row .nil pass0 (pa_cons (pv 1) pa_nil)))
      (pss_one (ps_ret (pe_callTy (kCR (K := K) (r := rListQ) call_list_of rfl) rfl T.b_list (by decide +kernel) (pa_cons (pe_dget (hu_of hr) (kFld (K := K) (pe_fld (pe_ix (kIx (K := K) (r := rIxL) ix_list rfl) (kFld (K := K) (pe_fld (pv 0) rfl) rfl) (pe_un un_neg pe_int) (fun _ _ => rfl)) rfl) rfl) (pv 1) (fun _ _ => rfl)) pa_nil))))), ?_⟩
    have tp0 := tp
    obtain ⟨dx, k, L, U, svs, v, hs, hk, hL, a, da, d, l, c, e, rfl, ha, ⟨kvs, hkv, _, hcc⟩, hf, hl, hc, he⟩ := tp
    obtain ⟨x, hx, hx2⟩ := hcc r hr1
    refine q_drop (v := .non) (ev_meth (vs := [nV r]) (ev_var rfl) hs rfl (ea_cons (ev_var rfl) ea_nil) fun H1 e Q k E => ⟨s, ks, n, st, r, rfl, tp0.mono e, hr1, fun H2 e2 => k H2 e2⟩) fun H1 e1 => ?_
    refine s_retL (el_cb (ea_cons (ev_dget (v := .ref x) (a := d) (ev_fld (ev_state T (ev_var rfl) (e1 _ _ hs) (e1 _ _ hL)) (e1 _ _ ha) T.cl_State T.n_State_cells rfl) (ev_var rfl) fun H2 e => ?_) ea_nil) (rcl_list (e1 _ _ hx2))) fun p H2 np e2 hp => RetL.go q e1 np e2 hp
    rw [← hx]
    exact DGet.k (k := .inl (r : Int)) (e _ _ (e1 _ _ hkv))
def sp_Session_last_clicked (K : PySem.W.Frag) : Sp := fun vs H Q _ => ∃ s ks n st, vs = [.ref s] ∧ Top K ks n H s st ∧ RetV (lastV st.clicked.getLast?) H Q
theorem ev_ifT {K : PySem.W.Frag} {σ : L2.St} {H : Hp} {ta tb : TE} {t : TT} {v : V} (h : EvT t σ H true) (k : Ev ta σ H v) : Ev (tIf t ta tb) σ H v := ev_if (b := true) h (fun _ => k) fun h => nomatch h
theorem ev_ifF {K : PySem.W.Frag} {σ : L2.St} {H : Hp} {ta tb : TE} {t : TT} {v : V} (h : EvT t σ H false) (k : Ev tb σ H v) : Ev (tIf t ta tb) σ H v := ev_if (b := false) h (fun h => nomatch h) fun _ => k
theorem ev_lastQ {σ : L2.St} {H : Hp} {ta : TE} {a : Addr} {xs : List Nat} (h : Ev ta σ H (.ref a)) (ha : H a = some (.lst (xs.map nV))) : Ev (tIf (tTest (tOp (rNeD K) ta (tLst tNil))) (tOp (rIxL K) ta (tUn (rU fun i => .int (-i)) (tC (.int 1)))) (tC .non)) σ H (lastV xs.getLast?) := by
  have ht : EvT (tTest (tOp (rNeD K) ta (tLst tNil))) σ H (!decide (xs = [])) := et_leaf (ev_opL h el_nil fun p H1 hp e => rv_neNs (ys := []) (e _ _ ha) hp) rfl
  rcases xs.eq_nil_or_concat with rfl | ⟨ys, y, rfl⟩
  · exact ev_ifF (K := K) ht ev_c
  · rw [decide_eq_false (by simp)] at ht
    rw [List.concat_eq_append, List.map_append] at ha
    rw [List.concat_eq_append, List.getLast?_concat]
    exact ev_ifT (K := K) ht (ev_op h (ev_un ev_c ru_neg) (rv_ixL (SqL.of ha) (atI_last _ _)))
/-! Session.last_clicked: slots 0:self 1:clicked -/
theorem sc_Session_last_clicked : FnScope ["self", "clicked"] ["self"] (defScope s_Session_last_clicked) := ⟨rfl, rfl, rfl, by decide +kernel, rfl, by decide +kernel, by decide +kernel⟩
theorem ok_Session_last_clicked (T : Tp K mg w) : FnOk P w K mg base CX0 1 (a_Session_last_clicked K) (fdAt K (a_Session_last_clicked K)) ["self"] (sp_Session_last_clicked K) := by
  refine T.f_Session_last_clicked.ok sc_Session_last_clicked (fun vs H Q E h => ?_) (fun cdv A outer s H vs Q E hr h => ?_)
  · obtain ⟨s, ks, n, st, rfl, ⟨dx, k, L, U, svs, v, hs, hk, hL, a, da, d, l, c, e, rfl, ha, hd, hf, hl, hc, he⟩, q⟩ := h
    rfl
  · obtain ⟨s, ks, n, st, rfl, ⟨dx, k, L, U, svs, v, hs, hk, hL, a, da, d, l, c, e, rfl, ha, hd, hf, hl, hc, he⟩, q⟩ := h
    refine ⟨_, PSs.nox (pss_cons (ps_set (i := 1) sc_Session_last_clicked.nd rfl (Or.inl rfl) (kFld (K := K) (pe_fld (pe_ix (kIx (K := K) (r := rIxL) ix_list rfl) (kFld (K := K) (pe_fld (pv 0) rfl) rfl) (pe_un un_neg pe_int) (fun _ _ => rfl)) rfl) rfl))
      (pss_one (ps_ret (pe_ifExp (pt_cmpR (kOp (K := K) (r := rNeD) (op_neD (units_of hr)) rfl) (pv 1) (pe_lst pa_nil) (nomark _)) (pe_ix (kIx (K := K) (r := rIxL) ix_list rfl) (pv 1) (pe_un un_neg pe_int) (fun _ _ => rfl)) pe_non)))), ?_⟩
    refine q_asg (ev_fld (ev_state T (ev_var rfl) hs hL) ha T.cl_State T.n_State_clicked rfl) fun H1 e1 => ?_
    exact s_ret (ev_lastQ (ev_var rfl) (e1 _ _ hc)) fun H2 e2 => q H2 (e1.trans e2)
def sp_Session_recent_effect (K : PySem.W.Frag) : Sp := fun vs H Q _ => ∃ s ks n st, vs = [.ref s] ∧ Top K ks n H s st ∧ ∀ v H', Same H H' → EffAt H' v st.keys st.base → Q v H'
/-! Session.recent_effect: slots 0:self 1:keys 2:base -/
theorem sc_Session_recent_effect : FnScope ["self", "keys", "base"] ["self"] (defScope s_Session_recent_effect) := ⟨rfl, rfl, rfl, by decide +kernel, rfl, by decide +kernel, by decide +kernel⟩
theorem ok_Session_recent_effect (T : Tp K mg w) : FnOk P w K mg base CX0 1 (a_Session_recent_effect K) (fdAt K (a_Session_recent_effect K)) ["self"] (sp_Session_recent_effect K) := by
  refine T.f_Session_recent_effect.ok sc_Session_recent_effect (fun vs H Q E h => ?_) (fun cdv A outer s H vs Q E hr h => ?_)
  · obtain ⟨s, ks, n, st, rfl, ⟨dx, k, L, U, svs, v, hs, hk, hL, a, da, d, l, c, e, rfl, ha, hd, hf, hl, hc, t, el, ys, rfl, ht, hel, pr⟩, q⟩ := h
    rfl
  · obtain ⟨s, ks, n, st, rfl, ⟨dx, k, L, U, svs, v, hs, hk, hL, a, da, d, l, c, e, rfl, ha, hd, hf, hl, hc, t, el, ys, rfl, ht, hel, pr⟩, q⟩ := h
    refine ⟨_, PSs.nox (pss_cons (ps_asg (kFld (K := K) (pe_fld (pe_ix (kIx (K := K) (r := rIxL) ix_list rfl) (kFld (K := K) (pe_fld (pv 0) rfl) rfl) (pe_un un_neg pe_int) (fun _ _ => rfl)) rfl) rfl) (kTup (K := K) (pg_tup (n := 2) rfl (pgs_cons (pg_name (i := 1) sc_Session_recent_effect.nd rfl (Or.inl rfl)) (pgs_cons (pg_name (i := 2) sc_Session_recent_effect.nd rfl (Or.inl rfl)) pgs_nil))) rfl))
      (pss_one (ps_ret (pe_tup (pa_cons (pe_callTy (kCR (K := K) (r := rListQ) call_list_of rfl) rfl T.b_list (by decide +kernel) (pa_cons (pv 1) pa_nil)) (pa_cons (pv 2) pa_nil)))))), ?_⟩
    refine q_unp2 rfl (ev_fld (ev_state T (ev_var rfl) hs hL) ha T.cl_State T.n_State_recent rfl) ht fun H1 e1 => ?_
    refine s_retX (ex_tup1 (EvX.ofL (el_cb (ea_cons (ev_var rfl) ea_nil) (rcl_list (e1 _ _ hel)))) (ev_var rfl)) fun v H2 e2 ⟨t, x, G, ev, g1, g2, ⟨p, ex, np, hp⟩, nt, ht2⟩ => ?_
    subst ev ex
    exact q _ H2 (e1.trans e2) ⟨t, p, ys, rfl, ht2, g2 _ _ hp, Paired.mapP pr fun _ _ ⟨t, e, h⟩ => ⟨t, e, e2 _ _ (e1 _ _ h)⟩⟩
end
end HC


set_option Elab.async false
set_option linter.all false
set_option maxRecDepth 100000
set_option maxHeartbeats 2000000
/-! Rows by their cells; what the operations make of a state. -/
namespace HC
open PySem PySem.Spec PyProof.Rows L2 Evl
/-- rows x, y by the cells of column c -/
def ltC (ks : List Kind) (cells : Nat → List V) (c x y : Nat) : Bool := keyLt (skey (ks.getD c .num) ((cells x).getD c .non)) (skey (ks.getD c .num) ((cells y).getD c .non))
theorem ltC_swo (ks : List Kind) (cells : Nat → List V) (c : Nat) : SrtO.Swo (ltC ks cells c) := ⟨fun x y => keyLt_asym _ _, fun x y z a b => keyLt_tr _ _ _ b a⟩
theorem ranks_len {ks : List Kind} {rows : List (List V)} {rks : List (List Int)} (h : tabRanks ks rows rks) : ∀ rk ∈ rks, rk.length = rows.length := fun rk m => by
  obtain ⟨i, hi⟩ := List.getElem?_of_mem m
  have := (h.2 i rk hi).len
  rw [this]
  exact List.length_map _
theorem ltR_eq {ks : List Kind} {cells : Nat → List V} {rows : List Nat} {rks : List (List Int)} (h : tabRanks ks (rows.map cells) rks) {c x y : Nat} (hc : c < ks.length) (hx : x < rows.length) (hy : y < rows.length) : ltR rks c x y = ltC ks cells c (rows.getD x 0) (rows.getD y 0) := by
  have hcr : c < rks.length := by rw [h.1]; exact hc
  have hrk : rks[c]? = some (rks.getD c []) := by rw [List.getD_eq_getElem?_getD, List.getElem?_eq_getElem hcr] <;> rfl
  have R := h.2 c _ hrk
  have hl := ranks_len h _ (List.mem_of_getElem? hrk)
  rw [List.length_map] at hl
  have g : ∀ z, z < rows.length → (colKeys ks (rows.map cells) c)[z]? = some (skey (ks.getD c .num) ((cells (rows.getD z 0)).getD c .non)) ∧ (rks.getD c [])[z]? = some ((rks.getD c []).getD z 0) := fun z hz => by
    constructor
    · unfold colKeys
      rw [List.getElem?_map, List.getElem?_map, List.getElem?_eq_getElem hz, List.getD_eq_getElem?_getD (l := rows), List.getElem?_eq_getElem hz]
      rfl
    · rw [List.getD_eq_getElem?_getD (i := z), List.getElem?_eq_getElem (by omega)]
      rfl
  obtain ⟨a1, a2⟩ := g x hx
  obtain ⟨b1, b2⟩ := g y hy
  have := R.lt x y _ _ _ _ a1 b1 a2 b2
  unfold ltR rkLt ltC
  rw [Bool.eq_iff_iff, decide_eq_true_eq]
  exact this
theorem clk_rows {ks : List Kind} {cells : Nat → List V} {rows : List Nat} {rks : List (List Int)} (h : tabRanks ks (rows.map cells) rks) {c : Nat} (hc : c < ks.length) (last : Option Nat) :
    (clk (ltR rks) (List.range rows.length) c last).map (fun i => rows.getD i 0) = clk (ltC ks cells) rows c last := by
  rw [clk_congr (lt' := fun c a b => ltC ks cells c (rows.getD a 0) (rows.getD b 0)) (fun x hx y hy => ltR_eq h hc (List.mem_range.mp hx) (List.mem_range.mp hy)), clk_map (lt := ltC ks cells), map_range_getD]
theorem vw_rows {ks : List Kind} {cells : Nat → List V} {rows : List Nat} {rks : List (List Int)} (h : tabRanks ks (rows.map cells) rks) {cs : List Nat} (hc : ∀ c ∈ cs, c < ks.length) (last : Option Nat) :
    (vw (ltR rks) (List.range rows.length) cs last).map (fun i => rows.getD i 0) = vw (ltC ks cells) rows cs last := by
  rw [vw_congr (lt' := fun c a b => ltC ks cells c (rows.getD a 0) (rows.getD b 0)) (fun c m x hx y hy => ltR_eq h (hc c m) (List.mem_range.mp hx) (List.mem_range.mp hy)), vw_map (lt := ltC ks cells), map_range_getD]
/-- is the order what the clicks make of the rows by number -/
def settled (ks : List Kind) (st : St) : Bool := decide (vw (ltC ks st.cells) (srtN st.shown) st.clicked none = st.shown)
def effKeys (keys : List (Nat × Int)) (c : Nat) (rev : Bool) : List (Nat × Int) := if rev = true then keys.map fun p => (p.1, -p.2) else (c, 1) :: keys.filter fun p => !decide (p.1 = c)
def effBase (b : Int) (rev : Bool) : Int := if rev = true then -b else b
def isRev (st : St) (c : Nat) : Bool := decide (st.clicked.getLast? = some c)
def stClick (ks : List Kind) (st : St) (c : Nat) : St := { cells := st.cells, shown := clk (ltC ks st.cells) st.shown c st.clicked.getLast?, clicked := st.clicked ++ [c], keys := effKeys st.keys c (isRev st c), base := effBase st.base (isRev st c), next := st.next }
def stEdit (st : St) (cells : Nat → List V) (shown : List Nat) (next : Nat) : St := { cells := cells, shown := shown, clicked := st.clicked, keys := [], base := 1, next := next }
def stSet (st : St) (r c : Nat) (v : V) : St := stEdit st (fun q => if q = r then (st.cells r).set c v else st.cells q) st.shown st.next
def stAdd (st : St) (row : List V) : St := stEdit st (fun q => if q = st.next then row else st.cells q) (st.shown ++ [st.next]) (st.next + 1)
def stDel (st : St) (r : Nat) : St := stEdit st st.cells (st.shown.filter fun q => !decide (q = r)) st.next
theorem StOk.mono {ks : List Kind} {n n' : Nat} {st : St} (h : StOk ks n st) (hn : n ≤ n') : StOk ks n' st := { h with nx := Nat.le_trans h.nx hn, cl := Nat.le_trans h.cl hn, sl := Nat.le_trans h.sl hn }
theorem StOk.click {ks : List Kind} {n : Nat} {st : St} (h : StOk ks n st) {c : Nat} (hc : c < ks.length) : StOk ks (n + 1) (stClick ks st c) := by
  have pm : (stClick ks st c).shown.Perm st.shown := clk_perm _ _ _
  refine ⟨fun r m => h.rows r (pm.mem_iff.mp m), fun r m => h.lt r (pm.mem_iff.mp m), Nat.le_succ_of_le h.nx, ?_, fun d m => ?_, ?_, ?_, pm.nodup_iff.mpr h.nd, fun p m => ?_, ?_, ?_⟩
  · show (st.clicked ++ [c]).length ≤ n + 1
    rw [List.length_append]
    exact Nat.add_le_add_right h.cl 1
  · rcases List.mem_append.mp (show d ∈ st.clicked ++ [c] from m) with m | m
    · exact h.cc d m
    · rw [List.mem_singleton.mp m]
      exact hc
  · show (effKeys st.keys c (isRev st c)).length ≤ (st.clicked ++ [c]).length
    have := h.kl
    rw [List.length_append, List.length_singleton]
    unfold effKeys
    split
    · rw [List.length_map]
      omega
    · rw [List.length_cons]
      have := List.length_filter_le (fun p : Nat × Int => !decide (p.1 = c)) st.keys
      omega
  · rw [pm.length_eq]
    exact Nat.le_succ_of_le h.sl
  · replace m : p ∈ effKeys st.keys c (isRev st c) := m
    unfold effKeys at m
    split at m
    · obtain ⟨q, hq, rfl⟩ := List.mem_map.mp m
      obtain ⟨h1, h2⟩ := h.kc q hq
      exact ⟨h1, h2.elim (fun e => .inr (by show -q.2 = -1; rw [e])) fun e => .inl (by show -q.2 = 1; rw [e] <;> rfl)⟩
    · rcases List.mem_cons.mp m with rfl | m
      · exact ⟨hc, .inl rfl⟩
      · exact h.kc p (List.mem_filter.mp m).1
  · show ((effKeys st.keys c (isRev st c)).map Prod.fst).Nodup
    unfold effKeys
    split
    · rw [List.map_map]
      exact h.kn
    · rw [List.map_cons, List.nodup_cons]
      refine ⟨fun m => ?_, ?_⟩
      · obtain ⟨q, hq, e⟩ := List.mem_map.mp m
        have := (List.mem_filter.mp hq).2
        rw [e] at this
        simp at this
      · exact List.Sublist.nodup (List.Sublist.map _ List.filter_sublist) h.kn
  · show effBase st.base _ = 1 ∨ effBase st.base _ = -1
    unfold effBase
    split
    · exact h.bs.elim (fun e => .inr (by rw [e])) fun e => .inl (by rw [e] <;> rfl)
    · exact h.bs
theorem StOk.edit {ks : List Kind} {n n' : Nat} {st : St} (h : StOk ks n st) {cells : Nat → List V} {shown : List Nat} {next : Nat} (h1 : ∀ r ∈ shown, RowOk ks (cells r)) (h2 : ∀ r ∈ shown, r < next) (h3 : next ≤ n') (h4 : shown.length ≤ n') (h5 : shown.Nodup) (hn : n ≤ n') : StOk ks n' (stEdit st cells shown next) :=
  ⟨h1, h2, h3, Nat.le_trans h.cl hn, h.cc, Nat.zero_le _, h4, h5, (fun p m => by cases m), List.nodup_nil, .inl rfl⟩
theorem paired_set {α β : Type} {P : α → β → Prop} : ∀ {xs : List α} {ys : List β} {c : Nat} {x : α} {v : β}, Paired P xs ys → xs[c]? = some x → P x v → Paired P xs (ys.set c v)
  | _, _, _, _, _, .nil, h, _ => by simp at h
  | _, _, 0, x, v, .cons a t, h, p => by
    simp at h
    subst h
    exact .cons p t
  | _, _, c + 1, x, v, .cons a t, h, p => .cons a (paired_set t (by simpa using h) p)
theorem StOk.set {ks : List Kind} {n : Nat} {st : St} (h : StOk ks n st) {r c : Nat} {v : V} (hr : r ∈ st.shown) {k : Kind} (hk : ks[c]? = some k) (hv : CellOk k v) : StOk ks (n + 1) (stSet st r c v) :=
  h.edit (fun q m => by
    show RowOk ks (if q = r then (st.cells r).set c v else st.cells q)
    by_cases e : q = r
    · rw [if_pos e]
      exact paired_set (h.rows r hr) hk hv
    · rw [if_neg e]
      exact h.rows q m) h.lt (Nat.le_succ_of_le h.nx) (Nat.le_succ_of_le h.sl) h.nd (Nat.le_succ n)
theorem StOk.add {ks : List Kind} {n : Nat} {st : St} (h : StOk ks n st) {row : List V} (ok : RowOk ks row) : StOk ks (n + 1) (stAdd st row) :=
  h.edit (fun q m => by
    show RowOk ks (if q = st.next then row else st.cells q)
    by_cases e : q = st.next
    · rw [if_pos e]
      exact ok
    · rw [if_neg e]
      rcases List.mem_append.mp m with m | m
      · exact h.rows q m
      · exact absurd (List.mem_singleton.mp m) e) (fun q m => by
    rcases List.mem_append.mp m with m | m
    · exact Nat.lt_succ_of_lt (h.lt q m)
    · rw [List.mem_singleton.mp m]
      exact Nat.lt_succ_self _) (Nat.succ_le_succ h.nx) (by rw [List.length_append]; exact Nat.succ_le_succ h.sl) (by
    rw [List.nodup_append]
    exact ⟨h.nd, by simp, fun a ha b hb => by
      rw [List.mem_singleton.mp hb]
      have := h.lt a ha
      omega⟩) (Nat.le_succ n)
theorem StOk.del {ks : List Kind} {n : Nat} {st : St} (h : StOk ks n st) (r : Nat) : StOk ks (n + 1) (stDel st r) :=
  h.edit (fun q m => h.rows q (List.mem_filter.mp m).1) (fun q m => h.lt q (List.mem_filter.mp m).1) (Nat.le_succ_of_le h.nx) (Nat.le_succ_of_le (Nat.le_trans (List.length_filter_le _ _) h.sl)) (List.Sublist.nodup List.filter_sublist h.nd) (Nat.le_succ n)
end HC

set_option Elab.async false
set_option linter.all false
set_option maxRecDepth 100000
set_option maxHeartbeats 2000000
namespace HC
open PySem PySem.Spec PyProof.Rows L2 Evl
section
variable {K : PySem.W.Frag} {σ : L2.St} {H H' : Hp} {ta tb tc te tx tl : TE} {t u : TT} {x y z v : V} {D : Ends} {tu tw tz : TS} {g : TG} {R R1 : V → Hp → Hp → Prop}
/-- e[-1], e a list of lists that is made -/
theorem ex_ixlast {xs : List V} (h : EvX ta σ H fun v H1 H2 => ∃ D ys l, v = .ref D ∧ H2 D = some (.lst (ys ++ [.ref l])) ∧ H2 l = some (.lst xs)) : EvX (tOp (rIxL K) ta (tUn (rU fun i => .int (-i)) (tC (.int 1)))) σ H fun v H1 H2 => ∃ l, v = .ref l ∧ H2 l = some (.lst xs) := fun H1 e Q q =>
  h H1 e _ fun v H2 e2 ⟨D, ys, l, ev, hD, hl⟩ => by
    subst ev
    exact ⟨1, rfl, D, _, -1, _, rfl, rfl, SqL.of hD, atI_last _ _, q _ H2 e2 ⟨l, rfl, hl⟩⟩
theorem made_tupF {xs : List V} (h : EvX te σ H (NewU xs)) : EvX te σ H (Made fun y H' => ∃ t, y = .ref t ∧ H t = none ∧ H' t = some (.tup xs)) :=
  h.imp fun y H1 H2 e1 e2 ⟨t, ey, nt, ht⟩ D H3 ⟨zs, hz⟩ b => ⟨t, ey, fresh_back e1 nt, b t _ (fun z => by
    rw [z, hz] at nt
    cases nt) ht⟩
/-- a method that changes things -/
theorem s_dropMeth {C p dx : Addr} {fs : List (Str × V)} {m : Str} {sp : Sp} {dvs : List V} {E : XK} {t : TA} {A : List V → Hp → Prop} (ho : Ev ta σ H (.ref p)) (hp : H p = some (.ins C dx fs)) (hl : fs.lookup m = none) (h : EvAX t σ H A)
    (k : ∀ vs H1, Ex H H1 → A vs H1 → sp (.ref p :: (vs ++ dvs)) H1 (fun _ H2 => D.nx σ H2) E) : tDrop (tMeth C m sp dvs E ta t) D σ H :=
  ho H (Ex.refl H) _ fun H1 e1 => ⟨p, dx, fs, rfl, e1 _ _ hp, hl, h H1 e1 _ fun vs H2 e2 a => k vs H2 (e1.trans e2) a⟩
theorem q_dropMeth {C p dx : Addr} {fs : List (Str × V)} {m : Str} {sp : Sp} {dvs : List V} {E : XK} {t : TA} {A : List V → Hp → Prop} (ho : Ev ta σ H (.ref p)) (hp : H p = some (.ins C dx fs)) (hl : fs.lookup m = none) (h : EvAX t σ H A)
    (k : ∀ vs H1, Ex H H1 → A vs H1 → sp (.ref p :: (vs ++ dvs)) H1 (fun _ H2 => tz D σ H2) E) : tSeq (tDrop (tMeth C m sp dvs E ta t)) tz D σ H := s_dropMeth (D := { D with nx := tz D }) ho hp hl h k
/-- [[a, b]] -/
theorem ex_lst1U {xs : List V} (h : EvU te σ H xs) : EvX (tLst (tCons te tNil)) σ H fun v H1 H2 => ∃ D t, v = .ref D ∧ H1 D = none ∧ H1 t = none ∧ H2 D = some (.lst [.ref t]) ∧ H2 t = some (.tup xs) := fun H1 e Q q =>
  h H1 e _ fun l H2 nl e2 hl => ⟨by show 1 ≤ sizeLine; decide, fun D hD => q _ _ (e2.trans (Ex.new hD)) ⟨D, l, rfl, fresh_back e2 hD, nl, upd_same, by rw [upd_ne (ne_of_none hl hD)]; exact hl⟩⟩
/-- xs + ys, both made -/
theorem ex_catX {R2 : V → Hp → Hp → Prop} {S : V → Hp → Hp → Prop} (ha : EvX ta σ H R) (hb : EvX tb σ H R2)
    (hs : ∀ u v H1 H2 H3, Ex H H1 → Ex H1 H2 → Ex H2 H3 → R u H1 H2 → R2 v H2 H3 → ∃ p q xs ys, u = .ref p ∧ v = .ref q ∧ H3 p = some (.lst xs) ∧ H3 q = some (.lst ys) ∧ xs.length + ys.length ≤ 100000 ∧ ∀ l H4, H3 l = none → Ex H3 H4 → H4 l = some (.lst (xs ++ ys)) → S (.ref l) H1 H4) :
    EvX (tOp rCat ta tb) σ H S := fun H1 e Q k =>
  ha H1 e _ fun u H2 e2 r1 => hb H2 (e.trans e2) _ fun v H3 e3 r2 => by
    obtain ⟨p, q, xs, ys, rfl, rfl, hp, hq, hz, s⟩ := hs u v H1 H2 H3 e e2 e3 r1 r2
    exact ⟨p, q, xs, ys, rfl, rfl, hp, hq, sz_of hz, fun l hl => k _ _ ((e2.trans e3).trans (Ex.new hl)) (s l _ hl (Ex.new hl) upd_same)⟩
theorem decN {a b : Nat} : decide (V.int (a : Int) = V.int (b : Int)) = decide (a = b) := by
  by_cases e : a = b
  · rw [decide_eq_true e, e]
    exact decide_eq_true rfl
  · rw [decide_eq_false e]
    refine decide_eq_false fun h => e ?_
    have := V.int.inj h
    omega
end
end HC

set_option Elab.async false
set_option linter.all false
set_option maxRecDepth 100000
set_option maxHeartbeats 4000000
namespace HC
open PySem PySem.Spec PyProof.Rows L2 Evl
local macro_rules
  | `(tactic| walk_at "ev") => `(tactic| first
    | exact ev_c
    | exact ev_var rfl
    | exact ea_nil
    | exact et_yes
    | exact eo_none
    | exact rv_I0
    | exact rv_eqI
    | exact rv_neI
    | exact rv_eqS
    | exact rv_neS
    | exact rv_eqB
    | exact rv_neB
    | exact rv_isN
    | exact rv_notN
    | exact rv_leS
    | exact rv_ltS
    | exact ru_neg
    | assumption
    | (apply ea_cons <;> walk_at "ev")
    | (apply et_test <;> walk_at "ev")
    | (apply et_B <;> walk_at "ev")
    | (apply et_not <;> walk_at "ev")
    | (apply ev_op <;> walk_at "ev")
    | (apply ev_un <;> walk_at "ev")
    | (apply ev_isi_int (h := kit_int_int) <;> walk_at "ev")
    | (apply ev_isi_int (h := kit_int_bool) <;> walk_at "ev")
    | (apply ev_isi_str (h := kit_str_str) <;> walk_at "ev")
    | (apply ev_isi_lst (h := kit_list_list) <;> walk_at "ev")
    | (apply ev_isi_tup (h := kit_tuple_tuple) <;> walk_at "ev")
    | (apply rc_lenL ; assumption)
    | (apply rc_lenT ; assumption)
    | (apply rc_lenS ; assumption)
    | (apply ev_chain <;> first | walk_at "ev" | (intro _; walk_at "ev"))
    | (apply et_or <;> first | walk_at "ev" | (intro _; walk_at "ev"))
    | (apply et_and <;> first | walk_at "ev" | (intro _; walk_at "ev"))
    | (apply ev_orV <;> first | walk_at "ev" | (intro _; walk_at "ev"))
    | (apply ev_andV <;> first | walk_at "ev" | (intro _; walk_at "ev"))
    | (apply ev_notV <;> walk_at "ev")
    | (apply ev_cb <;> walk_at "ev")
    | (apply eo_some <;> walk_at "ev"))
local macro_rules
  | `(tactic| walk_at "dec") => `(tactic| first
    | assumption
    | exact dnI
    | exact dnS
    | decide +kernel
    | (with_reducible rfl)
    | (simp only [decide_eq_true_eq, Bool.and_eq_true, Bool.not_eq_true', decide_eq_false_iff_not, Bool.not_true, Bool.not_false, Bool.and_eq_false_iff, Bool.or_eq_false_iff, Bool.or_eq_true]; omega)
    | rfl)
local macro_rules
  | `(tactic| walk_at "dt") => `(tactic| first
    | assumption
    | exact et_yes
    | (apply et_orF <;> walk_at "dt")
    | (apply et_andT <;> walk_at "dt")
    | (apply et_notF; walk_at "dt")
    | (apply et_notT; walk_at "dt")
    | (apply et_chT <;> first | walk_at "ev" | walk_at "dec")
    | (apply et_leaf <;> first | walk_at "ev" | walk_at "dec")
    | (apply et_leafB <;> first | walk_at "ev" | walk_at "dec"))
local macro_rules
  | `(tactic| walk_at "pass") => `(tactic| (refine' q_pass ?zzh ?zzk; (case zzh => walk_at "dt")))
local macro_rules
  | `(tactic| walk_at "yes") => `(tactic| ((first | refine' q_yes ?zzh ?zzk | refine' s_yes ?zzh ?zzk); (case zzh => walk_at "dt")))
local macro_rules
  | `(tactic| walk_at "no") => `(tactic| ((first | refine' q_no ?zzh ?zzk | refine' s_no ?zzh ?zzk); (case zzh => walk_at "dt")))
local macro_rules
  | `(tactic| walk_at "ret") => `(tactic| (refine' s_ret (v := _) ?zzh ?zzk; (case zzh => walk_at "ev")))
local macro_rules
  | `(tactic| walk_at "set") => `(tactic| ((first | refine' q_asg (v := _) ?zzh ?zzk | refine' s_asg (v := _) ?zzh ?zzk); (case zzh => walk_at "ev")))
section
variable {P : Program} {w : World} {K : PySem.W.Frag} {mg : Str → Option Value} {base : Heap}
def sp_Session_is_settled (K : PySem.W.Frag) : Sp := fun vs H Q _ => ∃ s ks n st, vs = [.ref s] ∧ Top K ks n H s st ∧ StOk ks n st ∧ ks.length ≤ 8 ∧ n ≤ 500 ∧ RetV (.bl (settled ks st)) H Q
/-! Session.is_settled: slots 0:self 1:state 2:rows 3:ranks 4:places 5:place -/
theorem sc_Session_is_settled : FnScope ["self", "state", "rows", "ranks", "places", "place"] ["self"] (defScope s_Session_is_settled) := ⟨rfl, rfl, rfl, by decide +kernel, rfl, by decide +kernel, by decide +kernel⟩
theorem ok_Session_is_settled (T : Tp K mg w) : FnOk P w K mg base CX0 5 (a_Session_is_settled K) (fdAt K (a_Session_is_settled K)) ["self"] (sp_Session_is_settled K) := by
  refine T.f_Session_is_settled.ok sc_Session_is_settled (fun vs H Q E h => ?_) (fun cdv A outer s H vs Q E hr h => ?_)
  · obtain ⟨s, ks, n, st, rfl, ⟨dx, k, L, U, svs, v, hs, hk, hL, a, da, d, l, c, e, rfl, ha, hd, hf, hl, hc, he⟩, ok, hk8, hn, q⟩ := h
    rfl
  · obtain ⟨s, ks, n, st, rfl, ⟨dx, k, L, U, svs, v, hs, hk, hL, a, da, d, l, c, e, rfl, ha, hd, hf, hl, hc, he⟩, ok, hk8, hn, q⟩ := h
    refine ⟨_, PSs.nox (pss_cons (ps_set (i := 1) sc_Session_is_settled.nd rfl (Or.inl rfl) (pe_ix (kIx (K := K) (r := rIxL) ix_list rfl) (kFld (K := K) (pe_fld (pv 0) rfl) rfl) (pe_un un_neg pe_int) (fun _ _ => rfl)))
      (pss_cons (ps_set (i := 2) sc_Session_is_settled.nd rfl (Or.inr rfl) (pe_callB (kCR (K := K) (r := rSortedI) cr_sortedI rfl) rfl T.b_sorted (by decide +kernel) (pa_cons (kFld (K := K) (pe_fld (pv 1) rfl) rfl) pa_nil)))
      (pss_cons (ps_set (i := 3) sc_Session_is_settled.nd rfl (Or.inl rfl) (pe_call (ok_ranks_of_rows (K := K) T) (hr.mono (by decide)) rfl T.g_ranks_of_rows T.f_ranks_of_rows.kp T.bn_ranks_of_rows .nil pass0 (pa_cons (kFld (K := K) (pe_fld (pv 0) rfl) rfl) (pa_cons (kFld (K := K) (pe_fld (pv 1) rfl) rfl) (pa_cons (pv 2) pa_nil)))))
      (pss_cons (ps_set (i := 4) sc_Session_is_settled.nd rfl (Or.inl rfl) (pe_ix (kIx (K := K) (r := rIxL) ix_list rfl) (pe_call (ok_all_views (K := K) T) (hr.mono (by decide)) rfl T.g_all_views T.f_all_views.kp T.bn_all_views .nil pass0 (pa_cons (pv 3) (pa_cons (pe_listRg rfl rfl T.b_list (prg_1 rfl T.b_range (pe_callB (kCR (K := K) (r := rLenQ) call_len_seq rfl) rfl T.b_len (by decide +kernel) (pa_cons (pv 2) pa_nil)))) (pa_cons (kFld (K := K) (pe_fld (pv 1) rfl) rfl) pa_nil)))) (pe_un un_neg pe_int) (fun _ _ => rfl)))
      (pss_one (ps_ret (pe_cmpR (kOp (K := K) (r := rEqD) (op_eqD (units_of hr)) rfl) (pe_lc (own := [("place", 5)]) (g := (gName 5)) rfl sc_Session_is_settled.nd (kPI (K := K) (i := fun K => iList K _) (pi_list (pv 4)) rfl) (blkOk_by (own := [("place", 5)]) (N := ["self", "state", "rows", "ranks", "places", "place"]) (sc := defScope s_Session_is_settled) (by decide +kernel)) (fun _ _ _ _ _ => (pg_name (i := 5) sc_Session_is_settled.nd rfl (Or.inl rfl) (.inr rfl))) (fun _ _ _ _ _ => pts_nil) (fun _ _ _ _ _ => (pe_ix (kIx (K := K) (r := rIxL) ix_list rfl) (pv 2) (pv 5) (fun _ _ => rfl)))) (kFld (K := K) (pe_fld (pv 1) rfl) rfl) (nomark _)))))))), ?_⟩
    have hsl := ok.sl
    have hcl := ok.cl
    have pm := srtN_perm st.shown
    refine q_asg (ev_state T (ev_var rfl) hs hL) fun H1 e1 => ?_
    refine q_asgL (el_sortedN (K := K) (ev_fld (ev_var rfl) (e1 _ _ ha) T.cl_State T.n_State_shown rfl) (e1 _ _ hl)) fun rl H2 nrl e2 hrl => ?_
    have e12 := e1.trans e2
    refine q_asgX (R := fun v _ H2 => ∃ rks, tabRanks ks ((srtN st.shown).map st.cells) rks ∧ RanksAt H2 v rks) ((ex_call (R := fun v _ H2 => ∃ rks, tabRanks ks ((srtN st.shown).map st.cells) rks ∧ RanksAt H2 v rks) (vs := [.ref k, .ref d, .ref rl]) (ea_cons (ev_fld (ev_var rfl) (e12 _ _ hs) T.cl_Session T.n_Session_kinds rfl) (ea_cons (ev_fld (ev_var rfl) (e12 _ _ ha) T.cl_State T.n_State_cells rfl) (ea_cons (ev_var rfl) ea_nil))) fun H3 e3 Q kk E => ?_).imp fun v H1 H2 _ _ ⟨_, _, _, r⟩ => r) fun rv H3 e3 ⟨rks, tr, ra⟩ => ?_
    · exact ⟨k, d, rl, ks, n, srtN st.shown, st.cells, rfl, e3 _ _ (e12 _ _ hk), (hd.of fun r m => pm.mem_iff.mp m).mono (e12.trans e3) (Nat.le_refl _), e3 _ _ hrl, fun r m => ok.rows r (pm.mem_iff.mp m), by omega, by rw [pm.length_eq]; omega, fun v' H' rks s tr ra => kk v' H' s ⟨rks, tr, ra⟩⟩
    have e13 := e12.trans e3
    have hln : (srtN st.shown).length = st.shown.length := pm.length_eq
    refine q_asgX (ex_ixlast (K := K) (xs := (vw (ltR rks) (List.range st.shown.length) st.clicked none).map nV) ((ex_callA (R := fun v _ H2 => ∃ D ys l, v = .ref D ∧ H2 D = some (.lst (ys ++ [.ref l])) ∧ H2 l = some (.lst ((vw (ltR rks) (List.range st.shown.length) st.clicked none).map nV))) (eax_v (ev_var rfl) (eax_l (xs := (List.range st.shown.length).map nV) (el_lrg ?_ (by omega)) (eax_v (v := .ref c) (ev_fld (ev_var rfl) (e13 _ _ ha) T.cl_State T.n_State_clicked rfl) eax_nil))) fun vs H4 e4 ⟨us, e5, us2, p, e6, hp, us3, e7, e8⟩ => ?_).imp fun v H1 H2 _ _ ⟨_, _, _, r⟩ => r)) fun pv H4 e4 ⟨pl, epv, hpl⟩ => ?_
    · have h := ev_cb (r := rLenQ K) (ea_cons (ev_var (i := 2) (σ := [some (.ref s), some (.ref a), some (.ref rl), some rv, none, none]) (H := H3) rfl) ea_nil) (rc_lenL (e3 _ _ hrl))
      rw [List.length_map, hln] at h
      exact h
    · subst e8 e7 e6 e5
      refine fun H5 e5 Q kk E => ⟨rv, p, c, rks, List.range st.shown.length, st.clicked, rfl, ra.mono (e4.trans e5), e5 _ _ hp, e5 _ _ (e4 _ _ (e13 _ _ hc)), fun c m => by rw [tr.1]; exact ok.cc c m, fun rk m x hx => ?_, by rw [List.length_range]; omega, by omega, fun D H' ys l s h1 h2 => kk _ H' s ⟨D, ys, l, rfl, h1, h2⟩⟩
      rw [ranks_len tr rk m, List.length_map, hln]
      exact List.mem_range.mp hx
    subst epv
    have e14 := e13.trans e4
    have hpm := vw_perm (lt := ltR rks) st.clicked (List.range st.shown.length) none
    refine s_ret (v := .bl (settled ks st)) (ev_opL1 (xs := (vw (ltC ks st.cells) (srtN st.shown) st.clicked none).map nV) ?_ (fun H5 e5 => ev_fld (ev_var rfl) (e5 _ _ (e14 _ _ ha)) T.cl_State T.n_State_shown rfl) fun p H5 hp e5 => rv_eqNs hp (e5 _ _ (e14 _ _ hl))) fun H5 e5 => q H5 (e14.trans e5)
    have hvw := vw_rows tr (cs := st.clicked) ok.cc none
    rw [hln] at hvw
    rw [← hvw, List.map_map]
    have h := el_lcL (K := K) (tt := tYes) (j := 5) (te := tOp (rIxL K) (tVar 2) (tVar 5)) (tl := tVar 4) (σ := [some (.ref s), some (.ref a), some (.ref rl), some rv, some (.ref pl), none]) (H := H4) (vw (ltR rks) (List.range st.shown.length) st.clicked none) nV (fun _ => true) (nV ∘ fun i => (srtN st.shown).getD i 0) (ev_var rfl) (SqL.of hpl) (by rw [hpm.length_eq, List.length_range]; omega) (fun _ _ => et_yes) fun i m _ => ?_
    · rw [filter_tt] at h
      exact h
    · exact ev_op (ev_var rfl) (ev_var rfl) (rv_ixL (SqL.of (e4 _ _ (e3 _ _ hrl))) (atI_map (by rw [hln]; exact List.mem_range.mp (hpm.mem_iff.mp m))))
end
end HC


set_option Elab.async false
set_option linter.all false
set_option maxRecDepth 100000
set_option maxHeartbeats 4000000
namespace HC
open PySem PySem.Spec PyProof.Rows L2 Evl
local macro_rules
  | `(tactic| walk_at "ev") => `(tactic| first
    | exact ev_c
    | exact ev_var rfl
    | exact ea_nil
    | exact et_yes
    | exact eo_none
    | exact rv_I0
    | exact rv_eqI
    | exact rv_neI
    | exact rv_eqS
    | exact rv_neS
    | exact rv_eqB
    | exact rv_neB
    | exact rv_isN
    | exact rv_notN
    | exact rv_leS
    | exact rv_ltS
    | exact ru_neg
    | assumption
    | (apply ea_cons <;> walk_at "ev")
    | (apply et_test <;> walk_at "ev")
    | (apply et_B <;> walk_at "ev")
    | (apply et_not <;> walk_at "ev")
    | (apply ev_op <;> walk_at "ev")
    | (apply ev_un <;> walk_at "ev")
    | (apply ev_isi_int (h := kit_int_int) <;> walk_at "ev")
    | (apply ev_isi_int (h := kit_int_bool) <;> walk_at "ev")
    | (apply ev_isi_str (h := kit_str_str) <;> walk_at "ev")
    | (apply ev_isi_lst (h := kit_list_list) <;> walk_at "ev")
    | (apply ev_isi_tup (h := kit_tuple_tuple) <;> walk_at "ev")
    | (apply rc_lenL ; assumption)
    | (apply rc_lenT ; assumption)
    | (apply rc_lenS ; assumption)
    | (apply ev_chain <;> first | walk_at "ev" | (intro _; walk_at "ev"))
    | (apply et_or <;> first | walk_at "ev" | (intro _; walk_at "ev"))
    | (apply et_and <;> first | walk_at "ev" | (intro _; walk_at "ev"))
    | (apply ev_orV <;> first | walk_at "ev" | (intro _; walk_at "ev"))
    | (apply ev_andV <;> first | walk_at "ev" | (intro _; walk_at "ev"))
    | (apply ev_notV <;> walk_at "ev")
    | (apply ev_cb <;> walk_at "ev")
    | (apply eo_some <;> walk_at "ev"))
local macro_rules
  | `(tactic| walk_at "dec") => `(tactic| first
    | assumption
    | exact dnI
    | exact dnS
    | decide +kernel
    | (with_reducible rfl)
    | (simp only [decide_eq_true_eq, Bool.and_eq_true, Bool.not_eq_true', decide_eq_false_iff_not, Bool.not_true, Bool.not_false, Bool.and_eq_false_iff, Bool.or_eq_false_iff, Bool.or_eq_true]; omega)
    | rfl)
local macro_rules
  | `(tactic| walk_at "dt") => `(tactic| first
    | assumption
    | exact et_yes
    | (apply et_orF <;> walk_at "dt")
    | (apply et_andT <;> walk_at "dt")
    | (apply et_notF; walk_at "dt")
    | (apply et_notT; walk_at "dt")
    | (apply et_chT <;> first | walk_at "ev" | walk_at "dec")
    | (apply et_leaf <;> first | walk_at "ev" | walk_at "dec")
    | (apply et_leafB <;> first | walk_at "ev" | walk_at "dec"))
local macro_rules
  | `(tactic| walk_at "pass") => `(tactic| (refine' q_pass ?zzh ?zzk; (case zzh => walk_at "dt")))
local macro_rules
  | `(tactic| walk_at "yes") => `(tactic| ((first | refine' q_yes ?zzh ?zzk | refine' s_yes ?zzh ?zzk); (case zzh => walk_at "dt")))
local macro_rules
  | `(tactic| walk_at "no") => `(tactic| ((first | refine' q_no ?zzh ?zzk | refine' s_no ?zzh ?zzk); (case zzh => walk_at "dt")))
local macro_rules
  | `(tactic| walk_at "ret") => `(tactic| (refine' s_ret (v := _) ?zzh ?zzk; (case zzh => walk_at "ev")))
local macro_rules
  | `(tactic| walk_at "set") => `(tactic| ((first | refine' q_asg (v := _) ?zzh ?zzk | refine' s_asg (v := _) ?zzh ?zzk); (case zzh => walk_at "ev")))
section
variable {P : Program} {w : World} {K : PySem.W.Frag} {mg : Str → Option Value} {base : Heap}
def sp_effect_after (_ : PySem.W.Frag) : Sp := fun vs H Q _ => ∃ (B : Hp) (v : V) (keys : List (Nat × Int)) (b : Int) (c : Nat) (rev : Bool), vs = [v, nV c, .bl rev] ∧ Same B H ∧ EffAt B v keys b ∧ keys.length ≤ 1000 ∧
  ∀ v' H', Same H H' → EffAt (ext B H H') v' (effKeys keys c rev) (effBase b rev) → Q v' H'
/-! effect_after: slots 0:effect 1:column 2:reverses 3:keys 4:base 5:other 6:sign 7:key -/
theorem sc_effect_after : FnScope ["effect", "column", "reverses", "keys", "base", "other", "sign", "key"] ["effect", "column", "reverses"] (defScope s_effect_after) := ⟨rfl, rfl, rfl, by decide +kernel, rfl, by decide +kernel, by decide +kernel⟩
theorem ok_effect_after (T : Tp K mg w) : FnOk P w K mg base CX0 1 (a_effect_after K) (fdAt K (a_effect_after K)) ["effect", "column", "reverses"] (sp_effect_after K) := by
  refine T.f_effect_after.ok sc_effect_after (fun vs H Q E h => ?_) (fun cdv A outer s H vs Q E hr h => ?_)
  · obtain ⟨B, v, keys, b, c, rev, rfl, sB, ⟨t, l, ys, rfl, ht, hl, pr⟩, hz, q⟩ := h
    rfl
  · obtain ⟨B, v, keys, b, c, rev, rfl, sB, ⟨t, l, ys, rfl, ht, hl, pr⟩, hz, q⟩ := h
    refine ⟨_, PSs.nox (pss_cons (ps_asg (pv 0) (kTup (K := K) (pg_tup (n := 2) rfl (pgs_cons (pg_name (i := 3) sc_effect_after.nd rfl (Or.inl rfl)) (pgs_cons (pg_name (i := 4) sc_effect_after.nd rfl (Or.inl rfl)) pgs_nil))) rfl))
      (pss_cons (ps_if (pt_val (pv 2)) (pss_one (ps_ret (pe_tup (pa_cons (pe_lc (own := [("other", 5), ("sign", 6)]) (g := (gTup K 2 (gCons (gName 5) (gCons (gName 6) gNil)))) rfl sc_effect_after.nd (kPI (K := K) (i := fun K => iList K _) (pi_list (pv 3)) rfl) (blkOk_by (own := [("other", 5), ("sign", 6)]) (N := ["effect", "column", "reverses", "keys", "base", "other", "sign", "key"]) (sc := defScope s_effect_after) (by decide +kernel)) (fun _ _ _ _ _ => (kTup (K := K) (pg_tup (n := 2) rfl (pgs_cons (pg_name (i := 5) sc_effect_after.nd rfl (Or.inl rfl) (.inr rfl)) (pgs_cons (pg_name (i := 6) sc_effect_after.nd rfl (Or.inl rfl) (.inr rfl)) pgs_nil))) rfl)) (fun _ _ _ _ _ => pts_nil) (fun _ _ _ _ _ => (pe_tup (pa_cons (pv 5) (pa_cons (pe_un un_neg (pv 6)) pa_nil))))) (pa_cons (pe_un un_neg (pv 4)) pa_nil))))) pss_nil)
      (pss_one (ps_ret (pe_tup (pa_cons (pe_op op_cat (pe_lst (pa_cons (pe_tup (pa_cons (pv 1) (pa_cons pe_int pa_nil))) pa_nil)) (pe_lc (own := [("key", 7)]) (g := (gName 7)) rfl sc_effect_after.nd (kPI (K := K) (i := fun K => iList K _) (pi_list (pv 3)) rfl) (blkOk_by (own := [("key", 7)]) (N := ["effect", "column", "reverses", "keys", "base", "other", "sign", "key"]) (sc := defScope s_effect_after) (by decide +kernel)) (fun _ _ _ _ _ => (pg_name (i := 7) sc_effect_after.nd rfl (Or.inl rfl) (.inr rfl))) (fun _ _ _ _ _ => (pts_one (pt_cmpR op_ne (pe_ix (kIx (K := K) (r := rIxT) ix_tup rfl) (pv 7) pe_int (fun _ _ => rfl)) (pv 1) (nomark _)))) (fun _ _ _ _ _ => (pv 7)))) (pa_cons (pv 4) pa_nil))))))), ?_⟩
    refine q_unp2 rfl (ev_var rfl) (sB _ _ ht) fun H1 e1 => ?_
    have sB1 := sB.trans e1
    cases rev with
    | true =>
      refine q_yes (et_leafB (ev_var rfl) rfl) fun H2 e2 => ?_
      have sB2 := sB1.trans e2
      refine s_retX (ex_tup1 (ex_lcP (K := K) keys (fun p => nV p.1) (fun p => .int p.2) ys (fun _ => true) (fun p y H' => ∃ t, y = V.ref t ∧ H2 t = none ∧ H' t = some (.tup [nV p.1, .int (-p.2)])) (ev_var rfl) (SqL.of (sB2 _ _ hl)) (Paired.mapP pr fun p y ⟨t, e, h⟩ => ⟨t, e, sB2 _ _ h⟩) (by omega) (fun _ _ => et_yes) fun p m _ => made_tupF (EvX.ofU (eu_tup (ea_cons (ev_var rfl) (ea_cons (ev_un (ev_var rfl) ru_neg) ea_nil)) (by show 2 ≤ 100000; omega)))) (ev_un (ev_var rfl) ru_neg)) fun v H3 e3 ⟨t2, x, G, ev, g1, g2, ⟨D, zs, ex, nD, hD, pr2⟩, nt, ht2⟩ => ?_
      subst ev ex
      rw [filter_tt] at pr2
      have e13 := (e1.trans e2).trans e3
      have nb : ∀ {a : Addr}, H2 a = none → H a = none := fun h => fresh_back (e1.trans e2) h
      refine q _ H3 e13 ⟨t2, D, zs, rfl, ext_new sB (nb nt) ht2, ext_new sB (nb nD) (g2 _ _ hD), ?_⟩
      show Paired _ (keys.map fun p => (p.1, -p.2)) zs
      exact paired_flip (paired_flip' (F := fun y p => ∃ t, y = V.ref t ∧ ext B H H3 t = some (.tup [nV p.1, .int p.2])) (f := fun p : Nat × Int => (p.1, -p.2)) (Paired.mapP pr2 fun p y ⟨t, e, n, h⟩ => ⟨t, e, ext_new sB (nb n) (g2 _ _ h)⟩))
    | false =>
      refine q_no (et_leafB (ev_var rfl) rfl) fun H2 e2 => ?_
      have sB2 := sB1.trans e2
      have nb : ∀ {a : Addr}, H2 a = none → H a = none := fun h => fresh_back (e1.trans e2) h
      refine s_retX (ex_tup1 (ex_catX (S := fun v H3 H4 => ∃ D t zs, v = .ref D ∧ H2 D = none ∧ H4 D = some (.lst (.ref t :: zs)) ∧ H2 t = none ∧ H4 t = some (.tup [nV c, .int 1]) ∧ Paired (fun (p : Nat × Int) y => ∃ t, y = V.ref t ∧ B t = some (.tup [nV p.1, .int p.2])) (keys.filter fun p => !decide (p.1 = c)) zs)
        (ex_lst1U (eu_tup (ea_cons (ev_var rfl) (ea_cons ev_c ea_nil)) (by show 2 ≤ 100000; omega)))
        (ex_lcQ (K := K) keys ys pr (fun p => !decide (p.1 = c)) (fun p y _ => ∃ t, y = V.ref t ∧ B t = some (.tup [nV p.1, .int p.2])) (ev_var rfl) (SqL.of (sB2 _ _ hl)) (by omega) (fun p v m ⟨t, e, h⟩ => ?_) fun p v m pv _ => (made_val (v := v) (ev_var rfl)).imp fun y _ _ _ _ h D H3 hz b => ?_) fun u v H3 H4 H5 e3 e4 e5 ⟨D, t, eu, nD, nt, hD, ht⟩ ⟨D2, zs, ev, nD2, hD2, pr2⟩ => ?_) (ev_var rfl)) fun v H3 e3 ⟨t2, x, G, ev, g1, g2, ⟨D, t, zs, ex, nD, hD, nt', ht', pr2⟩, nt, ht2⟩ => ?_
      · subst e
        exact et_leaf (ev_op (ev_op (ev_var rfl) ev_c (rv_ixT (SqT.of (sB2 _ _ h)) (atI_nat (j := 0) rfl))) (ev_var rfl) rv_neI) (by rw [decN] <;> rfl)
      · rw [h D H3 hz b]
        exact pv
      · subst ev ex
        have e13 := (e1.trans e2).trans e3
        exact q _ H3 e13 ⟨t2, D, _, rfl, ext_new sB (nb nt) ht2, ext_new sB (nb nD) (g2 _ _ hD), .cons ⟨t, rfl, ext_new sB (nb nt') (g2 _ _ ht')⟩ (Paired.mapP pr2 fun p y ⟨t, e, h⟩ => ⟨t, e, ext_old _ _ h⟩)⟩
      · subst eu ev
        refine ⟨D, D2, [.ref t], zs, rfl, rfl, e5 _ _ hD, hD2, ?_, fun l H6 nl e6 hl => ⟨l, t, zs, rfl, fresh_back ((e3.trans e4).trans e5) nl, hl, fresh_back e3 nt, e6 _ _ (e5 _ _ ht), pr2⟩⟩
        have := Paired.length pr2
        have := List.length_filter_le (fun p : Nat × Int => !decide (p.1 = c)) keys
        show 1 + zs.length ≤ 100000
        omega
def sp_State_init (K : PySem.W.Frag) : Sp := fun vs H Q _ => ∃ (a dx : Addr) (x1 x2 x3 x4 x5 : V), vs = [.ref a, x1, x2, x3, x4, x5] ∧ H a = some (.ins (aState K) dx []) ∧
  ∀ H', (∀ b, b ≠ a → H' b = H b) → H' a = some (.ins (aState K) dx [("cells", x1), ("shown", x2), ("clicked", x3), ("recent", x4), ("next_row", x5)]) → Q .non H'
/-! State.__init__: slots 0:self 1:cells 2:shown 3:clicked 4:recent 5:next_row -/
theorem sc_State_init : FnScope ["self", "cells", "shown", "clicked", "recent", "next_row"] ["self", "cells", "shown", "clicked", "recent", "next_row"] (defScope s_State_init) := ⟨rfl, rfl, rfl, by decide +kernel, rfl, by decide +kernel, by decide +kernel⟩
theorem ok_State_init (T : Tp K mg w) : FnOk P w K mg base CX0 1 (a_State_init K) (fdAt K (a_State_init K)) ["self", "cells", "shown", "clicked", "recent", "next_row"] (sp_State_init K) := by
  refine T.f_State_init.ok sc_State_init (fun vs H Q E h => ?_) (fun cdv A outer s H vs Q E hr h => ?_)
  · obtain ⟨a, dx, x1, x2, x3, x4, x5, rfl, ha, q⟩ := h
    rfl
  · obtain ⟨a, dx, x1, x2, x3, x4, x5, rfl, ha, q⟩ := h
    refine ⟨_, PSs.nox (pss_cons (kS (K := K) (ps_fld (pv 0) (pv 1) rfl) rfl)
      (pss_cons (kS (K := K) (ps_fld (pv 0) (pv 2) rfl) rfl)
      (pss_cons (kS (K := K) (ps_fld (pv 0) (pv 3) rfl) rfl)
      (pss_cons (kS (K := K) (ps_fld (pv 0) (pv 4) rfl) rfl)
      (pss_one (kS (K := K) (ps_fld (pv 0) (pv 5) rfl) rfl)))))), ?_⟩
    refine ⟨x1, rfl, .ref a, rfl, a, aState K, dx, _, rfl, ha, T.cl_State, T.n_State_cells, by show 0 < 1000; omega, ?_⟩
    refine ⟨x2, rfl, .ref a, rfl, a, aState K, dx, _, rfl, upd_same, T.cl_State, T.n_State_shown, by show 1 < 1000; omega, ?_⟩
    refine ⟨x3, rfl, .ref a, rfl, a, aState K, dx, _, rfl, upd_same, T.cl_State, T.n_State_clicked, by show 2 < 1000; omega, ?_⟩
    refine ⟨x4, rfl, .ref a, rfl, a, aState K, dx, _, rfl, upd_same, T.cl_State, T.n_State_recent, by show 3 < 1000; omega, ?_⟩
    refine ⟨x5, rfl, .ref a, rfl, a, aState K, dx, _, rfl, upd_same, T.cl_State, T.n_State_next_row, by show 4 < 1000; omega, ?_⟩
    exact q _ (fun b hb => by rw [upd_ne hb, upd_ne hb, upd_ne hb, upd_ne hb, upd_ne hb]) upd_same
/-- State(..) -/
theorem ex_mkState {σ : L2.St} {H : Hp} {t : TA} {E : XK} {A : List V → Hp → Prop} (h : EvAX t σ H A) (x : List V → Hp → Prop) (hA : ∀ vs H1, A vs H1 → ∃ x1 x2 x3 x4 x5, vs = [x1, x2, x3, x4, x5] ∧ x [x1, x2, x3, x4, x5] H1) :
    EvX (tMake (aState K) (sp_State_init K) [] E t) σ H fun v H1 H2 => ∃ G a dx x1 x2 x3 x4 x5, Ex H1 G ∧ Ex G H2 ∧ v = .ref a ∧ H1 a = none ∧ x [x1, x2, x3, x4, x5] G ∧ H2 a = some (.ins (aState K) dx [("cells", x1), ("shown", x2), ("clicked", x3), ("recent", x4), ("next_row", x5)]) := fun H1 e Q q =>
  h H1 e _ fun vs H2 e2 a => by
    obtain ⟨x1, x2, x3, x4, x5, rfl, hx⟩ := hA vs H2 a
    intro p dx np ndx ne
    refine ⟨p, dx, x1, x2, x3, x4, x5, rfl, upd_same, fun H' h1 h2 => ⟨rfl, ?_⟩⟩
    have e3 : Ex H2 H' := fun b o hb => by
      have n1 : b ≠ p := ne_of_none hb np
      rw [h1 b n1, upd_ne n1, upd_ne (ne_of_none hb ndx)]
      exact hb
    exact q _ H' (e2.trans e3) ⟨H2, p, dx, x1, x2, x3, x4, x5, e2, e3, rfl, fresh_back e2 np, hx, h2⟩
def sp_Session_perform (K : PySem.W.Frag) : Sp := fun vs H Q _ => ∃ (s : Addr) (v : V) (n : Nat) (ks : List Kind) (B : Hp) (L U : Addr) (sts uns : List St) (st : St), vs = [.ref s, v] ∧ SesAt K ks n B H s L U sts uns ∧ StRep K ks n B v st ∧ sts.length ≤ 1000 ∧
  ∀ H' U', Step [s, L] B H B H' → SesAt K ks n B H' s L U' (sts ++ [st]) [] → H U' = none → Q .non H'
/-! Session.perform: slots 0:self 1:state -/
theorem sc_Session_perform : FnScope ["self", "state"] ["self", "state"] (defScope s_Session_perform) := ⟨rfl, rfl, rfl, by decide +kernel, rfl, by decide +kernel, by decide +kernel⟩
theorem ok_Session_perform (T : Tp K mg w) : FnOk P w K mg base CX0 1 (a_Session_perform K) (fdAt K (a_Session_perform K)) ["self", "state"] (sp_Session_perform K) := by
  refine T.f_Session_perform.ok sc_Session_perform (fun vs H Q E h => ?_) (fun cdv A outer s H vs Q E hr h => ?_)
  · obtain ⟨s, v, n, ks, B, L, U, sts, uns, st, rfl, A, sr, hz, q⟩ := h
    rfl
  · obtain ⟨s, v, n, ks, B, L, U, sts, uns, st, rfl, A, sr, hz, q⟩ := h
    refine ⟨_, PSs.nox (pss_cons (ps_expr (kBM (K := K) (pe_bm PySem.F.plainAttrs_list PySem.F.slot_list_append PySem.F.type_list_append mt_append (kFld (K := K) (pe_fld (pv 0) rfl) rfl) (pa_cons (pv 1) pa_nil)) rfl))
      (pss_one (kS (K := K) (ps_fld (pv 0) (pe_lst pa_nil) rfl) rfl))), ?_⟩
    obtain ⟨dx, k, svs, uvs, hs, hk, hL, hU, p1, p2⟩ := A.ex
    have hln := Paired.length p1
    refine q_app (K := K) hL (ev_fld (ev_var rfl) hs T.cl_Session T.n_Session_states rfl) (ev_var rfl) (by omega) fun H1 e1 => ?_
    have nsL : s ≠ L := fun e => by
      rw [e, hL] at hs
      cases hs
    refine ⟨by show 0 ≤ sizeLine; decide, fun U' nU' => ?_⟩
    have hs1 : upd H1 L (.lst (svs ++ [v])) s = some (.ins (aSession K) dx (seFs k L U)) := by
      rw [upd_ne nsL]
      exact e1 _ _ hs
    have nUs : s ≠ U' := ne_of_none hs1 nU'
    have nUL : L ≠ U' := ne_of_none (o := .lst (svs ++ [v])) upd_same nU'
    have nU1 : H1 U' = none := by
      rw [upd_ne nUL.symm] at nU'
      exact nU'
    refine ⟨.ref s, rfl, s, aSession K, dx, _, rfl, (same_new nU') _ _ hs1, T.cl_Session, T.n_Session_undone, by show 3 < 1000; omega, ?_⟩
    have m1 : Step [s, L] B H B H1 := ⟨Same.refl B, A.sm.trans e1, fun a o _ h => e1 a o h, fun _ _ b => b, fun a h e => by
      cases z : H a with
      | none => exact h z
      | some o =>
        rw [e1 _ _ z] at e
        cases e⟩
    have m2 := m1.trans ((Step.mut (o' := .lst (svs ++ [v])) m1.sH A.bL (e1 _ _ hL)).wide (M' := [s, L]) fun a m => by
      rw [List.mem_singleton.mp m]
      simp)
    have m3 := m2.trans (Step.new (o := .lst []) m2.sH nU' [s, L])
    have m4 := m3.trans ((Step.mut (o' := .ins (aSession K) dx (putF "undone" (.ref U') (seFs k L U))) m3.sH A.bs ((same_new nU') _ _ hs1)).wide (M' := [s, L]) fun a m => by
      rw [List.mem_singleton.mp m]
      simp)
    refine q _ U' m4 ⟨⟨dx, k, svs ++ [v], [], upd_same, hk, ?_, ?_, Paired.snoc p1 sr, .nil⟩, A.bs, A.bL, ?_, nUL, m4.sH⟩ (fresh_back e1 nU1)
    · rw [upd_ne nsL.symm, upd_ne nUL, upd_same]
    · rw [upd_ne nUs.symm, upd_same]
    · exact fresh_back (A.sm.trans e1) nU1
end
end HC


set_option Elab.async false
set_option linter.all false
set_option maxRecDepth 100000
set_option maxHeartbeats 2000000
namespace HC
open PySem PySem.Spec PyProof.Rows L2
section
variable {X : Cx}
/-- name = {..} on one line, the name a local -/
theorem ps_setDc {i : Nat} {y : Str} {py : Pos} {kx vx tg iter : Expr} {ifs : List Expr} {scope : Scope} {own : List (Str × Nat)} {pos spos : Pos} {wi : TI} {g : TG} {tt : TT} {tk tv : TE} (hc : X.calm = true) (hN : X.N.Nodup) (hy : X.N[i]? = some y) (hyl : X.env.scope.names.lookup y = some .local)
    (hsw : swapsWith (.DictComp kx vx [⟨tg, iter, ifs, 0⟩] scope pos) (some (.Name y py)) spos.line X.env = pure true) (hi : PI X tg iter wi) (ok : BlkOk X.N X.env.scope scope own)
    (hg : ∀ (s : Shared) (H : Hp) (C : Addr) (cl : List (Str × Addr)) (fp : List Addr), PG (X.blk s H scope (compEnvC scope cl C X.env) fp) tg g) (ht : ∀ (s : Shared) (H : Hp) (C : Addr) (cl : List (Str × Addr)) (fp : List Addr), PTs (X.blk s H scope (compEnvC scope cl C X.env) fp) ifs tt)
    (hk : ∀ (s : Shared) (H : Hp) (C : Addr) (cl : List (Str × Addr)) (fp : List Addr), PE (X.blk s H scope (compEnvC scope cl C X.env) fp) kx tk)
    (he : ∀ (s : Shared) (H : Hp) (C : Addr) (cl : List (Str × Addr)) (fp : List Addr), PE (X.blk s H scope (compEnvC scope cl C X.env) fp) vx tv) (hs : ∀ x, foldedSetIterable iter X.env x = pure x := by intro _; rfl) :
    PS X (.Assign [.Name y py] (.DictComp kx vx [⟨tg, iter, ifs, 0⟩] scope pos) spos) (tAsg (tDc wi g tt tk tv (own.map (·.2))) (gName i)) := by
  refine ⟨fun pins s σ H D I h => ?_⟩
  rw [exec_Assign_Name_used _ _ _ _ hsw]
  refine wpAny_bind (wpAny_standAt (wpAny_bind ?_))
  show wpAny _ X.A (do let _ ← comprehension (.DictComp kx vx [⟨tg, iter, ifs, 0⟩] scope pos) scope X.env (firstIterPos [⟨tg, iter, ifs, 0⟩] pos) newDict false (eval iter X.env) (some (assign (.Name y py) X.env))) _ _ s
  have h : tDc wi g tt tk tv (own.map (·.2)) σ H (fun x H1 => gName i x σ H1 D.nx) := h
  refine wpAny_bind (thn (dc_core (Qf := fun _ s' => SP X pins D .next s') hc hN I hi ok hg ht hk he hs h fun L C s' m H' I' q hn f => ?_) fun _ s' hq => wpAny_pure (wpAny_pure hq))
  show wpAny _ _ (assign (.Name y py) X.env (.ref L)) _ _ _
  refine wpAny_assign_Name (store_ok2 (v := V.ref L) I' hN hy (.inl hyl) rfl (fun s2 I2 ⟨a, sb, ha⟩ => ?_) (.inr hyl))
  obtain ⟨f0, f1, f2, f3, f4, f5⟩ := f
  have haC : C ≠ a := by
    rcases ha with z | z
    · rw [z]; exact f1
    · exact fun e => f4 y a z e.symm
  refine ⟨m, hn.sameBut sb haC, fun h3 sb3 => ?_⟩
  exact ⟨_, H', I2.turned (t' := s2.toks) (fun b o hb e => (sb3.2 b hb).trans e) f0 f1 f3 f4 f5, q⟩
theorem sw_trueD {kx vx : Expr} {gs : List Comprehension} {scope : Scope} {pos py : Pos} {y : Str} {l : Nat} {env : Env} (hk : env.scope.kind = .function) (hy : env.scope.names.lookup y = some .local) (hl : (py.line == pos.line) = true)
    (ha : (scope.names.any fun (n, k) => n == y && (k == .local || k == .cell)) = false) : swapsWith (.DictComp kx vx gs scope pos) (some (.Name y py)) l env = pure true := by
  have ky : env.kindOf y = some .local := hy
  have hb : env.blockKind = .function := by unfold Env.blockKind; rw [hk]; rfl
  unfold swapsWith
  simp only [hb, ky, ha, Expr.pos, hl]
  rfl
end
end HC

set_option Elab.async false
set_option linter.all false
set_option maxRecDepth 100000
set_option maxHeartbeats 4000000
namespace HC
open PySem PySem.Spec PyProof.Rows L2 Evl
local macro_rules
  | `(tactic| walk_at "ev") => `(tactic| first
    | exact ev_c
    | exact ev_var rfl
    | exact ea_nil
    | exact et_yes
    | exact eo_none
    | exact rv_I0
    | exact rv_eqI
    | exact rv_neI
    | exact rv_eqS
    | exact rv_neS
    | exact rv_eqB
    | exact rv_neB
    | exact rv_isN
    | exact rv_notN
    | exact rv_leS
    | exact rv_ltS
    | exact ru_neg
    | assumption
    | (apply ea_cons <;> walk_at "ev")
    | (apply et_test <;> walk_at "ev")
    | (apply et_B <;> walk_at "ev")
    | (apply et_not <;> walk_at "ev")
    | (apply ev_op <;> walk_at "ev")
    | (apply ev_un <;> walk_at "ev")
    | (apply ev_isi_int (h := kit_int_int) <;> walk_at "ev")
    | (apply ev_isi_int (h := kit_int_bool) <;> walk_at "ev")
    | (apply ev_isi_str (h := kit_str_str) <;> walk_at "ev")
    | (apply ev_isi_lst (h := kit_list_list) <;> walk_at "ev")
    | (apply ev_isi_tup (h := kit_tuple_tuple) <;> walk_at "ev")
    | (apply rc_lenL ; assumption)
    | (apply rc_lenT ; assumption)
    | (apply rc_lenS ; assumption)
    | (apply ev_chain <;> first | walk_at "ev" | (intro _; walk_at "ev"))
    | (apply et_or <;> first | walk_at "ev" | (intro _; walk_at "ev"))
    | (apply et_and <;> first | walk_at "ev" | (intro _; walk_at "ev"))
    | (apply ev_orV <;> first | walk_at "ev" | (intro _; walk_at "ev"))
    | (apply ev_andV <;> first | walk_at "ev" | (intro _; walk_at "ev"))
    | (apply ev_notV <;> walk_at "ev")
    | (apply ev_cb <;> walk_at "ev")
    | (apply eo_some <;> walk_at "ev"))
local macro_rules
  | `(tactic| walk_at "dec") => `(tactic| first
    | assumption
    | exact dnI
    | exact dnS
    | decide +kernel
    | (with_reducible rfl)
    | (simp only [decide_eq_true_eq, Bool.and_eq_true, Bool.not_eq_true', decide_eq_false_iff_not, Bool.not_true, Bool.not_false, Bool.and_eq_false_iff, Bool.or_eq_false_iff, Bool.or_eq_true]; omega)
    | rfl)
local macro_rules
  | `(tactic| walk_at "dt") => `(tactic| first
    | assumption
    | exact et_yes
    | (apply et_orF <;> walk_at "dt")
    | (apply et_andT <;> walk_at "dt")
    | (apply et_notF; walk_at "dt")
    | (apply et_notT; walk_at "dt")
    | (apply et_chT <;> first | walk_at "ev" | walk_at "dec")
    | (apply et_leaf <;> first | walk_at "ev" | walk_at "dec")
    | (apply et_leafB <;> first | walk_at "ev" | walk_at "dec"))
local macro_rules
  | `(tactic| walk_at "pass") => `(tactic| (refine' q_pass ?zzh ?zzk; (case zzh => walk_at "dt")))
local macro_rules
  | `(tactic| walk_at "yes") => `(tactic| ((first | refine' q_yes ?zzh ?zzk | refine' s_yes ?zzh ?zzk); (case zzh => walk_at "dt")))
local macro_rules
  | `(tactic| walk_at "no") => `(tactic| ((first | refine' q_no ?zzh ?zzk | refine' s_no ?zzh ?zzk); (case zzh => walk_at "dt")))
local macro_rules
  | `(tactic| walk_at "ret") => `(tactic| (refine' s_ret (v := _) ?zzh ?zzk; (case zzh => walk_at "ev")))
local macro_rules
  | `(tactic| walk_at "set") => `(tactic| ((first | refine' q_asg (v := _) ?zzh ?zzk | refine' s_asg (v := _) ?zzh ?zzk); (case zzh => walk_at "ev")))
section
variable {P : Program} {w : World} {K : PySem.W.Frag} {mg : Str → Option Value} {base : Heap}
theorem rc_lenM {α : Type} {f : α → V} {H : Hp} {p : Addr} {xs : List α} (h : H p = some (.lst (xs.map f))) : RC (rLenQ K) [.ref p] H (.int (xs.length : Int)) := by
  have := rc_lenL (K := K) h
  rw [List.length_map] at this
  exact this
theorem paired_snoc {α β : Type} {P : α → β → Prop} {xs : List α} {ys : List β} {x : α} {y : β} (h : Paired P xs ys) (q : P x y) : Paired P (xs ++ [x]) (ys ++ [y]) := Paired.snoc h q
def sp_Session_edit_cells (K : PySem.W.Frag) : Sp := fun vs H Q _ => ∃ (s d l : Addr) (nx n : Nat) (ks : List Kind) (B : Hp) (L U : Addr) (sts : List St) (st : St) (uns : List St) (shown : List Nat) (cells : Nat → List V), vs = [.ref s, .ref d, .ref l, nV nx] ∧ SesAt K ks n B H s L U (sts ++ [st]) uns ∧ CellsAt B n d shown cells ∧ FullD B ks d ∧ B l = some (.lst (shown.map nV)) ∧ sts.length ≤ 900 ∧
  ∀ B' H' U', Step [s, L] B H B' H' → SesAt K ks n B' H' s L U' (sts ++ [st] ++ [stEdit st cells shown nx]) [] → H U' = none → Q .non H'
/-! Session.edit_cells: slots 0:self 1:cells 2:shown 3:next_row -/
theorem sc_Session_edit_cells : FnScope ["self", "cells", "shown", "next_row"] ["self", "cells", "shown", "next_row"] (defScope s_Session_edit_cells) := ⟨rfl, rfl, rfl, by decide +kernel, rfl, by decide +kernel, by decide +kernel⟩
theorem ok_Session_edit_cells (T : Tp K mg w) : FnOk P w K mg base CX0 3 (a_Session_edit_cells K) (fdAt K (a_Session_edit_cells K)) ["self", "cells", "shown", "next_row"] (sp_Session_edit_cells K) := by
  refine T.f_Session_edit_cells.ok sc_Session_edit_cells (fun vs H Q E h => ?_) (fun cdv A outer s H vs Q E hr h => ?_)
  · obtain ⟨s, d, l, nx, n, ks, B, L, U, sts, st, uns, shown, cells, rfl, A, hd, hf, hl, hz, q⟩ := h
    rfl
  · obtain ⟨s, d, l, nx, n, ks, B, L, U, sts, st, uns, shown, cells, rfl, A, hd, hf, hl, hz, q⟩ := h
    refine ⟨_, PSs.nox (pss_one (ps_expr (pe_meth (pv 0) T.cl_Session T.m_Session_perform (ok_Session_perform (K := K) T) (hr.mono (by decide)) T.bn_Session_perform .nil pass0 (pa_cons (pe_make T.mk_State (ok_State_init (K := K) T) (hr.mono (by decide)) rfl T.g_State T.bn_State_init .nil pass0 (pa_cons (pv 1) (pa_cons (pv 2) (pa_cons (kFld (K := K) (pe_fld (pe_ix (kIx (K := K) (r := rIxL) ix_list rfl) (kFld (K := K) (pe_fld (pv 0) rfl) rfl) (pe_un un_neg pe_int) (fun _ _ => rfl)) rfl) rfl) (pa_cons (pe_tup (pa_cons (pe_lst pa_nil) (pa_cons pe_int pa_nil))) (pa_cons (pv 3) pa_nil)))))) pa_nil)))), ?_⟩
    obtain ⟨dx, k, svs', uvs, hs, hk, hL, hU, p1, p2⟩ := A.ex
    obtain ⟨svs, v, rfl, p3, a, da, d0, l0, c0, e0, rfl, ha, hd0, hf0, hl0, hc0, he0⟩ := paired_snoc_inv p1
    have sB := A.sm
    refine s_dropMeth (ev_var rfl) hs rfl (eax_x (ex_mkState (eax_v (v := .ref d) (ev_var rfl) (eax_v (v := .ref l) (ev_var rfl) (eax_v (v := .ref c0) (ev_fld (ev_state T (ev_var rfl) hs hL) (sB _ _ ha) T.cl_State T.n_State_clicked rfl) (eax_x (B := fun v H3 => ∃ t p, v = .ref t ∧ H t = none ∧ H p = none ∧ H3 t = some (.tup [.ref p, .int 1]) ∧ H3 p = some (.lst [])) (ex_tup1 (EvX.ofL el_nil) (y := .int 1) ev_c) (fun v H1 H2 H3 e1 e2 e3 ⟨t, x, G, ev, g1, g2, ⟨p, ex, np, hp⟩, nt, ht⟩ => ?_) (eax_v (v := nV nx) (ev_var rfl) eax_nil)))))
        (fun xs H3 => ∃ v t p, xs = [.ref d, .ref l, .ref c0, v, nV nx] ∧ v = .ref t ∧ H t = none ∧ H p = none ∧ H3 t = some (.tup [.ref p, .int 1]) ∧ H3 p = some (.lst [])) (fun vs H1 ⟨u1, e1, u2, e2, u3, e3, u4, v, e4, ⟨t, p, ev, nt, np, ht, hp⟩, u5, e5, e6⟩ => ?_))
      (B := fun v H3 => ∃ a dx t p, v = .ref a ∧ H a = none ∧ H t = none ∧ H p = none ∧ H3 t = some (.tup [.ref p, .int 1]) ∧ H3 p = some (.lst []) ∧ H3 a = some (.ins (aState K) dx (stFs d l c0 (.ref t) nx))) (fun v H1 H2 H3 e1 e2 e3 ⟨G, a, dx, x1, x2, x3, x4, x5, g1, g2, ev, na, ⟨v2, t, p, ex, ev2, nt, np, ht, hp⟩, h2⟩ => ?_) eax_nil) fun vs H1 e1 ⟨us, v, evs, ⟨a1, dx1, t, p, ev, na, nt, np, ht, hp, ha1⟩, eu⟩ => ?_
    · subst ev ex
      exact ⟨t, p, rfl, fresh_back e1 nt, fresh_back e1 np, e3 _ _ ht, e3 _ _ (g2 _ _ hp)⟩
    · subst e6 e5 e4 e3 e2 e1
      exact ⟨_, _, _, _, _, rfl, v, t, p, rfl, ev, nt, np, ht, hp⟩
    · subst ev ev2
      cases ex
      exact ⟨a, dx, t, p, rfl, fresh_back e1 na, nt, np, e3 _ _ (g2 _ _ ht), e3 _ _ (g2 _ _ hp), e3 _ _ h2⟩
    · subst eu evs ev
      have stp := Step.pure sB e1 []
      have A1 := A.step stp (by simp) (by simp) (by simp) (Nat.le_refl n)
      refine ⟨s, .ref a1, n, ks, _, L, U, sts ++ [st], uns, stEdit st cells shown nx, rfl, A1, ?_, by rw [List.length_append, List.length_singleton]; omega, fun H' U' stp2 A2 nU => q _ H' U' ((stp.wide (by simp)).trans stp2) A2 (fresh_back e1 nU)⟩
      have so : Same B (ext B H H1) := ext_old
      exact ⟨a1, dx1, d, l, c0, _, rfl, ext_new sB na ha1, hd.mono so (Nat.le_refl n), hf.mono so, so _ _ hl, so _ _ hc0, t, p, [], rfl, ext_new sB nt ht, ext_new sB np hp, .nil⟩
def sp_Session_click (K : PySem.W.Frag) : Sp := fun vs H Q _ => ∃ (s : Addr) (c n : Nat) (ks : List Kind) (B : Hp) (L U : Addr) (sts : List St) (st : St) (uns : List St), vs = [.ref s, nV c] ∧ SesAt K ks n B H s L U (sts ++ [st]) uns ∧ StOk ks n st ∧ c < ks.length ∧ ks.length ≤ 8 ∧ n ≤ 500 ∧ sts.length ≤ 900 ∧
  ∀ B' H' U', Step [s, L] B H B' H' → SesAt K ks n B' H' s L U' (sts ++ [st] ++ [stClick ks st c]) [] → H U' = none → Q .non H'
/-! Session.click: slots 0:self 1:column 2:state 3:last 4:ranks 5:places 6:shown 7:recent 8:place -/
theorem sc_Session_click : FnScope ["self", "column", "state", "last", "ranks", "places", "shown", "recent", "place"] ["self", "column"] (defScope s_Session_click) := ⟨rfl, rfl, rfl, by decide +kernel, rfl, by decide +kernel, by decide +kernel⟩
theorem ok_Session_click (T : Tp K mg w) : FnOk P w K mg base CX0 5 (a_Session_click K) (fdAt K (a_Session_click K)) ["self", "column"] (sp_Session_click K) := by
  refine T.f_Session_click.ok sc_Session_click (fun vs H Q E h => ?_) (fun cdv A outer s H vs Q E hr h => ?_)
  · obtain ⟨s, c, n, ks, B, L, U, sts, st, uns, rfl, A, ok, hc8, hk8, hn, hz, q⟩ := h
    rfl
  · obtain ⟨s, c, n, ks, B, L, U, sts, st, uns, rfl, A, ok, hc8, hk8, hn, hz, q⟩ := h
    refine ⟨_, PSs.nox (pss_cons (ps_expr (pe_call (ok_check_column (K := K) T) (hr.mono (by decide)) rfl T.g_check_column T.f_check_column.kp T.bn_check_column .nil pass0 (pa_cons (pe_callB (kCR (K := K) (r := rLenQ) call_len_seq rfl) rfl T.b_len (by decide +kernel) (pa_cons (kFld (K := K) (pe_fld (pv 0) rfl) rfl) pa_nil)) (pa_cons (pv 1) pa_nil))))
      (pss_cons (ps_set (i := 2) sc_Session_click.nd rfl (Or.inr rfl) (pe_ix (kIx (K := K) (r := rIxL) ix_list rfl) (kFld (K := K) (pe_fld (pv 0) rfl) rfl) (pe_un un_neg pe_int) (fun _ _ => rfl)))
      (pss_cons (ps_set (i := 3) sc_Session_click.nd rfl (Or.inl rfl) (pe_meth0 (pv 0) T.cl_Session T.m_Session_last_clicked (ok_Session_last_clicked (K := K) T) (hr.mono (by decide)) T.bn_Session_last_clicked .nil pass0))
      (pss_cons (ps_set (i := 4) sc_Session_click.nd rfl (Or.inl rfl) (pe_call (ok_ranks_of_rows (K := K) T) (hr.mono (by decide)) rfl T.g_ranks_of_rows T.f_ranks_of_rows.kp T.bn_ranks_of_rows .nil pass0 (pa_cons (kFld (K := K) (pe_fld (pv 0) rfl) rfl) (pa_cons (kFld (K := K) (pe_fld (pv 2) rfl) rfl) (pa_cons (kFld (K := K) (pe_fld (pv 2) rfl) rfl) pa_nil)))))
      (pss_cons (ps_set (i := 5) sc_Session_click.nd rfl (Or.inl rfl) (pe_call (ok_click_rows (K := K) T) (hr.mono (by decide)) rfl T.g_click_rows T.f_click_rows.kp T.bn_click_rows .nil pass0 (pa_cons (pv 4) (pa_cons (pe_listRg rfl rfl T.b_list (prg_1 rfl T.b_range (pe_callB (kCR (K := K) (r := rLenQ) call_len_seq rfl) rfl T.b_len (by decide +kernel) (pa_cons (kFld (K := K) (pe_fld (pv 2) rfl) rfl) pa_nil)))) (pa_cons (pv 1) (pa_cons (pv 3) pa_nil))))))
      (pss_cons (ps_setLc (i := 6) (own := [("place", 8)]) (g := (gName 8)) rfl sc_Session_click.nd rfl rfl (sw_true rfl rfl rfl (by decide +kernel)) (kPI (K := K) (i := fun K => iList K _) (pi_list (pv 5)) rfl) (blkOk_by (own := [("place", 8)]) (N := ["self", "column", "state", "last", "ranks", "places", "shown", "recent", "place"]) (sc := defScope s_Session_click) (by decide +kernel)) (fun _ _ _ _ _ => (pg_name (i := 8) sc_Session_click.nd rfl (Or.inl rfl) (.inr rfl))) (fun _ _ _ _ _ => pts_nil) (fun _ _ _ _ _ => (pe_ix (kIx (K := K) (r := rIxL) ix_list rfl) (kFld (K := K) (pe_fld (pv 2) rfl) rfl) (pv 8) (fun _ _ => rfl))))
      (pss_cons (ps_set (i := 7) sc_Session_click.nd rfl (Or.inl rfl) (pe_call (ok_effect_after (K := K) T) (hr.mono (by decide)) rfl T.g_effect_after T.f_effect_after.kp T.bn_effect_after .nil pass0 (pa_cons (kFld (K := K) (pe_fld (pv 2) rfl) rfl) (pa_cons (pv 1) (pa_cons (pe_cmpR op_eq (pv 1) (pv 3) (nomark _)) pa_nil)))))
      (pss_one (ps_expr (pe_meth (pv 0) T.cl_Session T.m_Session_perform (ok_Session_perform (K := K) T) (hr.mono (by decide)) T.bn_Session_perform .nil pass0 (pa_cons (pe_make T.mk_State (ok_State_init (K := K) T) (hr.mono (by decide)) rfl T.g_State T.bn_State_init .nil pass0 (pa_cons (kFld (K := K) (pe_fld (pv 2) rfl) rfl) (pa_cons (pv 6) (pa_cons (pe_op op_cat (kFld (K := K) (pe_fld (pv 2) rfl) rfl) (pe_lst (pa_cons (pv 1) pa_nil))) (pa_cons (pv 7) (pa_cons (kFld (K := K) (pe_fld (pv 2) rfl) rfl) pa_nil)))))) pa_nil))))))))))), ?_⟩
    have tp := A.top
    obtain ⟨dx, k, svs', uvs, hs, hk, hL, hU, p1, p2⟩ := A.ex
    obtain ⟨svs, v, rfl, p3, a, da, d0, l0, c0, e0, rfl, ha, hd0, hf0, hl0, hc0, he0⟩ := paired_snoc_inv p1
    have sB := A.sm
    have hsl := ok.sl
    have hcl := ok.cl
    refine q_drop (v := .non) (ev_call (vs := [.int (ks.length : Int), nV c]) (ea_cons (ev_cb (ea_cons (ev_fld (ev_var rfl) hs T.cl_Session T.n_Session_kinds rfl) ea_nil) (rc_lenM (sB _ _ hk))) (ea_cons (ev_var rfl) ea_nil)) fun H1 e Q k E => ⟨_, _, rfl, by omega, by omega, k H1 (Ex.refl H1)⟩) fun H1 e1 => ?_
    refine q_asg (ev_state T (ev_var rfl) (e1 _ _ hs) (e1 _ _ hL)) fun H2 e2 => ?_
    have e12 := e1.trans e2
    refine q_asg (v := lastV st.clicked.getLast?) (ev_meth (vs := []) (ev_var rfl) (e12 _ _ hs) rfl ea_nil fun H3 e Q k E => ⟨s, ks, n, st, rfl, tp.mono (e12.trans e), k⟩) fun H3 e3 => ?_
    have e13 := e12.trans e3
    have s3 := sB.trans e13
    refine q_asgX (R := fun v _ H2 => ∃ rks, tabRanks ks (st.shown.map st.cells) rks ∧ RanksAt H2 v rks) ((ex_call (R := fun v _ H2 => ∃ rks, tabRanks ks (st.shown.map st.cells) rks ∧ RanksAt H2 v rks) (vs := [.ref k, .ref d0, .ref l0]) (ea_cons (ev_fld (ev_var rfl) (e13 _ _ hs) T.cl_Session T.n_Session_kinds rfl) (ea_cons (ev_fld (ev_var rfl) (s3 _ _ ha) T.cl_State T.n_State_cells rfl) (ea_cons (ev_fld (ev_var rfl) (s3 _ _ ha) T.cl_State T.n_State_shown rfl) ea_nil))) fun H4 e4 Q kk E => ?_).imp fun v H1 H2 _ _ ⟨_, _, _, r⟩ => r) fun rv H4 e4 ⟨rks, tr, ra⟩ => ?_
    · exact ⟨k, d0, l0, ks, n, st.shown, st.cells, rfl, e4 _ _ (s3 _ _ hk), hd0.mono (s3.trans e4) (Nat.le_refl _), e4 _ _ (s3 _ _ hl0), ok.rows, by omega, by omega, fun v' H' rks s tr ra => kk v' H' s ⟨rks, tr, ra⟩⟩
    have e14 := e13.trans e4
    have s4 := sB.trans e14
    refine q_asgX (R := fun v _ H2 => ∃ p, v = .ref p ∧ H2 p = some (.lst ((clk (ltR rks) (List.range st.shown.length) c st.clicked.getLast?).map nV))) ((ex_callA (R := fun v _ H2 => ∃ p, v = .ref p ∧ H2 p = some (.lst ((clk (ltR rks) (List.range st.shown.length) c st.clicked.getLast?).map nV))) (eax_v (ev_var rfl) (eax_l (el_lrg (ev_cb (ea_cons (ev_fld (ev_var rfl) (s4 _ _ ha) T.cl_State T.n_State_shown rfl) ea_nil) (rc_lenM (s4 _ _ hl0))) (by omega)) (eax_v (v := nV c) (ev_var rfl) (eax_v (v := lastV st.clicked.getLast?) (ev_var rfl) eax_nil)))) fun vs H5 e5 ⟨us, f5, us2, p, f6, hp, us3, f7, us4, f8, f9⟩ => ?_).imp fun v H1 H2 _ _ ⟨_, _, _, r⟩ => r) fun pv H5 e5 ⟨pl, epv, hpl⟩ => ?_
    · subst f9 f8 f7 f6 f5
      refine fun H6 e6 Q kk E => ⟨rv, p, rks, List.range st.shown.length, c, st.clicked.getLast?, rfl, ra.mono (e5.trans e6), e6 _ _ hp, by rw [tr.1]; exact hc8, fun rk m x hx => ?_, by rw [List.length_range]; omega, fun l H' nl s hl => kk _ H' s ⟨l, rfl, hl⟩⟩
      rw [ranks_len tr rk m, List.length_map]
      exact List.mem_range.mp hx
    subst epv
    have e15 := e14.trans e5
    have s5 := sB.trans e15
    have hpm := clk_perm (lt := ltR rks) (List.range st.shown.length) c st.clicked.getLast?
    have hcr := clk_rows tr hc8 st.clicked.getLast?
    refine q_asgL (xs := (clk (ltC ks st.cells) st.shown c st.clicked.getLast?).map nV) ?_ fun nl H6 nnl e6 hnl => ?_
    · rw [← hcr, List.map_map]
      have h := el_lcL (K := K) (tt := tYes) (j := 8) (te := tOp (rIxL K) (tFld K (tVar 2) "shown") (tVar 8)) (tl := tVar 5) (σ := [some (.ref s), some (nV c), some (.ref a), some (lastV st.clicked.getLast?), some rv, some (.ref pl), none, none, none]) (H := H5) (clk (ltR rks) (List.range st.shown.length) c st.clicked.getLast?) nV (fun _ => true) (nV ∘ fun i => st.shown.getD i 0) (ev_var rfl) (SqL.of hpl) (by rw [hpm.length_eq, List.length_range]; omega) (fun _ _ => et_yes) fun i m _ => ?_
      · rw [filter_tt] at h
        exact h
      · exact ev_op (ev_fld (ev_var rfl) (s5 _ _ ha) T.cl_State T.n_State_shown rfl) (ev_var rfl) (rv_ixL (SqL.of (s5 _ _ hl0)) (atI_map (List.mem_range.mp (hpm.mem_iff.mp m))))
    have e16 := e15.trans e6
    have s6 := sB.trans e16
    refine q_asgX (R := fun v _ H2 => EffAt (ext B H H2) v (effKeys st.keys c (isRev st c)) (effBase st.base (isRev st c))) ((ex_call (R := fun v H1 H2 => EffAt (ext B H1 H2) v (effKeys st.keys c (isRev st c)) (effBase st.base (isRev st c))) (vs := [e0, nV c, .bl (isRev st c)]) (ea_cons (ev_fld (ev_var rfl) (s6 _ _ ha) T.cl_State T.n_State_recent rfl) (ea_cons (ev_var rfl) (ea_cons (ev_is (ev_op (ev_var rfl) (ev_var rfl) (rv_eq (lastV_scal c _))) (by rw [lastV_eq] <;> rfl)) ea_nil))) fun H7 e7 Q kk E => ?_).imp fun v H1 H2 g1 g2 ⟨G, f1, f2, r⟩ => EffAt.mono (ext_le ((e16.trans g1).trans f1) (Same.refl _)) r) fun ev H7 e7 hev => ?_
    · exact ⟨B, e0, st.keys, st.base, c, isRev st c, rfl, s6.trans e7, he0, by have := ok.kl; omega, fun v' H' s h => kk v' H' s h⟩
    have e17 := e16.trans e7
    have s7 := sB.trans e17
    refine s_dropMeth (ev_var rfl) (e17 _ _ hs) rfl (eax_x (ex_mkState (eax_v (v := .ref d0) (ev_fld (ev_var rfl) (s7 _ _ ha) T.cl_State T.n_State_cells rfl) (eax_v (v := .ref nl) (ev_var rfl) (eax_x (B := fun v H3 => ∃ p, v = .ref p ∧ H p = none ∧ H3 p = some (.lst ((st.clicked ++ [c]).map nV))) (EvX.ofL (el_catX (EvX.of (ev_fld (ev_var rfl) (s7 _ _ ha) T.cl_State T.n_State_clicked rfl)) (EvX.ofL (el_lst (ea_cons (ev_var rfl) ea_nil) (by show 1 ≤ 100000; omega))) (st.clicked.map nV) [nV c] (fun v H1 H2 e1 e2 r => ⟨c0, r, e2 _ _ (e1 _ _ (s7 _ _ hc0))⟩) (fun v H1 H2 e1 e2 ⟨p, ev, np, hp⟩ => ⟨p, ev, hp⟩) (by rw [List.length_map]; show _ + 1 ≤ _; omega))) (fun v H1 H2 H3 e1 e2 e3 ⟨p, ev, np, hp⟩ => ⟨p, ev, fresh_back (e17.trans e1) np, by rw [List.map_append]; exact e3 _ _ hp⟩)
        (eax_v (v := ev) (ev_var rfl) (eax_v (v := nV st.next) (ev_fld (ev_var rfl) (s7 _ _ ha) T.cl_State T.n_State_next_row rfl) eax_nil)))))
        (fun xs H3 => ∃ p, xs = [.ref d0, .ref nl, .ref p, ev, nV st.next] ∧ H p = none ∧ H3 p = some (.lst ((st.clicked ++ [c]).map nV))) (fun vs H1 ⟨u1, f1, u2, f2, u3, v, f3, ⟨p, fv, np, hp⟩, u4, f4, u5, f5, f6⟩ => ?_))
      (B := fun v H3 => ∃ a dx p, v = .ref a ∧ H a = none ∧ H p = none ∧ H3 p = some (.lst ((st.clicked ++ [c]).map nV)) ∧ H3 a = some (.ins (aState K) dx (stFs d0 nl p ev st.next))) (fun v H1 H2 H3 e1 e2 e3 ⟨G, a, dx, x1, x2, x3, x4, x5, g1, g2, fv, na, ⟨p, ex, np, hp⟩, h2⟩ => ?_) eax_nil) fun vs H8 e8 ⟨us, v, evs, ⟨a1, dx1, p, fv, na, np, hp, ha1⟩, eu⟩ => ?_
    · subst f6 f5 f4 f3 f2 f1 fv
      exact ⟨_, _, _, _, _, rfl, p, rfl, np, hp⟩
    · subst fv
      cases ex
      exact ⟨a, dx, p, rfl, fresh_back (e17.trans e1) na, np, e3 _ _ (g2 _ _ hp), e3 _ _ h2⟩
    · subst eu evs fv
      have e18 := e17.trans e8
      have stp := Step.pure sB e18 []
      have A1 := A.step stp (by simp) (by simp) (by simp) (Nat.le_refl n)
      refine ⟨s, .ref a1, n, ks, _, L, U, sts ++ [st], uns, stClick ks st c, rfl, A1, ?_, by rw [List.length_append, List.length_singleton]; omega, fun H' U' stp2 A2 nU => q _ H' U' ((stp.wide (by simp)).trans stp2) A2 (fresh_back e18 nU)⟩
      have so : Same B (ext B H H8) := ext_old
      have sl : Same (ext B H H7) (ext B H H8) := ext_le (Same.refl H) e8
      exact ⟨a1, dx1, d0, nl, p, ev, rfl, ext_new sB na ha1, (hd0.mono so (Nat.le_refl n)).of fun r m => (clk_perm _ _ _).mem_iff.mp m, hf0.mono so, ext_new sB (fresh_back e15 nnl) (e8 _ _ (e7 _ _ hnl)), ext_new sB np hp, hev.mono sl⟩
end
end HC


set_option Elab.async false
set_option linter.all false
set_option maxRecDepth 100000
set_option maxHeartbeats 2000000
namespace HC
open PySem PySem.Spec PyProof.Rows L2 Evl
section
variable {X : Cx} {CX : CXT} {n : Nat} {f C : Addr} {fd : FuncData} {ps : List Str} {sp : Sp} {E : XK}
/-- len(x), x of a class with its own __len__ -/
def rLenO (C : Addr) (sp : Sp) (E : XK) : List V → Hp → VK → Prop := fun xs H Q => ∃ a dx fs, xs = [.ref a] ∧ H a = some (.ins C dx fs) ∧ sp [.ref a] H (fun v H' => ∃ i : Int, v = .int i ∧ 0 ≤ i ∧ i < 2 ^ 62 ∧ Q v H') E
theorem call_lenO (F : FnOk X.prog X.w X.K X.mg X.base CX n f fd ps sp) (hr : Room (n + 1) X.A) (m : Meth X.K C "__len__" f) (hb : Binds X.K fd ps []) (hx : Passes CX X E) : CallR X (.builtin "len") (rLenO C sp E) := by
  intro pins s σ H xs us Q I r h
  obtain ⟨a, dx, fs, rfl, ha, hsp⟩ := h
  obtain ⟨u, rfl, rx⟩ := vals1 r
  obtain rfl : u = .ref a := rx
  obtain ⟨mA, J, _⟩ := ins_get I.hok ha
  obtain ⟨od, J, _⟩ := J.look
  obtain ⟨mm, hF⟩ := I.fr
  refine PySem.W.len_K hF I.ok.mod.kin J m.at_ m.fn ?_
  have e0 : Env0 X.prog X.w X.K X.mg X.base X.A.in1 X.stack s H := I.env0.in1
  have hl := F.len _ _ _ _ hsp
  have r2 : Vals [V.ref a] [Value.ref a] := .cons rfl .nil
  refine wpAny_call (codeAny_mono (F.run X.A.in1 X.stack s H ⟨[.ref a], []⟩ [.ref a] [.ref a] _ E hr.in1 e0 (by
    have := hb s [.ref a] I.kIn (by simpa using hl)
    simpa using this) r2 hsp) fun r s' hq => ?_)
  cases r with
  | error e => exact hx pins σ H s e s' I hq
  | ok fl =>
    cases fl with
    | ret w =>
      obtain ⟨z, H', I', rz, i, ez, h0, h1, q⟩ := I.after hq
      subst ez
      obtain ⟨t, rfl⟩ := rz
      exact ⟨⟨h0, by omega⟩, .int i, H', I'.tok _, ⟨_, rfl⟩, q⟩
    | next => exact False.elim hq
    | brk => exact False.elim hq
    | cont => exact False.elim hq
end
/-! ### dicts -/
section
variable {κ : Type} [DecidableEq κ]
theorem valV_none_iff {k : κ} : ∀ {kvs : List (κ × V)}, valV kvs k = none ↔ ¬ k ∈ kvs.map (·.1)
  | [] => by simp [valV_nil]
  | p :: r => by
    by_cases e : p.1 = k
    · rw [valV_pos e]
      simp [e]
    · rw [valV_neg e, valV_none_iff, List.map_cons, List.mem_cons]
      constructor
      · intro h m
        rcases m with m | m
        · exact e m.symm
        · exact h m
      · exact fun h m => h (.inr m)
theorem valV_mem {k : κ} {v : V} : ∀ {kvs : List (κ × V)}, valV kvs k = some v → (k, v) ∈ kvs
  | [], h => by cases h
  | p :: r, h => by
    by_cases e : p.1 = k
    · rw [valV_pos e] at h
      have : p = (k, v) := Prod.ext e (Option.some.inj h)
      rw [this]
      exact List.mem_cons_self
    · rw [valV_neg e] at h
      exact List.mem_cons_of_mem _ (valV_mem h)
theorem putK_keys {k : κ} {v : V} {kvs : List (κ × V)} (h : (kvs.map (·.1)).Nodup) : ((putK kvs k v).map (·.1)).Nodup := by
  cases e : valV kvs k with
  | none =>
    rw [putK_new v e, List.map_append, List.nodup_append]
    refine ⟨h, by simp, fun a ha b hb => ?_⟩
    rw [List.map_cons, List.map_nil, List.mem_singleton] at hb
    intro z
    rw [z, hb] at ha
    exact valV_none_iff.mp e ha
  | some u =>
    unfold putK
    rw [if_pos (by rw [valV_any, e] <;> rfl), List.map_map]
    have : ((fun kv : κ × V => kv.1) ∘ fun kv : κ × V => if kv.1 = k then (kv.1, v) else kv) = fun kv => kv.1 := funext fun kv => by
      show (if kv.1 = k then (kv.1, v) else kv).1 = kv.1
      split <;> rfl
    rw [this]
    exact h
theorem putK_mem {k : κ} {v : V} {kvs : List (κ × V)} {p : κ × V} (h : p ∈ putK kvs k v) : p ∈ kvs ∨ p = (k, v) := by
  cases e : valV kvs k with
  | none =>
    rw [putK_new v e] at h
    rcases List.mem_append.mp h with h | h
    · exact .inl h
    · exact .inr (List.mem_singleton.mp h)
  | some u =>
    unfold putK at h
    rw [if_pos (by rw [valV_any, e] <;> rfl)] at h
    obtain ⟨q, hq, rfl⟩ := List.mem_map.mp h
    by_cases e2 : q.1 = k
    · rw [if_pos e2, e2]
      exact .inr rfl
    · rw [if_neg e2]
      exact .inl hq
theorem valV_filter {k : κ} {f : κ × V → Bool} : ∀ {kvs : List (κ × V)}, (∀ v, f (k, v) = true) → valV (kvs.filter f) k = valV kvs k
  | [], _ => rfl
  | p :: r, h => by
    rw [List.filter_cons]
    by_cases e : p.1 = k
    · have hp : f p = true := by
        have := h p.2
        rw [← e] at this
        exact this
      rw [if_pos hp, valV_pos e, valV_pos e]
    · split
      · rw [valV_neg e, valV_neg e, valV_filter h]
      · rw [valV_neg e, valV_filter h]
end
/-! ### slices -/
theorem cut_set (xs : List V) (c : Nat) (v : V) (h : c < xs.length) : cutV xs none (some (c : Int)) ++ [v] ++ cutV xs (some ((c : Int) + 1)) none = xs.set c v := by
  have h1 : cutV xs none (some (c : Int)) = xs.take c := by
    unfold cutV
    have a : HT.sIx xs.length 0 none = 0 := rfl
    have b : HT.sIx xs.length xs.length (some (c : Int)) = c := by
      rw [HT.sIx_nat]
      omega
    rw [a, b, List.drop_zero, Nat.sub_zero]
  have h2 : cutV xs (some ((c : Int) + 1)) none = xs.drop (c + 1) := by
    unfold cutV
    have a : HT.sIx xs.length 0 (some ((c : Int) + 1)) = c + 1 := by
      rw [show ((c : Int) + 1) = ((c + 1 : Nat) : Int) by omega, HT.sIx_nat]
      omega
    have b : HT.sIx xs.length xs.length none = xs.length := rfl
    rw [a, b, List.take_of_length_le (by rw [List.length_drop]; omega)]
  rw [h1, h2, List.append_assoc]
  exact (List.set_eq_take_append_cons_drop (l := xs) (i := c) (a := v)).trans (by rw [if_pos h]; rfl) |>.symm
section
variable {K : PySem.W.Frag} {σ : L2.St} {H H' : Hp} {ta tb tc te tx tl : TE} {t u : TT} {x y z v : V} {D : Ends} {tu tw tz : TS} {g : TG} {R R1 : V → Hp → Hp → Prop}
theorem ex_cbX {r : List V → Hp → VK → Prop} {ta : TA} {vs : List V} (h : EvA ta σ H vs) (hr : RCX r vs H R) : EvX (tCB r ta) σ H fun v H1 H2 => ∃ G, Ex H1 G ∧ Ex G H2 ∧ R v G H2 := fun H1 e Q q =>
  h H1 e _ fun H2 e2 => hr H2 (e.trans e2) Q fun v H3 e3 r => q v H3 (e2.trans e3) ⟨H2, e2, e3, r⟩
abbrev rDictD : List V → Hp → VK → Prop := fun xs H Q => ∃ (a : Addr) (kvs : List (Key × V)), xs = [V.ref a] ∧ Rd H a (.dK kvs) ∧ ∀ p, H p = none → Q (.ref p) (upd H p (.dK kvs))
def NewD (kvs : List (Key × V)) : V → Hp → Hp → Prop := fun v H1 H2 => ∃ p, v = .ref p ∧ H1 p = none ∧ H2 p = some (.dK kvs)
/-- dict(d) -/
theorem ex_dict {a : Addr} {kvs : List (Key × V)} (h : Ev te σ H (.ref a)) (ha : H a = some (.dK kvs)) : EvX (tCB rDictD (tCons te tNil)) σ H (NewD kvs) := fun H1 e Q q =>
  h H1 e _ fun H2 e2 => ⟨a, kvs, rfl, .inl ((e.trans e2) _ _ ha), fun p hp => q _ _ (e2.trans (Ex.new hp)) ⟨p, rfl, fresh_back e2 hp, upd_same⟩⟩
/-- d[y] = what is made -/
theorem s_dputX {a : Addr} (hv : EvX tc σ H R) (hd : Ev ta σ H (.ref a)) (hy : Ev tb σ H y) (k : ∀ v G H1, Ex H G → Ex G H1 → R v H G → ∃ H2, DPut H1 a y v H2 ∧ D.nx σ H2) : sDPut ta tb tc D σ H :=
  hv H (Ex.refl H) _ fun v H1 e1 r => hd H1 e1 _ fun H2 e2 => hy H2 (e1.trans e2) _ fun H3 e3 => by
    obtain ⟨H4, p, q⟩ := k v H1 H3 e1 (e2.trans e3) r
    exact ⟨a, H4, rfl, p, q⟩
theorem q_dputX {a : Addr} (hv : EvX tc σ H R) (hd : Ev ta σ H (.ref a)) (hy : Ev tb σ H y) (k : ∀ v G H1, Ex H G → Ex G H1 → R v H G → ∃ H2, DPut H1 a y v H2 ∧ tz D σ H2) : tSeq (sDPut ta tb tc) tz D σ H := s_dputX (D := { D with nx := tz D }) hv hd hy k
end
end HC

set_option Elab.async false
set_option linter.all false
set_option maxRecDepth 100000
set_option maxHeartbeats 4000000
namespace HC
open PySem PySem.Spec PyProof.Rows L2 Evl
local macro_rules
  | `(tactic| walk_at "ev") => `(tactic| first
    | exact ev_c
    | exact ev_var rfl
    | exact ea_nil
    | exact et_yes
    | exact eo_none
    | exact rv_I0
    | exact rv_eqI
    | exact rv_neI
    | exact rv_eqS
    | exact rv_neS
    | exact rv_eqB
    | exact rv_neB
    | exact rv_isN
    | exact rv_notN
    | exact rv_leS
    | exact rv_ltS
    | exact ru_neg
    | assumption
    | (apply ea_cons <;> walk_at "ev")
    | (apply et_test <;> walk_at "ev")
    | (apply et_B <;> walk_at "ev")
    | (apply et_not <;> walk_at "ev")
    | (apply ev_op <;> walk_at "ev")
    | (apply ev_un <;> walk_at "ev")
    | (apply ev_isi_int (h := kit_int_int) <;> walk_at "ev")
    | (apply ev_isi_int (h := kit_int_bool) <;> walk_at "ev")
    | (apply ev_isi_str (h := kit_str_str) <;> walk_at "ev")
    | (apply ev_isi_lst (h := kit_list_list) <;> walk_at "ev")
    | (apply ev_isi_tup (h := kit_tuple_tuple) <;> walk_at "ev")
    | (apply rc_lenL ; assumption)
    | (apply rc_lenT ; assumption)
    | (apply rc_lenS ; assumption)
    | (apply ev_chain <;> first | walk_at "ev" | (intro _; walk_at "ev"))
    | (apply et_or <;> first | walk_at "ev" | (intro _; walk_at "ev"))
    | (apply et_and <;> first | walk_at "ev" | (intro _; walk_at "ev"))
    | (apply ev_orV <;> first | walk_at "ev" | (intro _; walk_at "ev"))
    | (apply ev_andV <;> first | walk_at "ev" | (intro _; walk_at "ev"))
    | (apply ev_notV <;> walk_at "ev")
    | (apply ev_cb <;> walk_at "ev")
    | (apply eo_some <;> walk_at "ev"))
local macro_rules
  | `(tactic| walk_at "dec") => `(tactic| first
    | assumption
    | exact dnI
    | exact dnS
    | decide +kernel
    | (with_reducible rfl)
    | (simp only [decide_eq_true_eq, Bool.and_eq_true, Bool.not_eq_true', decide_eq_false_iff_not, Bool.not_true, Bool.not_false, Bool.and_eq_false_iff, Bool.or_eq_false_iff, Bool.or_eq_true]; omega)
    | rfl)
local macro_rules
  | `(tactic| walk_at "dt") => `(tactic| first
    | assumption
    | exact et_yes
    | (apply et_orF <;> walk_at "dt")
    | (apply et_andT <;> walk_at "dt")
    | (apply et_notF; walk_at "dt")
    | (apply et_notT; walk_at "dt")
    | (apply et_chT <;> first | walk_at "ev" | walk_at "dec")
    | (apply et_leaf <;> first | walk_at "ev" | walk_at "dec")
    | (apply et_leafB <;> first | walk_at "ev" | walk_at "dec"))
local macro_rules
  | `(tactic| walk_at "pass") => `(tactic| (refine' q_pass ?zzh ?zzk; (case zzh => walk_at "dt")))
local macro_rules
  | `(tactic| walk_at "yes") => `(tactic| ((first | refine' q_yes ?zzh ?zzk | refine' s_yes ?zzh ?zzk); (case zzh => walk_at "dt")))
local macro_rules
  | `(tactic| walk_at "no") => `(tactic| ((first | refine' q_no ?zzh ?zzk | refine' s_no ?zzh ?zzk); (case zzh => walk_at "dt")))
local macro_rules
  | `(tactic| walk_at "ret") => `(tactic| (refine' s_ret (v := _) ?zzh ?zzk; (case zzh => walk_at "ev")))
local macro_rules
  | `(tactic| walk_at "set") => `(tactic| ((first | refine' q_asg (v := _) ?zzh ?zzk | refine' s_asg (v := _) ?zzh ?zzk); (case zzh => walk_at "ev")))
section
variable {P : Program} {w : World} {K : PySem.W.Frag} {mg : Str → Option Value} {base : Heap}
theorem spv_is_cell {H : Hp} {k : Kind} {v : V} (ok : CellOk k v) : SpV (sp_is_cell K) ([k.v, v] ++ []) H (.bl true) := fun H1 _ _ q _ => ⟨k, v, rfl, ok, fun H' s => q H' s⟩
theorem put_full {B B' : Hp} {ks : List Kind} {kvs : List (Key × V)} {k : Key} {x : Addr} {row : List V} (h : ∀ p ∈ kvs, ∃ x row, p.2 = V.ref x ∧ B x = some (.lst row) ∧ RowOk ks row) (hx : B' x = some (.lst row)) (ok : RowOk ks row) (s : Same B B') :
    ∀ p ∈ putK kvs k (.ref x), ∃ x row, p.2 = V.ref x ∧ B' x = some (.lst row) ∧ RowOk ks row := fun p m => by
  rcases putK_mem m with m | m
  · obtain ⟨x, row, e, h1, h2⟩ := h p m
    exact ⟨x, row, e, s _ _ h1, h2⟩
  · rw [m]
    exact ⟨x, row, rfl, hx, ok⟩
theorem put_cells {B B' : Hp} {n : Nat} {kvs : List (Key × V)} {D : Addr} {r : Nat} {x : Addr} {row : List V} {shown shown' : List Nat} {cells : Nat → List V} (h : ∀ q ∈ shown, ∃ x, valV kvs (.inl (q : Int)) = some (.ref x) ∧ B x = some (.lst (cells q))) (hl : kvs.length ≤ n)
    (hD : B' D = some (.dK (putK kvs (.inl (r : Int)) (.ref x)))) (hx : B' x = some (.lst row)) (s : Same B B') (hs : ∀ q ∈ shown', q = r ∨ q ∈ shown) : CellsAt B' (n + 1) D shown' fun q => if q = r then row else cells q := by
  refine ⟨_, hD, Nat.le_trans (length_putK _ _ _) (Nat.succ_le_succ hl), fun q m => ?_⟩
  rw [valV_put]
  by_cases e : q = r
  · dsimp only; rw [if_pos (by rw [e]), if_pos e]
    exact ⟨x, rfl, hx⟩
  · have hne : ¬ ((.inl (q : Int) : Key) = .inl (r : Int)) := fun z => e (by have := Sum.inl.inj z; omega)
    dsimp only; rw [if_neg hne, if_neg e]
    obtain ⟨y, h1, h2⟩ := h q ((hs q m).resolve_left e)
    exact ⟨y, h1, s _ _ h2⟩
def sp_Session_set_cell (K : PySem.W.Frag) : Sp := fun vs H Q _ => ∃ (s : Addr) (r c : Nat) (v : V) (n : Nat) (ks : List Kind) (B : Hp) (L U : Addr) (sts : List St) (st : St) (uns : List St) (k : Kind), vs = [.ref s, nV r, nV c, v] ∧ SesAt K ks n B H s L U (sts ++ [st]) uns ∧ StOk ks n st ∧ r ∈ st.shown ∧ ks[c]? = some k ∧ CellOk k v ∧ ks.length ≤ 8 ∧ n ≤ 500 ∧ sts.length ≤ 900 ∧
  ∀ B' H' U', Step [s, L] B H B' H' → SesAt K ks (n + 1) B' H' s L U' (sts ++ [st] ++ [stSet st r c v]) [] → H U' = none → Q .non H'
/-! Session.set_cell: slots 0:self 1:row 2:column 3:value 4:state 5:cells -/
theorem sc_Session_set_cell : FnScope ["self", "row", "column", "value", "state", "cells"] ["self", "row", "column", "value"] (defScope s_Session_set_cell) := ⟨rfl, rfl, rfl, by decide +kernel, rfl, by decide +kernel, by decide +kernel⟩
theorem ok_Session_set_cell (T : Tp K mg w) : FnOk P w K mg base CX0 4 (a_Session_set_cell K) (fdAt K (a_Session_set_cell K)) ["self", "row", "column", "value"] (sp_Session_set_cell K) := by
  refine T.f_Session_set_cell.ok sc_Session_set_cell (fun vs H Q E h => ?_) (fun cdv A outer s H vs Q E hr h => ?_)
  · obtain ⟨s, r, c, v, n, ks, B, L, U, sts, st, uns, kc, rfl, A, ok, hr1, hkc, hv, hk8, hn, hz, q⟩ := h
    rfl
  · obtain ⟨s, r, c, v, n, ks, B, L, U, sts, st, uns, kc, rfl, A, ok, hr1, hkc, hv, hk8, hn, hz, q⟩ := h
    refine ⟨_, PSs.nox (pss_cons (ps_expr (pe_meth (pv 0) T.cl_Session T.m_Session_check_row (ok_Session_check_row (K := K) T) (hr.mono (by decide)) T.bn_Session_check_row .nil pass0 (pa_cons (pv 1) pa_nil)))
      (pss_cons (ps_expr (pe_call (ok_check_column (K := K) T) (hr.mono (by decide)) rfl T.g_check_column T.f_check_column.kp T.bn_check_column .nil pass0 (pa_cons (pe_callB (kCR (K := K) (r := rLenQ) call_len_seq rfl) rfl T.b_len (by decide +kernel) (pa_cons (kFld (K := K) (pe_fld (pv 0) rfl) rfl) pa_nil)) (pa_cons (pv 2) pa_nil))))
      (pss_cons (ps_if (pt_not (pt_val (pe_call (ok_is_cell (K := K) T) (hr.mono (by decide)) rfl T.g_is_cell T.f_is_cell.kp T.bn_is_cell .nil pass0 (pa_cons (pe_ix (kIx (K := K) (r := rIxL) ix_list rfl) (kFld (K := K) (pe_fld (pv 0) rfl) rfl) (pv 2) (fun _ _ => rfl)) (pa_cons (pv 3) pa_nil))))) (pss_one ps_never) pss_nil)
      (pss_cons (ps_set (i := 4) sc_Session_set_cell.nd rfl (Or.inl rfl) (pe_ix (kIx (K := K) (r := rIxL) ix_list rfl) (kFld (K := K) (pe_fld (pv 0) rfl) rfl) (pe_un un_neg pe_int) (fun _ _ => rfl)))
      (pss_cons (ps_set (i := 5) sc_Session_set_cell.nd rfl (Or.inl rfl) (pe_callTy call_dictD rfl T.b_dict (by decide +kernel) (pa_cons (kFld (K := K) (pe_fld (pv 4) rfl) rfl) pa_nil)))
      (pss_cons (ps_dput (hu_of hr) (pv 5) (pv 1) (pe_op op_cat (pe_op op_cat (pe_slice (kSl (K := K) (r := rSlL) sl_list rfl) (pe_dget (hu_of hr) (pv 5) (pv 1) (fun _ _ => rfl)) po_none (po_some (pv 2))) (pe_lst (pa_cons (pv 3) pa_nil))) (pe_slice (kSl (K := K) (r := rSlL) sl_list rfl) (pe_dget (hu_of hr) (pv 5) (pv 1) (fun _ _ => rfl)) (po_some (pe_op op_add (pv 2) pe_int)) po_none)) rfl)
      (pss_one (ps_expr (pe_meth (pv 0) T.cl_Session T.m_Session_edit_cells (ok_Session_edit_cells (K := K) T) (hr.mono (by decide)) T.bn_Session_edit_cells .nil pass0 (pa_cons (pv 5) (pa_cons (kFld (K := K) (pe_fld (pv 4) rfl) rfl) (pa_cons (kFld (K := K) (pe_fld (pv 4) rfl) rfl) pa_nil)))))))))))), ?_⟩
    have tp := A.top
    obtain ⟨dx, k, svs', uvs, hs, hk, hL, hU, p1, p2⟩ := A.ex
    obtain ⟨svs, sv, rfl, p3, a, da, d0, l0, c0, e0, rfl, ha, hd0, ⟨kvs, hkv, hfull, hnd⟩, hl0, hc0, he0⟩ := paired_snoc_inv p1
    have sB := A.sm
    have hck : c < ks.length := (List.getElem?_eq_some_iff.mp hkc).1
    obtain ⟨kvs', hkv', hlen, hrows⟩ := hd0
    rw [hkv] at hkv'
    cases hkv'
    obtain ⟨x0, hx0, hx0r⟩ := hrows r hr1
    have okr := ok.rows r hr1
    have hrl : (st.cells r).length = ks.length := (Paired.length okr).symm
    refine q_drop (v := .non) (ev_meth (vs := [nV r]) (ev_var rfl) hs rfl (ea_cons (ev_var rfl) ea_nil) fun H1 e Q k E => ⟨s, ks, n, st, r, rfl, tp.mono e, hr1, k⟩) fun H1 e1 => ?_
    refine q_drop (v := .non) (ev_call (vs := [.int (ks.length : Int), nV c]) (ea_cons (ev_cb (ea_cons (ev_fld (ev_var rfl) (e1 _ _ hs) T.cl_Session T.n_Session_kinds rfl) ea_nil) (rc_lenM ((sB.trans e1) _ _ hk))) (ea_cons (ev_var rfl) ea_nil)) fun H2 e Q k E => ⟨_, _, rfl, by omega, by omega, k H2 (Ex.refl H2)⟩) fun H2 e2 => ?_
    have e12 := e1.trans e2
    refine q_pass (et_notF (et_B (ev_call (vs := [kc.v, v]) (ea_cons (ev_op (ev_fld (ev_var rfl) (e12 _ _ hs) T.cl_Session T.n_Session_kinds rfl) (ev_var rfl) (rv_ixL (SqL.of ((sB.trans e12) _ _ hk)) (atI_nat (by rw [List.getElem?_map, hkc] <;> rfl)))) (ea_cons (ev_var rfl) ea_nil)) (spv_is_cell (K := K) hv)))) fun H3 e3 => ?_
    have e13 := e12.trans e3
    refine q_asg (ev_state T (ev_var rfl) (e13 _ _ hs) (e13 _ _ hL)) fun H4 e4 => ?_
    have e14 := e13.trans e4
    refine q_asgX (ex_dict (ev_fld (ev_var rfl) ((sB.trans e14) _ _ ha) T.cl_State T.n_State_cells rfl) ((sB.trans e14) _ _ hkv)) fun dv H5 e5 ⟨D, edv, nD, hD⟩ => ?_
    subst edv
    have e15 := e14.trans e5
    have s5 := sB.trans e15
    have nD0 : H D = none := fresh_back e14 nD
    have hget : ∀ {σ : L2.St}, σ[5]? = some (some (.ref D)) → σ[1]? = some (some (nV r)) → Ev (tDGet (tVar 5) (tVar 1)) σ H5 (.ref x0) := fun h1 h2 => ev_dget (a := D) (ev_var h1) (ev_var h2) fun H1 e => by
      rw [← hx0]
      exact DGet.k (k := .inl (r : Int)) (e _ _ hD)
    refine q_dputX (a := D) (y := nV r) (R := NewL ((st.cells r).set c v)) ?_ (ev_var rfl) (ev_var rfl) fun w G H6 g1 g2 ⟨x, ew, nx, hx⟩ => ?_
    · rw [← cut_set _ c v (by omega)]
      refine EvX.ofL (el_catX (EvX.ofL (el_catX (EvX.ofL (el_sl (hget rfl rfl) eo_none (eo_some (ev_var rfl)) (SqL.of (s5 _ _ hx0r)))) (EvX.ofL (el_lst (ea_cons (ev_var rfl) ea_nil) (by show 1 ≤ 100000; omega))) _ _ (fun v H1 H2 _ _ ⟨p, e, _, h⟩ => ⟨p, e, h⟩) (fun v H1 H2 _ _ ⟨p, e, _, h⟩ => ⟨p, e, h⟩) ?_)) (EvX.ofL (el_sl (hget rfl rfl) (eo_some (ev_op (ev_var rfl) ev_c rv_I0)) eo_none (SqL.of (s5 _ _ hx0r)))) _ _ (fun v H1 H2 _ _ ⟨p, e, _, h⟩ => ⟨p, e, h⟩) (fun v H1 H2 _ _ ⟨p, e, _, h⟩ => ⟨p, e, h⟩) ?_)
      · have := cutV_length (st.cells r) none (some (c : Int))
        show _ + 1 ≤ 100000
        omega
      · have := cutV_length (st.cells r) none (some (c : Int))
        have := cutV_length (st.cells r) (some ((c : Int) + 1)) none
        rw [List.length_append]
        show _ + 1 + _ ≤ 100000
        omega
    · subst ew
      have g := g1.trans g2
      have hD6 := g _ _ hD
      refine ⟨_, DPut.k (k := .inl (r : Int)) hD6 (sz_lt (by omega)), ?_⟩
      have e17 : Same H (upd H6 D (.dK (putK kvs (.inl (r : Int)) (.ref x)))) := same_mut (e15.trans g) nD0
      have nxD : x ≠ D := (ne_of_none hD nx).symm
      refine s_dropMeth (ev_var rfl) (e17 _ _ hs) rfl (eax_v (v := .ref D) (ev_var rfl) (eax_v (v := .ref l0) (ev_fld (ev_var rfl) (e17 _ _ (sB _ _ ha)) T.cl_State T.n_State_shown rfl) (eax_v (v := nV st.next) (ev_fld (ev_var rfl) (e17 _ _ (sB _ _ ha)) T.cl_State T.n_State_next_row rfl) eax_nil))) fun vs H8 e8 ⟨u1, f1, u2, f2, u3, f3, f4⟩ => ?_
      subst f4 f3 f2 f1
      have e18 := e17.trans e8
      have stp := Step.pure sB e18 []
      have A1 := A.step (n' := n + 1) stp (by simp) (by simp) (by simp) (Nat.le_succ n)
      have so : Same B (ext B H H8) := ext_old
      have hx8 : ext B H H8 x = some (.lst ((st.cells r).set c v)) := ext_new sB (fresh_back e15 nx) (e8 _ _ (by rw [upd_ne nxD]; exact g2 _ _ hx))
      have hD8 : ext B H H8 D = some (.dK (putK kvs (.inl (r : Int)) (.ref x))) := ext_new sB nD0 (e8 _ _ upd_same)
      exact ⟨s, D, l0, st.next, n + 1, ks, _, L, U, sts, st, uns, st.shown, _, rfl, A1, put_cells hrows hlen hD8 hx8 so (fun q m => .inr m), ⟨_, hD8, put_full hfull hx8 (paired_set okr hkc hv) so, putK_keys hnd⟩, so _ _ hl0, hz, fun B' H' U' stp2 A2 nU => q B' H' U' ((stp.wide (by simp)).trans stp2) A2 (fresh_back e18 nU)⟩
end
end HC


set_option Elab.async false
set_option linter.all false
set_option maxRecDepth 100000
set_option maxHeartbeats 2000000
/-! Dict comprehensions. -/
namespace HC
open PySem PySem.Spec PyProof.Rows L2 Evl
theorem dc_two {α : Type} {J : It} {n : Nat} {G : Hp → Prop} {K : PySem.W.Frag} {xf yf : Nat → Option V} (w : Walk J n G (YPair xf yf)) (xs : List α) (e1 e2 : α → V) (hn : xs.length = n) (hx : ∀ i a, xs[i]? = some a → xf i = some (e1 a) ∧ yf i = some (e2 a))
    {tt : TT} {tk tv : TE} {j k : Nat} {σ : L2.St} {H : Hp} {Q : VK} (hz : n ≤ 100000) (hG : ∀ H', Same H H' → G H') (f : α → Bool) (key : α → Key) (R : α → V → Hp → Prop) (nd : ((xs.filter f).map key).Nodup)
    (ht : ∀ a, a ∈ xs → EvT tt (((wipe σ [j, k]).set j (some (e1 a))).set k (some (e2 a))) H (f a))
    (hk : ∀ a, a ∈ xs → f a = true → Ev tk (((wipe σ [j, k]).set j (some (e1 a))).set k (some (e2 a))) H (kV (key a)))
    (he : ∀ a, a ∈ xs → f a = true → EvX tv (((wipe σ [j, k]).set j (some (e1 a))).set k (some (e2 a))) H (Made (R a)))
    (hd : ∀ D H' kvs, H D = none → Same H H' → H' D = some (.dK kvs) → Paired (fun a kv => kv.1 = key a ∧ R a kv.2 H') (xs.filter f) kvs → Q (.ref D) H') :
    ∀ D, H D = none → ∃ W : Nat → Nat → Hp → Prop, (∃ m, W 0 m (upd H D (.dK []))) ∧ ∀ i m H, W i m H →
      (J.stop i H ∧ Q (.ref D) H) ∨ (J.go i H ∧ ∃ Nx : Hp → Prop, (∀ H', Nx H' → ∃ m', m' < m ∧ W (i + 1) m' H') ∧ ∀ x H', J.yld i H x H' → gTup K 2 (gCons (gName j) (gCons (gName k) gNil)) x (wipe σ [j, k]) H' fun σ2 H2 => wipe σ2 [j, k] = wipe σ [j, k] ∧ tt σ2 H2 fun b H3 =>
        if b = true then tk σ2 H3 fun y H4 => tv σ2 H4 fun z H5 => ∃ kvs k, y = kV k ∧ H5 D = some (.dK kvs) ∧ kvs.length < sizeLine ∧ Nx (upd H5 D (.dK (putK kvs k z))) else Nx H3) := by
  intro D hD
  refine ⟨fun i m H1 => m = n - i ∧ i ≤ n ∧ Same H H1 ∧ ∃ kvs, H1 D = some (.dK kvs) ∧ kvs.length ≤ i ∧ Paired (fun a (kv : Key × V) => kv.1 = key a ∧ ∀ H'', But D H1 H'' → R a kv.2 H'') ((xs.take i).filter f) kvs, ⟨n, by simp, Nat.zero_le _, same_new hD, [], upd_same, Nat.le_refl _, .nil⟩, ?_⟩
  rintro i m H1 ⟨rfl, hi, s1, kvs, q1, l1, p1⟩
  have hg := hG H1 s1
  by_cases hlt : i < n
  · refine .inr ⟨w.goes i H1 hlt hg, fun H1 => Same H H1 ∧ ∃ kvs, H1 D = some (.dK kvs) ∧ kvs.length ≤ i + 1 ∧ Paired (fun a (kv : Key × V) => kv.1 = key a ∧ ∀ H'', But D H1 H'' → R a kv.2 H'') ((xs.take (i + 1)).filter f) kvs, fun H' p' => ⟨n - (i + 1), by omega, rfl, hlt, p'⟩, fun x H1' y => ?_⟩
    obtain ⟨T, x1, x2, rfl, nT, rfl, f1, f2⟩ := w.yields i H1 x H1' hlt hg y
    obtain ⟨a, ha⟩ : ∃ a, xs[i]? = some a := ⟨xs[i]'(by omega), List.getElem?_eq_getElem (by omega)⟩
    obtain ⟨g1, g2⟩ := hx i a ha
    obtain rfl : x1 = e1 a := Option.some.inj (f1.symm.trans g1)
    obtain rfl : x2 = e2 a := Option.some.inj (f2.symm.trans g2)
    have hm : a ∈ xs := List.mem_of_getElem? ha
    have sT : Same H1 (upd H1 T (.tup [e1 a, e2 a])) := same_new nT
    have et : xs.take (i + 1) = xs.take i ++ [a] := by
      rw [List.take_add_one, ha]
      rfl
    refine ⟨T, [e1 a, e2 a], rfl, .inl (.inl upd_same), rfl, e1 a, [e2 a], rfl, e2 a, [], rfl, rfl, wipe2, ht a hm _ (s1.trans sT) _ fun H3 s3' => ?_⟩
    have s3 := sT.trans s3'
    cases hf : f a with
    | true =>
      refine iteT (hk a hm hf H3 (s1.trans s3) _ fun H4 s4 => he a hm hf H4 ((s1.trans s3).trans s4) _ fun z H5 s5 r5 => ?_)
      have s35 := (s3.trans s4).trans s5
      have hkn : valV kvs (key a) = none := valV_none_iff.mpr fun m => by
        have hkk : kvs.map (·.1) = ((xs.take i).filter f).map key := paired_mapeq (Paired.mapP p1 fun _ _ h => h.1)
        rw [hkk] at m
        have hsub : (((xs.take i).filter f ++ [a]).map key).Nodup := by
          have : ((xs.take i).filter f ++ [a]).Sublist (xs.filter f) := by
            have h1 : (xs.take (i + 1)).filter f = (xs.take i).filter f ++ [a] := by rw [et, List.filter_append, List.filter_cons, if_pos hf] <;> rfl
            rw [← h1]
            exact (List.take_sublist _ _).filter _
          exact List.Sublist.nodup (this.map key) nd
        rw [List.map_append, List.nodup_append] at hsub
        exact hsub.2.2 _ m _ (by simp) rfl
      refine ⟨kvs, key a, rfl, s35 _ _ q1, Nat.lt_of_le_of_lt l1 (Nat.lt_of_lt_of_le hlt (Nat.le_trans hz (by decide))), same_mut (s1.trans s35) hD, putK kvs (key a) z, upd_same, Nat.le_trans (length_putK _ _ _) (Nat.succ_le_succ l1), ?_⟩
      rw [putK_new z hkn, et, List.filter_append, List.filter_cons, if_pos hf]
      refine Paired.snoc (Paired.mapP p1 fun _ _ h => ⟨h.1, fun H'' b => h.2 H'' (((But.of s35).trans But.upd).trans b)⟩) ⟨rfl, fun H'' b => r5 D H'' ⟨_, s4 _ _ (s3 _ _ q1)⟩ (But.upd.trans b)⟩
    | false =>
      refine iteF ⟨s1.trans s3, kvs, s3 _ _ q1, Nat.le_succ_of_le l1, ?_⟩
      rw [et, List.filter_append, List.filter_cons, if_neg (by rw [hf]; decide)]
      show Paired _ (_ ++ []) _
      rw [List.append_nil]
      exact Paired.mapP p1 fun _ _ h => ⟨h.1, fun H'' b => h.2 H'' ((But.of s3).trans b)⟩
  · have e : i = n := by omega
    subst e
    rw [List.take_of_length_le (by omega)] at p1
    exact .inl ⟨w.stops H1 hg, hd D H1 kvs hD s1 q1 (Paired.mapP p1 fun _ _ h => ⟨h.1, h.2 H1 (But.of (Same.refl H1))⟩)⟩
theorem s_dcItems {σ : L2.St} {H : Hp} {te : TE} {v : V} {g : TG} {tt : TT} {tk tv : TE} {vs : List Nat} {i : Nat} {D : Ends} (h : Ev te σ H v) (k : ∀ H1, Ex H H1 → tAsg (tDc (iItems (tC v)) g tt tk tv vs) (gName i) D σ H1) : tAsg (tDc (iItems te) g tt tk tv vs) (gName i) D σ H := h H (Ex.refl H) _ fun H1 e => k H1 e
/-- name = {..: .. for k, v in d.items() if ..}, d locked -/
theorem s_dcI {K : PySem.W.Frag} {σ : L2.St} {H : Hp} {d : Addr} {od : Obj} {kvs : List (Key × V)} {tt : TT} {tk tv : TE} {i j k : Nat} {D : Ends} (hd : H d = some (.frz od (.dK kvs))) (hz : kvs.length ≤ 100000) (f : Key × V → Bool) (key : Key × V → Key) (R : Key × V → V → Hp → Prop) (nd : ((kvs.filter f).map key).Nodup)
    (ht : ∀ a, a ∈ kvs → EvT tt (((wipe σ [j, k]).set j (some (kV a.1))).set k (some a.2)) H (f a))
    (hk : ∀ a, a ∈ kvs → f a = true → Ev tk (((wipe σ [j, k]).set j (some (kV a.1))).set k (some a.2)) H (kV (key a)))
    (he : ∀ a, a ∈ kvs → f a = true → EvX tv (((wipe σ [j, k]).set j (some (kV a.1))).set k (some a.2)) H (Made (R a)))
    (hn : ∀ N H' kvs', H N = none → Same H H' → H' N = some (.dK kvs') → Paired (fun a kv => kv.1 = key a ∧ R a kv.2 H') (kvs.filter f) kvs' → D.nx (σ.set i (some (.ref N))) H') :
    tAsg (tDc (iItems (tC (.ref d))) (gTup K 2 (gCons (gName j) (gCons (gName k) gNil))) tt tk tv [j, k]) (gName i) D σ H := by
  refine ⟨d, od, kvs, rfl, hd, ?_⟩
  exact dc_two (K := K) (Q := fun x H' => gName i x σ H' D.nx) walk_items kvs (fun kv => kV kv.1) Prod.snd rfl (fun i kv h => ⟨by rw [h] <;> rfl, by rw [h] <;> rfl⟩) hz (fun H' s => s _ _ hd) f key R nd ht hk he hn
/-- name = {..: .. for k, v in enumerate(xs)} -/
theorem s_dcE {K : PySem.W.Frag} {α : Type} {σ : L2.St} {H : Hp} {ta : TA} {a : Addr} (xs : List α) (enc : α → V) {tt : TT} {tk tv : TE} {i j k : Nat} {D : Ends} (hl : EvA ta σ H [.ref a]) (ha : SqL K H a (xs.map enc)) (hz : xs.length ≤ 100000) (f : Nat × α → Bool) (key : Nat × α → Key) (R : Nat × α → V → Hp → Prop) (nd : ((((List.range xs.length).zip xs).filter f).map key).Nodup)
    (ht : ∀ (n : Nat) x, xs[n]? = some x → EvT tt (((wipe σ [j, k]).set j (some (.int (n : Int)))).set k (some (enc x))) H (f (n, x)))
    (hk : ∀ (n : Nat) x, xs[n]? = some x → f (n, x) = true → Ev tk (((wipe σ [j, k]).set j (some (.int (n : Int)))).set k (some (enc x))) H (kV (key (n, x))))
    (he : ∀ (n : Nat) x, xs[n]? = some x → f (n, x) = true → EvX tv (((wipe σ [j, k]).set j (some (.int (n : Int)))).set k (some (enc x))) H (Made (R (n, x))))
    (hn : ∀ N H' kvs', H N = none → Same H H' → H' N = some (.dK kvs') → Paired (fun a kv => kv.1 = key a ∧ R a kv.2 H') (((List.range xs.length).zip xs).filter f) kvs' → D.nx (σ.set i (some (.ref N))) H') :
    tAsg (tDc (iEnum K ta) (gTup K 2 (gCons (gName j) (gCons (gName k) gNil))) tt tk tv [j, k]) (gName i) D σ H := by
  refine hl H (Ex.refl H) _ fun H2 e2 => ?_
  have mm : ∀ (i : Nat) (p : Nat × α), ((List.range xs.length).zip xs)[i]? = some p → p.1 = i ∧ xs[i]? = some p.2 := fun i p hp => by
    obtain ⟨h1, h2⟩ := List.getElem?_zip_eq_some.mp hp
    have hi : i < xs.length := (List.getElem?_eq_some_iff.mp h2).1
    rw [List.getElem?_range hi] at h1
    exact ⟨(Option.some.inj h1).symm, h2⟩
  have mm2 : ∀ p ∈ (List.range xs.length).zip xs, xs[p.1]? = some p.2 := fun p m => by
    obtain ⟨q, hq⟩ := List.getElem?_of_mem m
    obtain ⟨h1, h2⟩ := mm q p hq
    rw [h1]
    exact h2
  refine ⟨a, xs.map enc, rfl, ex_l e2 ha, ?_⟩
  exact dc_two (K := K) (Q := fun x H' => gName i x σ H' D.nx) (walk_enum (K := K) (a := a) (xs := xs.map enc)) ((List.range xs.length).zip xs) (fun p => .int (p.1 : Int)) (fun p => enc p.2) (by rw [List.length_zip, List.length_range, List.length_map]; omega)
    (fun i p h => by
      obtain ⟨h1, h2⟩ := mm i p h
      exact ⟨by rw [h1], by rw [List.getElem?_map, h2] <;> rfl⟩) (by rw [List.length_map]; exact hz) (fun H' s => ex_l (e2.trans s) ha) f key R nd
    (fun p m => (ht p.1 p.2 (mm2 p m)).mono e2) (fun p m hf => (hk p.1 p.2 (mm2 p m) hf).mono e2) (fun p m hf => (he p.1 p.2 (mm2 p m) hf).mono e2) fun N H' kvs' nN s hN pr => hn N H' kvs' (fresh_back e2 nN) (e2.trans s) hN pr
end HC

set_option Elab.async false
set_option linter.all false
set_option maxRecDepth 100000
set_option maxHeartbeats 4000000
namespace HC
open PySem PySem.Spec PyProof.Rows L2 Evl
local macro_rules
  | `(tactic| walk_at "ev") => `(tactic| first
    | exact ev_c
    | exact ev_var rfl
    | exact ea_nil
    | exact et_yes
    | exact eo_none
    | exact rv_I0
    | exact rv_eqI
    | exact rv_neI
    | exact rv_eqS
    | exact rv_neS
    | exact rv_eqB
    | exact rv_neB
    | exact rv_isN
    | exact rv_notN
    | exact rv_leS
    | exact rv_ltS
    | exact ru_neg
    | assumption
    | (apply ea_cons <;> walk_at "ev")
    | (apply et_test <;> walk_at "ev")
    | (apply et_B <;> walk_at "ev")
    | (apply et_not <;> walk_at "ev")
    | (apply ev_op <;> walk_at "ev")
    | (apply ev_un <;> walk_at "ev")
    | (apply ev_isi_int (h := kit_int_int) <;> walk_at "ev")
    | (apply ev_isi_int (h := kit_int_bool) <;> walk_at "ev")
    | (apply ev_isi_str (h := kit_str_str) <;> walk_at "ev")
    | (apply ev_isi_lst (h := kit_list_list) <;> walk_at "ev")
    | (apply ev_isi_tup (h := kit_tuple_tuple) <;> walk_at "ev")
    | (apply rc_lenL ; assumption)
    | (apply rc_lenT ; assumption)
    | (apply rc_lenS ; assumption)
    | (apply ev_chain <;> first | walk_at "ev" | (intro _; walk_at "ev"))
    | (apply et_or <;> first | walk_at "ev" | (intro _; walk_at "ev"))
    | (apply et_and <;> first | walk_at "ev" | (intro _; walk_at "ev"))
    | (apply ev_orV <;> first | walk_at "ev" | (intro _; walk_at "ev"))
    | (apply ev_andV <;> first | walk_at "ev" | (intro _; walk_at "ev"))
    | (apply ev_notV <;> walk_at "ev")
    | (apply ev_cb <;> walk_at "ev")
    | (apply eo_some <;> walk_at "ev"))
local macro_rules
  | `(tactic| walk_at "dec") => `(tactic| first
    | assumption
    | exact dnI
    | exact dnS
    | decide +kernel
    | (with_reducible rfl)
    | (simp only [decide_eq_true_eq, Bool.and_eq_true, Bool.not_eq_true', decide_eq_false_iff_not, Bool.not_true, Bool.not_false, Bool.and_eq_false_iff, Bool.or_eq_false_iff, Bool.or_eq_true]; omega)
    | rfl)
local macro_rules
  | `(tactic| walk_at "dt") => `(tactic| first
    | assumption
    | exact et_yes
    | (apply et_orF <;> walk_at "dt")
    | (apply et_andT <;> walk_at "dt")
    | (apply et_notF; walk_at "dt")
    | (apply et_notT; walk_at "dt")
    | (apply et_chT <;> first | walk_at "ev" | walk_at "dec")
    | (apply et_leaf <;> first | walk_at "ev" | walk_at "dec")
    | (apply et_leafB <;> first | walk_at "ev" | walk_at "dec"))
local macro_rules
  | `(tactic| walk_at "pass") => `(tactic| (refine' q_pass ?zzh ?zzk; (case zzh => walk_at "dt")))
local macro_rules
  | `(tactic| walk_at "yes") => `(tactic| ((first | refine' q_yes ?zzh ?zzk | refine' s_yes ?zzh ?zzk); (case zzh => walk_at "dt")))
local macro_rules
  | `(tactic| walk_at "no") => `(tactic| ((first | refine' q_no ?zzh ?zzk | refine' s_no ?zzh ?zzk); (case zzh => walk_at "dt")))
local macro_rules
  | `(tactic| walk_at "ret") => `(tactic| (refine' s_ret (v := _) ?zzh ?zzk; (case zzh => walk_at "ev")))
local macro_rules
  | `(tactic| walk_at "set") => `(tactic| ((first | refine' q_asg (v := _) ?zzh ?zzk | refine' s_asg (v := _) ?zzh ?zzk); (case zzh => walk_at "ev")))
section
variable {P : Program} {w : World} {K : PySem.W.Frag} {mg : Str → Option Value} {base : Heap}
theorem ev_lenO {σ : L2.St} {H : Hp} {ta : TE} {s : Addr} {ks : List Kind} {n : Nat} {st : St} {E : XK} (ha : Ev ta σ H (.ref s)) (tp : Top K ks n H s st) (hz : st.shown.length ≤ 100000) : Ev (tCB (rLenO (aSession K) (sp_Session_len K) E) (tCons ta tNil)) σ H (.int (st.shown.length : Int)) := fun H1 e Q q =>
  ha H1 e _ fun H2 e2 => by
    have tp2 := tp.mono (e.trans e2)
    obtain ⟨dx, k, L, U, svs, v, hs, _⟩ := tp2
    exact ⟨s, dx, _, rfl, hs, s, ks, n, st, rfl, tp.mono (e.trans e2), fun H3 e3 => ⟨_, rfl, by omega, by omega, q H3 (e2.trans e3)⟩⟩
def sp_Session_add_row (K : PySem.W.Frag) : Sp := fun vs H Q _ => ∃ (s b : Addr) (row : List V) (n : Nat) (ks : List Kind) (B : Hp) (L U : Addr) (sts : List St) (st : St) (uns : List St), vs = [.ref s, .ref b] ∧ SesAt K ks n B H s L U (sts ++ [st]) uns ∧ StOk ks n st ∧ H b = some (.lst row) ∧ RowOk ks row ∧ ks.length ≤ 8 ∧ n ≤ 50 ∧ sts.length ≤ 900 ∧
  ∀ B' H' U', Step [s, L] B H B' H' → SesAt K ks (n + 1) B' H' s L U' (sts ++ [st] ++ [stAdd st row]) [] → H U' = none → Q (nV st.next) H'
/-! Session.add_row: slots 0:self 1:cells 2:state 3:row 4:later -/
theorem sc_Session_add_row : FnScope ["self", "cells", "state", "row", "later"] ["self", "cells"] (defScope s_Session_add_row) := ⟨rfl, rfl, rfl, by decide +kernel, rfl, by decide +kernel, by decide +kernel⟩
theorem ok_Session_add_row (T : Tp K mg w) : FnOk P w K mg base CX0 4 (a_Session_add_row K) (fdAt K (a_Session_add_row K)) ["self", "cells"] (sp_Session_add_row K) := by
  refine T.f_Session_add_row.ok sc_Session_add_row (fun vs H Q E h => ?_) (fun cdv A outer s H vs Q E hr h => ?_)
  · obtain ⟨s, b, row, n, ks, B, L, U, sts, st, uns, rfl, A, ok, hb, okr, hk8, hn, hz, q⟩ := h
    rfl
  · obtain ⟨s, b, row, n, ks, B, L, U, sts, st, uns, rfl, A, ok, hb, okr, hk8, hn, hz, q⟩ := h
    refine ⟨_, PSs.nox (pss_cons (ps_if (pt_not (pt_val (pe_call (ok_is_row (K := K) T) (hr.mono (by decide)) rfl T.g_is_row T.f_is_row.kp T.bn_is_row .nil pass0 (pa_cons (kFld (K := K) (pe_fld (pv 0) rfl) rfl) (pa_cons (pv 1) pa_nil))))) (pss_one ps_never) pss_nil)
      (pss_cons (ps_if (pt_cmpR op_eq (pe_callB (call_lenO (ok_Session_len (K := K) T) (hr.mono (by decide)) T.m_Session_len T.bn_Session_len pass0) rfl T.b_len (by decide +kernel) (pa_cons (pv 0) pa_nil)) (pe_gk rfl T.c_MAX_ROWS) (nomark _)) (pss_one ps_never) pss_nil)
      (pss_cons (ps_set (i := 2) sc_Session_add_row.nd rfl (Or.inl rfl) (pe_ix (kIx (K := K) (r := rIxL) ix_list rfl) (kFld (K := K) (pe_fld (pv 0) rfl) rfl) (pe_un un_neg pe_int) (fun _ _ => rfl)))
      (pss_cons (ps_set (i := 3) sc_Session_add_row.nd rfl (Or.inl rfl) (kFld (K := K) (pe_fld (pv 2) rfl) rfl))
      (pss_cons (ps_set (i := 4) sc_Session_add_row.nd rfl (Or.inl rfl) (pe_callTy call_dictD rfl T.b_dict (by decide +kernel) (pa_cons (kFld (K := K) (pe_fld (pv 2) rfl) rfl) pa_nil)))
      (pss_cons (ps_dput (hu_of hr) (pv 4) (pv 3) (pe_callTy (kCR (K := K) (r := rListQ) call_list_of rfl) rfl T.b_list (by decide +kernel) (pa_cons (pv 1) pa_nil)) rfl)
      (pss_cons (ps_expr (pe_meth (pv 0) T.cl_Session T.m_Session_edit_cells (ok_Session_edit_cells (K := K) T) (hr.mono (by decide)) T.bn_Session_edit_cells .nil pass0 (pa_cons (pv 4) (pa_cons (pe_op op_cat (kFld (K := K) (pe_fld (pv 2) rfl) rfl) (pe_lst (pa_cons (pv 3) pa_nil))) (pa_cons (pe_op op_add (pv 3) pe_int) pa_nil)))))
      (pss_one (ps_ret (pv 3)))))))))), ?_⟩
    have tp := A.top
    obtain ⟨dx, k, svs', uvs, hs, hk, hL, hU, p1, p2⟩ := A.ex
    obtain ⟨svs, sv, rfl, p3, a, da, d0, l0, c0, e0, rfl, ha, hd0, ⟨kvs, hkv, hfull, hnd⟩, hl0, hc0, he0⟩ := paired_snoc_inv p1
    have sB := A.sm
    have hsl := ok.sl
    obtain ⟨kvs', hkv', hlen, hrows⟩ := hd0
    rw [hkv] at hkv'
    cases hkv'
    refine q_pass (et_notF (et_B (ev_call (vs := [.ref k, .ref b]) (ea_cons (ev_fld (ev_var rfl) hs T.cl_Session T.n_Session_kinds rfl) (ea_cons (ev_var rfl) ea_nil)) (spv_is_row (K := K) (sB _ _ hk) hb okr (by omega))))) fun H1 e1 => ?_
    refine q_pass (et_leaf (ev_op (ev_lenO (ev_var rfl) (tp.mono e1) (by omega)) ev_c rv_eqI) (decide_eq_false fun h => by have := V.int.inj h; omega)) fun H2 e2 => ?_
    have e12 := e1.trans e2
    refine q_asg (ev_state T (ev_var rfl) (e12 _ _ hs) (e12 _ _ hL)) fun H3 e3 => ?_
    have e13 := e12.trans e3
    refine q_asg (ev_fld (ev_var rfl) ((sB.trans e13) _ _ ha) T.cl_State T.n_State_next_row rfl) fun H4 e4 => ?_
    have e14 := e13.trans e4
    refine q_asgX (ex_dict (ev_fld (ev_var rfl) ((sB.trans e14) _ _ ha) T.cl_State T.n_State_cells rfl) ((sB.trans e14) _ _ hkv)) fun dv H5 e5 ⟨D, edv, nD, hD⟩ => ?_
    subst edv
    have e15 := e14.trans e5
    have s5 := sB.trans e15
    have nD0 : H D = none := fresh_back e14 nD
    refine q_dputX (a := D) (y := nV st.next) (R := NewL row) (EvX.ofL (el_cb (ea_cons (ev_var rfl) ea_nil) (rcl_list (e15 _ _ hb)))) (ev_var rfl) (ev_var rfl) fun w G H6 g1 g2 ⟨x, ew, nx, hx⟩ => ?_
    subst ew
    have g := g1.trans g2
    have hD6 := g _ _ hD
    refine ⟨_, DPut.k (k := .inl (st.next : Int)) hD6 (sz_lt (by omega)), ?_⟩
    have e17 : Same H (upd H6 D (.dK (putK kvs (.inl (st.next : Int)) (.ref x)))) := same_mut (e15.trans g) nD0
    have nxD : x ≠ D := (ne_of_none hD nx).symm
    refine q_dropMeth (ev_var rfl) (e17 _ _ hs) rfl (eax_v (v := .ref D) (ev_var rfl) (eax_x (B := fun v H3 => ∃ p, v = .ref p ∧ H p = none ∧ H3 p = some (.lst ((st.shown ++ [st.next]).map nV))) (EvX.ofL (el_catX (EvX.of (ev_fld (ev_var rfl) (e17 _ _ (sB _ _ ha)) T.cl_State T.n_State_shown rfl)) (EvX.ofL (el_lst (ea_cons (ev_var rfl) ea_nil) (by show 1 ≤ 100000; omega))) (st.shown.map nV) [nV st.next] (fun v H1 H2 e1 e2 r => ⟨l0, r, e2 _ _ (e1 _ _ (e17 _ _ (sB _ _ hl0)))⟩) (fun v H1 H2 e1 e2 ⟨p, ev, np, hp⟩ => ⟨p, ev, hp⟩) (by rw [List.length_map]; show _ + 1 ≤ _; omega))) (fun v H1 H2 H3 e1 e2 e3 ⟨p, ev, np, hp⟩ => ⟨p, ev, fresh_back (e17.trans e1) np, by rw [List.map_append]; exact e3 _ _ hp⟩)
      (eax_v (v := nV (st.next + 1)) (ev_is (ev_op (ev_var rfl) ev_c rv_I0) (by show V.int ((st.next : Int) + 1) = V.int ((st.next + 1 : Nat) : Int); rw [show ((st.next + 1 : Nat) : Int) = (st.next : Int) + 1 by omega])) eax_nil))) fun vs H8 e8 ⟨u1, f1, u2, lv, f2, ⟨p, fp, np, hp⟩, u3, f3, f4⟩ => ?_
    subst f4 f3 f2 f1 fp
    have e18 := e17.trans e8
    have stp := Step.pure sB e18 []
    have A1 := A.step (n' := n + 1) stp (by simp) (by simp) (by simp) (Nat.le_succ n)
    have so : Same B (ext B H H8) := ext_old
    have hx8 : ext B H H8 x = some (.lst row) := ext_new sB (fresh_back e15 nx) (e8 _ _ (by rw [upd_ne nxD]; exact g2 _ _ hx))
    have hD8 : ext B H H8 D = some (.dK (putK kvs (.inl (st.next : Int)) (.ref x))) := ext_new sB nD0 (e8 _ _ upd_same)
    refine ⟨s, D, p, st.next + 1, n + 1, ks, _, L, U, sts, st, uns, st.shown ++ [st.next], fun q => if q = st.next then row else st.cells q, rfl, A1, put_cells hrows hlen hD8 hx8 so (fun q m => ?_), ⟨_, hD8, put_full hfull hx8 okr so, putK_keys hnd⟩, ext_new sB np hp, hz, fun B' H' U' stp2 A2 nU => ?_⟩
    · rcases List.mem_append.mp m with m | m
      · exact .inr m
      · exact .inl (List.mem_singleton.mp m)
    · exact s_ret (ev_var rfl) fun H9 e9 => q B' H9 U' ((stp.wide (by simp)).trans (stp2.trans ⟨Same.refl B', A2.sm.trans e9, fun a o _ h => e9 a o h, fun _ _ b => b, fun a h e => by
        cases z : H' a with
        | none => exact h z
        | some o =>
          rw [e9 _ _ z] at e
          cases e⟩)) (A2.step (M := []) ⟨Same.refl B', A2.sm.trans e9, fun a o _ h => e9 a o h, fun _ _ b => b, fun a h e => by
        cases z : H' a with
        | none => exact h z
        | some o =>
          rw [e9 _ _ z] at e
          cases e⟩ (by simp) (by simp) (by simp) (Nat.le_refl _)) (fresh_back e18 nU)
def sp_Session_remove_row (K : PySem.W.Frag) : Sp := fun vs H Q _ => ∃ (s : Addr) (r : Nat) (n : Nat) (ks : List Kind) (B : Hp) (L U : Addr) (sts : List St) (st : St) (uns : List St), vs = [.ref s, nV r] ∧ SesAt K ks n B H s L U (sts ++ [st]) uns ∧ StOk ks n st ∧ r ∈ st.shown ∧ ks.length ≤ 8 ∧ n ≤ 500 ∧ sts.length ≤ 900 ∧
  ∀ B' H' U', Step [s, L] B H B' H' → SesAt K ks n B' H' s L U' (sts ++ [st] ++ [stDel st r]) [] → H U' = none → Q .non H'
/-! Session.remove_row: slots 0:self 1:row 2:state 3:cells 4:other 5:values -/
theorem sc_Session_remove_row : FnScope ["self", "row", "state", "cells", "other", "values"] ["self", "row"] (defScope s_Session_remove_row) := ⟨rfl, rfl, rfl, by decide +kernel, rfl, by decide +kernel, by decide +kernel⟩
theorem ok_Session_remove_row (T : Tp K mg w) : FnOk P w K mg base CX0 4 (a_Session_remove_row K) (fdAt K (a_Session_remove_row K)) ["self", "row"] (sp_Session_remove_row K) := by
  refine T.f_Session_remove_row.ok sc_Session_remove_row (fun vs H Q E h => ?_) (fun cdv A outer s H vs Q E hr h => ?_)
  · obtain ⟨s, r, n, ks, B, L, U, sts, st, uns, rfl, A, ok, hr1, hk8, hn, hz, q⟩ := h
    rfl
  · obtain ⟨s, r, n, ks, B, L, U, sts, st, uns, rfl, A, ok, hr1, hk8, hn, hz, q⟩ := h
    refine ⟨_, PSs.nox (pss_cons (ps_expr (pe_meth (pv 0) T.cl_Session T.m_Session_check_row (ok_Session_check_row (K := K) T) (hr.mono (by decide)) T.bn_Session_check_row .nil pass0 (pa_cons (pv 1) pa_nil)))
      (pss_cons (ps_set (i := 2) sc_Session_remove_row.nd rfl (Or.inl rfl) (pe_ix (kIx (K := K) (r := rIxL) ix_list rfl) (kFld (K := K) (pe_fld (pv 0) rfl) rfl) (pe_un un_neg pe_int) (fun _ _ => rfl)))
      (pss_cons (ps_lock (ps_setDc (i := 3) (own := [("other", 4), ("values", 5)]) (g := (gTup K 2 (gCons (gName 4) (gCons (gName 5) gNil)))) rfl sc_Session_remove_row.nd rfl rfl (sw_trueD rfl rfl rfl (by decide +kernel)) (pi_items (kFld (K := K) (pe_fld (pv 2) rfl) rfl)) (blkOk_by (own := [("other", 4), ("values", 5)]) (N := ["self", "row", "state", "cells", "other", "values"]) (sc := defScope s_Session_remove_row) (by decide +kernel)) (fun _ _ _ _ _ => (kTup (K := K) (pg_tup (n := 2) rfl (pgs_cons (pg_name (i := 4) sc_Session_remove_row.nd rfl (Or.inl rfl) (.inr rfl)) (pgs_cons (pg_name (i := 5) sc_Session_remove_row.nd rfl (Or.inl rfl) (.inr rfl)) pgs_nil))) rfl)) (fun _ _ _ _ _ => (pts_one (pt_cmpR op_ne (pv 4) (pv 1) (nomark _)))) (fun _ _ _ _ _ => (pv 4)) (fun _ _ _ _ _ => (pv 5))))
      (pss_one (ps_expr (pe_meth (pv 0) T.cl_Session T.m_Session_edit_cells (ok_Session_edit_cells (K := K) T) (hr.mono (by decide)) T.bn_Session_edit_cells .nil pass0 (pa_cons (pv 3) (pa_cons (pe_lc (own := [("other", 4)]) (g := (gName 4)) rfl sc_Session_remove_row.nd (kPI (K := K) (i := fun K => iList K _) (pi_list (kFld (K := K) (pe_fld (pv 2) rfl) rfl)) rfl) (blkOk_by (own := [("other", 4)]) (N := ["self", "row", "state", "cells", "other", "values"]) (sc := defScope s_Session_remove_row) (by decide +kernel)) (fun _ _ _ _ _ => (pg_name (i := 4) sc_Session_remove_row.nd rfl (Or.inl rfl) (.inr rfl))) (fun _ _ _ _ _ => (pts_one (pt_cmpR op_ne (pv 4) (pv 1) (nomark _)))) (fun _ _ _ _ _ => (pv 4))) (pa_cons (kFld (K := K) (pe_fld (pv 2) rfl) rfl) pa_nil))))))))), ?_⟩
    have tp := A.top
    obtain ⟨dx, k, svs', uvs, hs, hk, hL, hU, p1, p2⟩ := A.ex
    obtain ⟨svs, sv, rfl, p3, a, da, d0, l0, c0, e0, rfl, ha, hd0, ⟨kvs, hkv, hfull, hnd⟩, hl0, hc0, he0⟩ := paired_snoc_inv p1
    have sB := A.sm
    have hsl := ok.sl
    obtain ⟨kvs', hkv', hlen, hrows⟩ := hd0
    rw [hkv] at hkv'
    cases hkv'
    refine q_drop (v := .non) (ev_meth (vs := [nV r]) (ev_var rfl) hs rfl (ea_cons (ev_var rfl) ea_nil) fun H1 e Q k E => ⟨s, ks, n, st, r, rfl, tp.mono e, hr1, k⟩) fun H1 e1 => ?_
    refine q_asg (ev_state T (ev_var rfl) (e1 _ _ hs) (e1 _ _ hL)) fun H2 e2 => ?_
    have e12 := e1.trans e2
    have s2 := sB.trans e12
    have hd2 := s2 _ _ hkv
    have ha2 := s2 _ _ ha
    have nad : a ≠ d0 := fun e => by
      rw [e, hd2] at ha2
      cases ha2
    refine ⟨d0, .dK kvs, hd2, trivial, fun od => ?_⟩
    have hfz : (upd H2 d0 (.frz od (.dK kvs))) a = some (.ins (aState K) da (stFs d0 l0 c0 e0 st.next)) := by
      rw [upd_ne nad]
      exact ha2
    refine s_dcItems (ev_fld (ev_var rfl) hfz T.cl_State T.n_State_cells rfl) fun H3 e3 => ?_
    have hkf : ∀ kv : Key × V, (!decide (kV kv.1 = nV r)) = !decide (kv.1 = (.inl (r : Int) : Key)) := fun kv => by
      by_cases e : kv.1 = (.inl (r : Int) : Key)
      · rw [decide_eq_true e, e]
        exact congrArg not (decide_eq_true rfl)
      · rw [decide_eq_false e]
        exact congrArg not (decide_eq_false fun h => e (kV_inj (b := .inl (r : Int)) h))
    refine s_dcI (K := K) (e3 _ _ upd_same) (by omega) (fun kv => !decide (kv.1 = (.inl (r : Int) : Key))) Prod.fst (fun kv y _ => y = kv.2) (List.Sublist.nodup (List.Sublist.map _ List.filter_sublist) hnd)
      (fun kv m => ?_) (fun kv m _ => ?_) (fun kv m _ => made_val ?_) fun D H4 kvs2 nD e4 hD pr => ?_
    · refine et_leaf (ev_op (ev_var rfl) (ev_var rfl) (rv_ne ?_)) (hkf kv)
      obtain ⟨kk, vv⟩ := kv
      cases kk <;> rfl
    · exact ev_var rfl
    · exact ev_var rfl
    · have ekv : kvs2 = kvs.filter fun kv => !decide (kv.1 = (.inl (r : Int) : Key)) := by
        have := paired_map' (f := fun kv : Key × V => kv) (Paired.mapP pr fun a kv h => Prod.ext h.1 h.2)
        rw [this, List.map_id']
      have hfz4 : H4 d0 = some (.frz od (.dK kvs)) := e4 _ _ (e3 _ _ upd_same)
      refine ⟨hfz4, ?_⟩
      have nDd : D ≠ d0 := (ne_of_none (e3 _ _ upd_same) nD).symm
      have e25 : Same H2 (upd H4 d0 (.dK kvs)) := fun b o hb => by
        by_cases e : b = d0
        · rw [e] at hb ⊢
          rw [upd_same, ← hb, hd2]
        · rw [upd_ne e]
          exact e4 _ _ (e3 _ _ (by rw [upd_ne e]; exact hb))
      have e15 := e12.trans e25
      have s5 := sB.trans e15
      have nD0 : H D = none := by
        refine fresh_back e12 ?_
        have := fresh_back e3 nD
        rw [upd_ne nDd] at this
        exact this
      refine s_dropMeth (ev_var rfl) (e15 _ _ hs) rfl (eax_v (v := .ref D) (ev_var rfl) (eax_x (B := fun v H3 => ∃ p, v = .ref p ∧ H p = none ∧ H3 p = some (.lst ((st.shown.filter fun q => !decide (q = r)).map nV))) (EvX.ofL (el_lcL (K := K) st.shown nV (fun q => !decide (q = r)) nV (ev_fld (ev_var rfl) (s5 _ _ ha) T.cl_State T.n_State_shown rfl) (SqL.of (s5 _ _ hl0)) (by omega) (fun q m => et_leaf (ev_op (ev_var rfl) (ev_var rfl) rv_neI) (by rw [decN])) fun q m _ => ev_var rfl)) (fun v H1 H2 H3 g1 g2 g3 ⟨p, ev, np, hp⟩ => ⟨p, ev, fresh_back (e15.trans g1) np, g3 _ _ hp⟩)
        (eax_v (v := nV st.next) (ev_fld (ev_var rfl) (s5 _ _ ha) T.cl_State T.n_State_next_row rfl) eax_nil))) fun vs H8 e8 ⟨u1, f1, u2, lv, f2, ⟨p, fp, np, hp⟩, u3, f3, f4⟩ => ?_
      subst f4 f3 f2 f1 fp
      have e18 := e15.trans e8
      have stp := Step.pure sB e18 []
      have A1 := A.step (n' := n) stp (by simp) (by simp) (by simp) (Nat.le_refl n)
      have so : Same B (ext B H H8) := ext_old
      have hD8 : ext B H H8 D = some (.dK (kvs.filter fun kv => !decide (kv.1 = (.inl (r : Int) : Key)))) := by
        rw [← ekv]
        refine ext_new sB nD0 (e8 _ _ ?_)
        rw [upd_ne nDd]
        exact hD
      refine ⟨s, D, p, st.next, n, ks, _, L, U, sts, st, uns, _, st.cells, rfl, A1, ⟨_, hD8, Nat.le_trans (List.length_filter_le _ _) hlen, fun q m => ?_⟩, ⟨_, hD8, fun p m => ?_, List.Sublist.nodup (List.Sublist.map _ List.filter_sublist) hnd⟩, ext_new sB np hp, hz, fun B' H' U' stp2 A2 nU => q B' H' U' ((stp.wide (by simp)).trans stp2) A2 (fresh_back e18 nU)⟩
      · obtain ⟨m1, m2⟩ := List.mem_filter.mp m
        obtain ⟨x, h1, h2⟩ := hrows q m1
        have hqr : ¬ q = r := by simpa using m2
        refine ⟨x, ?_, so _ _ h2⟩
        rw [valV_filter (fun v => ?_)]
        · exact h1
        · show (!decide ((.inl (q : Int) : Key) = .inl (r : Int))) = true
          rw [decide_eq_false fun z => hqr (by have := Sum.inl.inj z; omega)]
          rfl
      · obtain ⟨x, row, e, h1, h2⟩ := hfull p (List.mem_filter.mp m).1
        exact ⟨x, row, e, so _ _ h1, h2⟩
end
end HC


set_option Elab.async false
set_option linter.all false
set_option maxRecDepth 100000
set_option maxHeartbeats 2000000
/-! A list == [], != []; a method without arguments within a try. -/
namespace HC
open PySem PySem.Spec PyProof.Rows L2 Evl
section
variable {X : Cx}
def rEq0 (K : PySem.W.Frag) : R2 := fun x y H Q => ∃ a b xs, x = .ref a ∧ y = .ref b ∧ SqL K H a xs ∧ SqL K H b [] ∧ Q (.bl xs.isEmpty) H
def rNe0 (K : PySem.W.Frag) : R2 := fun x y H Q => ∃ a b xs, x = .ref a ∧ y = .ref b ∧ SqL K H a xs ∧ SqL K H b [] ∧ Q (.bl (!xs.isEmpty)) H
theorem op_eq0 (hu : X.A.units + 64 < cLine) : OpR X (compareOp .Eq) (rEq0 X.K) := by
  intro pins s σ H x y v u Q I rx ry h
  obtain ⟨a, b, xs, rfl, rfl, ha, hb, q⟩ := h
  cases xs with
  | nil => exact op_eqD hu pins s σ H _ _ v u Q I rx ry ⟨.list [], .list [], .lst ha .nil, .lst hb .nil, by decide +kernel, by decide +kernel, by
      rw [show PyData.eqv (.list []) (.list []) = true by decide +kernel]
      exact q⟩
  | cons z zs =>
    obtain ⟨its, rv, hl, hz⟩ := I.list ha
    obtain ⟨its2, rv2, hl2, hz2⟩ := I.list hb
    cases rx
    cases ry
    have e2 : its2 = [] := by
      cases rv2
      rfl
    have e1 : its.length = zs.length + 1 := rv.length.symm
    refine PySem.SeqAt.RcAt.lists_lengths hl.isList hl2.isList ?_ (by omega) X.prog X.w _ _ ⟨.bl false, H, I, rfl, q⟩
    rw [e2, List.size_toArray, e1]
    simp
theorem op_ne0 (hu : X.A.units + 64 < cLine) : OpR X (compareOp .NotEq) (rNe0 X.K) := by
  intro pins s σ H x y v u Q I rx ry h
  obtain ⟨a, b, xs, rfl, rfl, ha, hb, q⟩ := h
  cases xs with
  | nil => exact op_neD hu pins s σ H _ _ v u Q I rx ry ⟨.list [], .list [], .lst ha .nil, .lst hb .nil, by decide +kernel, by decide +kernel, by
      rw [show PyData.eqv (.list []) (.list []) = true by decide +kernel]
      exact q⟩
  | cons z zs =>
    obtain ⟨its, rv, hl, hz⟩ := I.list ha
    obtain ⟨its2, rv2, hl2, hz2⟩ := I.list hb
    cases rx
    cases ry
    have e2 : its2 = [] := by
      cases rv2
      rfl
    have e1 : its.length = zs.length + 1 := rv.length.symm
    refine PySem.SeqAt.RcNeAt.lists_lengths hl.isList hl2.isList ?_ (by omega) X.prog X.w _ _ ⟨.bl true, H, I, rfl, q⟩
    rw [e2, List.size_toArray, e1]
    simp
/-- o.m() within a try: what it raises is wished for at the slots as they stand -/
def tMethS0 (C : Addr) (m : Str) (sp : Sp) (E : L2.St → XK) (ta : TE) : TE := fun σ H Q => ta σ H fun x H1 => ∃ a dx fs, x = .ref a ∧ H1 a = some (.ins C dx fs) ∧ fs.lookup m = none ∧ sp [x] H1 Q (E σ)
theorem pe_methS0 {CX : CXT} {k : Nat} {f C : Addr} {fd : FuncData} {ps : List Str} {sp : Sp} {E : L2.St → XK} {m : Str} {pos apos : Pos} {o : Expr} {ta : TE} {pl : Sem Bool} (he : PE X o ta) (c : Cls X.K C) (hm : Meth X.K C m f)
    (F : FnOk X.prog X.w X.K X.mg X.base CX k f fd ps sp) (hr : Room k X.A) (hb : Binds X.K fd ps []) (hx : ∀ σ, PassesAt CX X σ (E σ))
    (ht : eval (.Call (.Attribute o m apos) [] [] pos) X.env = (do
      let ov ← eval o X.env
      standAt apos.atName
      let (f, first) ← holding [ov] (getMethod ov m pl)
      callWith pos f first (backTo pos (starEach [] X.env)) (backToKw pos (keywordEach [] X.env))) := by rfl) :
    PE X (.Call (.Attribute o m apos) [] [] pos) (tMethS0 C m sp E ta) := by
  refine ⟨fun pins s σ H Q I h => ?_⟩
  refine PySem.W.methodCall_KW (pl := pl) (thn (he.run pins s σ H _ I h) fun u s1 ⟨x, H1, I1, rx, a, dx, fs, ex, ea, l, q⟩ => ?_) ht
  subst ex
  obtain rfl : u = Value.ref a := rx
  refine getmeth_ok I1 ea c hm l ?_
  exact PySem.W.callWith_K0 (first := [.ref a]) I1.kIn hm.kp (run_fnS (us := [.ref a]) (vs := [.ref a]) F hr hb (hx σ) I1 (.cons rfl .nil) q)
end
section
variable {K : PySem.W.Frag} {σ : L2.St} {H H' : Hp} {ta tb : TE} {D : Ends} {tz : TS}
/-- a.append(b.pop()) -/
theorem s_appPop {a b : Addr} {xs ys : List V} {y : V} (hne : a ≠ b) (ha : Ev ta σ H (.ref a)) (hb : Ev tb σ H (.ref b)) (hA : H a = some (.lst xs)) (hB : H b = some (.lst (ys ++ [y]))) (hz : xs.length < 100000) (k : ∀ H1, Ex H H1 → D.nx σ (upd (upd H1 b (.lst ys)) a (.lst (xs ++ [y])))) :
    tDrop (tBM K "list" rAppend ta (tCons (tBM0 K "list" rPop tb) tNil)) D σ H := ha H (Ex.refl H) _ fun H1 e1 =>
  ⟨Or.inl ⟨rfl, xs, sq_of (e1 _ _ hA)⟩, hb H1 e1 _ fun H2 e2 => ⟨Or.inl ⟨rfl, ys ++ [y], sq_of (e2 _ _ (e1 _ _ hB))⟩, b, ys ++ [y], y, rfl, rfl, e2 _ _ (e1 _ _ hB), by simp, a, xs, y, rfl, rfl, by
    rw [upd_ne hne]
    exact e2 _ _ (e1 _ _ hA), sz_lt hz, by
    rw [List.dropLast_concat]
    exact k H2 (e1.trans e2)⟩⟩
end
/-- the two lists of a history -/
theorem Step.two {B H H1 : Hp} {a b : Addr} {o1 o2 p1 p2 : HO} (sm : Same B H) (e : Same H H1) (ba : B a = none) (bb : B b = none) (ha : H a = some o1) (hb : H b = some o2) : Step [b, a] B H B (upd (upd H1 b p2) a p1) := by
  have s0 : Same B H1 := sm.trans e
  refine ⟨Same.refl B, same_mut (same_mut s0 bb) ba, fun c o n h => ?_, fun _ _ b => b, fun c h z => ?_⟩
  · rw [upd_ne (fun q => n (by rw [q]; simp)), upd_ne (fun q => n (by rw [q]; simp))]
    exact e _ _ h
  · by_cases q : c = a
    · rw [q, upd_same] at z
      cases z
    · rw [upd_ne q] at z
      by_cases q2 : c = b
      · rw [q2, upd_same] at z
        cases z
      · rw [upd_ne q2] at z
        cases y : H c with
        | none => exact h y
        | some o =>
          rw [e _ _ y] at z
          cases z
end HC

set_option Elab.async false
set_option linter.all false
set_option maxRecDepth 100000
set_option maxHeartbeats 4000000
namespace HC
open PySem PySem.Spec PyProof.Rows L2 Evl
local macro_rules
  | `(tactic| walk_at "ev") => `(tactic| first
    | exact ev_c
    | exact ev_var rfl
    | exact ea_nil
    | exact et_yes
    | exact eo_none
    | exact rv_I0
    | exact rv_eqI
    | exact rv_neI
    | exact rv_eqS
    | exact rv_neS
    | exact rv_eqB
    | exact rv_neB
    | exact rv_isN
    | exact rv_notN
    | exact rv_leS
    | exact rv_ltS
    | exact ru_neg
    | assumption
    | (apply ea_cons <;> walk_at "ev")
    | (apply et_test <;> walk_at "ev")
    | (apply et_B <;> walk_at "ev")
    | (apply et_not <;> walk_at "ev")
    | (apply ev_op <;> walk_at "ev")
    | (apply ev_un <;> walk_at "ev")
    | (apply ev_isi_int (h := kit_int_int) <;> walk_at "ev")
    | (apply ev_isi_int (h := kit_int_bool) <;> walk_at "ev")
    | (apply ev_isi_str (h := kit_str_str) <;> walk_at "ev")
    | (apply ev_isi_lst (h := kit_list_list) <;> walk_at "ev")
    | (apply ev_isi_tup (h := kit_tuple_tuple) <;> walk_at "ev")
    | (apply rc_lenL ; assumption)
    | (apply rc_lenT ; assumption)
    | (apply rc_lenS ; assumption)
    | (apply ev_chain <;> first | walk_at "ev" | (intro _; walk_at "ev"))
    | (apply et_or <;> first | walk_at "ev" | (intro _; walk_at "ev"))
    | (apply et_and <;> first | walk_at "ev" | (intro _; walk_at "ev"))
    | (apply ev_orV <;> first | walk_at "ev" | (intro _; walk_at "ev"))
    | (apply ev_andV <;> first | walk_at "ev" | (intro _; walk_at "ev"))
    | (apply ev_notV <;> walk_at "ev")
    | (apply ev_cb <;> walk_at "ev")
    | (apply eo_some <;> walk_at "ev"))
local macro_rules
  | `(tactic| walk_at "dec") => `(tactic| first
    | assumption
    | exact dnI
    | exact dnS
    | decide +kernel
    | (with_reducible rfl)
    | (simp only [decide_eq_true_eq, Bool.and_eq_true, Bool.not_eq_true', decide_eq_false_iff_not, Bool.not_true, Bool.not_false, Bool.and_eq_false_iff, Bool.or_eq_false_iff, Bool.or_eq_true]; omega)
    | rfl)
local macro_rules
  | `(tactic| walk_at "dt") => `(tactic| first
    | assumption
    | exact et_yes
    | (apply et_orF <;> walk_at "dt")
    | (apply et_andT <;> walk_at "dt")
    | (apply et_notF; walk_at "dt")
    | (apply et_notT; walk_at "dt")
    | (apply et_chT <;> first | walk_at "ev" | walk_at "dec")
    | (apply et_leaf <;> first | walk_at "ev" | walk_at "dec")
    | (apply et_leafB <;> first | walk_at "ev" | walk_at "dec"))
local macro_rules
  | `(tactic| walk_at "pass") => `(tactic| (refine' q_pass ?zzh ?zzk; (case zzh => walk_at "dt")))
local macro_rules
  | `(tactic| walk_at "yes") => `(tactic| ((first | refine' q_yes ?zzh ?zzk | refine' s_yes ?zzh ?zzk); (case zzh => walk_at "dt")))
local macro_rules
  | `(tactic| walk_at "no") => `(tactic| ((first | refine' q_no ?zzh ?zzk | refine' s_no ?zzh ?zzk); (case zzh => walk_at "dt")))
local macro_rules
  | `(tactic| walk_at "ret") => `(tactic| (refine' s_ret (v := _) ?zzh ?zzk; (case zzh => walk_at "ev")))
local macro_rules
  | `(tactic| walk_at "set") => `(tactic| ((first | refine' q_asg (v := _) ?zzh ?zzk | refine' s_asg (v := _) ?zzh ?zzk); (case zzh => walk_at "ev")))
section
variable {P : Program} {w : World} {K : PySem.W.Frag} {mg : Str → Option Value} {base : Heap}
def sp_Session_undo (K : PySem.W.Frag) : Sp := fun vs H Q E => ∃ (s : Addr) (n : Nat) (ks : List Kind) (B : Hp) (L U : Addr) (sts : List St) (st : St) (uns : List St), vs = [.ref s] ∧ SesAt K ks n B H s L U (sts ++ [st]) uns ∧ uns.length ≤ 900 ∧
  (sts = [] → ∀ H', Same H H' → E (.ref (aEmpty K)) none H') ∧ (sts ≠ [] → ∀ H', Step [L, U] B H B H' → SesAt K ks n B H' s L U sts (uns ++ [st]) → Q .non H')
/-! Session.undo: slots 0:self -/
theorem sc_Session_undo : FnScope ["self"] ["self"] (defScope s_Session_undo) := ⟨rfl, rfl, rfl, by decide +kernel, rfl, by decide +kernel, by decide +kernel⟩
theorem ok_Session_undo (T : Tp K mg w) : FnOk P w K mg base (L2.CX P w) 1 (a_Session_undo K) (fdAt K (a_Session_undo K)) ["self"] (sp_Session_undo K) := by
  refine T.f_Session_undo.ok sc_Session_undo (fun vs H Q E h => ?_) (fun cdv A outer s H vs Q E hr h => ?_)
  · obtain ⟨s, n, ks, B, L, U, sts, st, uns, rfl, A, hz, q1, q2⟩ := h
    rfl
  · obtain ⟨s, n, ks, B, L, U, sts, st, uns, rfl, A, hz, q1, q2⟩ := h
    refine ⟨_, (pss_cons (ps_if (pt_cmpR op_eq (pe_callB (kCR (K := K) (r := rLenQ) call_len_seq rfl) rfl T.b_len (by decide +kernel) (pa_cons (kFld (K := K) (pe_fld (pv 0) rfl) rfl) pa_nil)) pe_int (nomark _)) (pss_one (ps_raise rfl (takes_of rfl rfl rfl rfl) (pmk_own PySem.F.excBase_ValueError T.exc_Empty.1 T.g_EmptyHistoryError T.exc_Empty.2.1 (raises_own T.exc_Empty.2.2.1 T.exc_Empty.2.2.2) (by exact rfl)))) pss_nil)
      (pss_one (ps_expr (kBM (K := K) (pe_bm PySem.F.plainAttrs_list PySem.F.slot_list_append PySem.F.type_list_append mt_append (kFld (K := K) (pe_fld (pv 0) rfl) rfl) (pa_cons (kBM0 (K := K) (pe_bm0 PySem.F.plainAttrs_list PySem.F.slot_list_pop PySem.F.type_list_pop mt_pop (kFld (K := K) (pe_fld (pv 0) rfl) rfl)) rfl) pa_nil)) rfl)))), ?_⟩
    obtain ⟨dx, k, svs', uvs, hs, hk, hL, hU, p1, p2⟩ := A.ex
    obtain ⟨svs, sv, rfl, p3, sr⟩ := paired_snoc_inv p1
    have hl1 : (svs ++ [sv]).length = svs.length + 1 := by rw [List.length_append] <;> rfl
    have hl2 := Paired.length p3
    have hl3 := Paired.length p2
    have nsU : s ≠ U := fun e => by
      rw [e, hU] at hs
      cases hs
    have nsL : s ≠ L := fun e => by
      rw [e, hL] at hs
      cases hs
    have eT := ev_op (r := rEq) (σ := L2.start ["self"] [.ref s]) (ev_cb (r := rLenQ K) (ea_cons (ev_fld (ev_var (i := 0) rfl) hs T.cl_Session T.n_Session_states rfl) ea_nil) (rc_lenL hL)) (ev_c (v := .int 1)) rv_eqI
    cases hsts : sts with
    | nil =>
      have h0 : svs.length = 0 := by rw [← hl2, hsts] <;> rfl
      refine q_yes (et_leaf eT (by rw [hl1, h0]; decide)) fun H1 e1 => q1 hsts H1 e1
    | cons z zs =>
      have h0 : svs.length = zs.length + 1 := by rw [← hl2, hsts] <;> rfl
      refine q_no (et_leaf eT (decide_eq_false fun h => by have := V.int.inj h; omega)) fun H1 e1 => ?_
      refine s_appPop (K := K) (a := U) (b := L) A.ne.symm (ev_fld (ev_var rfl) (e1 _ _ hs) T.cl_Session T.n_Session_undone rfl) (ev_fld (ev_var rfl) (e1 _ _ hs) T.cl_Session T.n_Session_states rfl) (e1 _ _ hU) (e1 _ _ hL) (by omega) fun H2 e2 => ?_
      have stp := Step.two (p1 := .lst (uvs ++ [sv])) (p2 := .lst svs) A.sm (e1.trans e2) A.bU A.bL hU hL
      refine q2 (by rw [hsts]; exact List.cons_ne_nil _ _) _ stp ⟨⟨dx, k, svs, uvs ++ [sv], ?_, hk, ?_, upd_same, p3, Paired.snoc p2 sr⟩, A.bs, A.bL, A.bU, A.ne, stp.sH⟩
      · rw [upd_ne nsU, upd_ne nsL]
        exact e2 _ _ (e1 _ _ hs)
      · rw [upd_ne A.ne, upd_same]
def sp_Session_redo (K : PySem.W.Frag) : Sp := fun vs H Q E => ∃ (s : Addr) (n : Nat) (ks : List Kind) (B : Hp) (L U : Addr) (sts uns : List St), vs = [.ref s] ∧ SesAt K ks n B H s L U sts uns ∧ sts.length ≤ 900 ∧
  (uns = [] → ∀ H', Same H H' → E (.ref (aEmpty K)) none H') ∧ (∀ us u, uns = us ++ [u] → ∀ H', Step [L, U] B H B H' → SesAt K ks n B H' s L U (sts ++ [u]) us → Q .non H')
/-! Session.redo: slots 0:self -/
theorem sc_Session_redo : FnScope ["self"] ["self"] (defScope s_Session_redo) := ⟨rfl, rfl, rfl, by decide +kernel, rfl, by decide +kernel, by decide +kernel⟩
theorem ok_Session_redo (T : Tp K mg w) : FnOk P w K mg base (L2.CX P w) 1 (a_Session_redo K) (fdAt K (a_Session_redo K)) ["self"] (sp_Session_redo K) := by
  refine T.f_Session_redo.ok sc_Session_redo (fun vs H Q E h => ?_) (fun cdv A outer s H vs Q E hr h => ?_)
  · obtain ⟨s, n, ks, B, L, U, sts, uns, rfl, A, hz, q1, q2⟩ := h
    rfl
  · obtain ⟨s, n, ks, B, L, U, sts, uns, rfl, A, hz, q1, q2⟩ := h
    refine ⟨_, (pss_cons (ps_if (pt_cmpR (kOp (K := K) (r := rEq0) (op_eq0 (units_of hr)) rfl) (kFld (K := K) (pe_fld (pv 0) rfl) rfl) (pe_lst pa_nil) (nomark _)) (pss_one (ps_raise rfl (takes_of rfl rfl rfl rfl) (pmk_own PySem.F.excBase_ValueError T.exc_Empty.1 T.g_EmptyHistoryError T.exc_Empty.2.1 (raises_own T.exc_Empty.2.2.1 T.exc_Empty.2.2.2) (by exact rfl)))) pss_nil)
      (pss_one (ps_expr (kBM (K := K) (pe_bm PySem.F.plainAttrs_list PySem.F.slot_list_append PySem.F.type_list_append mt_append (kFld (K := K) (pe_fld (pv 0) rfl) rfl) (pa_cons (kBM0 (K := K) (pe_bm0 PySem.F.plainAttrs_list PySem.F.slot_list_pop PySem.F.type_list_pop mt_pop (kFld (K := K) (pe_fld (pv 0) rfl) rfl)) rfl) pa_nil)) rfl)))), ?_⟩
    obtain ⟨dx, k, svs, uvs, hs, hk, hL, hU, p1, p2⟩ := A.ex
    have hl2 := Paired.length p1
    have nsU : s ≠ U := fun e => by
      rw [e, hU] at hs
      cases hs
    have nsL : s ≠ L := fun e => by
      rw [e, hL] at hs
      cases hs
    have eT : Ev (tOp (rEq0 K) (tFld K (tVar 0) "undone") (tLst tNil)) (L2.start ["self"] [.ref s]) H (.bl uvs.isEmpty) := ev_opL (ev_fld (ev_var rfl) hs T.cl_Session T.n_Session_undone rfl) el_nil fun p H1 hp e H2 e2 Q q => ⟨U, p, uvs, rfl, rfl, SqL.of (e2 _ _ (e _ _ hU)), SqL.of (e2 _ _ hp), q H2 (Ex.refl H2)⟩
    rcases uns.eq_nil_or_concat with h0 | ⟨us, u, h0⟩
    · have h1 : uvs = [] := by
        rw [h0] at p2
        cases p2
        rfl
      refine q_yes (et_leaf eT (by rw [h1] <;> rfl)) fun H1 e1 => q1 h0 H1 e1
    · rw [List.concat_eq_append] at h0
      rw [h0] at p2
      obtain ⟨uvs', uv, rfl, p3, sr⟩ := paired_snoc_inv p2
      refine q_no (et_leaf eT (by cases uvs' <;> rfl)) fun H1 e1 => ?_
      refine s_appPop (K := K) (a := L) (b := U) A.ne (ev_fld (ev_var rfl) (e1 _ _ hs) T.cl_Session T.n_Session_states rfl) (ev_fld (ev_var rfl) (e1 _ _ hs) T.cl_Session T.n_Session_undone rfl) (e1 _ _ hL) (e1 _ _ hU) (by omega) fun H2 e2 => ?_
      have stp := Step.two (p1 := .lst (svs ++ [uv])) (p2 := .lst uvs') A.sm (e1.trans e2) A.bL A.bU hL hU
      refine q2 us u h0 _ (stp.wide fun a m => by simp at m ⊢; exact m.symm) ⟨⟨dx, k, svs ++ [uv], uvs', ?_, hk, upd_same, ?_, Paired.snoc p1 sr, p3⟩, A.bs, A.bL, A.bU, A.ne, stp.sH⟩
      · rw [upd_ne nsL, upd_ne nsU]
        exact e2 _ _ (e1 _ _ hs)
      · rw [upd_ne A.ne.symm, upd_same]
end
end HC


set_option Elab.async false
set_option linter.all false
set_option maxRecDepth 100000
set_option maxHeartbeats 2000000
/-! != of instances whose class has its own ==. -/
namespace HC
open PySem PySem.Spec PyProof.Rows L2 Evl
section
variable {prog : Program} {w : World} {A : Around} {E : Value → Shared → Prop} {s : Shared} {K : PySem.W.Frag} {a b C f : Addr} {ox : Obj} {od : Option Obj}
theorem ifBound_ne {args : List Value} {Q : Option Value → Shared → Prop} (X : K.In s.heap) (I : PySem.W.InstAt s.heap a ox C od) (hs : PySem.W.findIn K (.ref C) "__ne__" = some (some (.builtin "object.__ne__")))
    (h : wpAny (model prog w) A (call (.builtin "object.__ne__") (.ref a :: args)) (fun v => Q (some v)) E s) : wpAny (model prog w) A (callSpecialIfBound? (.ref a) "__ne__" args) Q E s := by
  simp only [callSpecialIfBound?, bindSpecialIfBound?]
  refine wpAny_holding (wpAny_bind (wpAny_bind (wpAny_bind (I.type.here ((PySem.W.looks_findIn X hs).here ?_)))))
  refine wpAny_bind (wpAny_askSetting (wpAny_ite ?_))
  have fin : wpAny (model prog w) A (call (.builtin "object.__ne__") ([.ref a] ++ args) >>= fun v => pure (some v)) Q E s := wpAny_bind (wpAny_mono h (fun v s' h' => wpAny_pure h') fun _ _ h' => h')
  split
  · rw [PySem.F.cmp_object.ne.bind]
    exact wpAny_bind (wpAny_pure (wpAny_pure (by exact fin)))
  · rw [PySem.F.cmp_object.ne.bind]
    exact wpAny_tryCatch (wpAny_bind (wpAny_pure (wpAny_pure (by exact fin))))
theorem objNe_own {Q : Fin → Shared → Prop} (X : K.In s.heap) (I : PySem.W.InstAt s.heap a ox C od) (hs : PySem.W.findIn K (.ref C) "__eq__" = some (some (.ref f))) (hf : PySem.W.isFn K (.ref f) = true) (hu : A.units < cLine)
    (hcall : wpAny (model prog w) A (call (.ref f) [.ref a, .ref b]) (fun v s' => ∃ b, v = .bool b ∧ Q (.done (.ret (.bool (!b)))) s') E s) :
    wpAny (model prog w) A (Builtin.«object.__ne__» ⟨[.ref a, .ref b], []⟩) Q E s := by
  unfold Builtin.«object.__ne__»
  repeat (first
    | with_reducible refine wpAny_cRoomFor hu ?_
    | (refine wpAny_bind (m := callSpecialIfBound? (.ref a) (Str.ofString "__eq__") [.ref b])
        (PySem.W.ifBound_K X I hs hf (wpAny_mono hcall (fun r s' hr => by
          obtain ⟨b, rfl, hq⟩ := hr
          repeat (first | exact hq | exact wpAny_pure hq | exact wpAny_truthy_bool hq | (refine wpAny_bind (m := truthy (.bool _)) (wpAny_truthy_bool ?_)) | wp_step)) fun _ _ e => e)))
    | wp_step)
theorem ne_own {h₀ : Heap} {L : Addr} {m : Str → Option Value} {tb : Value} {Q : Value → Shared → Prop} (hu : A.units + 1 < cLine) (F : Fr h₀ L s.heap m) (X₀ : K.In h₀) (I : PySem.W.InstAt s.heap a ox C od) (hb : PySem.W.Looks (model prog w) s.heap (typeOf (.ref b)) tb) (hn : PySem.W.notFirst K C tb = true)
    (hne : PySem.W.findIn K (.ref C) "__ne__" = some (some (.builtin "object.__ne__"))) (hso : PySem.W.subIn K (.ref C) (.type "object") = some true) (hs : PySem.W.findIn K (.ref C) "__eq__" = some (some (.ref f))) (hf : PySem.W.isFn K (.ref f) = true)
    (hcall : wpAny (model prog w) A.in1 (call (.ref f) [.ref a, .ref b]) (fun v s' => ∃ b, v = .bool b ∧ Q (.bool (!b)) s') E s) : wpAny (model prog w) A (compareOp .NotEq (.ref a) (.ref b)) Q E s := by
  have X := X₀.keeps F.keep
  have one : wpAny (model prog w) A (tryCompare (.ref a) (cmpInfo .NotEq).2.1 (.ref b)) (fun r s' => ∃ v, r = some v ∧ Q v s') E s := by
    unfold tryCompare
    refine wpAny_bind (ifBound_ne X I hne (wpAny_call (codeAny_call_builtin PySem.F.cmp_object.ne.plain PySem.F.cmpEntry_ne (PySem.W.check_slot PySem.F.cmpKind_ne PySem.F.cmpSplit_ne (I.type.andThen (PySem.W.looks_subIn X hso)) (PySem.F.cmpArgs_ne _ _)
      (objNe_own (A := A.in1) X I hs hf (by show A.units + 1 < cLine; exact hu) (wpAny_mono hcall (fun v s' hv => ?_) fun _ _ e => e))))))
    obtain ⟨b, rfl, hq⟩ := hv
    exact ⟨b, rfl, wpAny_pure ⟨_, rfl, hq⟩⟩
  unfold compareOp richCompare
  simp only [oneThing_ref]
  refine wpAny_holding (wpAny_bind (wpAny_cRoomFor (Nat.lt_of_succ_lt hu) ?_))
  refine wpAny_bind (I.type.here (wpAny_bind (hb.here ?_)))
  split
  · rename_i q
    have e : PySem.W.subIn K tb (.ref C) = some false := by
      rcases Bool.or_eq_true_iff.mp hn with e | e
      · rw [beq_iff_eq.mp e] at q; simp at q
      · exact beq_iff_eq.mp e
    refine wpAny_bind ((PySem.W.looks_subIn X e).here ?_)
    simp only [Bool.false_eq_true, if_false]
    refine wpAny_bind (wpAny_mono one (fun r s' z => ?_) fun _ _ e => e)
    obtain ⟨v, rfl, hq⟩ := z
    exact wpAny_pure hq
  · refine wpAny_bind (wpAny_pure ?_)
    simp only [Bool.false_eq_true, if_false]
    refine wpAny_bind (wpAny_mono one (fun r s' z => ?_) fun _ _ e => e)
    obtain ⟨v, rfl, hq⟩ := z
    exact wpAny_pure hq
end
section
variable {X : Cx} {CX : CXT} {n : Nat} {f C : Addr} {fd : FuncData} {ps : List Str} {sp : Sp} {E : XK}
def rNeO (C : Addr) (sp : Sp) (E : XK) : R2 := fun x y H Q => ∃ a b dx dy fs gs, x = .ref a ∧ y = .ref b ∧ H a = some (.ins C dx fs) ∧ H b = some (.ins C dy gs) ∧ sp [.ref a, .ref b] H (fun v H' => ∃ t, v = .bl t ∧ Q (.bl (!t)) H') E
theorem op_neO (F : FnOk X.prog X.w X.K X.mg X.base CX n f fd ps sp) (hr : Room (n + 1) X.A) (m : Meth X.K C "__eq__" f) (hne : PySem.W.findIn X.K (.ref C) "__ne__" = some (some (.builtin "object.__ne__"))) (hso : PySem.W.subIn X.K (.ref C) (.type "object") = some true) (hb : Binds X.K fd ps []) (hx : Passes CX X E) :
    OpR X (compareOp .NotEq) (rNeO C sp E) := by
  intro pins s σ H x y v u Q I rx ry h
  obtain ⟨a, b, dx, dy, fs, gs, rfl, rfl, ha, hb', hsp⟩ := h
  cases rx
  cases ry
  obtain ⟨mA, J, _⟩ := ins_get I.hok ha
  obtain ⟨mB, J', _⟩ := ins_get I.hok hb'
  obtain ⟨od, J, _⟩ := J.look
  obtain ⟨od', J', _⟩ := J'.look
  obtain ⟨m', hF⟩ := I.fr
  have hu := hr.un
  refine ne_own (tb := .ref C) (by omega) hF I.ok.mod.kin J J'.type (by simp [PySem.W.notFirst]) hne hso m.at_ m.fn ?_
  have e0 : Env0 X.prog X.w X.K X.mg X.base X.A.in1 X.stack s H := I.env0.in1
  have hl := F.len _ _ _ _ hsp
  have r2 : Vals [V.ref a, V.ref b] [Value.ref a, Value.ref b] := .cons rfl (.cons rfl .nil)
  refine wpAny_call (codeAny_mono (F.run X.A.in1 X.stack s H ⟨[.ref a, .ref b], []⟩ [.ref a, .ref b] [.ref a, .ref b] _ E hr.in1 e0 (by
    have := hb s [.ref a, .ref b] I.kIn (by simpa using hl)
    simpa using this) r2 hsp) fun r s' hq => ?_)
  cases r with
  | error e => exact hx pins σ H s e s' I hq
  | ok fl =>
    cases fl with
    | ret w =>
      obtain ⟨z, H', I', rz, t, ez, q⟩ := I.after hq
      subst ez
      cases rz
      exact ⟨t, rfl, .bl (!t), H', I', rfl, q⟩
    | next => exact False.elim hq
    | brk => exact False.elim hq
    | cont => exact False.elim hq
/-- a dict of lists is equal to itself -/
def rEqSelf : R2 := fun x y H Q => ∃ a ks, x = .ref a ∧ y = .ref a ∧ H a = some (.dK ks) ∧ (ks.map (·.1)).Nodup ∧ (∀ p ∈ ks, ∃ b, p.2 = .ref b) ∧ Q (.bl true) H
theorem hits_self {A : Around} {s : Shared} {kvs : List (Key × V)} {vb : List (Key × Value)} (rb : KV kvs vb) {ks : List (Key × V)} {va : List (Key × Value)} (ra : KV ks va) :
    (∀ p ∈ ks, valV kvs p.1 = some p.2 ∧ ∃ b, p.2 = .ref b) → PySem.W.KeqHits A s vb va true := by
  unfold KV at ra
  induction ra with
  | nil => intro _; exact .nil
  | @cons p q ps qs h t ih =>
    intro hp
    obtain ⟨h1, h2⟩ := h
    obtain ⟨e, b, f⟩ := hp p List.mem_cons_self
    have rr : RelO (some p.2) (valueAt vb p.1) := by rw [← e]; exact rb.val p.1
    obtain ⟨y, hy, ry⟩ := rr.some_of
    obtain ⟨k, v⟩ := q
    have h1' : p.1 = k := h1
    rw [h1'] at hy
    have h2' : RelV p.2 v := h2
    rw [f] at h2' ry
    cases h2'
    cases ry
    show PySem.W.KeqHits A s vb ((k, Value.ref b) :: qs) (true && true)
    exact .hit hy (PySem.SeqAt.EqAt.same _) (ih fun p' hm => hp p' (List.mem_cons_of_mem _ hm))
theorem op_eqSelf (hu : X.A.units < cLine) : OpR X (compareOp .Eq) rEqSelf := by
  intro pins s σ H x y v u Q I rx ry h
  obtain ⟨a, ks, rfl, rfl, ea, nd, hp, q⟩ := h
  obtain rfl : v = Value.ref a := rx
  obtain rfl : u = Value.ref a := ry
  obtain ⟨_, ya, va, ra, da⟩ := (show ObjOk X.prog X.w H s.heap a (.dK ks) from I.hok a _ ea)
  exact PySem.W.keq_eq (knd := mixKind X.prog X.w) (r := true) ya ya da da hu (fun _ => hits_self ra ra fun p m => ⟨val_nodup nd p m, hp p m⟩) (fin_bl I q (by simp))
end
end HC

set_option Elab.async false
set_option linter.all false
set_option maxRecDepth 100000
set_option maxHeartbeats 2000000
namespace HC
open PySem PySem.Spec PyProof.Rows L2 Evl
theorem Step.fresh {M : List Addr} {B H B' H' : Hp} (p : Step M B H B' H') {a : Addr} (h : H' a = none) : H a = none := by
  cases e : H a with
  | none => rfl
  | some o => exact absurd h (p.al a (by rw [e]; exact fun z => nomatch z))
theorem al_of {H H' : Hp} (e : Same H H') : ∀ a, H a ≠ none → H' a ≠ none := fun a h z => by
  cases q : H a with
  | none => exact h q
  | some o =>
    rw [e _ _ q] at z
    cases z
/-- the heap grows, B stays -/
theorem Step.ex {M : List Addr} {B H B' H' H'' : Hp} (p : Step M B H B' H') (e : Same H' H'') : Step M B H B' H'' := ⟨p.sB, p.sH.trans e, fun a o m h => e _ _ (p.fr a o m h), p.mu, fun a h => al_of e a (p.al a h)⟩
theorem Step.refl {M : List Addr} {B H : Hp} (s : Same B H) : Step M B H B H := ⟨Same.refl B, s, fun _ _ _ h => h, fun _ _ b => b, fun _ h => h⟩
theorem Step.mutS {M : List Addr} {B H B' H' : Hp} {m : Addr} {o o' : HO} (p : Step M B H B' H') (hm : m ∈ M) (b : B' m = none) (h : H' m = some o) : Step M B H B' (upd H' m o') :=
  p.trans ((Step.mut (o' := o') p.sH b h).wide fun a q => by
    rw [List.mem_singleton.mp q]
    exact hm)
theorem ext_same' {B H H' : Hp} (s : Same B H') : Same (ext B H H') H' := fun a o h => by
  unfold HC.ext at h
  cases e : B a with
  | some u =>
    rw [e] at h
    cases h
    exact s _ _ e
  | none =>
    rw [e] at h
    cases e2 : H a with
    | some u =>
      rw [e2] at h
      cases h
    | none =>
      rw [e2] at h
      exact h
/-- B takes what is new -/
theorem Step.grow {M : List Addr} {B H H' : Hp} (p : Step M B H B H') : Step M B H (ext B H H') H' := ⟨ext_old, ext_same' p.sH, p.fr, fun a h b => ext_none h b, p.al⟩
section
variable {K : PySem.W.Frag} {σ : L2.St} {H H' : Hp} {ta tb tc te tx tl tv : TE} {t u : TT} {x y z v : V} {D : Ends} {tu tw tz : TS} {g : TG} {R R1 : V → Hp → Hp → Prop}
/-- o.f = what is made -/
theorem s_setFX {f : Str} {p C dx : Addr} {fs : List (Str × V)} (hv : EvX tv σ H R) (ha : Ev ta σ H (.ref p)) (hp : H p = some (.ins C dx fs)) (c : Cls K C) (n : NoAttr K C f) (hl : fs.length < 1000) (k : ∀ v G H1, Ex H G → Ex G H1 → R v H G → D.nx σ (upd H1 p (.ins C dx (putF f v fs)))) : sFld K ta tv f D σ H :=
  hv H (Ex.refl H) _ fun v H1 e1 r => ha H1 e1 _ fun H2 e2 => ⟨p, C, dx, fs, rfl, (e1.trans e2) _ _ hp, c, n, hl, k v H1 H2 e1 e2 r⟩
theorem q_setFX {f : Str} {p C dx : Addr} {fs : List (Str × V)} (hv : EvX tv σ H R) (ha : Ev ta σ H (.ref p)) (hp : H p = some (.ins C dx fs)) (c : Cls K C) (n : NoAttr K C f) (hl : fs.length < 1000) (k : ∀ v G H1, Ex H G → Ex G H1 → R v H G → tz D σ (upd H1 p (.ins C dx (putF f v fs)))) : tSeq (sFld K ta tv f) tz D σ H := s_setFX (D := { D with nx := tz D }) hv ha hp c n hl k
/-- [e], e made -/
theorem ex_lst1X (h : EvX te σ H R) : EvX (tLst (tCons te tNil)) σ H fun v H1 H2 => ∃ L y G, v = .ref L ∧ Ex H1 G ∧ R y H1 G ∧ G L = none ∧ Ex G H2 ∧ H2 L = some (.lst [y]) := fun H1 e Q q =>
  h H1 e _ fun y H2 e2 r => ⟨by show 1 ≤ sizeLine; decide, fun D hD => q _ _ (e2.trans (Ex.new hD)) ⟨D, y, H2, rfl, e2, r, hD, Ex.new hD, upd_same⟩⟩
theorem made_newF {xs : List V} (h : EvX te σ H (NewL xs)) : EvX te σ H (Made fun y H' => ∃ t, y = .ref t ∧ H t = none ∧ H' t = some (.lst xs)) :=
  h.imp fun y H1 H2 e1 e2 ⟨t, ey, nt, ht⟩ D H3 ⟨zs, hz⟩ b => ⟨t, ey, fresh_back e1 nt, b t _ (fun z => by
    rw [z, hz] at nt
    cases nt) ht⟩
theorem el_listD {a : Addr} {kvs : List (Key × V)} (h : Ev te σ H (.ref a)) (ha : H a = some (.dK kvs)) : EvL (tCB rListD (tCons te tNil)) σ H (kvs.map fun kv => kV kv.1) := fun H1 e Q q =>
  h H1 e _ fun H2 e2 => ⟨a, kvs, rfl, (e.trans e2) _ _ ha, fun p hp => q p _ (fresh_back e2 hp) (e2.trans (Ex.new hp)) upd_same⟩
theorem ev_lenD {a : Addr} {kvs : List (Key × V)} (h : Ev te σ H (.ref a)) (ha : H a = some (.dK kvs)) : Ev (tCB (fun xs H Q => ∃ a kvs, xs = [V.ref a] ∧ H a = some (.dK kvs) ∧ Q (.int kvs.length) H) (tCons te tNil)) σ H (.int (kvs.length : Int)) := fun H1 e Q q =>
  h H1 e _ fun H2 e2 => ⟨a, kvs, rfl, (e.trans e2) _ _ ha, q H2 e2⟩
/-- arguments that are new -/
theorem eax_lF {tr : TA} {A : List V → Hp → Prop} {xs : List V} (h : EvL te σ H xs) (hr : EvAX tr σ H A) : EvAX (tCons te tr) σ H fun vs H2 => ∃ us p, vs = .ref p :: us ∧ H p = none ∧ H2 p = some (.lst xs) ∧ A us H2 := fun H1 e Q q =>
  h H1 e _ fun p H2 np e2 hp => hr H2 (e.trans e2) _ fun us H3 e3 a => q _ H3 (e2.trans e3) ⟨us, p, rfl, fresh_back e np, e3 _ _ hp, a⟩
theorem eax_e0 {tr : TA} {A : List V → Hp → Prop} (hr : EvAX tr σ H A) : EvAX (tCons (tTup (tCons (tLst tNil) (tCons (tC (.int 1)) tNil))) tr) σ H fun vs H2 => ∃ us t p, vs = .ref t :: us ∧ H t = none ∧ H p = none ∧ H2 t = some (.tup [.ref p, .int 1]) ∧ H2 p = some (.lst []) ∧ A us H2 := fun H1 e Q q =>
  ex_tup1 (EvX.ofL el_nil) (y := .int 1) ev_c H1 e _ fun v H2 e2 ⟨t, x, G, ev, g1, g2, ⟨p, ex, np, hp⟩, nt, ht⟩ => hr H2 (e.trans e2) _ fun us H3 e3 a => by
    subst ev ex
    exact q _ H3 (e2.trans e3) ⟨us, t, p, rfl, fresh_back e nt, fresh_back e np, e3 _ _ ht, e3 _ _ (g2 _ _ hp), a⟩
/-- x = C(e) -/
theorem q_asgMake {C : Addr} {sp : Sp} {E : XK} {i : Nat} (h : EvX te σ H R) (k : ∀ v H1, Ex H H1 → R v H H1 → ∀ x dx, H1 x = none → H1 dx = none → dx ≠ x → sp [.ref x, v] (upd (upd H1 dx (.own x)) x (.ins C dx [])) (fun u H2 => u = .non ∧ tz D (σ.set i (some (.ref x))) H2) E) :
    tSeq (tAsg (tMake C sp [] E (tCons te tNil)) (gName i)) tz D σ H := h H (Ex.refl H) _ fun v H1 e r x dx nx ndx ne => k v H1 e r x dx nx ndx ne
end
theorem zip_fst_map {β γ : Type} (G : Nat → γ) (l : List β) : ((List.range l.length).zip l).map (fun p => G p.1) = (List.range l.length).map G := by
  have h : (fun p : Nat × β => G p.1) = G ∘ Prod.fst := rfl
  rw [h, ← List.map_map, List.map_fst_zip (by rw [List.length_range]; exact Nat.le_refl _)]
/-- the first state -/
def stNew (rows : List (List V)) : St := { cells := fun i => rows.getD i [], shown := List.range rows.length, clicked := [], keys := [], base := 1, next := rows.length }
theorem stNew_ok {ks : List Kind} {rows : List (List V)} (h : ∀ row ∈ rows, RowOk ks row) : StOk ks rows.length (stNew rows) :=
  ⟨fun r m => by
    have hr := List.mem_range.mp m
    show RowOk ks (rows.getD r [])
    rw [List.getD_eq_getElem?_getD, List.getElem?_eq_getElem hr]
    exact h _ (List.getElem_mem hr), fun r m => List.mem_range.mp m, Nat.le_refl _, Nat.zero_le _, (fun c m => by cases m), Nat.le_refl _, (by show (List.range rows.length).length ≤ _; rw [List.length_range]; exact Nat.le_refl _), List.nodup_range, (fun p m => by cases m), List.nodup_nil, .inl rfl⟩
end HC

set_option Elab.async false
set_option linter.all false
set_option maxRecDepth 100000
set_option maxHeartbeats 4000000
namespace HC
open PySem PySem.Spec PyProof.Rows L2 Evl
local macro_rules
  | `(tactic| walk_at "ev") => `(tactic| first
    | exact ev_c
    | exact ev_var rfl
    | exact ea_nil
    | exact et_yes
    | exact eo_none
    | exact rv_I0
    | exact rv_eqI
    | exact rv_neI
    | exact rv_eqS
    | exact rv_neS
    | exact rv_eqB
    | exact rv_neB
    | exact rv_isN
    | exact rv_notN
    | exact rv_leS
    | exact rv_ltS
    | exact ru_neg
    | assumption
    | (apply ea_cons <;> walk_at "ev")
    | (apply et_test <;> walk_at "ev")
    | (apply et_B <;> walk_at "ev")
    | (apply et_not <;> walk_at "ev")
    | (apply ev_op <;> walk_at "ev")
    | (apply ev_un <;> walk_at "ev")
    | (apply ev_isi_int (h := kit_int_int) <;> walk_at "ev")
    | (apply ev_isi_int (h := kit_int_bool) <;> walk_at "ev")
    | (apply ev_isi_str (h := kit_str_str) <;> walk_at "ev")
    | (apply ev_isi_lst (h := kit_list_list) <;> walk_at "ev")
    | (apply ev_isi_tup (h := kit_tuple_tuple) <;> walk_at "ev")
    | (apply rc_lenL ; assumption)
    | (apply rc_lenT ; assumption)
    | (apply rc_lenS ; assumption)
    | (apply ev_chain <;> first | walk_at "ev" | (intro _; walk_at "ev"))
    | (apply et_or <;> first | walk_at "ev" | (intro _; walk_at "ev"))
    | (apply et_and <;> first | walk_at "ev" | (intro _; walk_at "ev"))
    | (apply ev_orV <;> first | walk_at "ev" | (intro _; walk_at "ev"))
    | (apply ev_andV <;> first | walk_at "ev" | (intro _; walk_at "ev"))
    | (apply ev_notV <;> walk_at "ev")
    | (apply ev_cb <;> walk_at "ev")
    | (apply eo_some <;> walk_at "ev"))
local macro_rules
  | `(tactic| walk_at "dec") => `(tactic| first
    | assumption
    | exact dnI
    | exact dnS
    | decide +kernel
    | (with_reducible rfl)
    | (simp only [decide_eq_true_eq, Bool.and_eq_true, Bool.not_eq_true', decide_eq_false_iff_not, Bool.not_true, Bool.not_false, Bool.and_eq_false_iff, Bool.or_eq_false_iff, Bool.or_eq_true]; omega)
    | rfl)
local macro_rules
  | `(tactic| walk_at "dt") => `(tactic| first
    | assumption
    | exact et_yes
    | (apply et_orF <;> walk_at "dt")
    | (apply et_andT <;> walk_at "dt")
    | (apply et_notF; walk_at "dt")
    | (apply et_notT; walk_at "dt")
    | (apply et_chT <;> first | walk_at "ev" | walk_at "dec")
    | (apply et_leaf <;> first | walk_at "ev" | walk_at "dec")
    | (apply et_leafB <;> first | walk_at "ev" | walk_at "dec"))
local macro_rules
  | `(tactic| walk_at "pass") => `(tactic| (refine' q_pass ?zzh ?zzk; (case zzh => walk_at "dt")))
local macro_rules
  | `(tactic| walk_at "yes") => `(tactic| ((first | refine' q_yes ?zzh ?zzk | refine' s_yes ?zzh ?zzk); (case zzh => walk_at "dt")))
local macro_rules
  | `(tactic| walk_at "no") => `(tactic| ((first | refine' q_no ?zzh ?zzk | refine' s_no ?zzh ?zzk); (case zzh => walk_at "dt")))
local macro_rules
  | `(tactic| walk_at "ret") => `(tactic| (refine' s_ret (v := _) ?zzh ?zzk; (case zzh => walk_at "ev")))
local macro_rules
  | `(tactic| walk_at "set") => `(tactic| ((first | refine' q_asg (v := _) ?zzh ?zzk | refine' s_asg (v := _) ?zzh ?zzk); (case zzh => walk_at "ev")))
section
variable {P : Program} {w : World} {K : PySem.W.Frag} {mg : Str → Option Value} {base : Heap}
def sp_Session_init (K : PySem.W.Frag) : Sp := fun vs H Q _ => ∃ (B : Hp) (s dx : Addr) (v : V) (ks : List Kind) (rows : List (List V)), vs = [.ref s, v] ∧ Same B H ∧ B s = none ∧ H s = some (.ins (aSession K) dx []) ∧ TabAt H v ks rows ∧ TabOk ks rows ∧
  ∀ B' H' L U, Step [s] B H B' H' → SesAt K ks rows.length B' H' s L U [stNew rows] [] → H L = none → H U = none → Q .non H'
/-! Session.__init__: slots 0:self 1:table 2:cells 3:row 4:values -/
theorem sc_Session_init : FnScope ["self", "table", "cells", "row", "values"] ["self", "table"] (defScope s_Session_init) := ⟨rfl, rfl, rfl, by decide +kernel, rfl, by decide +kernel, by decide +kernel⟩
theorem ok_Session_init (T : Tp K mg w) : FnOk P w K mg base CX0 6 (a_Session_init K) (fdAt K (a_Session_init K)) ["self", "table"] (sp_Session_init K) := by
  refine T.f_Session_init.ok sc_Session_init (fun vs H Q E h => ?_) (fun cdv A outer s H vs Q E hr h => ?_)
  · obtain ⟨B, s, dx, v, ks, rows, rfl, sB, bs, hs, ta, tok, q⟩ := h
    rfl
  · obtain ⟨B, s, dx, v, ks, rows, rfl, sB, bs, hs, ta, tok, q⟩ := h
    refine ⟨_, PSs.nox (pss_cons (ps_expr (pe_call (ok_check_table (K := K) T) (hr.mono (by decide)) rfl T.g_check_table T.f_check_table.kp T.bn_check_table .nil pass0 (pa_cons (pv 1) pa_nil)))
      (pss_cons (kS (K := K) (ps_fld (pv 0) (pe_callTy (kCR (K := K) (r := rListQ) call_list_of rfl) rfl T.b_list (by decide +kernel) (pa_cons (pe_ix (kIx (K := K) (r := rIxT) ix_tup rfl) (pv 1) pe_int (fun _ _ => rfl)) pa_nil)) rfl) rfl)
      (pss_cons (ps_setDc (i := 2) (own := [("row", 3), ("values", 4)]) (g := (gTup K 2 (gCons (gName 3) (gCons (gName 4) gNil)))) rfl sc_Session_init.nd rfl rfl (sw_trueD rfl rfl rfl (by decide +kernel)) (kPI (K := K) (i := fun K => iEnum K _) (pi_enum rfl T.b_enumerate (pa_cons (pe_ix (kIx (K := K) (r := rIxT) ix_tup rfl) (pv 1) pe_int (fun _ _ => rfl)) pa_nil)) rfl) (blkOk_by (own := [("row", 3), ("values", 4)]) (N := ["self", "table", "cells", "row", "values"]) (sc := defScope s_Session_init) (by decide +kernel)) (fun _ _ _ _ _ => (kTup (K := K) (pg_tup (n := 2) rfl (pgs_cons (pg_name (i := 3) sc_Session_init.nd rfl (Or.inl rfl) (.inr rfl)) (pgs_cons (pg_name (i := 4) sc_Session_init.nd rfl (Or.inl rfl) (.inr rfl)) pgs_nil))) rfl)) (fun _ _ _ _ _ => pts_nil) (fun _ _ _ _ _ => (pv 3)) (fun _ _ _ _ _ => (pe_callTy (kCR (K := K) (r := rListQ) call_list_of rfl) rfl T.b_list (by decide +kernel) (pa_cons (pv 4) pa_nil))))
      (pss_cons (kS (K := K) (ps_fld (pv 0) (pe_lst (pa_cons (pe_make T.mk_State (ok_State_init (K := K) T) (hr.mono (by decide)) rfl T.g_State T.bn_State_init .nil pass0 (pa_cons (pv 2) (pa_cons (pe_callTy (call_list_dK rfl) rfl T.b_list (by decide +kernel) (pa_cons (pv 2) pa_nil)) (pa_cons (pe_lst pa_nil) (pa_cons (pe_tup (pa_cons (pe_lst pa_nil) (pa_cons pe_int pa_nil))) (pa_cons (pe_callB call_lenD rfl T.b_len (by decide +kernel) (pa_cons (pv 2) pa_nil)) pa_nil)))))) pa_nil)) rfl) rfl)
      (pss_one (kS (K := K) (ps_fld (pv 0) (pe_lst pa_nil) rfl) rfl)))))), ?_⟩
    have hk8 := tok.k8
    have hr60 := tok.r60
    refine q_drop (v := .non) (ev_call (vs := [v]) (ea_cons (ev_var rfl) ea_nil) fun H1 e Q k E => ⟨v, ks, rows, rfl, ta.mono e, tok, fun H' s => k H' s⟩) fun H1 e1 => ?_
    obtain ⟨t, a, b, rs, rfl, ht, ha, hb, pr⟩ := ta.ex
    have hrl : rs.length = rows.length := Paired.length pr
    have s1 : Step [s] B H B H1 := (Step.refl sB).ex e1
    refine q_setFX (EvX.ofL (el_cb (vs := [.ref a]) (ea_cons (ev_op (ev_var rfl) ev_c (rv_ixT (SqT.of (e1 _ _ ht)) (atI_nat (j := 0) rfl))) ea_nil) (rcl_list (e1 _ _ ha)))) (ev_var rfl) (e1 _ _ hs) T.cl_Session T.n_Session_kinds (by show 0 < 1000; omega) fun kv G H2 g1 g2 ⟨k, ekv, nk, hk⟩ => ?_
    subst ekv
    have s2 := s1.ex (g1.trans g2)
    have hs2 := (g1.trans g2) _ _ (e1 _ _ hs)
    have s3 := s2.mutS (o' := .ins (aSession K) dx (putF "kinds" (.ref k) [])) (List.mem_singleton.mpr rfl) bs hs2
    have nk0 : H k = none := s1.fresh nk
    have ks0 : k ≠ s := (ne_of_none hs nk0).symm
    generalize hH3 : upd H2 s (.ins (aSession K) dx (putF "kinds" (.ref k) [])) = H3 at s3 ⊢
    have hs3 : H3 s = some (.ins (aSession K) dx [("kinds", .ref k)]) := by
      rw [← hH3, upd_same]
      rfl
    have hk3 : H3 k = some (.lst (ks.map Kind.v)) := by
      rw [← hH3, upd_ne ks0]
      exact g2 _ _ hk
    have fr3 : ∀ {c : Addr} {o : HO}, c ≠ s → H c = some o → H3 c = some o := fun n h => s3.fr _ _ (fun z => n (List.mem_singleton.mp z)) h
    have ht3 := fr3 (fun z => by rw [z, hs] at ht; cases ht) ht
    have hb3 := fr3 (fun z => by rw [z, hs] at hb; cases hb) hb
    have hrow : ∀ (i : Nat) (x : V), rs[i]? = some x → ∃ c, x = .ref c ∧ H3 c = some (.lst (rows.getD i [])) ∧ i < rows.length := fun i x hx => by
      have hi : i < rows.length := by
        rw [← hrl]
        exact (List.getElem?_eq_some_iff.mp hx).1
      obtain ⟨c, ex, hc⟩ := paired_at pr hx (List.getElem?_eq_getElem hi)
      refine ⟨c, ex, ?_, hi⟩
      rw [List.getD_eq_getElem?_getD, List.getElem?_eq_getElem hi]
      exact fr3 (fun z => by rw [z, hs] at hc; cases hc) hc
    refine s_dcE (K := K) (D := { nx := _, rt := _ }) rs id (ea_cons (ev_op (ev_var rfl) ev_c (rv_ixT (SqT.of ht3) (atI_nat (j := 1) rfl))) ea_nil) (by rw [List.map_id]; exact SqL.of hb3) (by omega) (fun _ => true) (fun p => .inl (p.1 : Int)) (fun p y H' => ∃ c, y = V.ref c ∧ H3 c = none ∧ H' c = some (.lst (rows.getD p.1 []))) ?_ (fun _ _ _ => et_yes) (fun n x hx _ => ev_var rfl) (fun n x hx _ => ?_) fun N H4 kvs nN e4 hN prd => ?_
    · rw [filter_tt]
      rw [zip_fst_map (fun i : Nat => (.inl (i : Int) : Key))]
      exact List.Pairwise.map _ (fun a b (h : a ≠ b) z => h (by have := Sum.inl.inj z; omega)) List.nodup_range
    · obtain ⟨c, ex, hc, _⟩ := hrow n x hx
      subst ex
      exact made_newF (EvX.ofL (el_cb (ea_cons (ev_var rfl) ea_nil) (rcl_list hc)))
    · rw [filter_tt] at prd
      have s4 := s3.ex e4
      have nN0 : H N = none := s3.fresh nN
      have hkeys : kvs.map (·.1) = (List.range rows.length).map fun i : Nat => (.inl (i : Int) : Key) := by
        have h := paired_mapeq (f := fun kv : Key × V => kv.1) (g := fun p : Nat × V => (.inl (p.1 : Int) : Key)) (Paired.mapP prd fun _ _ h => h.1)
        rw [h, zip_fst_map (fun i : Nat => (.inl (i : Int) : Key)), hrl]
      have hnd : (kvs.map (·.1)).Nodup := by
        rw [hkeys]
        exact List.Pairwise.map _ (fun a b (h : a ≠ b) z => h (by have := Sum.inl.inj z; omega)) List.nodup_range
      have hlen : kvs.length = rows.length := by
        have := congrArg List.length hkeys
        rw [List.length_map, List.length_map, List.length_range] at this
        exact this
      have hval : ∀ p ∈ kvs, ∃ i c, i < rows.length ∧ p.1 = (.inl (i : Int) : Key) ∧ p.2 = V.ref c ∧ H c = none ∧ H4 c = some (.lst (rows.getD i [])) := fun p m => by
        obtain ⟨x, hx, h1, c, h2, h3, h4⟩ := paired_mem prd m
        obtain ⟨j, hj⟩ := List.getElem?_of_mem hx
        obtain ⟨g1, g2⟩ := List.getElem?_zip_eq_some.mp hj
        have hj2 : j < rs.length := (List.getElem?_eq_some_iff.mp g2).1
        rw [List.getElem?_range hj2] at g1
        have g1 := Option.some.inj g1
        exact ⟨x.1, c, by omega, h1, h2, s3.fresh h3, h4⟩
      have hcell : ∀ r, r < rows.length → ∃ c, valV kvs (.inl (r : Int)) = some (.ref c) ∧ H c = none ∧ H4 c = some (.lst (rows.getD r [])) := fun r hr => by
        have m : (.inl (r : Int) : Key) ∈ kvs.map (·.1) := by
          rw [hkeys]
          exact List.mem_map.mpr ⟨r, List.mem_range.mpr hr, rfl⟩
        obtain ⟨p, mp, ep⟩ := List.mem_map.mp m
        obtain ⟨i, c, hi, h1, h2, h3, h4⟩ := hval p mp
        have hir : i = r := by
          rw [h1] at ep
          have := Sum.inl.inj ep
          omega
        subst hir
        refine ⟨c, ?_, h3, h4⟩
        rw [← h1, ← h2]
        exact val_nodup hnd p mp
      have hs4 := e4 _ _ hs3
      have hlist : kvs.map (fun kv => kV kv.1) = (List.range rows.length).map nV := by
        have : (fun kv : Key × V => kV kv.1) = kV ∘ fun kv => kv.1 := rfl
        rw [this, ← List.map_map, hkeys, List.map_map]
        rfl
      refine q_setFX (ex_lst1X (ex_mkState (eax_v (v := .ref N) (ev_var rfl) (eax_lF (el_listD (ev_var rfl) hN) (eax_lF el_nil (eax_e0 (eax_v (ev_lenD (ev_var rfl) hN) eax_nil)))))
          (fun xs H5 => ∃ l c t p, xs = [.ref N, .ref l, .ref c, .ref t, nV rows.length] ∧ H4 l = none ∧ H5 l = some (.lst ((List.range rows.length).map nV)) ∧ H4 c = none ∧ H5 c = some (.lst []) ∧ H4 t = none ∧ H4 p = none ∧ H5 t = some (.tup [.ref p, .int 1]) ∧ H5 p = some (.lst []))
          fun vs H5 ⟨u1, f1, u2, l, f2, nl, hl, u3, c, f3, nc, hc, u4, t', p', f4, nt, np, ht', hp', u5, f5, f6⟩ => ?_)) (ev_var rfl) hs4 T.cl_Session T.n_Session_states (by show 1 < 1000; omega) fun lv G H5 g1 g2 ⟨L, y, Gk, elv, k1, ⟨G0, a1, dx1, x1, x2, x3, x4, x5, k2, k3, ey, na1, ⟨l, c, t', p', exs, nl, hl, nc, hc, nt, np, ht', hp'⟩, ha1⟩, nL, k4, hLG⟩ => ?_
      · subst f6 f5 f4 f3 f2 f1
        rw [hlist] at hl
        rw [hlen]
        exact ⟨_, _, _, _, _, rfl, l, c, t', p', rfl, nl, hl, nc, hc, nt, np, ht', hp'⟩
      · subst elv ey
        cases exs
        have sk := (s4.ex k1).grow
        have bs' : ext B H Gk s = none := ext_none (by rw [hs]; exact fun z => nomatch z) bs
        have s5 := (sk.ex k4).ex g2
        have hs5 := g2 _ _ (k4 _ _ (k1 _ _ hs4))
        have s6 := s5.mutS (o' := .ins (aSession K) dx (putF "states" (.ref L) [("kinds", .ref k)])) (List.mem_singleton.mpr rfl) bs' hs5
        have nLs : L ≠ s := (ne_of_none (k1 _ _ hs4) nL).symm
        refine ⟨by show 0 ≤ sizeLine; decide, fun U nU => ?_⟩
        have nUs : U ≠ s := (ne_of_none (o := .ins (aSession K) dx (putF "states" (.ref L) [("kinds", .ref k)])) upd_same nU).symm
        have hL6 : (upd H5 s (.ins (aSession K) dx (putF "states" (.ref L) [("kinds", .ref k)]))) L = some (.lst [.ref a1]) := by
          rw [upd_ne nLs]
          exact g2 _ _ hLG
        have nUL : U ≠ L := (ne_of_none hL6 nU).symm
        have hs6 : (upd (upd H5 s (.ins (aSession K) dx (putF "states" (.ref L) [("kinds", .ref k)]))) U (.lst [])) s = some (.ins (aSession K) dx [("kinds", .ref k), ("states", .ref L)]) := by
          rw [upd_ne nUs.symm, upd_same]
          rfl
        refine ⟨.ref s, rfl, s, aSession K, dx, _, rfl, hs6, T.cl_Session, T.n_Session_undone, by show 2 < 1000; omega, ?_⟩
        have s7 := s6.trans (Step.new (o := .lst []) s6.sH nU [s])
        have s8 := s7.mutS (o' := .ins (aSession K) dx (putF "undone" (.ref U) [("kinds", .ref k), ("states", .ref L)])) (List.mem_singleton.mpr rfl) bs' hs6
        have nU0 : H U = none := s6.fresh nU
        have nL0 : H L = none := (s4.ex k1).fresh nL
        have bL : ext B H Gk L = none := fresh_back sk.sH nL
        have bU : ext B H Gk U = none := fresh_back s6.sH nU
        have e4k : Same H4 Gk := k1
        have nw : ∀ {q : Addr} {o : HO}, H q = none → Gk q = some o → ext B H Gk q = some o := fun h1 h2 => ext_new sB h1 h2
        refine q _ _ L U s8 ⟨⟨dx, k, [.ref a1], [], upd_same, nw nk0 (e4k _ _ (e4 _ _ hk3)), ?_, ?_, .cons ⟨a1, dx1, N, l, c, _, rfl, nw (s4.fresh na1) ha1, ⟨kvs, nw nN0 (e4k _ _ hN), by omega, fun r m => ?_⟩, ⟨kvs, nw nN0 (e4k _ _ hN), fun p m => ?_, hnd⟩, nw (s4.fresh nl) (k3 _ _ hl), nw (s4.fresh nc) (k3 _ _ hc), t', p', [], rfl, nw (s4.fresh nt) (k3 _ _ ht'), nw (s4.fresh np) (k3 _ _ hp'), .nil⟩ .nil, .nil⟩, bs', bL, bU, nUL.symm, s8.sH⟩ nL0 nU0
        · rw [upd_ne nLs, upd_ne nUL.symm]
          exact hL6
        · rw [upd_ne nUs, upd_same]
        · obtain ⟨cc, h1, h2, h3⟩ := hcell r (List.mem_range.mp m)
          exact ⟨cc, h1, nw h2 (e4k _ _ h3)⟩
        · obtain ⟨i, cc, hi, h1, h2, h3, h4⟩ := hval p m
          refine ⟨cc, _, h2, nw h3 (e4k _ _ h4), ?_⟩
          rw [List.getD_eq_getElem?_getD, List.getElem?_eq_getElem hi]
          exact tok.ok _ (List.getElem_mem hi)
end
end HC


set_option Elab.async false
set_option linter.all false
set_option maxRecDepth 100000
set_option maxHeartbeats 4000000
namespace HC
open PySem PySem.Spec PyProof.Rows L2 Evl
local macro_rules
  | `(tactic| walk_at "ev") => `(tactic| first
    | exact ev_c
    | exact ev_var rfl
    | exact ea_nil
    | exact et_yes
    | exact eo_none
    | exact rv_I0
    | exact rv_eqI
    | exact rv_neI
    | exact rv_eqS
    | exact rv_neS
    | exact rv_eqB
    | exact rv_neB
    | exact rv_isN
    | exact rv_notN
    | exact rv_leS
    | exact rv_ltS
    | exact ru_neg
    | assumption
    | (apply ea_cons <;> walk_at "ev")
    | (apply et_test <;> walk_at "ev")
    | (apply et_B <;> walk_at "ev")
    | (apply et_not <;> walk_at "ev")
    | (apply ev_op <;> walk_at "ev")
    | (apply ev_un <;> walk_at "ev")
    | (apply ev_isi_int (h := kit_int_int) <;> walk_at "ev")
    | (apply ev_isi_int (h := kit_int_bool) <;> walk_at "ev")
    | (apply ev_isi_str (h := kit_str_str) <;> walk_at "ev")
    | (apply ev_isi_lst (h := kit_list_list) <;> walk_at "ev")
    | (apply ev_isi_tup (h := kit_tuple_tuple) <;> walk_at "ev")
    | (apply rc_lenL ; assumption)
    | (apply rc_lenT ; assumption)
    | (apply rc_lenS ; assumption)
    | (apply ev_chain <;> first | walk_at "ev" | (intro _; walk_at "ev"))
    | (apply et_or <;> first | walk_at "ev" | (intro _; walk_at "ev"))
    | (apply et_and <;> first | walk_at "ev" | (intro _; walk_at "ev"))
    | (apply ev_orV <;> first | walk_at "ev" | (intro _; walk_at "ev"))
    | (apply ev_andV <;> first | walk_at "ev" | (intro _; walk_at "ev"))
    | (apply ev_notV <;> walk_at "ev")
    | (apply ev_cb <;> walk_at "ev")
    | (apply eo_some <;> walk_at "ev"))
local macro_rules
  | `(tactic| walk_at "dec") => `(tactic| first
    | assumption
    | exact dnI
    | exact dnS
    | decide +kernel
    | (with_reducible rfl)
    | (simp only [decide_eq_true_eq, Bool.and_eq_true, Bool.not_eq_true', decide_eq_false_iff_not, Bool.not_true, Bool.not_false, Bool.and_eq_false_iff, Bool.or_eq_false_iff, Bool.or_eq_true]; omega)
    | rfl)
local macro_rules
  | `(tactic| walk_at "dt") => `(tactic| first
    | assumption
    | exact et_yes
    | (apply et_orF <;> walk_at "dt")
    | (apply et_andT <;> walk_at "dt")
    | (apply et_notF; walk_at "dt")
    | (apply et_notT; walk_at "dt")
    | (apply et_chT <;> first | walk_at "ev" | walk_at "dec")
    | (apply et_leaf <;> first | walk_at "ev" | walk_at "dec")
    | (apply et_leafB <;> first | walk_at "ev" | walk_at "dec"))
local macro_rules
  | `(tactic| walk_at "pass") => `(tactic| (refine' q_pass ?zzh ?zzk; (case zzh => walk_at "dt")))
local macro_rules
  | `(tactic| walk_at "yes") => `(tactic| ((first | refine' q_yes ?zzh ?zzk | refine' s_yes ?zzh ?zzk); (case zzh => walk_at "dt")))
local macro_rules
  | `(tactic| walk_at "no") => `(tactic| ((first | refine' q_no ?zzh ?zzk | refine' s_no ?zzh ?zzk); (case zzh => walk_at "dt")))
local macro_rules
  | `(tactic| walk_at "ret") => `(tactic| (refine' s_ret (v := _) ?zzh ?zzk; (case zzh => walk_at "ev")))
local macro_rules
  | `(tactic| walk_at "set") => `(tactic| ((first | refine' q_asg (v := _) ?zzh ?zzk | refine' s_asg (v := _) ?zzh ?zzk); (case zzh => walk_at "ev")))
section
variable {P : Program} {w : World} {K : PySem.W.Frag} {mg : Str → Option Value} {base : Heap}
abbrev dKs (ks : List Kind) : PyData := .list (ks.map fun k => .str k.s)
theorem dp_ks {H : Hp} {a : Addr} {ks : List Kind} (h : H a = some (.lst (ks.map Kind.v))) : Dp K H (.ref a) (dKs ks) := .lst (SqL.of h) (dpAll_of (paired_self fun k _ => .str _))
theorem lay_ks {n : Nat} (ks : List Kind) : Lay (n + 1) (dKs ks) := lay_map fun k _ => lay_str (by cases k <;> decide +kernel)
theorem lastV_scal2 (o : Option Nat) : scal (lastV o) (lastV o) = true := by cases o <;> rfl
def sp_Session_eq (K : PySem.W.Frag) : Sp := fun vs H Q _ => ∃ (s o : Addr) (ks : List Kind) (n : Nat) (st : St) (dx k L U dx2 k2 L2 U2 : Addr) (svs svs2 : List V) (v : V), vs = [.ref s, .ref o] ∧ H s = some (.ins (aSession K) dx (seFs k L U)) ∧ H k = some (.lst (ks.map Kind.v)) ∧ H L = some (.lst (svs ++ [v])) ∧
  H o = some (.ins (aSession K) dx2 (seFs k2 L2 U2)) ∧ H k2 = some (.lst (ks.map Kind.v)) ∧ H L2 = some (.lst (svs2 ++ [v])) ∧ StRep K ks n H v st ∧ RetV (.bl true) H Q
/-! Session.__eq__: slots 0:self 1:other -/
theorem sc_Session_eq : FnScope ["self", "other"] ["self", "other"] (defScope s_Session_eq) := ⟨rfl, rfl, rfl, by decide +kernel, rfl, by decide +kernel, by decide +kernel⟩
theorem ok_Session_eq (T : Tp K mg w) : FnOk P w K mg base CX0 2 (a_Session_eq K) (fdAt K (a_Session_eq K)) ["self", "other"] (sp_Session_eq K) := by
  refine T.f_Session_eq.ok sc_Session_eq (fun vs H Q E h => ?_) (fun cdv A outer s H vs Q E hr h => ?_)
  · obtain ⟨s, o, ks, n, st, dx, k, L, U, dx2, k2, L2, U2, svs, svs2, v, rfl, hs, hk, hL, ho, hk2, hL2, sr, q⟩ := h
    rfl
  · obtain ⟨s, o, ks, n, st, dx, k, L, U, dx2, k2, L2, U2, svs, svs2, v, rfl, hs, hk, hL, ho, hk2, hL2, sr, q⟩ := h
    refine ⟨_, PSs.nox (pss_cons (ps_if (PW.pt (pw_or (pt_not (pt_val (pe_callB (C8.call_isC T.insC) rfl T.b_isinstance (by decide +kernel) (pa_cons (pv 1) (pa_cons (pe_glob (v := .ref (aSession K)) rfl T.g_Session rfl) pa_nil))))) (pw_or1 (pt_cmpR (kOp (K := K) (r := rNeD) (op_neD (units_of hr)) rfl) (kFld (K := K) (pe_fld (pv 0) rfl) rfl) (kFld (K := K) (pe_fld (pv 1) rfl) rfl) (nomark _))))) (pss_one (ps_ret pe_bl)) pss_nil)
      (pss_cons (ps_if (PW.pt (pw_or (pt_cmpR op_ne (pe_meth0 (pv 0) T.cl_Session T.m_Session_last_clicked (ok_Session_last_clicked (K := K) T) (hr.mono (by decide)) T.bn_Session_last_clicked .nil pass0) (pe_meth0 (pv 1) T.cl_Session T.m_Session_last_clicked (ok_Session_last_clicked (K := K) T) (hr.mono (by decide)) T.bn_Session_last_clicked .nil pass0) (nomark _)) (pw_or1 (pt_cmpR (kOp (K := K) (r := rNeD) (op_neD (units_of hr)) rfl) (pe_meth0 (pv 0) T.cl_Session T.m_Session_view (ok_Session_view (K := K) T) (hr.mono (by decide)) T.bn_Session_view .nil pass0) (pe_meth0 (pv 1) T.cl_Session T.m_Session_view (ok_Session_view (K := K) T) (hr.mono (by decide)) T.bn_Session_view .nil pass0) (nomark _))))) (pss_one (ps_ret pe_bl)) pss_nil)
      (pss_one (ps_ret (pe_cmpR (op_eqSelf (Nat.lt_of_le_of_lt (Nat.le_add_right _ 64) (units_of hr))) (kFld (K := K) (pe_fld (pe_ix (kIx (K := K) (r := rIxL) ix_list rfl) (kFld (K := K) (pe_fld (pv 0) rfl) rfl) (pe_un un_neg pe_int) (fun _ _ => rfl)) rfl) rfl) (kFld (K := K) (pe_fld (pe_ix (kIx (K := K) (r := rIxL) ix_list rfl) (kFld (K := K) (pe_fld (pv 1) rfl) rfl) (pe_un un_neg pe_int) (fun _ _ => rfl)) rfl) rfl) (nomark _)))))), ?_⟩
    have tp : Top K ks n H s st := ⟨dx, k, L, U, svs, v, hs, hk, hL, sr⟩
    have tp2 : Top K ks n H o st := ⟨dx2, k2, L2, U2, svs2, v, ho, hk2, hL2, sr⟩
    obtain ⟨a, da, d0, l0, c0, e0, rfl, ha, hd0, ⟨kvs, hkv, hfull, hnd⟩, hl0, hc0, he0⟩ := sr
    refine q_pass (et_orF (et_notF (et_B (ev_cb (vs := [.ref o, .ref (aSession K)]) (ea_cons (ev_var rfl) (ea_cons ev_c ea_nil)) fun H1 e Q k => ⟨o, dx2, _, rfl, e _ _ ho, k H1 (Ex.refl H1)⟩))) (et_leaf (ev_op (ev_fld (ev_var rfl) hs T.cl_Session T.n_Session_kinds rfl) (ev_fld (ev_var rfl) ho T.cl_Session T.n_Session_kinds rfl) (rv_neDt (dp_ks hk) (dp_ks hk2) (lay_ks ks))) rfl)) fun H1 e1 => ?_
    refine q_pass (et_orF (et_leaf (ev_op (ev_meth (vs := []) (ev_var rfl) (e1 _ _ hs) rfl ea_nil fun H2 e Q k E => ⟨s, ks, n, st, rfl, tp.mono (e1.trans e), k⟩) (ev_meth (vs := []) (ev_var rfl) (e1 _ _ ho) rfl ea_nil fun H2 e Q k E => ⟨o, ks, n, st, rfl, tp2.mono (e1.trans e), k⟩) (rv_ne (lastV_scal2 _))) (by rw [decide_eq_true rfl] <;> rfl))
      (et_leaf (ev_opLL (el_meth (vs := []) (ev_var rfl) (e1 _ _ hs) rfl ea_nil fun H2 e Q k E => ⟨s, ks, n, st, rfl, tp.mono (e1.trans e), k⟩) (el_meth (vs := []) (ev_var rfl) (e1 _ _ ho) rfl ea_nil fun H2 e Q k E => ⟨o, ks, n, st, rfl, tp2.mono (e1.trans e), k⟩) fun p q H2 hp hq e => rv_neNs hp hq) (by rw [decide_eq_true rfl] <;> rfl))) fun H2 e2 => ?_
    have e12 := e1.trans e2
    exact s_ret (ev_op (ev_fld (ev_state T (ev_var rfl) (e12 _ _ hs) (e12 _ _ hL)) (e12 _ _ ha) T.cl_State T.n_State_cells rfl) (ev_fld (ev_state T (ev_var rfl) (e12 _ _ ho) (e12 _ _ hL2)) (e12 _ _ ha) T.cl_State T.n_State_cells rfl) fun H3 e3 Q k => ⟨d0, kvs, rfl, rfl, e3 _ _ (e12 _ _ hkv), hnd, fun p m => by
      obtain ⟨x, _, e, _⟩ := hfull p m
      exact ⟨x, e⟩, k H3 (Ex.refl H3)⟩) fun H3 e3 => q H3 (e12.trans e3)
theorem Step.drop {M : List Addr} {B H B' H' : Hp} (p : Step M B H B' H') (h : ∀ m ∈ M, H m = none) : Step [] B H B' H' := ⟨p.sB, p.sH, fun a o _ e => p.fr a o (fun m => by rw [h a m] at e; cases e) e, p.mu, p.al⟩
theorem paired_rep {ks : List Kind} : RowOk ks (List.replicate ks.length .non) := by
  induction ks with
  | nil => exact .nil
  | cons k ks ih => exact .cons (.non k) ih
def sp_Session_duplicate (K : PySem.W.Frag) : Sp := fun vs H Q _ => ∃ (s : Addr) (n : Nat) (ks : List Kind) (B : Hp) (L U : Addr) (sts uns : List St), vs = [.ref s] ∧ SesAt K ks n B H s L U sts uns ∧ 1 ≤ ks.length ∧ ks.length ≤ 8 ∧
  ∀ B' H' c L' U', Step [] B H B' H' → SesAt K ks n B' H' c L' U' sts uns → H c = none → H L' = none → H U' = none → (∀ xs, H L = some (.lst xs) → H' L' = some (.lst xs)) → Q (.ref c) H'
/-! Session.duplicate: slots 0:self 1:copy -/
theorem sc_Session_duplicate : FnScope ["self", "copy"] ["self"] (defScope s_Session_duplicate) := ⟨rfl, rfl, rfl, by decide +kernel, rfl, by decide +kernel, by decide +kernel⟩
theorem ok_Session_duplicate (T : Tp K mg w) : FnOk P w K mg base CX0 8 (a_Session_duplicate K) (fdAt K (a_Session_duplicate K)) ["self"] (sp_Session_duplicate K) := by
  refine T.f_Session_duplicate.ok sc_Session_duplicate (fun vs H Q E h => ?_) (fun cdv A outer s H vs Q E hr h => ?_)
  · obtain ⟨s, n, ks, B, L, U, sts, uns, rfl, A, hk1, hk8, q⟩ := h
    rfl
  · obtain ⟨s, n, ks, B, L, U, sts, uns, rfl, A, hk1, hk8, q⟩ := h
    refine ⟨_, PSs.nox (pss_cons (ps_set (i := 1) sc_Session_duplicate.nd rfl (Or.inl rfl) (pe_make T.mk_Session (ok_Session_init (K := K) T) (hr.mono (by decide)) rfl T.g_Session T.bn_Session_init .nil pass0 (pa_cons (pe_tup (pa_cons (kFld (K := K) (pe_fld (pv 0) rfl) rfl) (pa_cons (pe_lst (pa_cons (pe_op op_rep (pe_lst (pa_cons pe_non pa_nil)) (pe_callB (kCR (K := K) (r := rLenQ) call_len_seq rfl) rfl T.b_len (by decide +kernel) (pa_cons (kFld (K := K) (pe_fld (pv 0) rfl) rfl) pa_nil))) pa_nil)) pa_nil))) pa_nil)))
      (pss_cons (kS (K := K) (ps_fld (pv 1) (pe_callTy (kCR (K := K) (r := rListQ) call_list_of rfl) rfl T.b_list (by decide +kernel) (pa_cons (kFld (K := K) (pe_fld (pv 0) rfl) rfl) pa_nil)) rfl) rfl)
      (pss_cons (kS (K := K) (ps_fld (pv 1) (pe_callTy (kCR (K := K) (r := rListQ) call_list_of rfl) rfl T.b_list (by decide +kernel) (pa_cons (kFld (K := K) (pe_fld (pv 0) rfl) rfl) pa_nil)) rfl) rfl)
      (pss_one (ps_ret (pv 1)))))), ?_⟩
    obtain ⟨dx, k, svs, uvs, hs, hk, hL, hU, p1, p2⟩ := A.ex
    have sB := A.sm
    refine q_asgMake (ex_tup2 (x := .ref k) (R := fun v H1 H2 => ∃ D l, v = .ref D ∧ H2 D = some (.lst [.ref l]) ∧ H2 l = some (.lst (List.replicate ks.length .non))) (ev_fld (ev_var rfl) hs T.cl_Session T.n_Session_kinds rfl) ((ex_lst1L (xs := List.replicate ks.length .non) fun H1 e Q q => ?_).imp fun v H1 H2 _ _ ⟨D, l, ev, nD, hD, hl⟩ => ⟨D, l, ev, hD, hl⟩)) fun tv H1 e1 ⟨t, y, G0, G, etv, g0, g1, g2, ⟨D, l, ey, hD, hl⟩, nt, ht⟩ x dx2 nx ndx ne => ?_
    · refine el_lst (ea_cons ev_c ea_nil) (by show 1 ≤ 100000; omega) H1 e _ fun p H2 np e2 hp => ?_
      refine ev_cb (r := rLenQ K) (ea_cons (ev_fld (ev_var (i := 0) rfl) ((e.trans e2) _ _ hs) T.cl_Session T.n_Session_kinds rfl) ea_nil) (rc_lenM ((e.trans e2) _ _ (sB _ _ hk))) H2 (Ex.refl H2) _ fun H3 e3 => ?_
      refine ⟨p, _, _, rfl, rfl, e3 _ _ hp, by omega, by omega, by show 1 * _ ≤ sizeLine; exact sz_of (by omega), fun l nl => ?_⟩
      have er : (List.replicate ((ks.length : Int)).toNat [V.non]).flatten = List.replicate ks.length .non := by
        rw [Int.toNat_natCast]
        clear hk1 hk8
        induction ks.length with
        | zero => rfl
        | succ n ih => rw [List.replicate_succ, List.replicate_succ, List.flatten_cons, ih] <;> rfl
      rw [er]
      exact q l _ (fresh_back (e2.trans e3) nl) ((e2.trans e3).trans (Ex.new nl)) upd_same
    · subst etv ey
      have nx0 : H x = none := fresh_back e1 nx
      have ndx0 : H dx2 = none := fresh_back e1 ndx
      have s0 : Step [x] B H B H1 := (Step.refl sB).ex e1
      have s1 := s0.trans (Step.new (o := .own x) s0.sH ndx [x])
      have nx1 : (upd H1 dx2 (.own x)) x = none := by
        rw [upd_ne ne.symm]
        exact nx
      have s2 := s1.trans (Step.new (o := .ins (aSession K) dx2 []) s1.sH nx1 [x])
      have e2 : Same H1 (upd (upd H1 dx2 (.own x)) x (.ins (aSession K) dx2 [])) := (same_new ndx).trans (same_new nx1)
      have hx2 : (upd (upd H1 dx2 (.own x)) x (.ins (aSession K) dx2 [])) x = some (.ins (aSession K) dx2 []) := upd_same
      generalize upd (upd H1 dx2 (.own x)) x (.ins (aSession K) dx2 []) = H2 at s2 e2 hx2 ⊢
      have bx : B x = none := fresh_back (sB.trans e1) nx
      refine ⟨B, x, dx2, .ref t, ks, [List.replicate ks.length .non], rfl, s2.sH, bx, hx2, ⟨t, k, D, [.ref l], rfl, e2 _ _ ht, e2 _ _ (e1 _ _ (sB _ _ hk)), e2 _ _ (g2 _ _ hD), .cons ⟨l, rfl, e2 _ _ (g2 _ _ hl)⟩ .nil⟩, ⟨hk1, hk8, by show 1 ≤ 1; omega, by show 1 ≤ 60; omega, fun row m => by rw [List.mem_singleton.mp m]; exact paired_rep⟩, fun B' H3 L' U' st A' nL nU => ⟨rfl, ?_⟩⟩
      have s3 : Step [x] B H B' H3 := s2.trans st
      obtain ⟨dx', k', _, _, hx3, hk', _⟩ := A'.ex
      have old : ∀ {c : Addr} {o : HO}, H c = some o → H3 c = some o := fun h => s3.fr _ _ (fun m => by rw [List.mem_singleton.mp m, nx0] at h; cases h) h
      have hs3 := old hs
      refine q_setFX (EvX.ofL (el_cb (ea_cons (ev_fld (ev_var rfl) hs3 T.cl_Session T.n_Session_states rfl) ea_nil) (rcl_list (old hL)))) (ev_var rfl) hx3 T.cl_Session T.n_Session_states (by show 3 < 1000; omega) fun w G4 H4 f1 f2 ⟨L2, ew, nL2, hL2⟩ => ?_
      subst ew
      have s4 := (s3.ex (f1.trans f2)).mutS (o' := .ins (aSession K) dx' (putF "states" (.ref L2) (seFs k' L' U'))) (List.mem_singleton.mpr rfl) A'.bs ((f1.trans f2) _ _ hx3)
      have nL2x : L2 ≠ x := (ne_of_none hx3 nL2).symm
      have bL2 : B' L2 = none := fresh_back s3.sH nL2
      have hx4 : (upd H4 x (.ins (aSession K) dx' (putF "states" (.ref L2) (seFs k' L' U')))) x = some (.ins (aSession K) dx' (seFs k' L2 U')) := upd_same
      have hL4 : (upd H4 x (.ins (aSession K) dx' (putF "states" (.ref L2) (seFs k' L' U')))) L2 = some (.lst svs) := by
        rw [upd_ne nL2x]
        exact f2 _ _ hL2
      generalize upd H4 x (.ins (aSession K) dx' (putF "states" (.ref L2) (seFs k' L' U'))) = H4' at s4 hx4 hL4 ⊢
      have old4 : ∀ {c : Addr} {o : HO}, H c = some o → H4' c = some o := fun h => s4.fr _ _ (fun m => by rw [List.mem_singleton.mp m, nx0] at h; cases h) h
      refine q_setFX (EvX.ofL (el_cb (ea_cons (ev_fld (ev_var rfl) (old4 hs) T.cl_Session T.n_Session_undone rfl) ea_nil) (rcl_list (old4 hU)))) (ev_var rfl) hx4 T.cl_Session T.n_Session_undone (by show 3 < 1000; omega) fun w G5 H5 f3 f4 ⟨U2, ew, nU2, hU2⟩ => ?_
      subst ew
      have s5 := (s4.ex (f3.trans f4)).mutS (o' := .ins (aSession K) dx' (putF "undone" (.ref U2) (seFs k' L2 U'))) (List.mem_singleton.mpr rfl) A'.bs ((f3.trans f4) _ _ hx4)
      have nU2x : U2 ≠ x := (ne_of_none hx4 nU2).symm
      have nU2L : L2 ≠ U2 := ne_of_none hL4 nU2
      have bU2 : B' U2 = none := fresh_back s4.sH nU2
      refine s_ret (ev_var rfl) fun H6 e6 => ?_
      have s6 := s5.ex e6
      refine q B' H6 x L2 U2 (s6.drop fun m hm => by rw [List.mem_singleton.mp hm]; exact nx0) ⟨⟨dx', k', svs, uvs, e6 _ _ upd_same, hk', ?_, ?_, Paired.mapP p1 fun _ _ r => r.mono s3.sB (Nat.le_refl n), Paired.mapP p2 fun _ _ r => r.mono s3.sB (Nat.le_refl n)⟩, A'.bs, bL2, bU2, nU2L, s6.sH⟩ nx0 (s3.fresh nL2) (s4.fresh nU2) fun xs hxs => ?_
      · refine e6 _ _ ?_
        rw [upd_ne nL2x]
        exact f4 _ _ (f3 _ _ hL4)
      · refine e6 _ _ ?_
        rw [upd_ne nU2x]
        exact f4 _ _ hU2
      · rw [hL] at hxs
        cases hxs
        refine e6 _ _ ?_
        rw [upd_ne nL2x]
        exact f4 _ _ (f3 _ _ hL4)
end
end HC


set_option Elab.async false
set_option linter.all false
set_option maxRecDepth 100000
set_option maxHeartbeats 2000000
namespace HC
open PySem PySem.Spec PyProof.Rows L2 Evl
theorem OpR_or {X : Cx} {f : Value → Value → Sem Value} {r r' : R2} (h : OpR X f r) (h' : OpR X f r') : OpR X f (fun x y H Q => r x y H Q ∨ r' x y H Q) := fun pins s σ H x y v u Q I rx ry d => d.elim (h pins s σ H x y v u Q I rx ry) (h' pins s σ H x y v u Q I rx ry)
theorem CallR_or {X : Cx} {f : Value} {r r' : List V → Hp → VK → Prop} (h : CallR X f r) (h' : CallR X f r') : CallR X f (fun xs H Q => r xs H Q ∨ r' xs H Q) := fun pins s σ H xs us Q I rx d => d.elim (h pins s σ H xs us Q I rx) (h' pins s σ H xs us Q I rx)
/-- put in at a place -/
theorem put_at {lt : Nat → Nat → Bool} {x : Nat} : ∀ {acc : List Nat} {p : Nat}, p ≤ acc.length → (∀ j, j < p → lt x (acc.getD j 0) = false) → (p < acc.length → lt x (acc.getD p 0) = true) → put lt acc x = acc.take p ++ x :: acc.drop p
  | [], p, hp, _, _ => by
    have : p = 0 := by simpa using hp
    subst this
    rfl
  | y :: acc, 0, _, _, h2 => by
    have h : lt x y = true := h2 (by show 0 < acc.length + 1; omega)
    unfold put
    rw [List.takeWhile_cons, List.dropWhile_cons, h]
    rfl
  | y :: acc, p + 1, hp, h1, h2 => by
    have h : lt x y = false := h1 0 (by omega)
    have ih := put_at (acc := acc) (p := p) (by simpa using hp) (fun j hj => h1 (j + 1) (by omega)) (fun hj => h2 (by show p + 1 < acc.length + 1; omega))
    unfold put at ih ⊢
    rw [List.takeWhile_cons, List.dropWhile_cons, h]
    show y :: _ ++ x :: _ = y :: _ ++ x :: _
    rw [List.cons_append, List.cons_append, List.cons.injEq]
    exact ⟨rfl, ih⟩
theorem isrtA_snoc {lt : Nat → Nat → Bool} (l : List Nat) (x : Nat) : isrt lt (l ++ [x]) = put lt (isrt lt l) x := by
  unfold isrt isrtA
  rw [List.foldl_append]
  rfl
section
variable {K : PySem.W.Frag} {σ : L2.St} {H H' : Hp} {ta tb tc te tx tl tv : TE} {t u : TT} {x y z v : V} {D : Ends} {tu tw tz : TS}
abbrev rInsert : V → List V → Hp → VK → Prop := fun x vs H Q => ∃ (l : Addr) (xs : List V) (i : Int) (y : V), x = .ref l ∧ vs = [.int i, y] ∧ H l = some (.lst xs) ∧ xs.length < sizeLine ∧ 0 ≤ i ∧ i < 2 ^ 63 ∧
    Q .non (upd H l (.lst (xs.take i.toNat ++ [y] ++ xs.drop i.toNat)))
theorem s_insert {l : Addr} {xs : List V} {p : Nat} (hl : H l = some (.lst xs)) (ha : Ev ta σ H (.ref l)) (hi : Ev tb σ H (.int (p : Int))) (hv : Ev tc σ H v) (hz : xs.length < 100000) (hp : p ≤ xs.length) (k : ∀ H1, Ex H H1 → D.nx σ (upd H1 l (.lst (xs.take p ++ v :: xs.drop p)))) :
    tDrop (tBM K "list" rInsert ta (tCons tb (tCons tc tNil))) D σ H := ha H (Ex.refl H) _ fun H1 e1 =>
  ⟨Or.inl ⟨rfl, xs, sq_of (e1 l _ hl)⟩, hi H1 e1 _ fun H2 e2 => hv H2 (e1.trans e2) _ fun H3 e3 => ⟨l, xs, (p : Int), v, rfl, rfl, e3 _ _ (e2 _ _ (e1 _ _ hl)), sz_lt hz, by omega, by omega, by
    rw [Int.toNat_natCast, List.append_assoc]
    exact k H3 ((e1.trans e2).trans e3)⟩⟩
theorem rv_or1 {r r' : R2} (h : RV r x y H z) : RV (fun x y H Q => r x y H Q ∨ r' x y H Q) x y H z := fun H1 e Q q => .inl (h H1 e Q q)
theorem rv_or2 {r r' : R2} (h : RV r' x y H z) : RV (fun x y H Q => r x y H Q ∨ r' x y H Q) x y H z := fun H1 e Q q => .inr (h H1 e Q q)
end
end HC

set_option Elab.async false
set_option linter.all false
set_option maxRecDepth 100000
set_option maxHeartbeats 4000000
namespace HC
open PySem PySem.Spec PyProof.Rows L2 Evl
local macro_rules
  | `(tactic| walk_at "ev") => `(tactic| first
    | exact ev_c
    | exact ev_var rfl
    | exact ea_nil
    | exact et_yes
    | exact eo_none
    | exact rv_I0
    | exact rv_eqI
    | exact rv_neI
    | exact rv_eqS
    | exact rv_neS
    | exact rv_eqB
    | exact rv_neB
    | exact rv_isN
    | exact rv_notN
    | exact rv_leS
    | exact rv_ltS
    | exact ru_neg
    | assumption
    | (apply ea_cons <;> walk_at "ev")
    | (apply et_test <;> walk_at "ev")
    | (apply et_B <;> walk_at "ev")
    | (apply et_not <;> walk_at "ev")
    | (apply ev_op <;> walk_at "ev")
    | (apply ev_un <;> walk_at "ev")
    | (apply ev_isi_int (h := kit_int_int) <;> walk_at "ev")
    | (apply ev_isi_int (h := kit_int_bool) <;> walk_at "ev")
    | (apply ev_isi_str (h := kit_str_str) <;> walk_at "ev")
    | (apply ev_isi_lst (h := kit_list_list) <;> walk_at "ev")
    | (apply ev_isi_tup (h := kit_tuple_tuple) <;> walk_at "ev")
    | (apply rc_lenL ; assumption)
    | (apply rc_lenT ; assumption)
    | (apply rc_lenS ; assumption)
    | (apply ev_chain <;> first | walk_at "ev" | (intro _; walk_at "ev"))
    | (apply et_or <;> first | walk_at "ev" | (intro _; walk_at "ev"))
    | (apply et_and <;> first | walk_at "ev" | (intro _; walk_at "ev"))
    | (apply ev_orV <;> first | walk_at "ev" | (intro _; walk_at "ev"))
    | (apply ev_andV <;> first | walk_at "ev" | (intro _; walk_at "ev"))
    | (apply ev_notV <;> walk_at "ev")
    | (apply ev_cb <;> walk_at "ev")
    | (apply eo_some <;> walk_at "ev"))
local macro_rules
  | `(tactic| walk_at "dec") => `(tactic| first
    | assumption
    | exact dnI
    | exact dnS
    | decide +kernel
    | (with_reducible rfl)
    | (simp only [decide_eq_true_eq, Bool.and_eq_true, Bool.not_eq_true', decide_eq_false_iff_not, Bool.not_true, Bool.not_false, Bool.and_eq_false_iff, Bool.or_eq_false_iff, Bool.or_eq_true]; omega)
    | rfl)
local macro_rules
  | `(tactic| walk_at "dt") => `(tactic| first
    | assumption
    | exact et_yes
    | (apply et_orF <;> walk_at "dt")
    | (apply et_andT <;> walk_at "dt")
    | (apply et_notF; walk_at "dt")
    | (apply et_notT; walk_at "dt")
    | (apply et_chT <;> first | walk_at "ev" | walk_at "dec")
    | (apply et_leaf <;> first | walk_at "ev" | walk_at "dec")
    | (apply et_leafB <;> first | walk_at "ev" | walk_at "dec"))
local macro_rules
  | `(tactic| walk_at "pass") => `(tactic| (refine' q_pass ?zzh ?zzk; (case zzh => walk_at "dt")))
local macro_rules
  | `(tactic| walk_at "yes") => `(tactic| ((first | refine' q_yes ?zzh ?zzk | refine' s_yes ?zzh ?zzk); (case zzh => walk_at "dt")))
local macro_rules
  | `(tactic| walk_at "no") => `(tactic| ((first | refine' q_no ?zzh ?zzk | refine' s_no ?zzh ?zzk); (case zzh => walk_at "dt")))
local macro_rules
  | `(tactic| walk_at "ret") => `(tactic| (refine' s_ret (v := _) ?zzh ?zzk; (case zzh => walk_at "ev")))
local macro_rules
  | `(tactic| walk_at "set") => `(tactic| ((first | refine' q_asg (v := _) ?zzh ?zzk | refine' s_asg (v := _) ?zzh ?zzk); (case zzh => walk_at "ev")))
section
variable {P : Program} {w : World} {K : PySem.W.Frag} {mg : Str → Option Value} {base : Heap}
def sp_law_less (_ : PySem.W.Frag) : Sp := fun vs H Q _ => ∃ (k : Kind) (u v : V), vs = [k.v, u, v] ∧ CellOk k u ∧ CellOk k v ∧ RetV (.bl (keyLt (skey k u) (skey k v))) H Q
/-! _law_less: slots 0:_law_kind 1:_law_first 2:_law_second -/
theorem sc_law_less : FnScope ["_law_kind", "_law_first", "_law_second"] ["_law_kind", "_law_first", "_law_second"] (defScope s_law_less) := ⟨rfl, rfl, rfl, by decide +kernel, rfl, by decide +kernel, by decide +kernel⟩
theorem ok_law_less (T : Tp K mg w) : FnOk P w K mg base CX0 1 (a_law_less K) (fdAt K (a_law_less K)) ["_law_kind", "_law_first", "_law_second"] (sp_law_less K) := by
  refine T.f_law_less.ok sc_law_less (fun vs H Q E h => ?_) (fun cdv A outer s H vs Q E hr h => ?_)
  · obtain ⟨k, u, v, rfl, hu, hv, q⟩ := h
    rfl
  · obtain ⟨k, u, v, rfl, hu, hv, q⟩ := h
    refine ⟨_, PSs.nox (pss_cons (ps_if (PW.pt (pw_or (pt_cmpR op_isN (pv 1) pe_non (nomark _)) (pw_or1 (pt_cmpR op_isN (pv 2) pe_non (nomark _))))) (pss_one (ps_ret (pe_and (pe_cmpR op_isN (pv 1) pe_non (nomark _)) (pe_one (pe_cmpR op_notN (pv 2) pe_non (nomark _)))))) pss_nil)
      (pss_cons (ps_if (pt_cmpR op_eq (pv 0) pe_str (nomark _)) (pss_one (ps_ret (pe_cmpR op_lt_str (pe_lower (pv 1)) (pe_lower (pv 2)) (nomark _)))) pss_nil)
      (pss_one (ps_ret (pe_cmpR (OpR_or op_lt op_lt_str) (pv 1) (pv 2) (nomark _)))))), ?_⟩
    have tt : ∀ (b : Bool), (u = V.non ∨ v = V.non) → (decide (u = V.non) && !decide (v = V.non)) = keyLt (skey k u) (skey k v) → tSeq (tIfS (tOr (tTest (tOp rIsNon (tVar 1) (tC .non))) (tTest (tOp rIsNon (tVar 2) (tC .non)))) (tRet (tAndV (tOp rIsNon (tVar 1) (tC .non)) (tOp rNotNon (tVar 2) (tC .non)))) tNext)
        (tSeq (tIfS (tTest (tOp rEq (tVar 0) (tC (.str "caseless")))) (tRet (tOp rLtS (tM0 (fun x xs H Q => ∃ a, x = .str a ∧ xs = [] ∧ a.length ≤ 5592405 ∧ Q (.str (Txt.lower a)) H) (tVar 1)) (tM0 (fun x xs H Q => ∃ a, x = .str a ∧ xs = [] ∧ a.length ≤ 5592405 ∧ Q (.str (Txt.lower a)) H) (tVar 2)))) tNext) (tRet (tOp (fun x y H Q => (rI0 fun a b => V.bl (decide (a < b))) x y H Q ∨ rLtS x y H Q) (tVar 1) (tVar 2))))
        { nx := fun x H' => Q V.non H', rt := Q } (L2.start ["_law_kind", "_law_first", "_law_second"] [k.v, u, v]) H := fun _ h e => by
      refine q_yes ?_ fun H1 e1 => s_ret (v := .bl (keyLt (skey k u) (skey k v))) ?_ fun H2 e2 => q H2 (e1.trans e2)
      · rcases h with h | h
        · exact et_orT (et_leaf (ev_op (ev_var rfl) ev_c rv_isN) (decide_eq_true h))
        · have := et_or (et_leaf (b := decide (u = V.non)) (ev_op (ev_var (i := 1) (σ := L2.start ["_law_kind", "_law_first", "_law_second"] [k.v, u, v]) (H := H) rfl) ev_c rv_isN) rfl) (fun _ => et_leaf (b := true) (ev_op (ev_var (i := 2) rfl) ev_c rv_isN) (decide_eq_true h))
          rw [Bool.or_true] at this
          exact this
      · rw [← e]
        exact ev_andV (ev_op (ev_var rfl) ev_c rv_isN) fun _ => ev_op (ev_var rfl) ev_c rv_notN
    cases hu with
    | non =>
      refine tt true (.inl rfl) ?_
      cases hv with
      | non => cases k <;> decide +kernel
      | num i hi => rw [dnI] <;> rfl
      | str k z hk hz => cases k <;> first | exact absurd rfl hk | (rw [dnS]; rfl)
    | num i hi =>
      cases hv with
      | non => exact tt true (.inr rfl) (by rw [dnI] <;> rfl)
      | str k z hk hz => exact absurd rfl hk
      | num j hj =>
        refine q_pass (et_orF (et_leaf (ev_op (ev_var rfl) ev_c rv_isN) dnI) (et_leaf (ev_op (ev_var rfl) ev_c rv_isN) dnI)) fun H1 e1 => ?_
        refine q_pass (et_leaf (ev_op (ev_var rfl) ev_c rv_eqS) (by decide +kernel)) fun H2 e2 => ?_
        refine s_ret (v := .bl (keyLt (skey .num (.int i)) (skey .num (.int j)))) (ev_is (ev_op (ev_var rfl) (ev_var rfl) (rv_or1 (rv_I0 (g := fun a b => V.bl (decide (a < b))) (i := i) (j := j)))) ?_) fun H3 e3 => q H3 ((e1.trans e2).trans e3)
        rfl
    | str k z hk hz =>
      cases hv with
      | non => exact tt true (.inr rfl) (by cases k <;> first | exact absurd rfl hk | (rw [dnS]; rfl))
      | num j hj => exact absurd rfl hk
      | str k z2 hk2 hz2 =>
        obtain ⟨⟨_, h20⟩, _⟩ := txt_codes z hz
        obtain ⟨⟨_, h21⟩, _⟩ := txt_codes z2 hz2
        refine q_pass (et_orF (et_leaf (ev_op (ev_var rfl) ev_c rv_isN) dnS) (et_leaf (ev_op (ev_var rfl) ev_c rv_isN) dnS)) fun H1 e1 => ?_
        cases k with
        | num => exact absurd rfl hk
        | txt =>
          refine q_pass (et_leaf (ev_op (ev_var rfl) ev_c rv_eqS) (by decide +kernel)) fun H2 e2 => ?_
          refine s_ret (v := .bl (keyLt (skey .txt (.str z)) (skey .txt (.str z2)))) (ev_is (ev_op (ev_var rfl) (ev_var rfl) (rv_or2 rv_ltS)) ?_) fun H3 e3 => q H3 ((e1.trans e2).trans e3)
          rfl
        | cas =>
          refine q_yes (et_leaf (ev_op (ev_var rfl) ev_c rv_eqS) (by decide +kernel)) fun H2 e2 => ?_
          have lo : ∀ {i : Nat} {y : Str} {σ : L2.St}, σ[i]? = some (some (.str y)) → y.length ≤ 20 → Ev (tM0 (fun x xs H Q => ∃ a, x = .str a ∧ xs = [] ∧ a.length ≤ 5592405 ∧ Q (.str (Txt.lower a)) H) (tVar i)) σ H2 (.str (Txt.lower y)) := fun h hl H3 e3 Q q => ⟨_, h, ⟨_, rfl⟩, _, rfl, rfl, by omega, q H3 (Ex.refl H3)⟩
          refine s_ret (v := .bl (keyLt (skey .cas (.str z)) (skey .cas (.str z2)))) (ev_is (ev_op (lo rfl h20) (lo rfl h21) rv_ltS) ?_) fun H3 e3 => q H3 ((e1.trans e2).trans e3)
          rfl
/-- the law's table: the kinds, the cells by row -/
def LTab (H : Hp) (v : V) (ks : List Kind) (n : Nat) (rows : List Nat) (cells : Nat → List V) : Prop := ∃ t k d, v = .ref t ∧ H t = some (.tup [.ref k, .ref d]) ∧ H k = some (.lst (ks.map Kind.v)) ∧ CellsAt H n d rows cells
theorem LTab.mono {H H' : Hp} {v : V} {ks : List Kind} {n : Nat} {rows : List Nat} {cells : Nat → List V} (s : Same H H') (h : LTab H v ks n rows cells) : LTab H' v ks n rows cells := by
  obtain ⟨t, k, d, e, h1, h2, h3⟩ := h
  exact ⟨t, k, d, e, s _ _ h1, s _ _ h2, h3.mono s (Nat.le_refl n)⟩
def sp_law_row_less (_ : PySem.W.Frag) : Sp := fun vs H Q _ => ∃ (v : V) (ks : List Kind) (n : Nat) (rows : List Nat) (cells : Nat → List V) (c r q : Nat), vs = [v, nV c, nV r, nV q] ∧ LTab H v ks n rows cells ∧ (∀ r ∈ rows, RowOk ks (cells r)) ∧ c < ks.length ∧ r ∈ rows ∧ q ∈ rows ∧ RetV (.bl (ltC ks cells c r q)) H Q
/-! _law_row_less: slots 0:_law_table_here 1:_law_column 2:_law_row 3:_law_other -/
theorem sc_law_row_less : FnScope ["_law_table_here", "_law_column", "_law_row", "_law_other"] ["_law_table_here", "_law_column", "_law_row", "_law_other"] (defScope s_law_row_less) := ⟨rfl, rfl, rfl, by decide +kernel, rfl, by decide +kernel, by decide +kernel⟩
theorem ok_law_row_less (T : Tp K mg w) : FnOk P w K mg base CX0 2 (a_law_row_less K) (fdAt K (a_law_row_less K)) ["_law_table_here", "_law_column", "_law_row", "_law_other"] (sp_law_row_less K) := by
  refine T.f_law_row_less.ok sc_law_row_less (fun vs H Q E h => ?_) (fun cdv A outer s H vs Q E hr h => ?_)
  · obtain ⟨v, ks, n, rows, cells, c, r, q, rfl, ⟨t, k, d, rfl, ht, hk, kvs, hkv, _, hrows⟩, ok, hc, hr1, hq1, kk⟩ := h
    rfl
  · obtain ⟨v, ks, n, rows, cells, c, r, q, rfl, ⟨t, k, d, rfl, ht, hk, kvs, hkv, _, hrows⟩, ok, hc, hr1, hq1, kk⟩ := h
    refine ⟨_, PSs.nox (pss_one (ps_ret (pe_call (ok_law_less (K := K) T) (hr.mono (by decide)) rfl T.g_law_less T.f_law_less.kp T.bn_law_less .nil pass0 (pa_cons (pe_ix (kIx (K := K) (r := rIxL) ix_list rfl) (pe_ix (kIx (K := K) (r := rIxT) ix_tup rfl) (pv 0) pe_int (fun _ _ => rfl)) (pv 1) (fun _ _ => rfl)) (pa_cons (pe_ix (kIx (K := K) (r := rIxL) ix_list rfl) (pe_dget (hu_of hr) (pe_ix (kIx (K := K) (r := rIxT) ix_tup rfl) (pv 0) pe_int (fun _ _ => rfl)) (pv 2) (fun _ _ => rfl)) (pv 1) (fun _ _ => rfl)) (pa_cons (pe_ix (kIx (K := K) (r := rIxL) ix_list rfl) (pe_dget (hu_of hr) (pe_ix (kIx (K := K) (r := rIxT) ix_tup rfl) (pv 0) pe_int (fun _ _ => rfl)) (pv 3) (fun _ _ => rfl)) (pv 1) (fun _ _ => rfl)) pa_nil)))))), ?_⟩
    obtain ⟨x, hx, hxr⟩ := hrows r hr1
    obtain ⟨y, hy, hyr⟩ := hrows q hq1
    obtain ⟨a1, a2⟩ := row_at (ok r hr1) hc
    obtain ⟨b1, b2⟩ := row_at (ok q hq1) hc
    have hkc : ks[c]? = some (ks.getD c .num) := by rw [List.getD_eq_getElem?_getD, List.getElem?_eq_getElem hc] <;> rfl
    refine s_ret (ev_call (vs := [(ks.getD c .num).v, (cells r).getD c .non, (cells q).getD c .non]) (ea_cons (ev_op (ev_op (ev_var rfl) ev_c (rv_ixT (SqT.of ht) (atI_nat (j := 0) rfl))) (ev_var rfl) (rv_ixL (SqL.of hk) (atI_nat (by rw [List.getElem?_map, hkc] <;> rfl))))
      (ea_cons (ev_op (ev_dget (v := .ref x) (a := d) (ev_op (ev_var rfl) ev_c (rv_ixT (SqT.of ht) (atI_nat (j := 1) rfl))) (ev_var rfl) fun H1 e => ?_) (ev_var rfl) (rv_ixL (SqL.of hxr) (atI_nat a1))) (ea_cons (ev_op (ev_dget (v := .ref y) (a := d) (ev_op (ev_var rfl) ev_c (rv_ixT (SqT.of ht) (atI_nat (j := 1) rfl))) (ev_var rfl) fun H1 e => ?_) (ev_var rfl) (rv_ixL (SqL.of hyr) (atI_nat b1))) ea_nil)))
      fun H1 e Q k E => ⟨_, _, _, rfl, a2, b2, k⟩) kk
    · rw [← hx]
      exact DGet.k (k := .inl (r : Int)) (e _ _ hkv)
    · rw [← hy]
      exact DGet.k (k := .inl (q : Int)) (e _ _ hkv)
end
end HC


set_option Elab.async false
set_option linter.all false
set_option maxRecDepth 100000
set_option maxHeartbeats 4000000
namespace HC
open PySem PySem.Spec PyProof.Rows L2 Evl
local macro_rules
  | `(tactic| walk_at "ev") => `(tactic| first
    | exact ev_c
    | exact ev_var rfl
    | exact ea_nil
    | exact et_yes
    | exact eo_none
    | exact rv_I0
    | exact rv_eqI
    | exact rv_neI
    | exact rv_eqS
    | exact rv_neS
    | exact rv_eqB
    | exact rv_neB
    | exact rv_isN
    | exact rv_notN
    | exact rv_leS
    | exact rv_ltS
    | exact ru_neg
    | assumption
    | (apply ea_cons <;> walk_at "ev")
    | (apply et_test <;> walk_at "ev")
    | (apply et_B <;> walk_at "ev")
    | (apply et_not <;> walk_at "ev")
    | (apply ev_op <;> walk_at "ev")
    | (apply ev_un <;> walk_at "ev")
    | (apply ev_isi_int (h := kit_int_int) <;> walk_at "ev")
    | (apply ev_isi_int (h := kit_int_bool) <;> walk_at "ev")
    | (apply ev_isi_str (h := kit_str_str) <;> walk_at "ev")
    | (apply ev_isi_lst (h := kit_list_list) <;> walk_at "ev")
    | (apply ev_isi_tup (h := kit_tuple_tuple) <;> walk_at "ev")
    | (apply rc_lenL ; assumption)
    | (apply rc_lenT ; assumption)
    | (apply rc_lenS ; assumption)
    | (apply ev_chain <;> first | walk_at "ev" | (intro _; walk_at "ev"))
    | (apply et_or <;> first | walk_at "ev" | (intro _; walk_at "ev"))
    | (apply et_and <;> first | walk_at "ev" | (intro _; walk_at "ev"))
    | (apply ev_orV <;> first | walk_at "ev" | (intro _; walk_at "ev"))
    | (apply ev_andV <;> first | walk_at "ev" | (intro _; walk_at "ev"))
    | (apply ev_notV <;> walk_at "ev")
    | (apply ev_cb <;> walk_at "ev")
    | (apply eo_some <;> walk_at "ev"))
local macro_rules
  | `(tactic| walk_at "dec") => `(tactic| first
    | assumption
    | exact dnI
    | exact dnS
    | decide +kernel
    | (with_reducible rfl)
    | (simp only [decide_eq_true_eq, Bool.and_eq_true, Bool.not_eq_true', decide_eq_false_iff_not, Bool.not_true, Bool.not_false, Bool.and_eq_false_iff, Bool.or_eq_false_iff, Bool.or_eq_true]; omega)
    | rfl)
local macro_rules
  | `(tactic| walk_at "dt") => `(tactic| first
    | assumption
    | exact et_yes
    | (apply et_orF <;> walk_at "dt")
    | (apply et_andT <;> walk_at "dt")
    | (apply et_notF; walk_at "dt")
    | (apply et_notT; walk_at "dt")
    | (apply et_chT <;> first | walk_at "ev" | walk_at "dec")
    | (apply et_leaf <;> first | walk_at "ev" | walk_at "dec")
    | (apply et_leafB <;> first | walk_at "ev" | walk_at "dec"))
local macro_rules
  | `(tactic| walk_at "pass") => `(tactic| (refine' q_pass ?zzh ?zzk; (case zzh => walk_at "dt")))
local macro_rules
  | `(tactic| walk_at "yes") => `(tactic| ((first | refine' q_yes ?zzh ?zzk | refine' s_yes ?zzh ?zzk); (case zzh => walk_at "dt")))
local macro_rules
  | `(tactic| walk_at "no") => `(tactic| ((first | refine' q_no ?zzh ?zzk | refine' s_no ?zzh ?zzk); (case zzh => walk_at "dt")))
local macro_rules
  | `(tactic| walk_at "ret") => `(tactic| (refine' s_ret (v := _) ?zzh ?zzk; (case zzh => walk_at "ev")))
local macro_rules
  | `(tactic| walk_at "set") => `(tactic| ((first | refine' q_asg (v := _) ?zzh ?zzk | refine' s_asg (v := _) ?zzh ?zzk); (case zzh => walk_at "ev")))
section
variable {P : Program} {w : World} {K : PySem.W.Frag} {mg : Str → Option Value} {base : Heap}
def sp_law_sorted (_ : PySem.W.Frag) : Sp := fun vs H Q _ => ∃ (v : V) (l : Addr) (ks : List Kind) (n : Nat) (shown : List Nat) (cells : Nat → List V) (c : Nat), vs = [v, .ref l, nV c] ∧ LTab H v ks n shown cells ∧ H l = some (.lst (shown.map nV)) ∧ (∀ r ∈ shown, RowOk ks (cells r)) ∧ c < ks.length ∧ shown.length ≤ 1000 ∧ RetL ((isrt (ltC ks cells c) shown).map nV) H Q
/-! _law_sorted: slots 0:_law_table_here 1:_law_shown_here 2:_law_column 3:_law_found 4:_law_row 5:_law_place -/
theorem sc_law_sorted : FnScope ["_law_table_here", "_law_shown_here", "_law_column", "_law_found", "_law_row", "_law_place"] ["_law_table_here", "_law_shown_here", "_law_column"] (defScope s_law_sorted) := ⟨rfl, rfl, rfl, by decide +kernel, rfl, by decide +kernel, by decide +kernel⟩
theorem ok_law_sorted (T : Tp K mg w) : FnOk P w K mg base CX0 3 (a_law_sorted K) (fdAt K (a_law_sorted K)) ["_law_table_here", "_law_shown_here", "_law_column"] (sp_law_sorted K) := by
  refine T.f_law_sorted.ok sc_law_sorted (fun vs H Q E h => ?_) (fun cdv A outer s H vs Q E hr h => ?_)
  · obtain ⟨v, l, ks, n, shown, cells, c, rfl, lt, hl, ok, hc, hz, q⟩ := h
    rfl
  · obtain ⟨v, l, ks, n, shown, cells, c, rfl, lt, hl, ok, hc, hz, q⟩ := h
    refine ⟨_, PSs.nox (pss_cons (ps_set (i := 3) sc_law_sorted.nd rfl (Or.inl rfl) (pe_lst pa_nil))
      (pss_cons (ps_for PassesOwn.never rfl (kPI (K := K) (i := fun K => iList K _) (pi_list (pv 1)) rfl) (pg_name (i := 4) sc_law_sorted.nd rfl (Or.inl rfl)) (pss_cons (ps_set (i := 5) sc_law_sorted.nd rfl (Or.inl rfl) (pe_callB (kCR (K := K) (r := rLenQ) call_len_seq rfl) rfl T.b_len (by decide +kernel) (pa_cons (pv 3) pa_nil)))
      (pss_cons (ps_while PassesOwn.never (PW.pt (pw_and (pt_cmpR op_gt (pv 5) pe_int (nomark _)) (pw_and1 (pt_val (pe_call (ok_law_row_less (K := K) T) (hr.mono (by decide)) rfl T.g_law_row_less T.f_law_row_less.kp T.bn_law_row_less .nil pass0 (pa_cons (pv 0) (pa_cons (pv 2) (pa_cons (pv 4) (pa_cons (pe_ix (kIx (K := K) (r := rIxL) ix_list rfl) (pv 3) (pe_op op_sub (pv 5) pe_int) (fun _ _ => rfl)) pa_nil))))))))) (pss_one (ps_set (i := 5) sc_law_sorted.nd rfl (Or.inl rfl) (pe_op op_sub (pv 5) pe_int))))
      (pss_one (ps_expr (kBM (K := K) (pe_bm PySem.F.plainAttrs_list PySem.F.slot_list_insert PySem.F.type_list_insert mt_insert (pv 3) (pa_cons (pv 5) (pa_cons (pv 4) pa_nil))) rfl))))))
      (pss_one (ps_ret (pv 3))))), ?_⟩
    have O := ltC_swo ks cells c
    refine q_asgL el_nil fun D H1 nD e1 hD => ?_
    refine q_forLn (K := K) (xs := shown.map nV) (ev_var rfl) (SqL.of (e1 _ _ hl)) (fun i σ' H' => (∃ z1 z2, σ' = [some v, some (.ref l), some (nV c), some (.ref D), z1, z2]) ∧ Same H H' ∧ H' D = some (.lst ((isrt (ltC ks cells c) (shown.take i)).map nV))) (fun H2 e2 => ⟨⟨none, none, rfl⟩, e1.trans e2, e2 _ _ hD⟩) (fun i σ' H' _ p => SqL.of (p.2.1 _ _ hl)) (fun i y σ' H' hy p => ?_) fun σ' H' p => ?_
    · obtain ⟨⟨z1, z2, rfl⟩, s, hD'⟩ := p
      rw [List.getElem?_map] at hy
      obtain ⟨row, hrow, rfl⟩ : ∃ r, shown[i]? = some r ∧ nV r = y := by
        cases h : shown[i]? with
        | none => rw [h] at hy; cases hy
        | some c =>
          rw [h] at hy
          exact ⟨c, rfl, Option.some.inj hy⟩
      have hrm : row ∈ shown := List.mem_of_getElem? hrow
      have et : shown.take (i + 1) = shown.take i ++ [row] := by
        rw [List.take_add_one, hrow]
        rfl
      have pm : (isrt (ltC ks cells c) (shown.take i)).Perm (shown.take i) := isrt_perm _
      have sr : SrtO.Srtd (ltC ks cells c) (isrt (ltC ks cells c) (shown.take i)) := (isrt_ok O _).1
      have ins := isrtA_snoc (lt := ltC ks cells c) (shown.take i) row
      rw [← et] at ins
      generalize isrt (ltC ks cells c) (shown.take i) = acc at hD' pm sr ins
      have hal : acc.length ≤ 1000 := by
        rw [pm.length_eq, List.length_take]
        omega
      have hmem : ∀ j, j < acc.length → acc.getD j 0 ∈ shown := fun j hj => by
        rw [List.getD_eq_getElem?_getD, List.getElem?_eq_getElem hj]
        exact List.mem_of_mem_take (pm.mem_iff.mp (List.getElem_mem hj))
      refine q_asg (ev_cb (ea_cons (ev_var rfl) ea_nil) (rc_lenM hD')) fun H2 e2 => ?_
      refine q_while (fun m σ2 H2 => ∃ p : Nat, m = p ∧ p ≤ acc.length ∧ σ2 = [some v, some (.ref l), some (nV c), some (.ref D), some (nV row), some (nV p)] ∧ Same H H2 ∧ H2 D = some (.lst (acc.map nV)) ∧ ∀ j, p ≤ j → j < acc.length → ltC ks cells c row (acc.getD j 0) = true) acc.length ⟨acc.length, rfl, Nat.le_refl _, rfl, s.trans e2, e2 _ _ hD', fun j h1 h2 => absurd h2 (by omega)⟩ fun m σ2 H3 ⟨p, em, hp, es, s3, hD3, hab⟩ => ?_
      subst em es
      refine ⟨decide ((0 : Int) < (m : Int)) && ltC ks cells c row (acc.getD (m - 1) 0), et_and (et_leaf (ev_op (ev_var rfl) ev_c (rv_I0 (g := fun i j => V.bl (decide (j < i))))) rfl) (fun h => ?_), fun h H4 e4 => ?_, fun h H4 e4 => ?_⟩
      · have hm0 : 0 < m := by
          have := of_decide_eq_true h
          omega
        refine et_B (ev_call (vs := [v, nV c, nV row, nV (acc.getD (m - 1) 0)]) (ea_cons (ev_var rfl) (ea_cons (ev_var rfl) (ea_cons (ev_var rfl) (ea_cons (ev_op (ev_var rfl) (ev_op (ev_var rfl) ev_c (rv_I0 (g := fun i j => V.int (i - j)))) (rv_ixL (SqL.of hD3) ?_)) ea_nil)))) fun H5 e5 Q kk E => ⟨v, ks, n, shown, cells, c, row, _, rfl, lt.mono (s3.trans e5), ok, hc, hrm, hmem _ (by omega), kk⟩)
        rw [show (m : Int) - 1 = ((m - 1 : Nat) : Int) by omega]
        exact atI_map (by omega)
      · obtain ⟨h1, h2⟩ := Bool.and_eq_true_iff.mp h
        have hm0 : 0 < m := by
          have := of_decide_eq_true h1
          omega
        refine ⟨fun σ2 H2 => σ2 = [some v, some (.ref l), some (nV c), some (.ref D), some (nV row), some (nV (m - 1))] ∧ Same H H2 ∧ H2 D = some (.lst (acc.map nV)), fun σ2 H2 ⟨es, s4, h4⟩ => ⟨m - 1, by omega, m - 1, rfl, by omega, es, s4, h4, fun j hj1 hj2 => ?_⟩, ?_⟩
        · by_cases e : j = m - 1
          · rw [e]
            exact h2
          · exact hab j (by omega) hj2
        · refine s_asg (v := nV (m - 1)) (ev_is (ev_op (ev_var rfl) ev_c (rv_I0 (g := fun i j => V.int (i - j)))) (by show V.int ((m : Int) - 1) = V.int ((m - 1 : Nat) : Int); rw [show ((m - 1 : Nat) : Int) = (m : Int) - 1 by omega])) fun H5 e5 => ⟨rfl, (s3.trans e4).trans e5, e5 _ _ (e4 _ _ hD3)⟩
      · refine s_insert (K := K) (p := m) (e4 _ _ hD3) (ev_var rfl) (ev_var rfl) (ev_var rfl) (by rw [List.length_map]; omega) (by rw [List.length_map]; exact hp) fun H5 e5 => ⟨⟨_, _, rfl⟩, same_mut ((s3.trans e4).trans e5) nD, ?_⟩
        rw [upd_same, ins, put_at hp (fun j hj => ?_) (fun hj => hab m (Nat.le_refl _) hj), List.map_append, List.map_cons, List.map_take, List.map_drop]
        have hl1 : ltC ks cells c row (acc.getD (m - 1) 0) = false := by
          rw [decide_eq_true (by omega), Bool.true_and] at h
          exact h
        by_cases e : j = m - 1
        · rw [e]
          exact hl1
        · have hj2 : j < acc.length := by omega
          have hm2 : m - 1 < acc.length := by omega
          have g1 : acc.getD j 0 = acc[j] := by rw [List.getD_eq_getElem?_getD, List.getElem?_eq_getElem hj2] <;> rfl
          have g2 : acc.getD (m - 1) 0 = acc[m - 1] := by rw [List.getD_eq_getElem?_getD, List.getElem?_eq_getElem hm2] <;> rfl
          have h3 := List.pairwise_iff_getElem.mp sr j (m - 1) hj2 hm2 (by omega)
          rw [g1]
          rw [g2] at hl1
          exact O.tr _ _ _ h3 hl1
    · obtain ⟨⟨z1, z2, rfl⟩, s, hD'⟩ := p
      rw [List.length_map, List.take_of_length_le (Nat.le_refl _)] at hD'
      exact s_ret (ev_var rfl) fun H2 e2 => q D H2 (fresh_back (Same.refl H) nD) (s.trans e2) (e2 _ _ hD')
end
end HC


set_option Elab.async false
set_option linter.all false
set_option maxRecDepth 100000
set_option maxHeartbeats 2000000
namespace HC
open PySem PySem.Spec PyProof.Rows L2 Evl
section
variable {K : PySem.W.Frag} {σ : L2.St} {H H' : Hp} {ta tb tc te tx tl tv : TE} {t u : TT} {x y z v : V} {D : Ends} {tu tw tz : TS} {R R1 : V → Hp → Hp → Prop}
theorem q_unp5 {i1 i2 i3 i4 i5 : Nat} {p : Addr} {n : Nat} {x1 x2 x3 x4 x5 : V} (hn : n = 5) (h : Ev te σ H (.ref p)) (hp : H p = some (.tup [x1, x2, x3, x4, x5])) (k : ∀ H1, Ex H H1 → tz D (((((σ.set i1 (some x1)).set i2 (some x2)).set i3 (some x3)).set i4 (some x4)).set i5 (some x5)) H1) :
    tSeq (tAsg te (gTup K n (gCons (gName i1) (gCons (gName i2) (gCons (gName i3) (gCons (gName i4) (gCons (gName i5) gNil))))))) tz D σ H :=
  h H (Ex.refl H) _ fun H1 e => ⟨p, [x1, x2, x3, x4, x5], rfl, SqT.of (e _ _ hp), hn.symm, x1, _, rfl, x2, _, rfl, x3, _, rfl, x4, _, rfl, x5, [], rfl, rfl, k H1 e⟩
/-- a tuple of what is made -/
theorem ex_tupA {t : TA} {A : List V → Hp → Prop} (h : EvAX t σ H A) (hz : ∀ vs H1, A vs H1 → vs.length ≤ 100000) : EvX (tTup t) σ H fun v H1 H2 => ∃ p vs G, v = .ref p ∧ Ex H1 G ∧ Ex G H2 ∧ H p = none ∧ A vs G ∧ H2 p = some (.tup vs) := fun H1 e Q q =>
  h H1 e _ fun vs H2 e2 a => ⟨sz_of (hz vs H2 a), fun p hp => q _ _ (e2.trans (Ex.new hp)) ⟨p, vs, H2, rfl, e2, Ex.new hp, fresh_back (e.trans e2) hp, a, upd_same⟩⟩
theorem eax_uF {tr : TA} {A : List V → Hp → Prop} {xs : List V} (h : EvU te σ H xs) (hr : EvAX tr σ H A) : EvAX (tCons te tr) σ H fun vs H2 => ∃ us p, vs = .ref p :: us ∧ H p = none ∧ H2 p = some (.tup xs) ∧ A us H2 := fun H1 e Q q =>
  h H1 e _ fun p H2 np e2 hp => hr H2 (e.trans e2) _ fun us H3 e3 a => q _ H3 (e2.trans e3) ⟨us, p, rfl, fresh_back e np, e3 _ _ hp, a⟩
theorem el_callA {sp : Sp} {dvs xs : List V} {E : XK} {t : TA} {A : List V → Hp → Prop} (h : EvAX t σ H A) (hs : ∀ vs H1, Ex H H1 → A vs H1 → SpL sp (vs ++ dvs) H1 xs) : EvL (tCall sp dvs E t) σ H xs := fun H1 e Q q =>
  h H1 e _ fun vs H2 e2 a => hs vs H2 (e.trans e2) a H2 (Ex.refl H2) Q (fun p H3 np e3 hp => q p H3 (fresh_back e2 np) (e2.trans e3) hp) E
theorem ev_callA {sp : Sp} {dvs : List V} {E : XK} {t : TA} {A : List V → Hp → Prop} (h : EvAX t σ H A) (hs : ∀ vs H1, Ex H H1 → A vs H1 → SpV sp (vs ++ dvs) H1 z) : Ev (tCall sp dvs E t) σ H z := fun H1 e Q q =>
  h H1 e _ fun vs H2 e2 a => hs vs H2 (e.trans e2) a H2 (Ex.refl H2) Q (fun H3 e3 => q H3 (e2.trans e3)) E
end
/-- the list of an effect's keys: new, its tuples new or of B -/
def NewKeys (B H : Hp) (keys : List (Nat × Int)) (v : V) (H2 : Hp) : Prop := ∃ D zs, v = .ref D ∧ H D = none ∧ H2 D = some (.lst zs) ∧ Paired (fun (p : Nat × Int) y => ∃ t, y = V.ref t ∧ ((H t = none ∧ H2 t = some (.tup [nV p.1, .int p.2])) ∨ B t = some (.tup [nV p.1, .int p.2]))) keys zs
theorem NewKeys.mono {B H H2 H3 : Hp} {keys : List (Nat × Int)} {v : V} (s : Same H2 H3) (h : NewKeys B H keys v H2) : NewKeys B H keys v H3 := by
  obtain ⟨D, zs, e, n, h1, h2⟩ := h
  exact ⟨D, zs, e, n, s _ _ h1, Paired.mapP h2 fun _ _ ⟨t, e, h⟩ => ⟨t, e, h.imp (fun h => ⟨h.1, s _ _ h.2⟩) id⟩⟩
/-- told from an earlier heap -/
theorem NewKeys.back {B H0 H H2 : Hp} {keys : List (Nat × Int)} {v : V} (s : Same H0 H) (h : NewKeys B H keys v H2) : NewKeys B H0 keys v H2 := by
  obtain ⟨D, zs, e, n, h1, h2⟩ := h
  exact ⟨D, zs, e, fresh_back s n, h1, Paired.mapP h2 fun _ _ ⟨t, e, h⟩ => ⟨t, e, h.imp (fun h => ⟨fresh_back s h.1, h.2⟩) id⟩⟩
theorem NewKeys.eff {B H H2 : Hp} {keys : List (Nat × Int)} {v : V} {t : Addr} {b : Int} (sB : Same B H) (h : NewKeys B H keys v H2) (nt : H t = none) (ht : H2 t = some (.tup [v, .int b])) : EffAt (ext B H H2) (.ref t) keys b := by
  obtain ⟨D, zs, rfl, n, h1, h2⟩ := h
  exact ⟨t, D, zs, rfl, ext_new sB nt ht, ext_new sB n h1, Paired.mapP h2 fun _ _ ⟨t, e, h⟩ => ⟨t, e, h.elim (fun h => ext_new sB h.1 h.2) fun h => ext_old _ _ h⟩⟩
section
variable {K : PySem.W.Frag} {σ : L2.St} {B H : Hp} {te tl tt : TE} {tT : TT} {keys : List (Nat × Int)} {ys : List V} {l : Addr} {j k : Nat}
theorem ex_keysR (sB : Same B H) (hl : Ev tl σ H (.ref l)) (hL : H l = some (.lst ys)) (pr : Paired (fun (p : Nat × Int) y => ∃ t, y = V.ref t ∧ H t = some (.tup [nV p.1, .int p.2])) keys ys) (hz : keys.length ≤ 1000) (c : Nat)
    (he : ∀ p ∈ keys, EvU te (((wipe σ [j, k]).set j (some (nV p.1))).set k (some (.int p.2))) H [nV p.1, .int (-p.2)]) :
    EvX (tLc (iList K tl) (gTup K 2 (gCons (gName j) (gCons (gName k) gNil))) tYes te [j, k]) σ H fun v _ H2 => NewKeys B H (effKeys keys c true) v H2 :=
  (ex_lcP (K := K) keys (fun p => nV p.1) (fun p => .int p.2) ys (fun _ => true) (fun p y H' => ∃ t, y = V.ref t ∧ H t = none ∧ H' t = some (.tup [nV p.1, .int (-p.2)])) hl (SqL.of hL) pr (by omega) (fun _ _ => et_yes) fun p m _ => made_tupF (EvX.ofU (he p m))).imp fun v H1 H2 e1 e2 ⟨D, zs, ev, nD, hD, pr2⟩ => by
    rw [filter_tt] at pr2
    refine ⟨D, zs, ev, fresh_back e1 nD, hD, ?_⟩
    show Paired _ (keys.map fun p => (p.1, -p.2)) zs
    exact paired_flip (paired_flip' (F := fun y p => ∃ t, y = V.ref t ∧ ((H t = none ∧ H2 t = some (.tup [nV p.1, .int p.2])) ∨ B t = some (.tup [nV p.1, .int p.2]))) (f := fun p : Nat × Int => (p.1, -p.2)) (Paired.mapP pr2 fun p y ⟨t, e, n, h⟩ => ⟨t, e, .inl ⟨n, h⟩⟩))
theorem ex_keysN {tn : TE} (sB : Same B H) (hl : Ev tl σ H (.ref l)) (hL : H l = some (.lst ys)) (pr : Paired (fun (p : Nat × Int) y => ∃ t, y = V.ref t ∧ B t = some (.tup [nV p.1, .int p.2])) keys ys) (hz : keys.length ≤ 1000) (c : Nat) (hn : EvU tn σ H [nV c, .int 1])
    (ht : ∀ p v, p ∈ keys → (∃ t, v = V.ref t ∧ B t = some (.tup [nV p.1, .int p.2])) → EvT tT ((wipe σ [j]).set j (some v)) H (!decide (p.1 = c))) (he : ∀ v, Ev te ((wipe σ [j]).set j (some v)) H v) :
    EvX (tOp rCat (tLst (tCons tn tNil)) (tLc (iList K tl) (gName j) tT te [j])) σ H fun v _ H2 => NewKeys B H (effKeys keys c false) v H2 := by
  refine ex_catX (ex_lst1U hn) (ex_lcQ (K := K) keys ys pr (fun p => !decide (p.1 = c)) (fun p y _ => ∃ t, y = V.ref t ∧ B t = some (.tup [nV p.1, .int p.2])) hl (SqL.of hL) (by omega) (fun p v m pv => ht p v m pv) fun p v m pv _ => (made_val (v := v) (he v)).imp fun y _ _ _ _ h D H3 hz b => ?_) fun u v H3 H4 H5 e3 e4 e5 ⟨D, t, eu, nD, nt, hD, ht⟩ ⟨D2, zs, ev, nD2, hD2, pr2⟩ => ?_
  · rw [h D H3 hz b]
    exact pv
  · subst eu ev
    refine ⟨D, D2, [.ref t], zs, rfl, rfl, e5 _ _ hD, hD2, ?_, fun l H6 nl e6 hl => ⟨l, .ref t :: zs, rfl, fresh_back ((e3.trans e4).trans e5) nl, hl, .cons ⟨t, rfl, .inl ⟨fresh_back e3 nt, e6 _ _ (e5 _ _ ht)⟩⟩ (Paired.mapP pr2 fun p y ⟨t, e, h⟩ => ⟨t, e, .inr h⟩)⟩⟩
    have := Paired.length pr2
    have := List.length_filter_le (fun p : Nat × Int => !decide (p.1 = c)) keys
    show 1 + zs.length ≤ 100000
    omega
end
theorem et_andT'' {σ : L2.St} {H : Hp} {t u : TT} {b : Bool} (h1 : EvT t σ H true) (h2 : EvT u σ H b) : EvT (tAnd t u) σ H b := et_and h1 fun _ => h2
theorem paired_in {α β : Type} {F G : α → β → Prop} : ∀ {xs : List α} {ys : List β}, Paired F xs ys → (∀ x y, x ∈ xs → F x y → G x y) → Paired G xs ys
  | _, _, .nil, _ => .nil
  | _, _, .cons h t, k => .cons (k _ _ List.mem_cons_self h) (paired_in t fun x y m f => k x y (List.mem_cons_of_mem _ m) f)
/-! ### the click ahead -/
theorem take_last {l : List Nat} {i : Nat} (h : i < l.length) (hi : 0 < i) : (l.take i).getLast? = some (l.getD (i - 1) 0) := by
  rw [List.getLast?_eq_getElem?, List.length_take, List.getElem?_take, if_pos (by omega), List.getD_eq_getElem?_getD, show min i l.length - 1 = i - 1 by omega, List.getElem?_eq_getElem (by omega)]
  rfl
theorem vw_take {lt : Nat → Nat → Nat → Bool} {cs shown : List Nat} {i c : Nat} (h : cs[i]? = some c) : vw lt shown (cs.take (i + 1)) none = clk lt (vw lt shown (cs.take i) none) c (cs.take i).getLast? := by
  rw [List.take_add_one, h]
  show vw lt shown (cs.take i ++ [c]) none = _
  rw [vw_snoc]
  by_cases e : cs.take i = []
  · rw [if_pos e, e]
    rfl
  · rw [if_neg e]
end HC

set_option Elab.async false
set_option linter.all false
set_option maxRecDepth 100000
set_option maxHeartbeats 4000000
namespace HC
open PySem PySem.Spec PyProof.Rows L2 Evl
local macro_rules
  | `(tactic| walk_at "ev") => `(tactic| first
    | exact ev_c
    | exact ev_var rfl
    | exact ea_nil
    | exact et_yes
    | exact eo_none
    | exact rv_I0
    | exact rv_eqI
    | exact rv_neI
    | exact rv_eqS
    | exact rv_neS
    | exact rv_eqB
    | exact rv_neB
    | exact rv_isN
    | exact rv_notN
    | exact rv_leS
    | exact rv_ltS
    | exact ru_neg
    | assumption
    | (apply ea_cons <;> walk_at "ev")
    | (apply et_test <;> walk_at "ev")
    | (apply et_B <;> walk_at "ev")
    | (apply et_not <;> walk_at "ev")
    | (apply ev_op <;> walk_at "ev")
    | (apply ev_un <;> walk_at "ev")
    | (apply ev_isi_int (h := kit_int_int) <;> walk_at "ev")
    | (apply ev_isi_int (h := kit_int_bool) <;> walk_at "ev")
    | (apply ev_isi_str (h := kit_str_str) <;> walk_at "ev")
    | (apply ev_isi_lst (h := kit_list_list) <;> walk_at "ev")
    | (apply ev_isi_tup (h := kit_tuple_tuple) <;> walk_at "ev")
    | (apply rc_lenL ; assumption)
    | (apply rc_lenT ; assumption)
    | (apply rc_lenS ; assumption)
    | (apply ev_chain <;> first | walk_at "ev" | (intro _; walk_at "ev"))
    | (apply et_or <;> first | walk_at "ev" | (intro _; walk_at "ev"))
    | (apply et_and <;> first | walk_at "ev" | (intro _; walk_at "ev"))
    | (apply ev_orV <;> first | walk_at "ev" | (intro _; walk_at "ev"))
    | (apply ev_andV <;> first | walk_at "ev" | (intro _; walk_at "ev"))
    | (apply ev_notV <;> walk_at "ev")
    | (apply ev_cb <;> walk_at "ev")
    | (apply eo_some <;> walk_at "ev"))
local macro_rules
  | `(tactic| walk_at "dec") => `(tactic| first
    | assumption
    | exact dnI
    | exact dnS
    | decide +kernel
    | (with_reducible rfl)
    | (simp only [decide_eq_true_eq, Bool.and_eq_true, Bool.not_eq_true', decide_eq_false_iff_not, Bool.not_true, Bool.not_false, Bool.and_eq_false_iff, Bool.or_eq_false_iff, Bool.or_eq_true]; omega)
    | rfl)
local macro_rules
  | `(tactic| walk_at "dt") => `(tactic| first
    | assumption
    | exact et_yes
    | (apply et_orF <;> walk_at "dt")
    | (apply et_andT <;> walk_at "dt")
    | (apply et_notF; walk_at "dt")
    | (apply et_notT; walk_at "dt")
    | (apply et_chT <;> first | walk_at "ev" | walk_at "dec")
    | (apply et_leaf <;> first | walk_at "ev" | walk_at "dec")
    | (apply et_leafB <;> first | walk_at "ev" | walk_at "dec"))
local macro_rules
  | `(tactic| walk_at "pass") => `(tactic| (refine' q_pass ?zzh ?zzk; (case zzh => walk_at "dt")))
local macro_rules
  | `(tactic| walk_at "yes") => `(tactic| ((first | refine' q_yes ?zzh ?zzk | refine' s_yes ?zzh ?zzk); (case zzh => walk_at "dt")))
local macro_rules
  | `(tactic| walk_at "no") => `(tactic| ((first | refine' q_no ?zzh ?zzk | refine' s_no ?zzh ?zzk); (case zzh => walk_at "dt")))
local macro_rules
  | `(tactic| walk_at "ret") => `(tactic| (refine' s_ret (v := _) ?zzh ?zzk; (case zzh => walk_at "ev")))
local macro_rules
  | `(tactic| walk_at "set") => `(tactic| ((first | refine' q_asg (v := _) ?zzh ?zzk | refine' s_asg (v := _) ?zzh ?zzk); (case zzh => walk_at "ev")))
section
variable {P : Program} {w : World} {K : PySem.W.Frag} {mg : Str → Option Value} {base : Heap}
def effFrom : List (Nat × Int) × Int → Option Nat → List Nat → List (Nat × Int) × Int
  | kb, _, [] => kb
  | kb, last, c :: cs => effFrom (effKeys kb.1 c (decide (last = some c)), effBase kb.2 (decide (last = some c))) (some c) cs
def effL (cs : List Nat) : List (Nat × Int) × Int := effFrom ([], 1) none cs
theorem effFrom_snoc (c : Nat) : ∀ (cs : List Nat) (kb : List (Nat × Int) × Int) (last : Option Nat), effFrom kb last (cs ++ [c]) = (effKeys (effFrom kb last cs).1 c (decide ((if cs = [] then last else cs.getLast?) = some c)), effBase (effFrom kb last cs).2 (decide ((if cs = [] then last else cs.getLast?) = some c)))
  | [], kb, last => rfl
  | [d], kb, last => rfl
  | d :: e :: cs, kb, last => by
    show effFrom _ (some d) ((e :: cs) ++ [c]) = _
    rw [effFrom_snoc c (e :: cs)]
    rfl
theorem effL_take {cs : List Nat} {i c : Nat} (h : cs[i]? = some c) : effL (cs.take (i + 1)) = (effKeys (effL (cs.take i)).1 c (decide ((cs.take i).getLast? = some c)), effBase (effL (cs.take i)).2 (decide ((cs.take i).getLast? = some c))) := by
  rw [List.take_add_one, h]
  show effFrom _ _ (cs.take i ++ [c]) = _
  rw [effFrom_snoc]
  by_cases e : cs.take i = []
  · rw [if_pos e, e]
    rfl
  · rw [if_neg e]
    rfl
/-- an effect as it must be -/
structure EffOk (m : Nat) (kb : List (Nat × Int) × Int) : Prop where
  kc : ∀ p ∈ kb.1, p.1 < m ∧ (p.2 = 1 ∨ p.2 = -1)
  kn : (kb.1.map Prod.fst).Nodup
  bs : kb.2 = 1 ∨ kb.2 = -1
theorem EffOk.step {m : Nat} {kb : List (Nat × Int) × Int} (h : EffOk m kb) {c : Nat} (hc : c < m) (rev : Bool) : EffOk m (effKeys kb.1 c rev, effBase kb.2 rev) := by
  cases rev with
  | true =>
    refine ⟨fun p m => ?_, ?_, h.bs.elim (fun e => .inr (by show -kb.2 = -1; rw [e])) fun e => .inl (by show -kb.2 = 1; rw [e] <;> rfl)⟩
    · obtain ⟨q, hq, rfl⟩ := List.mem_map.mp m
      obtain ⟨h1, h2⟩ := h.kc q hq
      exact ⟨h1, h2.elim (fun e => .inr (by show -q.2 = -1; rw [e])) fun e => .inl (by show -q.2 = 1; rw [e] <;> rfl)⟩
    · show ((kb.1.map fun p => (p.1, -p.2)).map Prod.fst).Nodup
      rw [List.map_map]
      exact h.kn
  | false =>
    refine ⟨fun p m => ?_, ?_, h.bs⟩
    · rcases List.mem_cons.mp (show p ∈ (c, 1) :: kb.1.filter _ from m) with rfl | m
      · exact ⟨hc, .inl rfl⟩
      · exact h.kc p (List.mem_filter.mp m).1
    · show (((c, (1 : Int)) :: kb.1.filter fun p => !decide (p.1 = c)).map Prod.fst).Nodup
      rw [List.map_cons, List.nodup_cons]
      refine ⟨fun m => ?_, List.Sublist.nodup (List.Sublist.map _ List.filter_sublist) h.kn⟩
      obtain ⟨q, hq, e⟩ := List.mem_map.mp m
      have := (List.mem_filter.mp hq).2
      rw [e] at this
      simp at this
theorem effFrom_ok {m : Nat} : ∀ {cs : List Nat} {kb : List (Nat × Int) × Int} {last : Option Nat}, EffOk m kb → (∀ c ∈ cs, c < m) → EffOk m (effFrom kb last cs)
  | [], _, _, h, _ => h
  | c :: cs, kb, last, h, hc => by
    show EffOk m (effFrom (effKeys kb.1 c (decide (last = some c)), effBase kb.2 (decide (last = some c))) (some c) cs)
    exact effFrom_ok (h.step (hc c List.mem_cons_self) _) fun d hd => hc d (List.mem_cons_of_mem _ hd)
theorem effL_ok {m : Nat} {cs : List Nat} (h : ∀ c ∈ cs, c < m) : EffOk m (effL cs) := effFrom_ok ⟨(fun p m => by cases m), List.nodup_nil, .inl rfl⟩ h
theorem effKeys_len (keys : List (Nat × Int)) (c : Nat) (rev : Bool) : (effKeys keys c rev).length ≤ keys.length + 1 := by
  unfold effKeys
  split
  · rw [List.length_map]
    omega
  · rw [List.length_cons]
    have := List.length_filter_le (fun p : Nat × Int => !decide (p.1 = c)) keys
    omega
def sp_law_effect (_ : PySem.W.Frag) : Sp := fun vs H Q _ => ∃ (a : Addr) (cs : List Nat), vs = [.ref a] ∧ H a = some (.lst (cs.map nV)) ∧ cs.length ≤ 900 ∧ ∀ v' H', Same H H' → EffAt H' v' (effL cs).1 (effL cs).2 → Q v' H'
/-- k > 0 and xs[k] == xs[k - 1] -/
theorem et_again {σ : L2.St} {H : Hp} {ta ti : TE} {a : Addr} {cs : List Nat} {i c : Nat} (ha : Ev ta σ H (.ref a)) (hi : Ev ti σ H (nV i)) (h : H a = some (.lst (cs.map nV))) (hc : cs[i]? = some c) :
    EvT (tAnd (tTest (tOp (rI0 fun i j => .bl (decide (j < i))) ti (tC (.int 0)))) (tTest (tOp rEq (tOp (rIxL K) ta ti) (tOp (rIxL K) ta (tOp (rI0 fun i j => .int (i - j)) ti (tC (.int 1))))))) σ H (decide ((cs.take i).getLast? = some c)) := by
  have hl : i < cs.length := (List.getElem?_eq_some_iff.mp hc).1
  have h1 : EvT (tTest (tOp (rI0 fun i j => .bl (decide (j < i))) ti (tC (.int 0)))) σ H (decide ((0 : Int) < (i : Int))) := et_leaf (ev_op hi ev_c (rv_I0 (g := fun i j => V.bl (decide (j < i))))) rfl
  by_cases e : i = 0
  · subst e
    have : decide ((cs.take 0).getLast? = some c) = false := decide_eq_false fun z => by cases z
    rw [this]
    exact et_andF h1
  · rw [decide_eq_true (by omega)] at h1
    rw [take_last hl (by omega)]
    refine et_andT'' h1 (et_leaf (ev_op (ev_op ha hi (rv_ixL (SqL.of h) (atI_map hl))) (ev_op ha (ev_op hi ev_c (rv_I0 (g := fun i j => V.int (i - j)))) (rv_ixL (v := nV (cs.getD (i - 1) 0)) (SqL.of h) ?_)) rv_eqI) ?_)
    · rw [show (i : Int) - 1 = ((i - 1 : Nat) : Int) by omega]
      exact atI_map (by omega)
    · rw [decN]
      have : cs.getD i 0 = c := by rw [List.getD_eq_getElem?_getD, hc] <;> rfl
      rw [this]
      by_cases q : c = cs.getD (i - 1) 0
      · rw [decide_eq_true q, decide_eq_true (by rw [q])]
      · rw [decide_eq_false q, decide_eq_false fun z => q (Option.some.inj z).symm]
/-! _law_effect: slots 0:_law_click_list 1:_law_keys 2:_law_base 3:_law_k 4:_law_column 5:_law_sign 6:_law_key -/
theorem sc_law_effect : FnScope ["_law_click_list", "_law_keys", "_law_base", "_law_k", "_law_column", "_law_sign", "_law_key"] ["_law_click_list"] (defScope s_law_effect) := ⟨rfl, rfl, rfl, by decide +kernel, rfl, by decide +kernel, by decide +kernel⟩
theorem ok_law_effect (T : Tp K mg w) : FnOk P w K mg base CX0 1 (a_law_effect K) (fdAt K (a_law_effect K)) ["_law_click_list"] (sp_law_effect K) := by
  refine T.f_law_effect.ok sc_law_effect (fun vs H Q E h => ?_) (fun cdv A outer s H vs Q E hr h => ?_)
  · obtain ⟨a, cs, rfl, ha, hz, q⟩ := h
    rfl
  · obtain ⟨a, cs, rfl, ha, hz, q⟩ := h
    refine ⟨_, PSs.nox (pss_cons (ps_set (i := 1) sc_law_effect.nd rfl (Or.inl rfl) (pe_lst pa_nil))
      (pss_cons (ps_set (i := 2) sc_law_effect.nd rfl (Or.inl rfl) pe_int)
      (pss_cons (ps_for PassesOwn.never rfl (pi_range1 rfl T.b_range (pa_cons (pe_callB (kCR (K := K) (r := rLenQ) call_len_seq rfl) rfl T.b_len (by decide +kernel) (pa_cons (pv 0) pa_nil)) pa_nil)) (pg_name (i := 3) sc_law_effect.nd rfl (Or.inr rfl) (.inl rfl)) (pss_one (ps_if (PW.pt (pw_and (pt_cmpR op_gt (pv 3) pe_int (nomark _)) (pw_and1 (pt_cmpR op_eq (pe_ix (kIx (K := K) (r := rIxL) ix_list rfl) (pv 0) (pv 3) (fun _ _ => rfl)) (pe_ix (kIx (K := K) (r := rIxL) ix_list rfl) (pv 0) (pe_op op_sub (pv 3) pe_int) (fun _ _ => rfl)) (nomark _))))) (pss_cons (ps_setLc (i := 1) (own := [("_law_column", 4), ("_law_sign", 5)]) (g := (gTup K 2 (gCons (gName 4) (gCons (gName 5) gNil)))) rfl sc_law_effect.nd rfl rfl (sw_true rfl rfl rfl (by decide +kernel)) (kPI (K := K) (i := fun K => iList K _) (pi_list (pv 1)) rfl) (blkOk_by (own := [("_law_column", 4), ("_law_sign", 5)]) (N := ["_law_click_list", "_law_keys", "_law_base", "_law_k", "_law_column", "_law_sign", "_law_key"]) (sc := defScope s_law_effect) (by decide +kernel)) (fun _ _ _ _ _ => (kTup (K := K) (pg_tup (n := 2) rfl (pgs_cons (pg_name (i := 4) sc_law_effect.nd rfl (Or.inl rfl) (.inr rfl)) (pgs_cons (pg_name (i := 5) sc_law_effect.nd rfl (Or.inl rfl) (.inr rfl)) pgs_nil))) rfl)) (fun _ _ _ _ _ => pts_nil) (fun _ _ _ _ _ => (pe_tup (pa_cons (pv 4) (pa_cons (pe_un un_neg (pv 5)) pa_nil)))))
      (pss_one (ps_set (i := 2) sc_law_effect.nd rfl (Or.inl rfl) (pe_un un_neg (pv 2))))) (pss_one (ps_set (i := 1) sc_law_effect.nd rfl (Or.inl rfl) (pe_op op_cat (pe_lst (pa_cons (pe_tup (pa_cons (pe_ix (kIx (K := K) (r := rIxL) ix_list rfl) (pv 0) (pv 3) (fun _ _ => rfl)) (pa_cons pe_int pa_nil))) pa_nil)) (pe_lc (own := [("_law_key", 6)]) (g := (gName 6)) rfl sc_law_effect.nd (kPI (K := K) (i := fun K => iList K _) (pi_list (pv 1)) rfl) (blkOk_by (own := [("_law_key", 6)]) (N := ["_law_click_list", "_law_keys", "_law_base", "_law_k", "_law_column", "_law_sign", "_law_key"]) (sc := defScope s_law_effect) (by decide +kernel)) (fun _ _ _ _ _ => (pg_name (i := 6) sc_law_effect.nd rfl (Or.inl rfl) (.inr rfl))) (fun _ _ _ _ _ => (pts_one (pt_cmpR op_ne (pe_ix (kIx (K := K) (r := rIxT) ix_tup rfl) (pv 6) pe_int (fun _ _ => rfl)) (pe_ix (kIx (K := K) (r := rIxL) ix_list rfl) (pv 0) (pv 3) (fun _ _ => rfl)) (nomark _)))) (fun _ _ _ _ _ => (pv 6)))))))))
      (pss_one (ps_ret (pe_tup (pa_cons (pv 1) (pa_cons (pv 2) pa_nil)))))))), ?_⟩
    refine q_asgL el_nil fun l0 H1 nl e1 hl => ?_
    refine q_asg (v := .int 1) ev_c fun H2 e2 => ?_
    refine q_forR1 (n := (cs.length : Int)) (ea_cons (ev_cb (ea_cons (ev_var rfl) ea_nil) (rc_lenM (e2 _ _ (e1 _ _ ha)))) ea_nil) (by omega) (fun i σ' H' => ∃ l ys z1 z2 z3 z4, σ' = [some (.ref a), some (.ref l), some (.int (effL (cs.take i)).2), z1, z2, z3, z4] ∧ Same H H' ∧ H' l = some (.lst ys) ∧ Paired (fun (p : Nat × Int) y => ∃ t, y = V.ref t ∧ H' t = some (.tup [nV p.1, .int p.2])) (effL (cs.take i)).1 ys ∧ (effL (cs.take i)).1.length ≤ i) (fun H3 e3 => ⟨l0, [], none, none, none, none, rfl, (e1.trans e2).trans e3, e3 _ _ (e2 _ _ hl), .nil, Nat.le_refl _⟩) (fun i σ' H' hi ⟨l, ys, z1, z2, z3, z4, es, s, hl, pr, ln⟩ => ?_) fun σ' H' ⟨l, ys, z1, z2, z3, z4, es, s, hl, pr, ln⟩ => ?_
    · subst es
      have hin : i < cs.length := by omega
      obtain ⟨c, hc⟩ : ∃ c, cs[i]? = some c := ⟨_, List.getElem?_eq_getElem hin⟩
      have et := effL_take hc
      have htest := et_again (K := K) (σ := [some (.ref a), some (.ref l), some (.int (effL (cs.take i)).2), some (nV i), z2, z3, z4]) (H := H') (ta := tVar 0) (ti := tVar 3) (ev_var rfl) (ev_var rfl) (s _ _ ha) hc
      cases hrev : decide ((cs.take i).getLast? = some c) with
      | true =>
        rw [hrev] at htest et
        refine s_yes htest fun H3 e3 => ?_
        refine q_asgX (ex_keysR (B := H') (Same.refl _ |>.trans e3) (ev_var rfl) (e3 _ _ hl) (Paired.mapP pr fun p y ⟨t, e, h⟩ => ⟨t, e, e3 _ _ h⟩) (by omega) c fun p m => eu_tup (ea_cons (ev_var rfl) (ea_cons (ev_un (ev_var rfl) ru_neg) ea_nil)) (by show 2 ≤ 100000; omega)) fun v H4 e4 ⟨D, zs, ev, nD, hD, pr2⟩ => ?_
        subst ev
        refine s_asg (ev_un (ev_var rfl) ru_neg) fun H5 e5 => ?_
        rw [et]
        refine ⟨D, zs, _, z2, z3, z4, rfl, ((s.trans e3).trans e4).trans e5, e5 _ _ hD, Paired.mapP pr2 fun p y ⟨t, e, h⟩ => ⟨t, e, e5 _ _ (h.elim (fun h => h.2) fun h => e4 _ _ (e3 _ _ h))⟩, ?_⟩
        exact Nat.le_trans (effKeys_len (effL (cs.take i)).1 c true) (Nat.succ_le_succ ln)
      | false =>
        rw [hrev] at htest et
        refine s_no htest fun H3 e3 => ?_
        refine s_asgX (ex_keysN (B := H3) (Same.refl _) (ev_var rfl) (e3 _ _ hl) (Paired.mapP pr fun p y ⟨t, e, h⟩ => ⟨t, e, e3 _ _ h⟩) (by omega) c (eu_tup (ea_cons (ev_op (ev_var rfl) (ev_var rfl) (rv_ixL (SqL.of (e3 _ _ (s _ _ ha))) (atI_nat (by rw [List.getElem?_map, hc] <;> rfl)))) (ea_cons ev_c ea_nil)) (by show 2 ≤ 100000; omega)) (fun p v m ⟨t, e, h⟩ => ?_) fun v => ev_var rfl) fun v H4 e4 ⟨D, zs, ev, nD, hD, pr2⟩ => ?_
        · subst e
          exact et_leaf (ev_op (ev_op (ev_var rfl) ev_c (rv_ixT (SqT.of h) (atI_nat (j := 0) rfl))) (ev_op (ev_var rfl) (ev_var rfl) (rv_ixL (v := nV c) (SqL.of (e3 _ _ (s _ _ ha))) (atI_nat (by rw [List.getElem?_map, hc] <;> rfl)))) rv_neI) (by rw [decN])
        · subst ev
          rw [et]
          refine ⟨D, zs, _, z2, z3, z4, rfl, (s.trans e3).trans e4, hD, Paired.mapP pr2 fun p y ⟨t, e, h⟩ => ⟨t, e, h.elim (fun h => h.2) fun h => e4 _ _ h⟩, ?_⟩
          exact Nat.le_trans (effKeys_len (effL (cs.take i)).1 c false) (Nat.succ_le_succ ln)
    · subst es
      rw [Int.toNat_natCast, List.take_of_length_le (Nat.le_refl _)] at pr ⊢
      refine s_retU (eu_tup (ea_cons (ev_var rfl) (ea_cons (ev_var rfl) ea_nil)) (by show 2 ≤ 100000; omega)) fun p H3 np e3 hp => q _ H3 (s.trans e3) ⟨p, l, ys, rfl, hp, e3 _ _ hl, Paired.mapP pr fun _ _ ⟨t, e, h⟩ => ⟨t, e, e3 _ _ h⟩⟩
end
end HC


set_option Elab.async false
set_option linter.all false
set_option maxRecDepth 100000
set_option maxHeartbeats 4000000
namespace HC
open PySem PySem.Spec PyProof.Rows L2 Evl
local macro_rules
  | `(tactic| walk_at "ev") => `(tactic| first
    | exact ev_c
    | exact ev_var rfl
    | exact ea_nil
    | exact et_yes
    | exact eo_none
    | exact rv_I0
    | exact rv_eqI
    | exact rv_neI
    | exact rv_eqS
    | exact rv_neS
    | exact rv_eqB
    | exact rv_neB
    | exact rv_isN
    | exact rv_notN
    | exact rv_leS
    | exact rv_ltS
    | exact ru_neg
    | assumption
    | (apply ea_cons <;> walk_at "ev")
    | (apply et_test <;> walk_at "ev")
    | (apply et_B <;> walk_at "ev")
    | (apply et_not <;> walk_at "ev")
    | (apply ev_op <;> walk_at "ev")
    | (apply ev_un <;> walk_at "ev")
    | (apply ev_isi_int (h := kit_int_int) <;> walk_at "ev")
    | (apply ev_isi_int (h := kit_int_bool) <;> walk_at "ev")
    | (apply ev_isi_str (h := kit_str_str) <;> walk_at "ev")
    | (apply ev_isi_lst (h := kit_list_list) <;> walk_at "ev")
    | (apply ev_isi_tup (h := kit_tuple_tuple) <;> walk_at "ev")
    | (apply rc_lenL ; assumption)
    | (apply rc_lenT ; assumption)
    | (apply rc_lenS ; assumption)
    | (apply ev_chain <;> first | walk_at "ev" | (intro _; walk_at "ev"))
    | (apply et_or <;> first | walk_at "ev" | (intro _; walk_at "ev"))
    | (apply et_and <;> first | walk_at "ev" | (intro _; walk_at "ev"))
    | (apply ev_orV <;> first | walk_at "ev" | (intro _; walk_at "ev"))
    | (apply ev_andV <;> first | walk_at "ev" | (intro _; walk_at "ev"))
    | (apply ev_notV <;> walk_at "ev")
    | (apply ev_cb <;> walk_at "ev")
    | (apply eo_some <;> walk_at "ev"))
local macro_rules
  | `(tactic| walk_at "dec") => `(tactic| first
    | assumption
    | exact dnI
    | exact dnS
    | decide +kernel
    | (with_reducible rfl)
    | (simp only [decide_eq_true_eq, Bool.and_eq_true, Bool.not_eq_true', decide_eq_false_iff_not, Bool.not_true, Bool.not_false, Bool.and_eq_false_iff, Bool.or_eq_false_iff, Bool.or_eq_true]; omega)
    | rfl)
local macro_rules
  | `(tactic| walk_at "dt") => `(tactic| first
    | assumption
    | exact et_yes
    | (apply et_orF <;> walk_at "dt")
    | (apply et_andT <;> walk_at "dt")
    | (apply et_notF; walk_at "dt")
    | (apply et_notT; walk_at "dt")
    | (apply et_chT <;> first | walk_at "ev" | walk_at "dec")
    | (apply et_leaf <;> first | walk_at "ev" | walk_at "dec")
    | (apply et_leafB <;> first | walk_at "ev" | walk_at "dec"))
local macro_rules
  | `(tactic| walk_at "pass") => `(tactic| (refine' q_pass ?zzh ?zzk; (case zzh => walk_at "dt")))
local macro_rules
  | `(tactic| walk_at "yes") => `(tactic| ((first | refine' q_yes ?zzh ?zzk | refine' s_yes ?zzh ?zzk); (case zzh => walk_at "dt")))
local macro_rules
  | `(tactic| walk_at "no") => `(tactic| ((first | refine' q_no ?zzh ?zzk | refine' s_no ?zzh ?zzk); (case zzh => walk_at "dt")))
local macro_rules
  | `(tactic| walk_at "ret") => `(tactic| (refine' s_ret (v := _) ?zzh ?zzk; (case zzh => walk_at "ev")))
local macro_rules
  | `(tactic| walk_at "set") => `(tactic| ((first | refine' q_asg (v := _) ?zzh ?zzk | refine' s_asg (v := _) ?zzh ?zzk); (case zzh => walk_at "ev")))
section
variable {P : Program} {w : World} {K : PySem.W.Frag} {mg : Str → Option Value} {base : Heap}
/-- xs != [] and xs[-1] == c -/
theorem et_rev {σ : L2.St} {H : Hp} {ta tc : TE} {a : Addr} {xs : List Nat} {c : Nat} (ha : Ev ta σ H (.ref a)) (hc : Ev tc σ H (nV c)) (h : H a = some (.lst (xs.map nV))) :
    EvT (tAnd (tTest (tOp (rNeD K) ta (tLst tNil))) (tTest (tOp rEq (tOp (rIxL K) ta (tUn (rU fun i => .int (-i)) (tC (.int 1)))) tc))) σ H (decide (xs.getLast? = some c)) := by
  have ht : EvT (tTest (tOp (rNeD K) ta (tLst tNil))) σ H (!decide (xs = [])) := et_leaf (ev_opL ha el_nil fun p H1 hp e => rv_neNs (ys := []) (e _ _ h) hp) rfl
  rcases xs.eq_nil_or_concat with rfl | ⟨ys, y, rfl⟩
  · exact et_andF ht
  · rw [decide_eq_false (by simp)] at ht
    rw [List.concat_eq_append, List.map_append] at h
    rw [List.concat_eq_append, List.getLast?_concat]
    refine et_andT'' ht (et_leaf (ev_op (ev_op ha (ev_un ev_c ru_neg) (rv_ixL (v := nV y) (SqL.of h) (atI_last _ _))) hc rv_eqI) ?_)
    rw [decN]
    by_cases q : y = c
    · rw [decide_eq_true q, decide_eq_true (by rw [q])]
    · rw [decide_eq_false q, decide_eq_false fun z => q (Option.some.inj z)]
def sp_law_state_clicked (_ : PySem.W.Frag) : Sp := fun vs H Q _ => ∃ (k : Addr) (v : V) (c n : Nat) (ks : List Kind) (B : Hp) (st : St), vs = [.ref k, v, nV c] ∧ Same B H ∧ B k = some (.lst (ks.map Kind.v)) ∧ LRep n B v st ∧ StOk ks n st ∧ c < ks.length ∧ n ≤ 500 ∧
  ∀ v' H', Same H H' → LRep n (ext B H H') v' (stClick ks st c) → Q v' H'
/-! _law_state_clicked: slots 0:_law_kinds 1:_law_state 2:_law_column 3:_law_cells 4:_law_shown_here 5:_law_click_list 6:_law_recent 7:_law_number 8:_law_keys 9:_law_base 10:_law_order 11:_law_one 12:_law_sign 13:_law_key -/
theorem sc_law_state_clicked : FnScope ["_law_kinds", "_law_state", "_law_column", "_law_cells", "_law_shown_here", "_law_click_list", "_law_recent", "_law_number", "_law_keys", "_law_base", "_law_order", "_law_one", "_law_sign", "_law_key"] ["_law_kinds", "_law_state", "_law_column"] (defScope s_law_state_clicked) := ⟨rfl, rfl, rfl, by decide +kernel, rfl, by decide +kernel, by decide +kernel⟩
theorem ok_law_state_clicked (T : Tp K mg w) : FnOk P w K mg base CX0 4 (a_law_state_clicked K) (fdAt K (a_law_state_clicked K)) ["_law_kinds", "_law_state", "_law_column"] (sp_law_state_clicked K) := by
  refine T.f_law_state_clicked.ok sc_law_state_clicked (fun vs H Q E h => ?_) (fun cdv A outer s H vs Q E hr h => ?_)
  · obtain ⟨k, v, c, n, ks, B, st, rfl, sB, hk, ⟨t, d, sh, cl, e, rfl, ht, hd, hsh, hcl, t2, l2, ys, rfl, ht2, hl2, pr⟩, ok, hc, hn, q⟩ := h
    rfl
  · obtain ⟨k, v, c, n, ks, B, st, rfl, sB, hk, ⟨t, d, sh, cl, e, rfl, ht, hd, hsh, hcl, t2, l2, ys, rfl, ht2, hl2, pr⟩, ok, hc, hn, q⟩ := h
    refine ⟨_, PSs.nox (pss_cons (ps_asg (pv 1) (kTup (K := K) (pg_tup (n := 5) rfl (pgs_cons (pg_name (i := 3) sc_law_state_clicked.nd rfl (Or.inl rfl)) (pgs_cons (pg_name (i := 4) sc_law_state_clicked.nd rfl (Or.inl rfl)) (pgs_cons (pg_name (i := 5) sc_law_state_clicked.nd rfl (Or.inl rfl)) (pgs_cons (pg_name (i := 6) sc_law_state_clicked.nd rfl (Or.inl rfl)) (pgs_cons (pg_name (i := 7) sc_law_state_clicked.nd rfl (Or.inl rfl)) pgs_nil)))))) rfl))
      (pss_cons (ps_asg (pv 6) (kTup (K := K) (pg_tup (n := 2) rfl (pgs_cons (pg_name (i := 8) sc_law_state_clicked.nd rfl (Or.inl rfl)) (pgs_cons (pg_name (i := 9) sc_law_state_clicked.nd rfl (Or.inl rfl)) pgs_nil))) rfl))
      (pss_cons (ps_if (PW.pt (pw_and (pt_cmpR (kOp (K := K) (r := rNeD) (op_neD (units_of hr)) rfl) (pv 5) (pe_lst pa_nil) (nomark _)) (pw_and1 (pt_cmpR op_eq (pe_ix (kIx (K := K) (r := rIxL) ix_list rfl) (pv 5) (pe_un un_neg pe_int) (fun _ _ => rfl)) (pv 2) (nomark _))))) (pss_cons (ps_setLc (i := 8) (own := [("_law_one", 11), ("_law_sign", 12)]) (g := (gTup K 2 (gCons (gName 11) (gCons (gName 12) gNil)))) rfl sc_law_state_clicked.nd rfl rfl (sw_true rfl rfl rfl (by decide +kernel)) (kPI (K := K) (i := fun K => iList K _) (pi_list (pv 8)) rfl) (blkOk_by (own := [("_law_one", 11), ("_law_sign", 12)]) (N := ["_law_kinds", "_law_state", "_law_column", "_law_cells", "_law_shown_here", "_law_click_list", "_law_recent", "_law_number", "_law_keys", "_law_base", "_law_order", "_law_one", "_law_sign", "_law_key"]) (sc := defScope s_law_state_clicked) (by decide +kernel)) (fun _ _ _ _ _ => (kTup (K := K) (pg_tup (n := 2) rfl (pgs_cons (pg_name (i := 11) sc_law_state_clicked.nd rfl (Or.inl rfl) (.inr rfl)) (pgs_cons (pg_name (i := 12) sc_law_state_clicked.nd rfl (Or.inl rfl) (.inr rfl)) pgs_nil))) rfl)) (fun _ _ _ _ _ => pts_nil) (fun _ _ _ _ _ => (pe_tup (pa_cons (pv 11) (pa_cons (pe_un un_neg (pv 12)) pa_nil)))))
      (pss_one (ps_ret (pe_tup (pa_cons (pv 3) (pa_cons (kRev (K := K) (pe_revL (pv 4)) rfl) (pa_cons (pe_op op_cat (pv 5) (pe_lst (pa_cons (pv 2) pa_nil))) (pa_cons (pe_tup (pa_cons (pv 8) (pa_cons (pe_un un_neg (pv 9)) pa_nil))) (pa_cons (pv 7) pa_nil))))))))) pss_nil)
      (pss_cons (ps_set (i := 8) sc_law_state_clicked.nd rfl (Or.inl rfl) (pe_op op_cat (pe_lst (pa_cons (pe_tup (pa_cons (pv 2) (pa_cons pe_int pa_nil))) pa_nil)) (pe_lc (own := [("_law_key", 13)]) (g := (gName 13)) rfl sc_law_state_clicked.nd (kPI (K := K) (i := fun K => iList K _) (pi_list (pv 8)) rfl) (blkOk_by (own := [("_law_key", 13)]) (N := ["_law_kinds", "_law_state", "_law_column", "_law_cells", "_law_shown_here", "_law_click_list", "_law_recent", "_law_number", "_law_keys", "_law_base", "_law_order", "_law_one", "_law_sign", "_law_key"]) (sc := defScope s_law_state_clicked) (by decide +kernel)) (fun _ _ _ _ _ => (pg_name (i := 13) sc_law_state_clicked.nd rfl (Or.inl rfl) (.inr rfl))) (fun _ _ _ _ _ => (pts_one (pt_cmpR op_ne (pe_ix (kIx (K := K) (r := rIxT) ix_tup rfl) (pv 13) pe_int (fun _ _ => rfl)) (pv 2) (nomark _)))) (fun _ _ _ _ _ => (pv 13)))))
      (pss_cons (ps_set (i := 10) sc_law_state_clicked.nd rfl (Or.inl rfl) (pe_call (ok_law_sorted (K := K) T) (hr.mono (by decide)) rfl T.g_law_sorted T.f_law_sorted.kp T.bn_law_sorted .nil pass0 (pa_cons (pe_tup (pa_cons (pv 0) (pa_cons (pv 3) pa_nil))) (pa_cons (pv 4) (pa_cons (pv 2) pa_nil)))))
      (pss_one (ps_ret (pe_tup (pa_cons (pv 3) (pa_cons (pv 10) (pa_cons (pe_op op_cat (pv 5) (pe_lst (pa_cons (pv 2) pa_nil))) (pa_cons (pe_tup (pa_cons (pv 8) (pa_cons (pv 9) pa_nil))) (pa_cons (pv 7) pa_nil))))))))))))), ?_⟩
    have hsl := ok.sl
    have hcln := ok.cl
    have hkl := ok.kl
    refine q_unp5 rfl (ev_var rfl) (sB _ _ ht) fun H1 e1 => ?_
    refine q_unp2 rfl (ev_var rfl) (e1 _ _ (sB _ _ ht2)) fun H2 e2 => ?_
    have e12 := e1.trans e2
    have s2 := sB.trans e12
    have fin : ∀ (v' : V) (H3 : Hp) (r o c2 t3 : Addr) (kv : V), Same H H3 → v' = .ref r → H r = none → H3 r = some (.tup [.ref d, .ref o, .ref c2, .ref t3, nV st.next]) → H o = none → H3 o = some (.lst ((stClick ks st c).shown.map nV)) → H c2 = none → H3 c2 = some (.lst ((st.clicked ++ [c]).map nV)) → H t3 = none → H3 t3 = some (.tup [kv, .int (effBase st.base (isRev st c))]) → NewKeys B H (effKeys st.keys c (isRev st c)) kv H3 → Q v' H3 := fun v' H3 r o c2 t3 kv e13 ev nr hr no ho nc hc2 nt ht3 nk => by
      subst ev
      refine q _ H3 e13 ⟨r, d, o, c2, .ref t3, rfl, ext_new sB nr hr, (hd.mono ext_old (Nat.le_refl n)).of fun r m => (clk_perm _ _ _).mem_iff.mp m, ext_new sB no ho, ext_new sB nc hc2, nk.eff sB nt ht3⟩
    have cat : ∀ {σ : L2.St} {H3 : Hp}, Same H H3 → σ[5]? = some (some (.ref cl)) → σ[2]? = some (some (nV c)) → EvL (tOp rCat (tVar 5) (tLst (tCons (tVar 2) tNil))) σ H3 ((st.clicked ++ [c]).map nV) := fun s h5 h2 => by
      rw [List.map_append]
      exact el_catX (EvX.of (ev_var h5)) (EvX.ofL (el_lst (ea_cons (ev_var h2) ea_nil) (by show 1 ≤ 100000; omega))) (st.clicked.map nV) [nV c] (fun v H1 H2 e1 e2 r => ⟨cl, r, e2 _ _ (e1 _ _ (s _ _ (sB _ _ hcl)))⟩) (fun v H1 H2 e1 e2 ⟨p, ev, np, hp⟩ => ⟨p, ev, hp⟩) (by rw [List.length_map]; show _ + 1 ≤ _; omega)
    have htest := et_rev (K := K) (σ := [some (.ref k), some (.ref t), some (nV c), some (.ref d), some (.ref sh), some (.ref cl), some (.ref t2), some (nV st.next), some (.ref l2), some (.int st.base), none, none, none, none]) (H := H2) (ta := tVar 5) (tc := tVar 2) (ev_var rfl) (ev_var rfl) (s2 _ _ hcl)
    cases hrev : isRev st c with
    | true =>
      have hrev' : decide (st.clicked.getLast? = some c) = true := hrev
      rw [hrev'] at htest
      rw [hrev] at fin
      refine q_yes htest fun H3 e3 => ?_
      have s3 := s2.trans e3
      refine q_asgX (ex_keysR (B := B) s3 (ev_var rfl) (s3 _ _ hl2) (Paired.mapP pr fun p y ⟨t, e, h⟩ => ⟨t, e, s3 _ _ h⟩) (by omega) c fun p m => eu_tup (ea_cons (ev_var rfl) (ea_cons (ev_un (ev_var rfl) ru_neg) ea_nil)) (by show 2 ≤ 100000; omega)) fun kv H4 e4 nk => ?_
      have e14 := (e12.trans e3).trans e4
      refine s_retX (ex_tupA (eax_v (v := .ref d) (ev_var rfl) (eax_lF (el_rev (K := K) (ev_var rfl) (e14 _ _ (sB _ _ hsh))) (eax_lF (cat e14 rfl rfl) (eax_uF (eu_tup (ea_cons (ev_var rfl) (ea_cons (ev_un (ev_var rfl) ru_neg) ea_nil)) (by show 2 ≤ 100000; omega)) (eax_v (v := nV st.next) (ev_var rfl) eax_nil))))) fun vs H5 ⟨u1, f1, u2, o, f2, _, _, u3, c2, f3, _, _, u4, t3, f4, _, _, u5, f5, f6⟩ => by
          subst f6 f5 f4 f3 f2 f1
          show 5 ≤ 100000
          omega) fun v' H5 e5 ⟨r, vs, G, ev, g1, g2, nr, ⟨u1, f1, u2, o, f2, no, ho, u3, c2, f3, nc, hc2, u4, t3, f4, nt, ht3, u5, f5, f6⟩, hr⟩ => ?_
      subst f6 f5 f4 f3 f2 f1
      have hshown : (stClick ks st c).shown = st.shown.reverse := by
        show clk _ _ _ _ = _
        unfold clk
        rw [if_pos (of_decide_eq_true hrev')]
      exact fin v' H5 r o c2 t3 kv (e14.trans e5) ev (fresh_back e14 nr) hr (fresh_back e14 no) (by rw [hshown, List.map_reverse]; exact g2 _ _ ho) (fresh_back e14 nc) (g2 _ _ hc2) (fresh_back e14 nt) (g2 _ _ ht3) ((nk.mono e5).back (e12.trans e3))
    | false =>
      have hrev' : decide (st.clicked.getLast? = some c) = false := hrev
      rw [hrev'] at htest
      rw [hrev] at fin
      refine q_pass htest fun H3 e3 => ?_
      have s3 := s2.trans e3
      refine q_asgX (ex_keysN (B := B) s3 (ev_var rfl) (s3 _ _ hl2) pr (by omega) c (eu_tup (ea_cons (ev_var rfl) (ea_cons ev_c ea_nil)) (by show 2 ≤ 100000; omega)) (fun p v m ⟨t, e, h⟩ => ?_) fun v => ev_var rfl) fun kv H4 e4 nk => ?_
      · subst e
        exact et_leaf (ev_op (ev_op (ev_var rfl) ev_c (rv_ixT (SqT.of (s3 _ _ h)) (atI_nat (j := 0) rfl))) (ev_var rfl) rv_neI) (by rw [decN])
      have e14 := (e12.trans e3).trans e4
      have s4 := sB.trans e14
      refine q_asgL (xs := (isrt (ltC ks st.cells c) st.shown).map nV) (el_callA (eax_uF (eu_tup (vs := [.ref k, .ref d]) (ea_cons (ev_var rfl) (ea_cons (ev_var rfl) ea_nil)) (by show 2 ≤ 100000; omega)) (eax_v (v := .ref sh) (ev_var rfl) (eax_v (v := nV c) (ev_var rfl) eax_nil))) fun vs H5 e5 ⟨u1, p, f1, np, hp, u2, f2, u3, f3, f4⟩ => ?_) fun o H5 no e5 ho => ?_
      · subst f4 f3 f2 f1
        refine fun H6 e6 Q kk E => ⟨.ref p, sh, ks, n, st.shown, st.cells, c, rfl, ⟨p, k, d, rfl, e6 _ _ hp, e6 _ _ (e5 _ _ (s4 _ _ hk)), hd.mono ((s4.trans e5).trans e6) (Nat.le_refl n)⟩, e6 _ _ (e5 _ _ (s4 _ _ hsh)), ok.rows, hc, by omega, kk⟩
      have e15 := e14.trans e5
      refine s_retX (ex_tupA (eax_v (v := .ref d) (ev_var rfl) (eax_v (v := .ref o) (ev_var rfl) (eax_lF (cat e15 rfl rfl) (eax_uF (eu_tup (ea_cons (ev_var rfl) (ea_cons (ev_var rfl) ea_nil)) (by show 2 ≤ 100000; omega)) (eax_v (v := nV st.next) (ev_var rfl) eax_nil))))) fun vs H6 ⟨u1, f1, u2, f2, u3, c2, f3, _, _, u4, t3, f4, _, _, u5, f5, f6⟩ => by
          subst f6 f5 f4 f3 f2 f1
          show 5 ≤ 100000
          omega) fun v' H6 e6 ⟨r, vs, G, ev, g1, g2, nr, ⟨u1, f1, u2, f2, u3, c2, f3, nc, hc2, u4, t3, f4, nt, ht3, u5, f5, f6⟩, hr⟩ => ?_
      subst f6 f5 f4 f3 f2 f1
      have hshown : (stClick ks st c).shown = isrt (ltC ks st.cells c) st.shown := by
        show clk _ _ _ _ = _
        unfold clk
        rw [if_neg (of_decide_eq_false hrev')]
      exact fin v' H6 r o c2 t3 kv (e15.trans e6) ev (fresh_back e15 nr) hr (fresh_back e14 no) (by rw [hshown]; exact e6 _ _ ho) (fresh_back e15 nc) (g2 _ _ hc2) (fresh_back e15 nt) (g2 _ _ ht3) (((nk.mono e5).mono e6).back (e12.trans e3))
def sp_law_settled (_ : PySem.W.Frag) : Sp := fun vs H Q _ => ∃ (k : Addr) (v : V) (n : Nat) (ks : List Kind) (st : St), vs = [.ref k, v] ∧ H k = some (.lst (ks.map Kind.v)) ∧ LRep n H v st ∧ StOk ks n st ∧ n ≤ 500 ∧ RetV (.bl (settled ks st)) H Q
/-! _law_settled: slots 0:_law_kinds 1:_law_state 2:_law_cells 3:_law_shown_here 4:_law_click_list 5:_law_recent 6:_law_number 7:_law_here 8:_law_table_here 9:_law_k -/
theorem sc_law_settled : FnScope ["_law_kinds", "_law_state", "_law_cells", "_law_shown_here", "_law_click_list", "_law_recent", "_law_number", "_law_here", "_law_table_here", "_law_k"] ["_law_kinds", "_law_state"] (defScope s_law_settled) := ⟨rfl, rfl, rfl, by decide +kernel, rfl, by decide +kernel, by decide +kernel⟩
theorem ok_law_settled (T : Tp K mg w) : FnOk P w K mg base CX0 4 (a_law_settled K) (fdAt K (a_law_settled K)) ["_law_kinds", "_law_state"] (sp_law_settled K) := by
  refine T.f_law_settled.ok sc_law_settled (fun vs H Q E h => ?_) (fun cdv A outer s H vs Q E hr h => ?_)
  · obtain ⟨k, v, n, ks, st, rfl, hk, ⟨t, d, sh, cl, e, rfl, ht, hd, hsh, hcl, he⟩, ok, hn, q⟩ := h
    rfl
  · obtain ⟨k, v, n, ks, st, rfl, hk, ⟨t, d, sh, cl, e, rfl, ht, hd, hsh, hcl, he⟩, ok, hn, q⟩ := h
    refine ⟨_, PSs.nox (pss_cons (ps_asg (pv 1) (kTup (K := K) (pg_tup (n := 5) rfl (pgs_cons (pg_name (i := 2) sc_law_settled.nd rfl (Or.inl rfl)) (pgs_cons (pg_name (i := 3) sc_law_settled.nd rfl (Or.inl rfl)) (pgs_cons (pg_name (i := 4) sc_law_settled.nd rfl (Or.inl rfl)) (pgs_cons (pg_name (i := 5) sc_law_settled.nd rfl (Or.inl rfl)) (pgs_cons (pg_name (i := 6) sc_law_settled.nd rfl (Or.inl rfl)) pgs_nil)))))) rfl))
      (pss_cons (ps_set (i := 7) sc_law_settled.nd rfl (Or.inl rfl) (pe_callB (kCR (K := K) (r := rSortedI) cr_sortedI rfl) rfl T.b_sorted (by decide +kernel) (pa_cons (pv 3) pa_nil)))
      (pss_cons (ps_set (i := 8) sc_law_settled.nd rfl (Or.inl rfl) (pe_tup (pa_cons (pv 0) (pa_cons (pv 2) pa_nil))))
      (pss_cons (ps_for PassesOwn.never rfl (pi_range1 rfl T.b_range (pa_cons (pe_callB (kCR (K := K) (r := rLenQ) call_len_seq rfl) rfl T.b_len (by decide +kernel) (pa_cons (pv 4) pa_nil)) pa_nil)) (pg_name (i := 9) sc_law_settled.nd rfl (Or.inl rfl)) (pss_one (ps_if (PW.pt (pw_and (pt_cmpR op_gt (pv 9) pe_int (nomark _)) (pw_and1 (pt_cmpR op_eq (pe_ix (kIx (K := K) (r := rIxL) ix_list rfl) (pv 4) (pv 9) (fun _ _ => rfl)) (pe_ix (kIx (K := K) (r := rIxL) ix_list rfl) (pv 4) (pe_op op_sub (pv 9) pe_int) (fun _ _ => rfl)) (nomark _))))) (pss_one (ps_set (i := 7) sc_law_settled.nd rfl (Or.inl rfl) (kRev (K := K) (pe_revL (pv 7)) rfl))) (pss_one (ps_set (i := 7) sc_law_settled.nd rfl (Or.inl rfl) (pe_call (ok_law_sorted (K := K) T) (hr.mono (by decide)) rfl T.g_law_sorted T.f_law_sorted.kp T.bn_law_sorted .nil pass0 (pa_cons (pv 8) (pa_cons (pv 7) (pa_cons (pe_ix (kIx (K := K) (r := rIxL) ix_list rfl) (pv 4) (pv 9) (fun _ _ => rfl)) pa_nil)))))))))
      (pss_one (ps_ret (pe_cmpR (kOp (K := K) (r := rEqD) (op_eqD (units_of hr)) rfl) (pv 7) (pv 3) (nomark _)))))))), ?_⟩
    have hsl := ok.sl
    have hcln := ok.cl
    have pm0 := srtN_perm st.shown
    refine q_unp5 rfl (ev_var rfl) ht fun H1 e1 => ?_
    refine q_asgL (el_sortedN (K := K) (ev_var rfl) (e1 _ _ hsh)) fun l0 H2 nl e2 hl0 => ?_
    have e12 := e1.trans e2
    refine q_asgU (eu_tup (ea_cons (ev_var rfl) (ea_cons (ev_var rfl) ea_nil)) (by show 2 ≤ 100000; omega)) fun p H3 np e3 hp => ?_
    have e13 := e12.trans e3
    refine q_forR1 (n := (st.clicked.length : Int)) (ea_cons (ev_cb (ea_cons (ev_var rfl) ea_nil) (rc_lenM (e13 _ _ hcl))) ea_nil) (by omega) (fun i σ' H' => ∃ l z, σ' = [some (.ref k), some (.ref t), some (.ref d), some (.ref sh), some (.ref cl), some e, some (nV st.next), some (.ref l), some (.ref p), z] ∧ Same H3 H' ∧ H' l = some (.lst ((vw (ltC ks st.cells) (srtN st.shown) (st.clicked.take i) none).map nV))) (fun H4 e4 => ⟨l0, none, rfl, e4, e4 _ _ (e3 _ _ hl0)⟩) (fun i σ' H' hi ⟨l, z, es, s, hl⟩ => ?_) fun σ' H' ⟨l, z, es, s, hl⟩ => ?_
    · subst es
      have hin : i < st.clicked.length := by omega
      obtain ⟨c, hc⟩ : ∃ c, st.clicked[i]? = some c := ⟨_, List.getElem?_eq_getElem hin⟩
      have hcc := ok.cc c (List.mem_of_getElem? hc)
      have et := vw_take (lt := ltC ks st.cells) (shown := srtN st.shown) hc
      have pm := (vw_perm (lt := ltC ks st.cells) (st.clicked.take i) (srtN st.shown) none).trans pm0
      generalize hcur : vw (ltC ks st.cells) (srtN st.shown) (st.clicked.take i) none = cur at hl et pm
      have htest := et_again (K := K) (σ := [some (.ref k), some (.ref t), some (.ref d), some (.ref sh), some (.ref cl), some e, some (nV st.next), some (.ref l), some (.ref p), some (nV i)]) (H := H') (ta := tVar 4) (ti := tVar 9) (ev_var rfl) (ev_var rfl) (s _ _ (e13 _ _ hcl)) hc
      show tIfS _ _ _ _ _ _
      cases hrev : decide ((st.clicked.take i).getLast? = some c) with
      | true =>
        rw [hrev] at htest
        refine s_yes htest fun H4 e4 => ?_
        refine s_asgL (el_rev (K := K) (ev_var rfl) (e4 _ _ hl)) fun l' H5 nl' e5 hl' => ⟨l', _, rfl, (s.trans e4).trans e5, ?_⟩
        rw [et]
        unfold clk
        rw [if_pos (of_decide_eq_true hrev), List.map_reverse]
        exact hl'
      | false =>
        rw [hrev] at htest
        refine s_no htest fun H4 e4 => ?_
        refine s_asgL (xs := (isrt (ltC ks st.cells c) cur).map nV) (el_call (vs := [.ref p, .ref l, nV c]) (ea_cons (ev_var rfl) (ea_cons (ev_var rfl) (ea_cons (ev_op (ev_var rfl) (ev_var rfl) (rv_ixL (SqL.of (e4 _ _ (s _ _ (e13 _ _ hcl)))) (atI_nat (by rw [List.getElem?_map, hc] <;> rfl)))) ea_nil))) fun H5 e5 Q kk E => ?_) fun l' H5 nl' e5 hl' => ⟨l', _, rfl, (s.trans e4).trans e5, ?_⟩
        · exact ⟨.ref p, l, ks, n, cur, st.cells, c, rfl, ⟨p, k, d, rfl, e5 _ _ (e4 _ _ (s _ _ hp)), e5 _ _ (e4 _ _ (s _ _ (e13 _ _ hk))), (hd.of fun r m => pm.mem_iff.mp m).mono (((e13.trans s).trans e4).trans e5) (Nat.le_refl n)⟩, e5 _ _ (e4 _ _ hl), fun r m => ok.rows r (pm.mem_iff.mp m), hcc, by rw [pm.length_eq]; omega, kk⟩
        · rw [et]
          unfold clk
          rw [if_neg (of_decide_eq_false hrev)]
          exact hl'
    · subst es
      rw [Int.toNat_natCast, List.take_of_length_le (Nat.le_refl _)] at hl
      exact s_ret (ev_op (ev_var rfl) (ev_var rfl) (rv_eqNs hl (s _ _ (e13 _ _ hsh)))) fun H4 e4 => q H4 ((e13.trans s).trans e4)
end
end HC


set_option Elab.async false
set_option linter.all false
set_option maxRecDepth 100000
set_option maxHeartbeats 4000000
namespace HC
open PySem PySem.Spec PyProof.Rows L2 Evl
local macro_rules
  | `(tactic| walk_at "ev") => `(tactic| first
    | exact ev_c
    | exact ev_var rfl
    | exact ea_nil
    | exact et_yes
    | exact eo_none
    | exact rv_I0
    | exact rv_eqI
    | exact rv_neI
    | exact rv_eqS
    | exact rv_neS
    | exact rv_eqB
    | exact rv_neB
    | exact rv_isN
    | exact rv_notN
    | exact rv_leS
    | exact rv_ltS
    | exact ru_neg
    | assumption
    | (apply ea_cons <;> walk_at "ev")
    | (apply et_test <;> walk_at "ev")
    | (apply et_B <;> walk_at "ev")
    | (apply et_not <;> walk_at "ev")
    | (apply ev_op <;> walk_at "ev")
    | (apply ev_un <;> walk_at "ev")
    | (apply ev_isi_int (h := kit_int_int) <;> walk_at "ev")
    | (apply ev_isi_int (h := kit_int_bool) <;> walk_at "ev")
    | (apply ev_isi_str (h := kit_str_str) <;> walk_at "ev")
    | (apply ev_isi_lst (h := kit_list_list) <;> walk_at "ev")
    | (apply ev_isi_tup (h := kit_tuple_tuple) <;> walk_at "ev")
    | (apply rc_lenL ; assumption)
    | (apply rc_lenT ; assumption)
    | (apply rc_lenS ; assumption)
    | (apply ev_chain <;> first | walk_at "ev" | (intro _; walk_at "ev"))
    | (apply et_or <;> first | walk_at "ev" | (intro _; walk_at "ev"))
    | (apply et_and <;> first | walk_at "ev" | (intro _; walk_at "ev"))
    | (apply ev_orV <;> first | walk_at "ev" | (intro _; walk_at "ev"))
    | (apply ev_andV <;> first | walk_at "ev" | (intro _; walk_at "ev"))
    | (apply ev_notV <;> walk_at "ev")
    | (apply ev_cb <;> walk_at "ev")
    | (apply eo_some <;> walk_at "ev"))
local macro_rules
  | `(tactic| walk_at "dec") => `(tactic| first
    | assumption
    | exact dnI
    | exact dnS
    | decide +kernel
    | (with_reducible rfl)
    | (simp only [decide_eq_true_eq, Bool.and_eq_true, Bool.not_eq_true', decide_eq_false_iff_not, Bool.not_true, Bool.not_false, Bool.and_eq_false_iff, Bool.or_eq_false_iff, Bool.or_eq_true]; omega)
    | rfl)
local macro_rules
  | `(tactic| walk_at "dt") => `(tactic| first
    | assumption
    | exact et_yes
    | (apply et_orF <;> walk_at "dt")
    | (apply et_andT <;> walk_at "dt")
    | (apply et_notF; walk_at "dt")
    | (apply et_notT; walk_at "dt")
    | (apply et_chT <;> first | walk_at "ev" | walk_at "dec")
    | (apply et_leaf <;> first | walk_at "ev" | walk_at "dec")
    | (apply et_leafB <;> first | walk_at "ev" | walk_at "dec"))
local macro_rules
  | `(tactic| walk_at "pass") => `(tactic| (refine' q_pass ?zzh ?zzk; (case zzh => walk_at "dt")))
local macro_rules
  | `(tactic| walk_at "yes") => `(tactic| ((first | refine' q_yes ?zzh ?zzk | refine' s_yes ?zzh ?zzk); (case zzh => walk_at "dt")))
local macro_rules
  | `(tactic| walk_at "no") => `(tactic| ((first | refine' q_no ?zzh ?zzk | refine' s_no ?zzh ?zzk); (case zzh => walk_at "dt")))
local macro_rules
  | `(tactic| walk_at "ret") => `(tactic| (refine' s_ret (v := _) ?zzh ?zzk; (case zzh => walk_at "ev")))
local macro_rules
  | `(tactic| walk_at "set") => `(tactic| ((first | refine' q_asg (v := _) ?zzh ?zzk | refine' s_asg (v := _) ?zzh ?zzk); (case zzh => walk_at "ev")))
section
variable {P : Program} {w : World} {K : PySem.W.Frag} {mg : Str → Option Value} {base : Heap}
def sp_law_state_right (K : PySem.W.Frag) : Sp := fun vs H Q _ => ∃ (s k : Addr) (v : V) (n : Nat) (ks : List Kind) (st : St), vs = [.ref s, .ref k, v] ∧ Top K ks n H s st ∧ H k = some (.lst (ks.map Kind.v)) ∧ LRep n H v st ∧ StOk ks n st ∧ ks.length ≤ 8 ∧ n ≤ 500 ∧ RetV (.bl true) H Q
/-! _law_state_right: slots 0:_law_here 1:_law_kinds 2:_law_state 3:_law_cells 4:_law_shown_here 5:_law_click_list 6:_law_recent 7:_law_number 8:_law_last 9:_law_row -/
theorem sc_law_state_right : FnScope ["_law_here", "_law_kinds", "_law_state", "_law_cells", "_law_shown_here", "_law_click_list", "_law_recent", "_law_number", "_law_last", "_law_row"] ["_law_here", "_law_kinds", "_law_state"] (defScope s_law_state_right) := ⟨rfl, rfl, rfl, by decide +kernel, rfl, by decide +kernel, by decide +kernel⟩
theorem ok_law_state_right (T : Tp K mg w) : FnOk P w K mg base CX0 6 (a_law_state_right K) (fdAt K (a_law_state_right K)) ["_law_here", "_law_kinds", "_law_state"] (sp_law_state_right K) := by
  refine T.f_law_state_right.ok sc_law_state_right (fun vs H Q E h => ?_) (fun cdv A outer s H vs Q E hr h => ?_)
  · obtain ⟨s, k, v, n, ks, st, rfl, tp, hk, lr, ok, hk8, hn, q⟩ := h
    rfl
  · obtain ⟨s, k, v, n, ks, st, rfl, tp, hk, lr, ok, hk8, hn, q⟩ := h
    refine ⟨_, PSs.nox (pss_cons (ps_asg (pv 2) (kTup (K := K) (pg_tup (n := 5) rfl (pgs_cons (pg_name (i := 3) sc_law_state_right.nd rfl (Or.inr rfl) (.inl rfl)) (pgs_cons (pg_name (i := 4) sc_law_state_right.nd rfl (Or.inl rfl)) (pgs_cons (pg_name (i := 5) sc_law_state_right.nd rfl (Or.inl rfl)) (pgs_cons (pg_name (i := 6) sc_law_state_right.nd rfl (Or.inl rfl)) (pgs_cons (pg_name (i := 7) sc_law_state_right.nd rfl (Or.inl rfl)) pgs_nil)))))) rfl))
      (pss_cons (ps_if (PW.pt (pw_or (pt_cmpR (kOp (K := K) (r := rNeD) (op_neD (units_of hr)) rfl) (pe_meth0 (pv 0) T.cl_Session T.m_Session_view (ok_Session_view (K := K) T) (hr.mono (by decide)) T.bn_Session_view .nil pass0) (pv 4) (nomark _)) (pw_or (pt_cmpR op_ne (pe_callB (call_lenO (ok_Session_len (K := K) T) (hr.mono (by decide)) T.m_Session_len T.bn_Session_len pass0) rfl T.b_len (by decide +kernel) (pa_cons (pv 0) pa_nil)) (pe_callB (kCR (K := K) (r := rLenQ) call_len_seq rfl) rfl T.b_len (by decide +kernel) (pa_cons (pv 4) pa_nil)) (nomark _)) (pw_or1 (pt_cmpR (kOp (K := K) (r := rNeD) (op_neD (units_of hr)) rfl) (pe_meth0 (pv 0) T.cl_Session T.m_Session_recent_effect (ok_Session_recent_effect (K := K) T) (hr.mono (by decide)) T.bn_Session_recent_effect .nil pass0) (pv 6) (nomark _)))))) (pss_one (ps_ret pe_bl)) pss_nil)
      (pss_cons (ps_if (pt_cmpR (kOp (K := K) (r := rNeD) (op_neD (units_of hr)) rfl) (pe_lc (own := [("_law_row", 9)]) (g := (gName 9)) rfl sc_law_state_right.nd (kPI (K := K) (i := fun K => iList K _) (pi_list (pv 4)) rfl) (blkOk_by (own := [("_law_row", 9)]) (N := ["_law_here", "_law_kinds", "_law_state", "_law_cells", "_law_shown_here", "_law_click_list", "_law_recent", "_law_number", "_law_last", "_law_row"]) (sc := defScope s_law_state_right) (by decide +kernel)) (fun _ _ _ _ _ => (pg_name (i := 9) sc_law_state_right.nd rfl (Or.inl rfl) (.inr rfl))) (fun _ _ _ _ _ => pts_nil) (fun _ _ _ _ _ => (pe_meth (pv 0) T.cl_Session T.m_Session_row_cells (ok_Session_row_cells (K := K) T) (hr.mono (by decide)) T.bn_Session_row_cells .nil pass0 (pa_cons (pv 9) pa_nil)))) (pe_lc (own := [("_law_row", 9)]) (g := (gName 9)) rfl sc_law_state_right.nd (kPI (K := K) (i := fun K => iList K _) (pi_list (pv 4)) rfl) (blkOk_by (own := [("_law_row", 9)]) (N := ["_law_here", "_law_kinds", "_law_state", "_law_cells", "_law_shown_here", "_law_click_list", "_law_recent", "_law_number", "_law_last", "_law_row"]) (sc := defScope s_law_state_right) (by decide +kernel)) (fun _ _ _ _ _ => (pg_name (i := 9) sc_law_state_right.nd rfl (Or.inl rfl) (.inr rfl))) (fun _ _ _ _ _ => pts_nil) (fun _ _ _ _ _ => (pe_dget (hu_of hr) (pv 3) (pv 9) (fun _ _ => rfl)))) (nomark _)) (pss_one (ps_ret pe_bl)) pss_nil)
      (pss_cons (ps_set (i := 8) sc_law_state_right.nd rfl (Or.inl rfl) pe_non)
      (pss_cons (ps_if (pt_cmpR (kOp (K := K) (r := rNeD) (op_neD (units_of hr)) rfl) (pv 5) (pe_lst pa_nil) (nomark _)) (pss_one (ps_set (i := 8) sc_law_state_right.nd rfl (Or.inl rfl) (pe_ix (kIx (K := K) (r := rIxL) ix_list rfl) (pv 5) (pe_un un_neg pe_int) (fun _ _ => rfl)))) pss_nil)
      (pss_one (ps_ret (pe_and (pe_cmpR op_eq (pe_meth0 (pv 0) T.cl_Session T.m_Session_last_clicked (ok_Session_last_clicked (K := K) T) (hr.mono (by decide)) T.bn_Session_last_clicked .nil pass0) (pv 8) (nomark _)) (pe_one (pe_cmpR op_eq (pe_meth0 (pv 0) T.cl_Session T.m_Session_is_settled (ok_Session_is_settled (K := K) T) (hr.mono (by decide)) T.bn_Session_is_settled .nil pass0) (pe_call (ok_law_settled (K := K) T) (hr.mono (by decide)) rfl T.g_law_settled T.f_law_settled.kp T.bn_law_settled .nil pass0 (pa_cons (pv 1) (pa_cons (pv 2) pa_nil))) (nomark _))))))))))), ?_⟩
    have lr0 := lr
    obtain ⟨t, d, sh, cl, e, rfl, ht, hd, hsh, hcl, he⟩ := lr
    obtain ⟨kvs, hkv, _, hrows⟩ := hd
    have tp0 := tp
    obtain ⟨dx, k2, L, U, svs, sv, hs, hk2, hL, sr⟩ := tp
    have hsl := ok.sl
    refine q_unp5 rfl (ev_var rfl) ht fun H1 e1 => ?_
    refine q_pass (et_orF (et_leaf (ev_opL1 (el_meth (vs := []) (ev_var rfl) (e1 _ _ hs) rfl ea_nil fun H2 e Q k E => ⟨s, ks, n, st, rfl, tp0.mono (e1.trans e), k⟩) (fun H2 e => ev_var rfl) fun p H2 hp e => rv_neNs hp (e _ _ (e1 _ _ hsh))) (by rw [decide_eq_true rfl] <;> rfl))
      (et_orF (et_leaf (ev_op (ev_lenO (ev_var rfl) (tp0.mono e1) (by omega)) (ev_cb (ea_cons (ev_var rfl) ea_nil) (rc_lenM (e1 _ _ hsh))) rv_neI) (by rw [decide_eq_true rfl] <;> rfl))
      (et_leaf (ev_opXE (R1 := fun v H1 H2 => ∃ G, Ex H1 G ∧ Ex G H2 ∧ EffAt H2 v st.keys st.base) (ex_meth (R := fun v H1 H2 => EffAt H2 v st.keys st.base) (ev_var rfl) (e1 _ _ hs) rfl eax_nil fun vs H2 e ev => ?_) (ev_var rfl) fun v H2 H3 e2 e3 ⟨G, _, _, h⟩ => rv_neDt (dp_eff h) (dp_eff (he.mono ((e1.trans e2).trans e3))) (lay_eff _ _)) rfl))) fun H2 e2 => ?_
    · subst ev
      exact fun H3 e3 Q k E => ⟨s, ks, n, st, rfl, tp0.mono ((e1.trans e).trans e3), fun v H' s h => k v H' s h⟩
    have e12 := e1.trans e2
    have hv : ∀ r ∈ st.shown, ∃ x, (valV kvs (.inl (r : Int))).getD .non = .ref x ∧ valV kvs (.inl (r : Int)) = some (.ref x) ∧ H x = some (.lst (st.cells r)) := fun r m => by
      obtain ⟨x, e, h⟩ := hrows r m
      exact ⟨x, by rw [e] <;> rfl, e, h⟩
    refine q_pass (et_leaf (ev_opXX (R1 := LcR st.shown (fun _ => true) fun r y H => ∃ a : Unit, True ∧ ∃ l, y = V.ref l ∧ H l = some (.lst (st.cells r))) (R := NewL (st.shown.map fun r : Nat => (valV kvs (.inl (r : Int))).getD .non)) (ex_lcL (K := K) st.shown nV (fun _ => true) _ (ev_var rfl) (SqL.of (e12 _ _ hsh)) (by omega) (fun _ _ => et_yes) fun r m _ => made_newL (F := fun _ : Unit => True) (f := fun _ => st.cells r) ?_) (EvX.ofL ?_) fun u v H3 H4 H5 H6 e3 e4 e5 e6 ⟨D, ys, eu, nD, hD, pr⟩ ⟨p, ev, np, hp⟩ => ?_) rfl) fun H3 e3 => ?_
    · refine (ex_meth (R := NewL (st.cells r)) (ev_var rfl) (e12 _ _ hs) rfl (eax_v (v := nV r) (ev_var rfl) eax_nil) fun vs H3 e3 ⟨us, f1, f2⟩ => ?_).imp fun y H3 H4 _ _ ⟨G, g1, g2, p, ey, np, hp⟩ => ⟨G, g1, g2, (), trivial, p, ey, np, hp⟩
      subst f2 f1
      exact fun H4 e4 Q k E => ⟨s, ks, n, st, r, rfl, tp0.mono ((e12.trans e3).trans e4), m, fun p H5 np e5 hp => k _ H5 e5 ⟨p, rfl, np, hp⟩⟩
    · have h := el_lcL (K := K) (tt := tYes) (j := 9) (te := tDGet (tVar 3) (tVar 9)) (tl := tVar 4) (σ := [some (.ref s), some (.ref k), some (.ref t), some (.ref d), some (.ref sh), some (.ref cl), some e, some (nV st.next), none, none]) (H := H2) st.shown nV (fun _ => true) (fun r => (valV kvs (.inl (r : Int))).getD .non) (ev_var rfl) (SqL.of (e12 _ _ hsh)) (by omega) (fun _ _ => et_yes) fun r m _ => ?_
      · rw [filter_tt] at h
        exact h
      · obtain ⟨x, h1, h2, h3⟩ := hv r m
        refine ev_dget (a := d) (ev_var rfl) (ev_var rfl) fun H3 e3 => ?_
        rw [h1, ← h2]
        exact DGet.k (k := .inl (r : Int)) (e3 _ _ (e12 _ _ hkv))
    · subst eu ev
      rw [filter_tt] at pr
      have e46 := e5.trans e6
      refine rv_neDt (d := .list (st.shown.map fun r => .list ((st.cells r).map dC))) (.lst (SqL.of (e46 _ _ hD)) (dpAll_of (paired_in pr fun r y m ⟨_, _, l, ey, h⟩ => ?_))) (.lst (SqL.of hp) (dpAll_of (paired_self fun r m => ?_))) (lay_map (n := 59) fun r m => lay_row (n := 58) (ok.rows r m))
      · subst ey
        exact dp_row (ok.rows r m) (e46 _ _ h)
      · obtain ⟨x, h1, h2, h3⟩ := hv r m
        rw [h1]
        exact dp_row (ok.rows r m) (e6 _ _ (e5 _ _ (e4 _ _ (e3 _ _ (e12 _ _ h3)))))
    have e13 := e12.trans e3
    refine q_asg (v := .non) ev_c fun H4 e4 => ?_
    have e14 := e13.trans e4
    refine q_ifAsg (v := lastV st.clicked.getLast?) (b := !decide (st.clicked = [])) (et_leaf (ev_opL (ev_var rfl) el_nil fun p H1 hp e => rv_neNs (ys := []) (e _ _ (e14 _ _ hcl)) hp) rfl) (fun h => ?_) (fun h => ?_) fun H5 e5 => ?_
    · rcases hq : st.clicked.eq_nil_or_concat with h0 | ⟨ys, y, h0⟩
      · rw [h0] at h
        simp at h
      · rw [List.concat_eq_append] at h0
        rw [h0, List.getLast?_concat]
        rw [h0, List.map_append] at hcl
        exact ev_op (ev_var rfl) (ev_un ev_c ru_neg) (rv_ixL (SqL.of (e14 _ _ hcl)) (atI_last _ _))
    · have h0 : st.clicked = [] := by simpa using h
      rw [h0]
      rfl
    · have e15 := e14.trans e5
      refine s_ret (v := .bl true) (ev_is (ev_andV (ev_op (ev_meth (vs := []) (z := lastV st.clicked.getLast?) (ev_var rfl) (e15 _ _ hs) rfl ea_nil fun H6 e6 Q k E => ⟨s, ks, n, st, rfl, tp0.mono (e15.trans e6), k⟩) (ev_var rfl) (rv_eq (lastV_scal2 _)))
        (fun _ => ev_op (ev_meth (vs := []) (z := .bl (settled ks st)) (ev_var rfl) (e15 _ _ hs) rfl ea_nil fun H6 e6 Q k E => ⟨s, ks, n, st, rfl, tp0.mono (e15.trans e6), ok, hk8, hn, k⟩) (ev_call (vs := [.ref k, .ref t]) (z := .bl (settled ks st)) (ea_cons (ev_var rfl) (ea_cons (ev_var rfl) ea_nil)) fun H6 e6 Q kk E => ⟨k, .ref t, n, ks, st, rfl, e6 _ _ (e15 _ _ hk), lr0.mono (e15.trans e6) (Nat.le_refl n), ok, hn, kk⟩) rv_eqB)) ?_) fun H6 e6 => q H6 (e15.trans e6)
      rw [decide_eq_true rfl, decide_eq_true rfl]
      rfl
end
end HC


set_option Elab.async false
set_option linter.all false
set_option maxRecDepth 100000
set_option maxHeartbeats 2000000
namespace HC
open PySem PySem.Spec PyProof.Rows L2 Evl
/-- xs[k] by values, k from the front -/
def rGetL : V → V → Hp → VK → Prop := fun o i H Q => ∃ p xs, ∃ k : Nat, ∃ z, o = .ref p ∧ i = .int (k : Int) ∧ H p = some (.lst xs) ∧ xs[k]? = some z ∧ Q z H
theorem get_list {X : Cx} : PGet X rGetL := by
  intro pins s σ H o i ov iv Q I ro ri h
  obtain ⟨p, xs, k, z, rfl, rfl, hp, hk, q⟩ := h
  cases ro
  obtain ⟨t, rfl⟩ := ri
  obtain ⟨its, rv, pl, hz⟩ := I.list (SqL.of (K := X.K) hp)
  obtain ⟨w, ew, rw'⟩ := rv.get hk
  have hl := rv.length
  have hn := line63
  have hkl : k < xs.length := (List.getElem?_eq_some_iff.mp hk).1
  exact wpAny_getItem_list pl.isList (by omega) (by omega) (x := w) (by rw [Int.toNat_natCast]; simpa using ew) ⟨z, H, I, rw', q⟩
/-- a new thing may still change -/
theorem Step.mutNew {M : List Addr} {B H B' H' : Hp} {m : Addr} {o o' : HO} (p : Step M B H B' H') (n : H m = none) (b : B' m = none) (h : H' m = some o) : Step M B H B' (upd H' m o') :=
  ⟨p.sB, same_mut p.sH b, fun a u q e => by
    rw [upd_ne (ne_of_none e n)]
    exact p.fr a u q e, p.mu, fun a q z => by
    by_cases e : a = m
    · rw [e, upd_same] at z
      cases z
    · rw [upd_ne e] at z
      exact p.al a q z⟩
/-- the bag: two ints that are not negative -/
def BagAt (H : Hp) (b : Addr) : Prop := ∃ x y : Int, H b = some (.lst [.int x, .int y]) ∧ 0 ≤ x ∧ 0 ≤ y
theorem BagAt.ex {H H' : Hp} {b : Addr} (e : Same H H') (h : BagAt H b) : BagAt H' b := by
  obtain ⟨x, y, h1, h2⟩ := h
  exact ⟨x, y, e _ _ h1, h2⟩
theorem BagAt.some {H : Hp} {b : Addr} (h : BagAt H b) : H b ≠ none := by
  obtain ⟨x, y, h1, _⟩ := h
  rw [h1]
  exact fun z => nomatch z
theorem BagAt.fr {M : List Addr} {B H B' H' : Hp} {b : Addr} (p : Step M B H B' H') (n : ¬ b ∈ M) (h : BagAt H b) : BagAt H' b := by
  obtain ⟨x, y, h1, h2⟩ := h
  exact ⟨x, y, p.fr _ _ n h1, h2⟩
section
variable {K : PySem.W.Frag} {σ : L2.St} {H H' : Hp} {ta tb tc te tx tl tv : TE} {t u : TT} {x y z v : V} {D : Ends} {tu tw tz : TS} {R R1 : V → Hp → Hp → Prop}
/-- x = f(..), f changing things -/
theorem s_asgCall {sp : Sp} {dvs : List V} {E : XK} {i : Nat} {t : TA} {vs : List V} (h : EvA t σ H vs) (k : ∀ H1, Ex H H1 → sp (vs ++ dvs) H1 (fun v H2 => D.nx (σ.set i (some v)) H2) E) : tAsg (tCall sp dvs E t) (gName i) D σ H := h H (Ex.refl H) _ fun H1 e => k H1 e
theorem q_asgCall {sp : Sp} {dvs : List V} {E : XK} {i : Nat} {t : TA} {vs : List V} (h : EvA t σ H vs) (k : ∀ H1, Ex H H1 → sp (vs ++ dvs) H1 (fun v H2 => tz D (σ.set i (some v)) H2) E) : tSeq (tAsg (tCall sp dvs E t) (gName i)) tz D σ H := h H (Ex.refl H) _ fun H1 e => k H1 e
end
end HC

set_option Elab.async false
set_option linter.all false
set_option maxRecDepth 100000
set_option maxHeartbeats 4000000
namespace HC
open PySem PySem.Spec PyProof.Rows L2 Evl
local macro_rules
  | `(tactic| walk_at "ev") => `(tactic| first
    | exact ev_c
    | exact ev_var rfl
    | exact ea_nil
    | exact et_yes
    | exact eo_none
    | exact rv_I0
    | exact rv_eqI
    | exact rv_neI
    | exact rv_eqS
    | exact rv_neS
    | exact rv_eqB
    | exact rv_neB
    | exact rv_isN
    | exact rv_notN
    | exact rv_leS
    | exact rv_ltS
    | exact ru_neg
    | assumption
    | (apply ea_cons <;> walk_at "ev")
    | (apply et_test <;> walk_at "ev")
    | (apply et_B <;> walk_at "ev")
    | (apply et_not <;> walk_at "ev")
    | (apply ev_op <;> walk_at "ev")
    | (apply ev_un <;> walk_at "ev")
    | (apply ev_isi_int (h := kit_int_int) <;> walk_at "ev")
    | (apply ev_isi_int (h := kit_int_bool) <;> walk_at "ev")
    | (apply ev_isi_str (h := kit_str_str) <;> walk_at "ev")
    | (apply ev_isi_lst (h := kit_list_list) <;> walk_at "ev")
    | (apply ev_isi_tup (h := kit_tuple_tuple) <;> walk_at "ev")
    | (apply rc_lenL ; assumption)
    | (apply rc_lenT ; assumption)
    | (apply rc_lenS ; assumption)
    | (apply ev_chain <;> first | walk_at "ev" | (intro _; walk_at "ev"))
    | (apply et_or <;> first | walk_at "ev" | (intro _; walk_at "ev"))
    | (apply et_and <;> first | walk_at "ev" | (intro _; walk_at "ev"))
    | (apply ev_orV <;> first | walk_at "ev" | (intro _; walk_at "ev"))
    | (apply ev_andV <;> first | walk_at "ev" | (intro _; walk_at "ev"))
    | (apply ev_notV <;> walk_at "ev")
    | (apply ev_cb <;> walk_at "ev")
    | (apply eo_some <;> walk_at "ev"))
local macro_rules
  | `(tactic| walk_at "dec") => `(tactic| first
    | assumption
    | exact dnI
    | exact dnS
    | decide +kernel
    | (with_reducible rfl)
    | (simp only [decide_eq_true_eq, Bool.and_eq_true, Bool.not_eq_true', decide_eq_false_iff_not, Bool.not_true, Bool.not_false, Bool.and_eq_false_iff, Bool.or_eq_false_iff, Bool.or_eq_true]; omega)
    | rfl)
local macro_rules
  | `(tactic| walk_at "dt") => `(tactic| first
    | assumption
    | exact et_yes
    | (apply et_orF <;> walk_at "dt")
    | (apply et_andT <;> walk_at "dt")
    | (apply et_notF; walk_at "dt")
    | (apply et_notT; walk_at "dt")
    | (apply et_chT <;> first | walk_at "ev" | walk_at "dec")
    | (apply et_leaf <;> first | walk_at "ev" | walk_at "dec")
    | (apply et_leafB <;> first | walk_at "ev" | walk_at "dec"))
local macro_rules
  | `(tactic| walk_at "pass") => `(tactic| (refine' q_pass ?zzh ?zzk; (case zzh => walk_at "dt")))
local macro_rules
  | `(tactic| walk_at "yes") => `(tactic| ((first | refine' q_yes ?zzh ?zzk | refine' s_yes ?zzh ?zzk); (case zzh => walk_at "dt")))
local macro_rules
  | `(tactic| walk_at "no") => `(tactic| ((first | refine' q_no ?zzh ?zzk | refine' s_no ?zzh ?zzk); (case zzh => walk_at "dt")))
local macro_rules
  | `(tactic| walk_at "ret") => `(tactic| (refine' s_ret (v := _) ?zzh ?zzk; (case zzh => walk_at "ev")))
local macro_rules
  | `(tactic| walk_at "set") => `(tactic| ((first | refine' q_asg (v := _) ?zzh ?zzk | refine' s_asg (v := _) ?zzh ?zzk); (case zzh => walk_at "ev")))
section
variable {P : Program} {w : World} {K : PySem.W.Frag} {mg : Str → Option Value} {base : Heap}
def sp_law_bag (_ : PySem.W.Frag) : Sp := fun vs H Q _ => ∃ (i : Int) (k : Nat), vs = [.int i, nV k] ∧ k ≤ 1000 ∧ ∀ b H', H b = none → Same H H' → BagAt H' b → Q (.ref b) H'
/-! _law_bag: slots 0:_law_cell_here 1:_law_k -/
theorem sc_law_bag : FnScope ["_law_cell_here", "_law_k"] ["_law_cell_here", "_law_k"] (defScope s_law_bag) := ⟨rfl, rfl, rfl, by decide +kernel, rfl, by decide +kernel, by decide +kernel⟩
theorem ok_law_bag (T : Tp K mg w) : FnOk P w K mg base CX0 1 (a_law_bag K) (fdAt K (a_law_bag K)) ["_law_cell_here", "_law_k"] (sp_law_bag K) := by
  refine T.f_law_bag.ok sc_law_bag (fun vs H Q E h => ?_) (fun cdv A outer s H vs Q E hr h => ?_)
  · obtain ⟨i, k, rfl, hk, q⟩ := h
    rfl
  · obtain ⟨i, k, rfl, hk, q⟩ := h
    refine ⟨_, PSs.nox (pss_cons (ps_if (pt_cmpR op_lt (pv 0) pe_int (nomark _)) (pss_one (ps_ret (pe_lst (pa_cons (pe_un un_neg (pv 0)) (pa_cons (pe_op op_add (pe_op op_mul pe_int (pv 1)) pe_int) pa_nil))))) pss_nil)
      (pss_one (ps_ret (pe_lst (pa_cons (pv 0) (pa_cons (pe_op op_mul pe_int (pv 1)) pa_nil)))))), ?_⟩
    by_cases h : i < 0
    · refine q_yes (et_leaf (ev_op (ev_var rfl) ev_c (rv_I0 (g := fun a b => V.bl (decide (a < b))))) (decide_eq_true h)) fun H1 e1 => ?_
      exact s_retL (el_lst (ea_cons (ev_un (ev_var rfl) ru_neg) (ea_cons (ev_op (ev_op ev_c (ev_var rfl) (rv_I (C := CMul) (g := fun i j => V.int (i * j)) (.inl (by omega)))) ev_c (rv_I0 (g := fun i j => V.int (i + j)))) ea_nil)) (by show 2 ≤ 100000; omega)) fun p H2 np e2 hp => q p H2 (fresh_back e1 np) (e1.trans e2) ⟨_, _, hp, by omega, by omega⟩
    · refine q_pass (et_leaf (ev_op (ev_var rfl) ev_c (rv_I0 (g := fun a b => V.bl (decide (a < b))))) (decide_eq_false h)) fun H1 e1 => ?_
      exact s_retL (el_lst (ea_cons (ev_var rfl) (ea_cons (ev_op ev_c (ev_var rfl) (rv_I (C := CMul) (g := fun i j => V.int (i * j)) (.inl (by omega)))) ea_nil)) (by show 2 ≤ 100000; omega)) fun p H2 np e2 hp => q p H2 (fresh_back e1 np) (e1.trans e2) ⟨_, _, hp, by omega, by omega⟩
def sp_law_draw (_ : PySem.W.Frag) : Sp := fun vs H Q _ => ∃ (B : Hp) (b : Addr) (m : Nat), vs = [.ref b, nV m] ∧ Same B H ∧ B b = none ∧ BagAt H b ∧ 0 < m ∧ m < 1000 ∧ ∀ (d : Nat) H', d < m → Step [b] B H B H' → BagAt H' b → Q (nV d) H'
/-! _law_draw: slots 0:_law_bag_here 1:_law_many 2:_law_digit 3:_law_one -/
theorem sc_law_draw : FnScope ["_law_bag_here", "_law_many", "_law_digit", "_law_one"] ["_law_bag_here", "_law_many"] (defScope s_law_draw) := ⟨rfl, rfl, rfl, by decide +kernel, rfl, by decide +kernel, by decide +kernel⟩
theorem ok_law_draw (T : Tp K mg w) : FnOk P w K mg base CX0 1 (a_law_draw K) (fdAt K (a_law_draw K)) ["_law_bag_here", "_law_many"] (sp_law_draw K) := by
  refine T.f_law_draw.ok sc_law_draw (fun vs H Q E h => ?_) (fun cdv A outer s H vs Q E hr h => ?_)
  · obtain ⟨B, b, m, rfl, sB, bb, ⟨x, y, hb, hx, hy⟩, hm0, hm, q⟩ := h
    rfl
  · obtain ⟨B, b, m, rfl, sB, bb, ⟨x, y, hb, hx, hy⟩, hm0, hm, q⟩ := h
    refine ⟨_, PSs.nox (pss_cons (ps_augS (pv 0) pe_int get_list pe_int ip_add set_list)
      (pss_cons (ps_if (pt_cmpR op_ge (pe_ix (kIx (K := K) (r := rIxL) ix_list rfl) (pv 0) pe_int (fun _ _ => rfl)) (pe_op op_pow pe_int pe_int) (nomark _)) (pss_cons (ps_set (i := 2) sc_law_draw.nd rfl (Or.inl rfl) (pe_op op_mod (pe_ix (kIx (K := K) (r := rIxL) ix_list rfl) (pv 0) pe_int (fun _ _ => rfl)) (pv 1)))
      (pss_cons (ps_asg (pe_op op_fdiv (pe_ix (kIx (K := K) (r := rIxL) ix_list rfl) (pv 0) pe_int (fun _ _ => rfl)) (pv 1)) (pg_sub (pv 0) pe_int set_list))
      (pss_one (ps_ret (pv 2))))) pss_nil)
      (pss_cons (ps_set (i := 3) sc_law_draw.nd rfl (Or.inl rfl) (pe_op op_mod (pe_op op_add (pe_op op_add (pe_op op_mod (pe_ix (kIx (K := K) (r := rIxL) ix_list rfl) (pv 0) pe_int (fun _ _ => rfl)) pe_int) (pe_op op_mul pe_int (pe_ix (kIx (K := K) (r := rIxL) ix_list rfl) (pv 0) pe_int (fun _ _ => rfl)))) pe_int) pe_int))
      (pss_cons (ps_set (i := 3) sc_law_draw.nd rfl (Or.inl rfl) (pe_op op_mod (pe_op op_mul (pv 3) (pv 3)) pe_int))
      (pss_cons (ps_set (i := 3) sc_law_draw.nd rfl (Or.inl rfl) (pe_op op_mod (pe_op op_add (pv 3) (pe_op op_mul pe_int (pe_ix (kIx (K := K) (r := rIxL) ix_list rfl) (pv 0) pe_int (fun _ _ => rfl)))) pe_int))
      (pss_cons (ps_set (i := 3) sc_law_draw.nd rfl (Or.inl rfl) (pe_op op_mod (pe_op op_mul (pv 3) (pv 3)) pe_int))
      (pss_one (ps_ret (pe_op op_mod (pe_op op_fdiv (pv 3) pe_int) (pv 1)))))))))), ?_⟩
    have st0 : Step [b] B H B H := Step.refl sB
    have st1 := st0.mutS (o' := .lst [.int x, .int (y + 1)]) (List.mem_singleton.mpr rfl) bb hb
    refine ⟨.ref b, rfl, b, _, 1, _, rfl, rfl, hb, rfl, y, 1, rfl, rfl, b, _, 1, 1, rfl, rfl, hb, rfl, ?_⟩
    have hb1 : (upd H b (.lst ([.int x, .int y].set 1 (.int (y + 1))))) b = some (.lst [.int x, .int (y + 1)]) := upd_same
    replace st1 : Step [b] B H B (upd H b (.lst ([.int x, .int y].set 1 (.int (y + 1))))) := st1
    generalize upd H b (.lst ([.int x, .int y].set 1 (.int (y + 1)))) = H1 at st1 hb1 ⊢
    have ix : ∀ {σ : L2.St} {H2 : Hp}, Ex H1 H2 → σ[0]? = some (some (.ref b)) → Ev (tOp (rIxL K) (tVar 0) (tC (.int 0))) σ H2 (.int x) := fun e h => ev_op (ev_var h) ev_c (rv_ixL (SqL.of (e _ _ hb1)) (atI_nat (j := 0) rfl))
    have iy : ∀ {σ : L2.St} {H2 : Hp}, Ex H1 H2 → σ[0]? = some (some (.ref b)) → Ev (tOp (rIxL K) (tVar 0) (tC (.int 1))) σ H2 (.int (y + 1)) := fun e h => ev_op (ev_var h) ev_c (rv_ixL (SqL.of (e _ _ hb1)) (atI_nat (j := 1) rfl))
    have hpow : Ev (tOp (rI CPow fun i j => .int (i ^ j.toNat)) (tC (.int 10)) (tC (.int 18))) (L2.start ["_law_bag_here", "_law_many", "_law_digit", "_law_one"] [.ref b, nV m]) H1 (.int (10 ^ 18)) := ev_op ev_c ev_c (rv_I (C := CPow) (g := fun i j => V.int (i ^ j.toNat)) ⟨by omega, by omega, by decide⟩)
    have drawn : ∀ {r : Int} {H2 : Hp}, Same H1 H2 → 0 ≤ r → r < m → Q (.int r) H2 := fun {r H2} e h0 h1 => by
      have := q r.toNat H2 (by omega) (st1.ex e) ⟨x, y + 1, e _ _ hb1, hx, by omega⟩
      rw [show nV r.toNat = V.int r by show V.int ((r.toNat : Nat) : Int) = _; rw [Int.toNat_of_nonneg h0]] at this
      exact this
    by_cases h : x ≥ 10 ^ 18
    · refine q_yes (et_leaf (ev_op (ix (Ex.refl H1) rfl) hpow (rv_I0 (g := fun i j => V.bl (decide (j ≤ i))))) (decide_eq_true h)) fun H2 e2 => ?_
      refine q_asg (ev_op (ix e2 rfl) (ev_var rfl) (rv_I (C := fun _ j => 0 < j) (g := fun i j => V.int (i % j)) (by omega))) fun H3 e3 => ?_
      have hb3 := e3 _ _ (e2 _ _ hb1)
      refine q_setL (j := 0) hb3 (ev_op (ix (e2.trans e3) rfl) (ev_var rfl) (rv_I (C := CDiv) (g := fun i j => V.int (i / j)) ⟨by omega, by omega⟩)) (ev_var rfl) ev_c (by show 0 < 2; omega) fun H4 e4 => ?_
      have st4 := ((st1.ex (e2.trans e3)).ex e4).mutS (o' := .lst [.int (x / (m : Int)), .int (y + 1)]) (List.mem_singleton.mpr rfl) bb (e4 _ _ hb3)
      refine s_ret (v := .int (x % (m : Int))) (ev_var rfl) fun H5 e5 => ?_
      have := q (x % (m : Int)).toNat H5 (by
        have := Int.emod_lt_of_pos x (show (0 : Int) < (m : Int) by omega)
        omega) (st4.ex e5) ⟨x / (m : Int), y + 1, e5 _ _ upd_same, Int.ediv_nonneg hx (by omega), by omega⟩
      rw [show nV (x % (m : Int)).toNat = V.int (x % (m : Int)) by show V.int (((x % (m : Int)).toNat : Nat) : Int) = _; rw [Int.toNat_of_nonneg (Int.emod_nonneg x (by omega))]] at this
      exact this
    · refine q_pass (et_leaf (ev_op (ix (Ex.refl H1) rfl) hpow (rv_I0 (g := fun i j => V.bl (decide (j ≤ i))))) (decide_eq_false h)) fun H2 e2 => ?_
      have mo : ∀ {H2 : Hp} {i j : Int}, 0 < j → RV (rI (fun _ j => 0 < j) fun i j => .int (i % j)) (.int i) (.int j) H2 (.int (i % j)) := fun h => rv_I (C := fun _ j => 0 < j) (g := fun i j => V.int (i % j)) h
      have mu : ∀ {H2 : Hp} {i j : Int}, CMul i j → RV (rI CMul fun i j => .int (i * j)) (.int i) (.int j) H2 (.int (i * j)) := fun h => rv_I (C := CMul) (g := fun i j => V.int (i * j)) h
      have ad : ∀ {H2 : Hp} {i j : Int}, RV (rI0 fun i j => .int (i + j)) (.int i) (.int j) H2 (.int (i + j)) := rv_I0 (g := fun i j => V.int (i + j))
      refine q_asg (ev_op (ev_op (ev_op (ev_op (ix e2 rfl) ev_c (mo (by omega))) (ev_op ev_c (iy e2 rfl) (mu (.inl (by omega)))) ad) ev_c ad) ev_c (mo (by omega))) fun H3 e3 => ?_
      generalize h1 : (x % 2147483629 + 104729 * (y + 1) + 1) % 2147483587 = v1
      have hv1 : 0 ≤ v1 ∧ v1 < 2147483587 := by
        rw [← h1]
        exact ⟨Int.emod_nonneg _ (by omega), Int.emod_lt_of_pos _ (by omega)⟩
      refine q_asg (ev_op (ev_op (ev_var rfl) (ev_var rfl) (mu (.inl (by omega)))) ev_c (mo (by omega))) fun H4 e4 => ?_
      generalize h2 : v1 * v1 % 2147483587 = v2
      have hv2 : 0 ≤ v2 ∧ v2 < 2147483587 := by
        rw [← h2]
        exact ⟨Int.emod_nonneg _ (by omega), Int.emod_lt_of_pos _ (by omega)⟩
      refine q_asg (ev_op (ev_op (ev_var rfl) (ev_op ev_c (iy ((e2.trans e3).trans e4) rfl) (mu (.inl (by omega)))) ad) ev_c (mo (by omega))) fun H5 e5 => ?_
      generalize h3 : (v2 + 40692 * (y + 1)) % 2147483563 = v3
      have hv3 : 0 ≤ v3 ∧ v3 < 2147483563 := by
        rw [← h3]
        exact ⟨Int.emod_nonneg _ (by omega), Int.emod_lt_of_pos _ (by omega)⟩
      refine q_asg (ev_op (ev_op (ev_var rfl) (ev_var rfl) (mu (.inl (by omega)))) ev_c (mo (by omega))) fun H6 e6 => ?_
      refine s_ret (ev_op (ev_op (ev_var rfl) ev_c (rv_I (C := CDiv) (g := fun i j => V.int (i / j)) ⟨by omega, by omega⟩)) (ev_var rfl) (mo (by omega))) fun H7 e7 => ?_
      exact drawn ((((((e2.trans e3).trans e4).trans e5).trans e6)).trans e7) (Int.emod_nonneg _ (by omega)) (Int.emod_lt_of_pos _ (by omega))
end
end HC


set_option Elab.async false
set_option linter.all false
set_option maxRecDepth 100000
set_option maxHeartbeats 4000000
namespace HC
open PySem PySem.Spec PyProof.Rows L2 Evl
local macro_rules
  | `(tactic| walk_at "ev") => `(tactic| first
    | exact ev_c
    | exact ev_var rfl
    | exact ea_nil
    | exact et_yes
    | exact eo_none
    | exact rv_I0
    | exact rv_eqI
    | exact rv_neI
    | exact rv_eqS
    | exact rv_neS
    | exact rv_eqB
    | exact rv_neB
    | exact rv_isN
    | exact rv_notN
    | exact rv_leS
    | exact rv_ltS
    | exact ru_neg
    | assumption
    | (apply ea_cons <;> walk_at "ev")
    | (apply et_test <;> walk_at "ev")
    | (apply et_B <;> walk_at "ev")
    | (apply et_not <;> walk_at "ev")
    | (apply ev_op <;> walk_at "ev")
    | (apply ev_un <;> walk_at "ev")
    | (apply ev_isi_int (h := kit_int_int) <;> walk_at "ev")
    | (apply ev_isi_int (h := kit_int_bool) <;> walk_at "ev")
    | (apply ev_isi_str (h := kit_str_str) <;> walk_at "ev")
    | (apply ev_isi_lst (h := kit_list_list) <;> walk_at "ev")
    | (apply ev_isi_tup (h := kit_tuple_tuple) <;> walk_at "ev")
    | (apply rc_lenL ; assumption)
    | (apply rc_lenT ; assumption)
    | (apply rc_lenS ; assumption)
    | (apply ev_chain <;> first | walk_at "ev" | (intro _; walk_at "ev"))
    | (apply et_or <;> first | walk_at "ev" | (intro _; walk_at "ev"))
    | (apply et_and <;> first | walk_at "ev" | (intro _; walk_at "ev"))
    | (apply ev_orV <;> first | walk_at "ev" | (intro _; walk_at "ev"))
    | (apply ev_andV <;> first | walk_at "ev" | (intro _; walk_at "ev"))
    | (apply ev_notV <;> walk_at "ev")
    | (apply ev_cb <;> walk_at "ev")
    | (apply eo_some <;> walk_at "ev"))
local macro_rules
  | `(tactic| walk_at "dec") => `(tactic| first
    | assumption
    | exact dnI
    | exact dnS
    | decide +kernel
    | (with_reducible rfl)
    | (simp only [decide_eq_true_eq, Bool.and_eq_true, Bool.not_eq_true', decide_eq_false_iff_not, Bool.not_true, Bool.not_false, Bool.and_eq_false_iff, Bool.or_eq_false_iff, Bool.or_eq_true]; omega)
    | rfl)
local macro_rules
  | `(tactic| walk_at "dt") => `(tactic| first
    | assumption
    | exact et_yes
    | (apply et_orF <;> walk_at "dt")
    | (apply et_andT <;> walk_at "dt")
    | (apply et_notF; walk_at "dt")
    | (apply et_notT; walk_at "dt")
    | (apply et_chT <;> first | walk_at "ev" | walk_at "dec")
    | (apply et_leaf <;> first | walk_at "ev" | walk_at "dec")
    | (apply et_leafB <;> first | walk_at "ev" | walk_at "dec"))
local macro_rules
  | `(tactic| walk_at "pass") => `(tactic| (refine' q_pass ?zzh ?zzk; (case zzh => walk_at "dt")))
local macro_rules
  | `(tactic| walk_at "yes") => `(tactic| ((first | refine' q_yes ?zzh ?zzk | refine' s_yes ?zzh ?zzk); (case zzh => walk_at "dt")))
local macro_rules
  | `(tactic| walk_at "no") => `(tactic| ((first | refine' q_no ?zzh ?zzk | refine' s_no ?zzh ?zzk); (case zzh => walk_at "dt")))
local macro_rules
  | `(tactic| walk_at "ret") => `(tactic| (refine' s_ret (v := _) ?zzh ?zzk; (case zzh => walk_at "ev")))
local macro_rules
  | `(tactic| walk_at "set") => `(tactic| ((first | refine' q_asg (v := _) ?zzh ?zzk | refine' s_asg (v := _) ?zzh ?zzk); (case zzh => walk_at "ev")))
section
variable {P : Program} {w : World} {K : PySem.W.Frag} {mg : Str → Option Value} {base : Heap}
/-- xs[draw(bag, n)], xs a new list of n things -/
theorem pick_draw {σ : L2.St} {H : Hp} {tx : TA} {E : XK} {B : Hp} {b : Addr} {xs : List V} {m : Nat} {Q : VK} (hx : EvA tx σ H xs) (hl : xs.length = m) (h0 : 0 < m) (hm : m < 1000) (hb : σ[0]? = some (some (.ref b))) (sB : Same B H) (bb : B b = none) (bg : BagAt H b)
    (k : ∀ v H', v ∈ xs → Step [b] B H B H' → BagAt H' b → Q v H') : tOp (rIxL K) (tLst tx) (tCall (sp_law_draw K) [] E (tCons (tVar 0) (tCons (tC (nV m)) tNil))) σ H Q := by
  refine el_lst hx (by omega) H (Ex.refl H) _ fun p H1 np e1 hp => ?_
  refine ⟨_, hb, ?_⟩
  have bp : b ≠ p := fun z => bg.some (by rw [z]; exact np)
  refine ⟨B, b, m, rfl, sB.trans e1, bb, bg.ex e1, h0, hm, fun d H2 hd st bg2 => ?_⟩
  have hp2 := st.fr _ _ (fun z => bp (List.mem_singleton.mp z).symm) hp
  have hd2 : xs[d]? = some (xs[d]'(by omega)) := List.getElem?_eq_getElem (by omega)
  exact ⟨p, xs, (d : Int), _, rfl, rfl, SqL.of hp2, atI_nat hd2, k _ H2 (List.getElem_mem (by omega)) (((Step.refl sB).ex e1).trans st) bg2⟩
def sp_law_cell (_ : PySem.W.Frag) : Sp := fun vs H Q _ => ∃ (B : Hp) (b : Addr) (k : Kind), vs = [.ref b, k.v] ∧ Same B H ∧ B b = none ∧ BagAt H b ∧ ∀ v H', CellOk k v → Step [b] B H B H' → BagAt H' b → Q v H'
/-! _law_cell: slots 0:_law_bag_here 1:_law_kind -/
theorem sc_law_cell : FnScope ["_law_bag_here", "_law_kind"] ["_law_bag_here", "_law_kind"] (defScope s_law_cell) := ⟨rfl, rfl, rfl, by decide +kernel, rfl, by decide +kernel, by decide +kernel⟩
theorem ok_law_cell (T : Tp K mg w) : FnOk P w K mg base CX0 2 (a_law_cell K) (fdAt K (a_law_cell K)) ["_law_bag_here", "_law_kind"] (sp_law_cell K) := by
  refine T.f_law_cell.ok sc_law_cell (fun vs H Q E h => ?_) (fun cdv A outer s H vs Q E hr h => ?_)
  · obtain ⟨B, b, k, rfl, sB, bb, bg, q⟩ := h
    rfl
  · obtain ⟨B, b, k, rfl, sB, bb, bg, q⟩ := h
    refine ⟨_, PSs.nox (pss_cons (ps_if (pt_cmpR op_eq (pe_call (ok_law_draw (K := K) T) (hr.mono (by decide)) rfl T.g_law_draw T.f_law_draw.kp T.bn_law_draw .nil pass0 (pa_cons (pv 0) (pa_cons pe_int pa_nil))) pe_int (nomark _)) (pss_one (ps_ret pe_non)) pss_nil)
      (pss_cons (ps_if (pt_cmpR op_eq (pv 1) pe_str (nomark _)) (pss_one (ps_ret (pe_ix (kIx (K := K) (r := rIxL) ix_list rfl) (pe_lst (pa_cons pe_int (pa_cons pe_int (pa_cons pe_int (pa_cons (pe_un un_neg pe_int) (pa_cons (pe_op op_pow pe_int pe_int) pa_nil)))))) (pe_call (ok_law_draw (K := K) T) (hr.mono (by decide)) rfl T.g_law_draw T.f_law_draw.kp T.bn_law_draw .nil pass0 (pa_cons (pv 0) (pa_cons pe_int pa_nil))) (fun _ _ => rfl)))) pss_nil)
      (pss_one (ps_ret (pe_ix (kIx (K := K) (r := rIxL) ix_list rfl) (pe_lst (pa_cons pe_str (pa_cons pe_str (pa_cons pe_str (pa_cons pe_str (pa_cons pe_str (pa_cons pe_str pa_nil))))))) (pe_call (ok_law_draw (K := K) T) (hr.mono (by decide)) rfl T.g_law_draw T.f_law_draw.kp T.bn_law_draw .nil pass0 (pa_cons (pv 0) (pa_cons pe_int pa_nil))) (fun _ _ => rfl)))))), ?_⟩
    refine ⟨_, rfl, B, b, 6, rfl, sB, bb, bg, by omega, by omega, fun d H1 hd st1 bg1 => ?_⟩
    refine ⟨rfl, _, rfl, ?_⟩
    show if decide (V.int (d : Int) = V.int 0) = true then _ else _
    by_cases h0 : d = 0
    · subst h0
      exact itT (decide_eq_true rfl) (q .non H1 (.non k) st1 bg1)
    · refine itF (decide_eq_false fun z => h0 (by have := V.int.inj z; omega)) ?_
      have hk : EvT (tTest (tOp rEq (tVar 1) (tC (.str "number")))) (L2.start ["_law_bag_here", "_law_kind"] [.ref b, k.v]) H1 (decide (k = .num)) := et_leaf (ev_op (ev_var rfl) ev_c rv_eqS) (by cases k <;> decide +kernel)
      by_cases hn : k = .num
      · subst hn
        refine q_yes (by rw [decide_eq_true rfl] at hk; exact hk) fun H2 e2 => ?_
        refine pick_draw (K := K) (m := 5) (xs := [.int 0, .int 1, .int 2, .int (-1), .int (10 ^ 20)]) (ea_cons ev_c (ea_cons ev_c (ea_cons ev_c (ea_cons (ev_un ev_c ru_neg) (ea_cons (ev_op ev_c ev_c (rv_I (C := CPow) (g := fun i j => V.int (i ^ j.toNat)) ⟨by omega, by omega, by decide⟩)) ea_nil))))) rfl (by omega) (by omega) rfl (st1.sH.trans e2) bb (bg1.ex e2) fun v H3 hv st3 bg3 => q v H3 ?_ ((st1.ex e2).trans st3) bg3
        simp only [List.mem_cons, List.not_mem_nil, or_false] at hv
        rcases hv with rfl | rfl | rfl | rfl | rfl <;> exact .num _ (by decide +kernel)
      · refine q_pass (by rw [decide_eq_false hn] at hk; exact hk) fun H2 e2 => ?_
        refine pick_draw (K := K) (m := 6) (xs := [.str "a", .str "b", .str "B", .str "ab", .str "A", .str "_"]) (ea_cons ev_c (ea_cons ev_c (ea_cons ev_c (ea_cons ev_c (ea_cons ev_c (ea_cons ev_c ea_nil)))))) rfl (by omega) (by omega) rfl (st1.sH.trans e2) bb (bg1.ex e2) fun v H3 hv st3 bg3 => q v H3 ?_ ((st1.ex e2).trans st3) bg3
        simp only [List.mem_cons, List.not_mem_nil, or_false] at hv
        rcases hv with rfl | rfl | rfl | rfl | rfl | rfl <;> exact .str _ _ hn (by decide +kernel)
/-- [_law_cell(bag, k) for k in kinds] -/
theorem lc_draw {σ : L2.St} {H : Hp} {tl : TE} {j : Nat} {E : XK} {B : Hp} {b a : Addr} {ks : List Kind} {Q : VK} (hl : Ev tl σ H (.ref a)) (ha : H a = some (.lst (ks.map Kind.v))) (hz : ks.length ≤ 1000) (hb : ∀ v, ((wipe σ [j]).set j (some v))[0]? = some (some (.ref b))) (hj : ∀ v, ((wipe σ [j]).set j (some v))[j]? = some (some v)) (sB : Same B H) (bb : B b = none) (bg : BagAt H b)
    (k : ∀ D H' row, RowOk ks row → H D = none → Step [b] B H B H' → BagAt H' b → H' D = some (.lst row) → Q (.ref D) H') : tLc (iList K tl) (gName j) tYes (tCall (sp_law_cell K) [] E (tCons (tVar 0) (tCons (tVar j) tNil))) [j] σ H Q := by
  refine hl H (Ex.refl H) _ fun H1 e1 => ?_
  refine ⟨a, rfl, ⟨_, SqL.of (e1 _ _ ha)⟩, fun D nD => ?_⟩
  have ab : a ≠ b := fun z => by
    obtain ⟨x, y, h, _⟩ := bg
    rw [← z, ha] at h
    have := congrArg (fun o => match o with | some (HO.lst (V.str _ :: _)) => true | some (.lst []) => true | _ => false) h
    cases ks with
    | nil => cases this
    | cons k ks => cases this
  have nD0 : H D = none := fresh_back e1 nD
  refine lc_it (walk_list (K := K) (a := a) (xs := ks.map Kind.v)) (fun i H2 => Step [b] B H B H2 ∧ BagAt H2 b ∧ ∃ row, H2 D = some (.lst row) ∧ RowOk (ks.take i) row) ?_ (fun i H2 _ p => SqL.of (p.1.fr _ _ (fun z => ab (List.mem_singleton.mp z)) ha)) ?_ ?_
  · exact ⟨((Step.refl sB).ex e1).trans (Step.new (o := .lst []) (sB.trans e1) nD [b]), (bg.ex e1).ex (same_new nD), [], upd_same, .nil⟩
  · rintro i x H2 H2' hi ⟨st, bg2, row, hD, ok⟩ ⟨h1, h2⟩
    subst h1
    rw [List.getElem?_map] at h2
    obtain ⟨kd, hk, rfl⟩ : ∃ kd, ks[i]? = some kd ∧ kd.v = x := by
      cases h : ks[i]? with
      | none => rw [h] at h2; cases h2
      | some c =>
        rw [h] at h2
        exact ⟨c, rfl, Option.some.inj h2⟩
    refine ⟨wipe1, ?_⟩
    show tCall (sp_law_cell K) [] E (tCons (tVar 0) (tCons (tVar j) tNil)) ((wipe σ [j]).set j (some kd.v)) H2' _
    refine ⟨_, hb _, _, hj _, B, b, kd, rfl, st.sH, bb, bg2, fun v H3 cv st3 bg3 => ?_⟩
    have bD : D ≠ b := fun z => bg2.some (by rw [← z]; exact absurd (z ▸ nD0) bg.some)
    have hD3 := st3.fr _ _ (fun z => bD (List.mem_singleton.mp z)) hD
    have et : ks.take (i + 1) = ks.take i ++ [kd] := by
      rw [List.take_add_one, hk]
      rfl
    have hlr : row.length ≤ 1000 := by
      have := Paired.length ok
      rw [List.length_take] at this
      omega
    refine ⟨row, hD3, sz_lt (by omega), (st.trans st3).mutNew nD0 (fresh_back sB nD0) hD3, ?_, row ++ [v], upd_same, ?_⟩
    · obtain ⟨x, y, h1, h2⟩ := bg3
      exact ⟨x, y, by rw [upd_ne bD.symm]; exact h1, h2⟩
    · rw [et]
      exact Paired.snoc ok cv
  · rintro H2 ⟨st, bg2, row, hD, ok⟩
    rw [List.length_map, List.take_of_length_le (Nat.le_refl _)] at ok
    exact k D H2 row ok nD0 st bg2 hD
/-- for .. in range(1 + draw(bag, m)) -/
theorem q_forD {σ : L2.St} {H : Hp} {te : TE} {E : XK} {B : Hp} {b : Addr} {m : Nat} {g : TG} {tu tz : TS} {D : Ends} (hb : σ[0]? = some (some (.ref b))) (he : Ev te σ H (nV m)) (sB : Same B H) (bb : B b = none) (bg : BagAt H b) (h0 : 0 < m) (hm : m < 1000)
    (k : ∀ (d : Nat) H1, d < m → Step [b] B H B H1 → BagAt H1 b → tSeq (tFor (iRng1 (tCons (tC (.int ((1 + d : Nat) : Int))) tNil)) g tu) tz D σ H1) : tSeq (tFor (iRng1 (tCons (tOp (rI0 fun i j => .int (i + j)) (tC (.int 1)) (tCall (sp_law_draw K) [] E (tCons (tVar 0) (tCons te tNil)))) tNil)) g tu) tz D σ H := by
  refine ⟨_, hb, ?_⟩
  refine he H (Ex.refl H) _ fun H1 e1 => ?_
  refine ⟨B, b, m, rfl, sB.trans e1, bb, bg.ex e1, h0, hm, fun d H2 hd st bg2 => ?_⟩
  refine ⟨1, (d : Int), rfl, rfl, ?_⟩
  have := k d H2 hd (((Step.refl sB).ex e1).trans st) bg2
  rw [show ((1 + d : Nat) : Int) = 1 + (d : Int) by omega] at this
  exact this
def sp_law_table (_ : PySem.W.Frag) : Sp := fun vs H Q _ => ∃ (B : Hp) (b : Addr) (mc mr : Nat), vs = [.ref b, nV mc, nV mr] ∧ Same B H ∧ B b = none ∧ BagAt H b ∧ 0 < mc ∧ mc ≤ 8 ∧ 0 < mr ∧ mr ≤ 60 ∧
  ∀ v H' ks rows, TabOk ks rows → rows.length ≤ mr → Step [b] B H (ext B H H') H' → BagAt H' b → TabAt (ext B H H') v ks rows → Q v H'
/-! _law_table: slots 0:_law_bag_here 1:_law_most_columns 2:_law_most_rows 3:_law_kinds 4:_law_k 5:_law_rows 6:_law_kind -/
theorem sc_law_table : FnScope ["_law_bag_here", "_law_most_columns", "_law_most_rows", "_law_kinds", "_law_k", "_law_rows", "_law_kind"] ["_law_bag_here", "_law_most_columns", "_law_most_rows"] (defScope s_law_table) := ⟨rfl, rfl, rfl, by decide +kernel, rfl, by decide +kernel, by decide +kernel⟩
theorem ok_law_table (T : Tp K mg w) : FnOk P w K mg base CX0 3 (a_law_table K) (fdAt K (a_law_table K)) ["_law_bag_here", "_law_most_columns", "_law_most_rows"] (sp_law_table K) := by
  refine T.f_law_table.ok sc_law_table (fun vs H Q E h => ?_) (fun cdv A outer s H vs Q E hr h => ?_)
  · obtain ⟨B, b, mc, mr, rfl, sB, bb, bg, hc0, hc8, hr0, hr60, q⟩ := h
    rfl
  · obtain ⟨B, b, mc, mr, rfl, sB, bb, bg, hc0, hc8, hr0, hr60, q⟩ := h
    refine ⟨_, PSs.nox (pss_cons (ps_set (i := 3) sc_law_table.nd rfl (Or.inl rfl) (pe_lst pa_nil))
      (pss_cons (ps_for PassesOwn.never rfl (pi_range1 rfl T.b_range (pa_cons (pe_op op_add pe_int (pe_call (ok_law_draw (K := K) T) (hr.mono (by decide)) rfl T.g_law_draw T.f_law_draw.kp T.bn_law_draw .nil pass0 (pa_cons (pv 0) (pa_cons (pv 1) pa_nil)))) pa_nil)) (pg_name (i := 4) sc_law_table.nd rfl (Or.inl rfl)) (pss_one (ps_expr (kBM (K := K) (pe_bm PySem.F.plainAttrs_list PySem.F.slot_list_append PySem.F.type_list_append mt_append (pv 3) (pa_cons (pe_ix (kIx (K := K) (r := rIxL) ix_list rfl) (pe_lst (pa_cons pe_str (pa_cons pe_str (pa_cons pe_str pa_nil)))) (pe_call (ok_law_draw (K := K) T) (hr.mono (by decide)) rfl T.g_law_draw T.f_law_draw.kp T.bn_law_draw .nil pass0 (pa_cons (pv 0) (pa_cons pe_int pa_nil))) (fun _ _ => rfl)) pa_nil)) rfl))))
      (pss_cons (ps_set (i := 5) sc_law_table.nd rfl (Or.inl rfl) (pe_lst pa_nil))
      (pss_cons (ps_for PassesOwn.never rfl (pi_range1 rfl T.b_range (pa_cons (pe_op op_add pe_int (pe_call (ok_law_draw (K := K) T) (hr.mono (by decide)) rfl T.g_law_draw T.f_law_draw.kp T.bn_law_draw .nil pass0 (pa_cons (pv 0) (pa_cons (pv 2) pa_nil)))) pa_nil)) (pg_name (i := 4) sc_law_table.nd rfl (Or.inl rfl)) (pss_one (ps_expr (kBM (K := K) (pe_bm PySem.F.plainAttrs_list PySem.F.slot_list_append PySem.F.type_list_append mt_append (pv 5) (pa_cons (pe_lc (own := [("_law_kind", 6)]) (g := (gName 6)) rfl sc_law_table.nd (kPI (K := K) (i := fun K => iList K _) (pi_list (pv 3)) rfl) (blkOk_by (own := [("_law_kind", 6)]) (N := ["_law_bag_here", "_law_most_columns", "_law_most_rows", "_law_kinds", "_law_k", "_law_rows", "_law_kind"]) (sc := defScope s_law_table) (by decide +kernel)) (fun _ _ _ _ _ => (pg_name (i := 6) sc_law_table.nd rfl (Or.inl rfl) (.inr rfl))) (fun _ _ _ _ _ => pts_nil) (fun _ _ _ _ _ => (pe_call (ok_law_cell (K := K) T) (hr.mono (by decide)) rfl T.g_law_cell T.f_law_cell.kp T.bn_law_cell .nil pass0 (pa_cons (pv 0) (pa_cons (pv 6) pa_nil))))) pa_nil)) rfl))))
      (pss_one (ps_ret (pe_tup (pa_cons (pv 3) (pa_cons (pv 5) pa_nil))))))))), ?_⟩
    refine q_asgL el_nil fun kl H1 nkl e1 hkl => ?_
    have bkl : kl ≠ b := fun z => bg.some (by rw [← z]; exact nkl)
    have Bkl : B kl = none := fresh_back sB nkl
    have st1 : Step [b] B H B H1 := (Step.refl sB).ex e1
    refine q_forD (K := K) rfl (ev_var rfl) st1.sH bb (bg.ex e1) hc0 (by omega) fun dc H2 hdc st2 bg2 => ?_
    have hkl2 := st2.fr _ _ (fun z => bkl (List.mem_singleton.mp z)) hkl
    refine q_forR1 (n := ((1 + dc : Nat) : Int)) (ea_cons ev_c ea_nil) (by omega) (fun i σ' H' => (∃ z, σ' = [some (.ref b), some (nV mc), some (nV mr), some (.ref kl), z, none, none]) ∧ ∃ ks : List Kind, ks.length = i ∧ H' kl = some (.lst (ks.map Kind.v)) ∧ Step [b] B H B H' ∧ BagAt H' b) (fun H3 e3 => ⟨⟨none, rfl⟩, [], rfl, e3 _ _ hkl2, (st1.trans st2).ex e3, bg2.ex e3⟩) (fun i σ' H' hi ⟨⟨z, es⟩, ks, hl, hk, st, bg'⟩ => ?_) fun σ' H3 ⟨⟨z, es⟩, ks, hl, hk, st3, bg3⟩ => ?_
    · subst es
      refine ⟨_, rfl, Or.inl ⟨rfl, _, sq_of hk⟩, ?_⟩
      refine pick_draw (K := K) (m := 3) (xs := [.str "number", .str "text", .str "caseless"]) (ea_cons ev_c (ea_cons ev_c (ea_cons ev_c ea_nil))) rfl (by omega) (by omega) rfl st.sH bb bg' fun v H4 hv st4 bg4 => ?_
      have hk4 := st4.fr _ _ (fun z => bkl (List.mem_singleton.mp z)) hk
      obtain ⟨kd, rfl⟩ : ∃ kd : Kind, v = kd.v := by
        simp only [List.mem_cons, List.not_mem_nil, or_false] at hv
        rcases hv with rfl | rfl | rfl
        · exact ⟨.num, rfl⟩
        · exact ⟨.txt, rfl⟩
        · exact ⟨.cas, rfl⟩
      refine ⟨kl, _, _, rfl, rfl, hk4, sz_lt (by rw [List.length_map]; omega), ⟨_, rfl⟩, ks ++ [kd], by rw [List.length_append, hl] <;> rfl, by rw [upd_same, List.map_append] <;> rfl, (st.trans st4).mutNew nkl Bkl hk4, ?_⟩
      obtain ⟨x, y, h1, h2⟩ := bg4
      exact ⟨x, y, by rw [upd_ne bkl.symm]; exact h1, h2⟩
    · subst es
      have hkn : ks.length = 1 + dc := by rw [hl, Int.toNat_natCast]
      refine q_asgL el_nil fun rl H4 nrl e4 hrl => ?_
      have nrl0 : H rl = none := st3.fresh nrl
      have brl : rl ≠ b := fun z => bg.some (by rw [← z]; exact nrl0)
      have Brl : B rl = none := fresh_back sB nrl0
      have krl : kl ≠ rl := ne_of_none hk nrl
      have st4 := st3.ex e4
      refine q_forD (K := K) rfl (ev_var rfl) st4.sH bb (bg3.ex e4) hr0 (by omega) fun dr H5 hdr st5 bg5 => ?_
      have hk5 := st5.fr _ _ (fun z => bkl (List.mem_singleton.mp z)) (e4 _ _ hk)
      have hrl5 := st5.fr _ _ (fun z => brl (List.mem_singleton.mp z)) hrl
      refine q_forR1 (n := ((1 + dr : Nat) : Int)) (ea_cons ev_c ea_nil) (by omega) (fun i σ' H' => (∃ z, σ' = [some (.ref b), some (nV mc), some (nV mr), some (.ref kl), z, some (.ref rl), none]) ∧ ∃ rs rows, rows.length = i ∧ H' rl = some (.lst rs) ∧ H' kl = some (.lst (ks.map Kind.v)) ∧ Paired (fun x row => ∃ a, x = V.ref a ∧ H a = none ∧ a ≠ b ∧ a ≠ rl ∧ H' a = some (.lst row)) rs rows ∧ (∀ row ∈ rows, RowOk ks row) ∧ Step [b] B H B H' ∧ BagAt H' b) (fun H6 e6 => ⟨⟨_, rfl⟩, [], [], rfl, e6 _ _ hrl5, e6 _ _ hk5, .nil, fun _ m => by simp at m, (st4.trans st5).ex e6, bg5.ex e6⟩) (fun i σ' H' hi ⟨⟨z, es⟩, rs, rows, hl2, hr', hk', pr, ok, st, bg'⟩ => ?_) fun σ' H6 ⟨⟨z, es⟩, rs, rows, hl2, hr', hk', pr, ok, st6, bg6⟩ => ?_
      · subst es
        refine ⟨_, rfl, Or.inl ⟨rfl, _, sq_of hr'⟩, ?_⟩
        refine lc_draw (K := K) (j := 6) (a := kl) (ev_var rfl) hk' (by omega) (fun _ => rfl) (fun _ => rfl) st.sH bb bg' fun N H7 row okr nN st7 bg7 hN => ?_
        have hr7 := st7.fr _ _ (fun z => brl (List.mem_singleton.mp z)) hr'
        have hk7 := st7.fr _ _ (fun z => bkl (List.mem_singleton.mp z)) hk'
        have Nrl : N ≠ rl := (ne_of_none hr' nN).symm
        have Nb : N ≠ b := fun z => bg'.some (by rw [← z]; exact nN)
        refine ⟨rl, rs, .ref N, rfl, rfl, hr7, sz_lt (by have := Paired.length pr; omega), ⟨_, rfl⟩, rs ++ [.ref N], rows ++ [row], by rw [List.length_append, hl2] <;> rfl, upd_same, by rw [upd_ne krl]; exact hk7, ?_, fun r m => ?_, (st.trans st7).mutNew nrl0 Brl hr7, ?_⟩
        · refine Paired.snoc (Paired.mapP pr fun x r ⟨a, e, n, n1, n2, h⟩ => ⟨a, e, n, n1, n2, ?_⟩) ⟨N, rfl, st.fresh nN, Nb, Nrl, by rw [upd_ne Nrl]; exact hN⟩
          rw [upd_ne n2]
          exact st7.fr _ _ (fun z => n1 (List.mem_singleton.mp z)) h
        · rcases List.mem_append.mp m with m | m
          · exact ok r m
          · rw [List.mem_singleton.mp m]
            exact okr
        · obtain ⟨x, y, h1, h2⟩ := bg7
          exact ⟨x, y, by rw [upd_ne brl.symm]; exact h1, h2⟩
      · subst es
        have hrn : rows.length = 1 + dr := by rw [hl2, Int.toNat_natCast]
        refine s_retU (eu_tup (ea_cons (ev_var rfl) (ea_cons (ev_var rfl) ea_nil)) (by show 2 ≤ 100000; omega)) fun t H7 nt e7 ht => ?_
        have st7 := (st6.ex e7).grow
        refine q _ H7 ks rows ⟨by omega, by omega, by omega, by omega, ok⟩ (by omega) st7 (bg6.ex e7) ⟨t, kl, rl, rs, rfl, ext_new sB (st6.fresh nt) ht, ext_new sB nkl (e7 _ _ hk'), ext_new sB nrl0 (e7 _ _ hr'), Paired.mapP pr fun x row ⟨a, e, n, _, _, h⟩ => ⟨a, e, ext_new sB n (e7 _ _ h)⟩⟩
end
end HC


set_option Elab.async false
set_option linter.all false
set_option maxRecDepth 100000
set_option maxHeartbeats 4000000
namespace HC
open PySem PySem.Spec PyProof.Rows L2 Evl
local macro_rules
  | `(tactic| walk_at "ev") => `(tactic| first
    | exact ev_c
    | exact ev_var rfl
    | exact ea_nil
    | exact et_yes
    | exact eo_none
    | exact rv_I0
    | exact rv_eqI
    | exact rv_neI
    | exact rv_eqS
    | exact rv_neS
    | exact rv_eqB
    | exact rv_neB
    | exact rv_isN
    | exact rv_notN
    | exact rv_leS
    | exact rv_ltS
    | exact ru_neg
    | assumption
    | (apply ea_cons <;> walk_at "ev")
    | (apply et_test <;> walk_at "ev")
    | (apply et_B <;> walk_at "ev")
    | (apply et_not <;> walk_at "ev")
    | (apply ev_op <;> walk_at "ev")
    | (apply ev_un <;> walk_at "ev")
    | (apply ev_isi_int (h := kit_int_int) <;> walk_at "ev")
    | (apply ev_isi_int (h := kit_int_bool) <;> walk_at "ev")
    | (apply ev_isi_str (h := kit_str_str) <;> walk_at "ev")
    | (apply ev_isi_lst (h := kit_list_list) <;> walk_at "ev")
    | (apply ev_isi_tup (h := kit_tuple_tuple) <;> walk_at "ev")
    | (apply rc_lenL ; assumption)
    | (apply rc_lenT ; assumption)
    | (apply rc_lenS ; assumption)
    | (apply ev_chain <;> first | walk_at "ev" | (intro _; walk_at "ev"))
    | (apply et_or <;> first | walk_at "ev" | (intro _; walk_at "ev"))
    | (apply et_and <;> first | walk_at "ev" | (intro _; walk_at "ev"))
    | (apply ev_orV <;> first | walk_at "ev" | (intro _; walk_at "ev"))
    | (apply ev_andV <;> first | walk_at "ev" | (intro _; walk_at "ev"))
    | (apply ev_notV <;> walk_at "ev")
    | (apply ev_cb <;> walk_at "ev")
    | (apply eo_some <;> walk_at "ev"))
local macro_rules
  | `(tactic| walk_at "dec") => `(tactic| first
    | assumption
    | exact dnI
    | exact dnS
    | decide +kernel
    | (with_reducible rfl)
    | (simp only [decide_eq_true_eq, Bool.and_eq_true, Bool.not_eq_true', decide_eq_false_iff_not, Bool.not_true, Bool.not_false, Bool.and_eq_false_iff, Bool.or_eq_false_iff, Bool.or_eq_true]; omega)
    | rfl)
local macro_rules
  | `(tactic| walk_at "dt") => `(tactic| first
    | assumption
    | exact et_yes
    | (apply et_orF <;> walk_at "dt")
    | (apply et_andT <;> walk_at "dt")
    | (apply et_notF; walk_at "dt")
    | (apply et_notT; walk_at "dt")
    | (apply et_chT <;> first | walk_at "ev" | walk_at "dec")
    | (apply et_leaf <;> first | walk_at "ev" | walk_at "dec")
    | (apply et_leafB <;> first | walk_at "ev" | walk_at "dec"))
local macro_rules
  | `(tactic| walk_at "pass") => `(tactic| (refine' q_pass ?zzh ?zzk; (case zzh => walk_at "dt")))
local macro_rules
  | `(tactic| walk_at "yes") => `(tactic| ((first | refine' q_yes ?zzh ?zzk | refine' s_yes ?zzh ?zzk); (case zzh => walk_at "dt")))
local macro_rules
  | `(tactic| walk_at "no") => `(tactic| ((first | refine' q_no ?zzh ?zzk | refine' s_no ?zzh ?zzk); (case zzh => walk_at "dt")))
local macro_rules
  | `(tactic| walk_at "ret") => `(tactic| (refine' s_ret (v := _) ?zzh ?zzk; (case zzh => walk_at "ev")))
local macro_rules
  | `(tactic| walk_at "set") => `(tactic| ((first | refine' q_asg (v := _) ?zzh ?zzk | refine' s_asg (v := _) ?zzh ?zzk); (case zzh => walk_at "ev")))
section
variable {P : Program} {w : World} {K : PySem.W.Frag} {mg : Str → Option Value} {base : Heap}
def sp_law_raises (K : PySem.W.Frag) : Sp := fun vs H Q _ => ∃ (s : Addr) (undo : Bool) (n : Nat) (ks : List Kind) (B : Hp) (L U : Addr) (sts : List St) (st : St) (uns : List St), vs = [.ref s, .str (if undo then "undo" else "redo")] ∧ SesAt K ks n B H s L U (sts ++ [st]) uns ∧ sts.length ≤ 800 ∧ uns.length ≤ 900 ∧
  (undo = true → sts = [] → ∀ H', Same H H' → Q (.bl true) H') ∧ (undo = true → sts ≠ [] → ∀ H', Step [L, U] B H B H' → SesAt K ks n B H' s L U sts (uns ++ [st]) → Q (.bl false) H') ∧
  (undo = false → uns = [] → ∀ H', Same H H' → Q (.bl true) H') ∧ (undo = false → ∀ us u, uns = us ++ [u] → ∀ H', Step [L, U] B H B H' → SesAt K ks n B H' s L U (sts ++ [st] ++ [u]) us → Q (.bl false) H')
/-! _law_raises: slots 0:_law_here 1:_law_word 2:_law_caught -/
theorem sc_law_raises : FnScope ["_law_here", "_law_word", "_law_caught"] ["_law_here", "_law_word"] (defScope s_law_raises) := ⟨rfl, rfl, rfl, by decide +kernel, rfl, by decide +kernel, by decide +kernel⟩
theorem ok_law_raises (T : Tp K mg w) : FnOk P w K mg base CX0 2 (a_law_raises K) (fdAt K (a_law_raises K)) ["_law_here", "_law_word"] (sp_law_raises K) := by
  refine T.f_law_raises.ok sc_law_raises (fun vs H Q E h => ?_) (fun cdv A outer s H vs Q E hr h => ?_)
  · obtain ⟨s, undo, n, ks, B, L, U, sts, st, uns, rfl, A, hz1, hz2, q1, q2, q3, q4⟩ := h
    rfl
  · obtain ⟨s, undo, n, ks, B, L, U, sts, st, uns, rfl, A, hz1, hz2, q1, q2, q3, q4⟩ := h
    refine ⟨_, PSs.nox (pss_cons (ps_set (i := 2) sc_law_raises.nd rfl (Or.inl rfl) pe_bl)
      (pss_cons (ps_try_only (tb := fun W => tIfS (tTest (tOp rEq (tVar 1) (tC (.str "undo")))) (tDrop (tMethS0 (aSession K) "undo" (sp_Session_undo K) (WE W) (tVar 0))) (tDrop (tMethS0 (aSession K) "redo" (sp_Session_redo K) (WE W) (tVar 0)))) (ts := fun _ _ _ => tAsg (tC (.bl true)) (gName 2)) (Wout := fun _ _ _ _ => False) rfl rfl ⟨rfl, by decide, Or.inl T.g_EmptyHistoryError⟩ takes0
          (fun W pn xe tk _ => pss_one (ps_if (pt_cmpR op_eq (pv 1) pe_str (nomark _)) (pss_one (ps_expr (pe_methS0 (pv 0) T.cl_Session T.m_Session_undo (ok_Session_undo (K := K) T) (hr.mono (by decide)) T.bn_Session_undo (fun σ => passAt tk σ)))) (pss_one (ps_expr (pe_methS0 (pv 0) T.cl_Session T.m_Session_redo (ok_Session_redo (K := K) T) (hr.mono (by decide)) T.bn_Session_redo (fun σ => passAt tk σ))))))
          (fun _ _ _ _ _ _ _ => pss_one (ps_set (i := 2) sc_law_raises.nd rfl (Or.inl rfl) pe_bl)))
      (pss_one (ps_ret (pv 2))))), ?_⟩
    refine q_asg (v := .bl false) ev_c fun H1 e1 => ?_
    have stp : ∀ {H2 : Hp}, Same H H2 → Step [] B H B H2 := fun e => (Step.refl A.sm).ex e
    have ses : ∀ {H2 : Hp}, Same H H2 → SesAt K ks n B H2 s L U (sts ++ [st]) uns := fun e => A.step (stp e) (by simp) (by simp) (by simp) (Nat.le_refl n)
    obtain ⟨dx, k, _, _, hs, _⟩ := A.ex
    show tIfS _ _ _ _ _ _
    cases undo with
    | true =>
      refine s_yes (et_leaf (ev_op (ev_var rfl) ev_c rv_eqS) (by decide +kernel)) fun H2 e2 => ?_
      have e12 := e1.trans e2
      refine ⟨_, rfl, s, dx, _, rfl, e12 _ _ hs, rfl, s, n, ks, B, L, U, sts, st, uns, rfl, ses e12, hz2, fun h0 H3 e3 => ⟨true, T.exm_Empty, fun _ a na => ?_, fun h => nomatch h⟩, fun h0 H3 st3 A3 => ?_⟩
      · exact ⟨_, rfl, q1 rfl h0 H3 (e12.trans e3)⟩
      · exact ⟨_, rfl, q2 rfl h0 H3 (((stp e12).wide (by simp)).trans st3) A3⟩
    | false =>
      refine s_no (et_leaf (ev_op (ev_var rfl) ev_c rv_eqS) (by decide +kernel)) fun H2 e2 => ?_
      have e12 := e1.trans e2
      refine ⟨_, rfl, s, dx, _, rfl, e12 _ _ hs, rfl, s, n, ks, B, L, U, sts ++ [st], uns, rfl, ses e12, by rw [List.length_append, List.length_singleton]; omega, fun h0 H3 e3 => ⟨true, T.exm_Empty, fun _ a na => ?_, fun h => nomatch h⟩, fun us u h0 H3 st3 A3 => ?_⟩
      · exact ⟨_, rfl, q3 rfl h0 H3 (e12.trans e3)⟩
      · exact ⟨_, rfl, q4 rfl us u h0 H3 (((stp e12).wide (by simp)).trans st3) A3⟩
end
end HC


set_option Elab.async false
set_option linter.all false
set_option maxRecDepth 100000
set_option maxHeartbeats 2000000
namespace HC
open PySem PySem.Spec PyProof.Rows L2 Evl
/-- B and all that is new since H, but X -/
def extX (B H : Hp) (X : List Addr) (H' : Hp) : Hp := fun a => match B a with
  | some o => some o
  | none => if a ∈ X then none else match H a with
    | some _ => none
    | none => H' a
theorem extX_old {B H H' : Hp} {X : List Addr} : Same B (extX B H X H') := fun a o h => by
  unfold extX
  rw [h]
theorem extX_new {B H H' : Hp} {X : List Addr} {a : Addr} {o : HO} (s : Same B H') (h : H a = none) (x : ¬ a ∈ X) (h' : H' a = some o) : extX B H X H' a = some o := by
  unfold extX
  cases e : B a with
  | some u =>
    have := s _ _ e
    rw [h'] at this
    exact this.symm
  | none =>
    show (if a ∈ X then none else match H a with
    | some _ => none
    | none => H' a) = some o
    rw [if_neg x, h]
    exact h'
theorem extX_same {B H H' : Hp} {X : List Addr} (s : Same B H') : Same (extX B H X H') H' := fun a o h => by
  unfold extX at h
  cases e : B a with
  | some u =>
    rw [e] at h
    cases h
    exact s _ _ e
  | none =>
    rw [e] at h
    have h : (if a ∈ X then none else match H a with
    | some _ => none
    | none => H' a) = some o := h
    by_cases x : a ∈ X
    · rw [if_pos x] at h
      cases h
    · rw [if_neg x] at h
      cases e2 : H a with
      | some u =>
        rw [e2] at h
        cases h
      | none =>
        rw [e2] at h
        exact h
theorem extX_none {B H H' : Hp} {X : List Addr} {a : Addr} (b : B a = none) (h : H a ≠ none ∨ a ∈ X) : extX B H X H' a = none := by
  unfold extX
  rw [b]
  show (if a ∈ X then none else match H a with
    | some _ => none
    | none => H' a) = none
  by_cases x : a ∈ X
  · rw [if_pos x]
  · rw [if_neg x]
    cases e : H a with
    | none => exact absurd e (h.resolve_right x)
    | some o => rfl
theorem Step.growX {M X : List Addr} {B H B' H' : Hp} (p : Step M B H B' H') : Step M B H (extX B' H X H') H' := ⟨p.sB.trans extX_old, extX_same p.sH, p.fr, fun a h b => extX_none (p.mu a h b) (.inl h), p.al⟩
theorem ext_leX {M X : List Addr} {B H B' H3 H4 : Hp} (p : Step M B H B' H3) (e : Same H3 H4) (hX : ∀ a ∈ X, H3 a ≠ none) : Same (ext B' H3 H4) (extX B' H X H4) := fun a o h => by
  unfold HC.ext at h
  cases q : B' a with
  | some u =>
    rw [q] at h
    unfold extX
    rw [q]
    exact h
  | none =>
    rw [q] at h
    cases q3 : H3 a with
    | some u =>
      rw [q3] at h
      cases h
    | none =>
      rw [q3] at h
      exact extX_new (p.sH.trans e) (p.fresh q3) (fun m => hX a m q3) h
theorem SesAt.growX {K : PySem.W.Frag} {ks : List Kind} {n n' : Nat} {H B' H' : Hp} {s L U : Addr} {sts uns : List St} {X : List Addr} (A : SesAt K ks n B' H' s L U sts uns) (hn : n ≤ n') (hs : H s ≠ none) (hL : H L ≠ none) (hU : U ∈ X) : SesAt K ks n' (extX B' H X H') H' s L U sts uns := by
  obtain ⟨dx, k, svs, uvs, h1, h2, h3, h4, h5, h6⟩ := A.ex
  exact ⟨⟨dx, k, svs, uvs, h1, extX_old _ _ h2, h3, h4, Paired.mapP h5 fun _ _ r => r.mono extX_old hn, Paired.mapP h6 fun _ _ r => r.mono extX_old hn⟩, extX_none A.bs (.inl hs), extX_none A.bL (.inl hL), extX_none A.bU (.inr hU), A.ne, extX_same A.sm⟩
section
variable {K : PySem.W.Frag} {σ : L2.St} {H : Hp} {te : TE} {D : Ends} {tz : TS}
/-- x = xs[draw(bag, len(xs))] -/
theorem q_asgPick {E : XK} {B : Hp} {b l : Addr} {xs : List Nat} {i j : Nat} {sp : Sp} (hsp : sp = fun vs H Q _ => ∃ (B : Hp) (b : Addr) (m : Nat), vs = [.ref b, nV m] ∧ Same B H ∧ B b = none ∧ BagAt H b ∧ 0 < m ∧ m < 1000 ∧ ∀ (d : Nat) H', d < m → Step [b] B H B H' → BagAt H' b → Q (nV d) H') (hb : σ[0]? = some (some (.ref b))) (hl : σ[i]? = some (some (.ref l))) (he : Ev te σ H (.int (xs.length : Int))) (h : H l = some (.lst (xs.map nV))) (h0 : xs ≠ []) (hz : xs.length < 1000) (sB : Same B H) (bb : B b = none) (bg : BagAt H b) (lb : l ≠ b)
    (k : ∀ r H1, r ∈ xs → Step [b] B H B H1 → BagAt H1 b → tz D (σ.set j (some (nV r))) H1) : tSeq (tAsg (tOp (rIxL K) (tVar i) (tCall sp [] E (tCons (tVar 0) (tCons te tNil)))) (gName j)) tz D σ H := by
  subst hsp
  refine ⟨_, hl, _, hb, he H (Ex.refl H) _ fun H1 e1 => ?_⟩
  have hp : 0 < xs.length := List.length_pos_iff.mpr h0
  refine ⟨B, b, xs.length, rfl, sB.trans e1, bb, bg.ex e1, hp, hz, fun d H2 hd st bg2 => ?_⟩
  have hl2 := st.fr _ _ (fun z => lb (List.mem_singleton.mp z)) (e1 _ _ h)
  refine ⟨l, _, (d : Int), _, rfl, rfl, SqL.of hl2, atI_map hd, k _ H2 ?_ (((Step.refl sB).ex e1).trans st) bg2⟩
  rw [List.getD_eq_getElem?_getD, List.getElem?_eq_getElem hd]
  exact List.getElem_mem hd
end
end HC

set_option Elab.async false
set_option linter.all false
set_option maxRecDepth 100000
set_option maxHeartbeats 4000000
namespace HC
open PySem PySem.Spec PyProof.Rows L2 Evl
local macro_rules
  | `(tactic| walk_at "ev") => `(tactic| first
    | exact ev_c
    | exact ev_var rfl
    | exact ea_nil
    | exact et_yes
    | exact eo_none
    | exact rv_I0
    | exact rv_eqI
    | exact rv_neI
    | exact rv_eqS
    | exact rv_neS
    | exact rv_eqB
    | exact rv_neB
    | exact rv_isN
    | exact rv_notN
    | exact rv_leS
    | exact rv_ltS
    | exact ru_neg
    | assumption
    | (apply ea_cons <;> walk_at "ev")
    | (apply et_test <;> walk_at "ev")
    | (apply et_B <;> walk_at "ev")
    | (apply et_not <;> walk_at "ev")
    | (apply ev_op <;> walk_at "ev")
    | (apply ev_un <;> walk_at "ev")
    | (apply ev_isi_int (h := kit_int_int) <;> walk_at "ev")
    | (apply ev_isi_int (h := kit_int_bool) <;> walk_at "ev")
    | (apply ev_isi_str (h := kit_str_str) <;> walk_at "ev")
    | (apply ev_isi_lst (h := kit_list_list) <;> walk_at "ev")
    | (apply ev_isi_tup (h := kit_tuple_tuple) <;> walk_at "ev")
    | (apply rc_lenL ; assumption)
    | (apply rc_lenT ; assumption)
    | (apply rc_lenS ; assumption)
    | (apply ev_chain <;> first | walk_at "ev" | (intro _; walk_at "ev"))
    | (apply et_or <;> first | walk_at "ev" | (intro _; walk_at "ev"))
    | (apply et_and <;> first | walk_at "ev" | (intro _; walk_at "ev"))
    | (apply ev_orV <;> first | walk_at "ev" | (intro _; walk_at "ev"))
    | (apply ev_andV <;> first | walk_at "ev" | (intro _; walk_at "ev"))
    | (apply ev_notV <;> walk_at "ev")
    | (apply ev_cb <;> walk_at "ev")
    | (apply eo_some <;> walk_at "ev"))
local macro_rules
  | `(tactic| walk_at "dec") => `(tactic| first
    | assumption
    | exact dnI
    | exact dnS
    | decide +kernel
    | (with_reducible rfl)
    | (simp only [decide_eq_true_eq, Bool.and_eq_true, Bool.not_eq_true', decide_eq_false_iff_not, Bool.not_true, Bool.not_false, Bool.and_eq_false_iff, Bool.or_eq_false_iff, Bool.or_eq_true]; omega)
    | rfl)
local macro_rules
  | `(tactic| walk_at "dt") => `(tactic| first
    | assumption
    | exact et_yes
    | (apply et_orF <;> walk_at "dt")
    | (apply et_andT <;> walk_at "dt")
    | (apply et_notF; walk_at "dt")
    | (apply et_notT; walk_at "dt")
    | (apply et_chT <;> first | walk_at "ev" | walk_at "dec")
    | (apply et_leaf <;> first | walk_at "ev" | walk_at "dec")
    | (apply et_leafB <;> first | walk_at "ev" | walk_at "dec"))
local macro_rules
  | `(tactic| walk_at "pass") => `(tactic| (refine' q_pass ?zzh ?zzk; (case zzh => walk_at "dt")))
local macro_rules
  | `(tactic| walk_at "yes") => `(tactic| ((first | refine' q_yes ?zzh ?zzk | refine' s_yes ?zzh ?zzk); (case zzh => walk_at "dt")))
local macro_rules
  | `(tactic| walk_at "no") => `(tactic| ((first | refine' q_no ?zzh ?zzk | refine' s_no ?zzh ?zzk); (case zzh => walk_at "dt")))
local macro_rules
  | `(tactic| walk_at "ret") => `(tactic| (refine' s_ret (v := _) ?zzh ?zzk; (case zzh => walk_at "ev")))
local macro_rules
  | `(tactic| walk_at "set") => `(tactic| ((first | refine' q_asg (v := _) ?zzh ?zzk | refine' s_asg (v := _) ?zzh ?zzk); (case zzh => walk_at "ev")))
section
variable {P : Program} {w : World} {K : PySem.W.Frag} {mg : Str → Option Value} {base : Heap}
/-- x = [_law_cell(bag, k) for k in kinds] -/
theorem q_lcDraw {σ : L2.St} {H : Hp} {tl : TE} {i j : Nat} {E : XK} {B : Hp} {b a : Addr} {ks : List Kind} {tz : TS} {De : Ends} (hl : Ev tl σ H (.ref a)) (ha : H a = some (.lst (ks.map Kind.v))) (hz : ks.length ≤ 1000) (hb : ∀ v, ((wipe σ [j]).set j (some v))[0]? = some (some (.ref b))) (hj : ∀ v, ((wipe σ [j]).set j (some v))[j]? = some (some v)) (sB : Same B H) (bb : B b = none) (bg : BagAt H b)
    (k : ∀ D H' row, RowOk ks row → H D = none → Step [b] B H B H' → BagAt H' b → H' D = some (.lst row) → tz De (σ.set i (some (.ref D))) H') : tSeq (tAsg (tLc (iList K tl) (gName j) tYes (tCall (sp_law_cell K) [] E (tCons (tVar 0) (tCons (tVar j) tNil))) [j]) (gName i)) tz De σ H := by
  show tLc (iList K tl) (gName j) tYes (tCall (sp_law_cell K) [] E (tCons (tVar 0) (tCons (tVar j) tNil))) [j] σ H fun x H1 => tz De (σ.set i (some x)) H1
  exact lc_draw (K := K) hl ha hz hb hj sB bb bg k
def sp_law_operation (K : PySem.W.Frag) : Sp := fun vs H Q _ => ∃ (B : Hp) (b s L U k : Addr) (v : V) (n : Nat) (ks : List Kind) (sts : List St) (st : St) (uns : List St), vs = [.ref b, .ref s, .ref k, v] ∧ SesAt K ks n B H s L U (sts ++ [st]) uns ∧ B b = none ∧ BagAt H b ∧ b ≠ s ∧ b ≠ L ∧ b ≠ U ∧ B k = some (.lst (ks.map Kind.v)) ∧ LRep n B v st ∧ StOk ks n st ∧ 1 ≤ ks.length ∧ ks.length ≤ 8 ∧ n ≤ 45 ∧ sts.length ≤ 800 ∧
  ∀ v' B' H' U' st', Step [b, s, L] B H B' H' → BagAt H' b → SesAt K ks (n + 1) B' H' s L U' (sts ++ [st] ++ [st']) [] → StOk ks (n + 1) st' → LRep (n + 1) B' v' st' → H U' = none → Q v' H'
/-! _law_operation: slots 0:_law_bag_here 1:_law_here 2:_law_kinds 3:_law_state 4:_law_cells 5:_law_shown_here 6:_law_click_list 7:_law_recent 8:_law_number 9:_law_kind 10:_law_column 11:_law_row 12:_law_value 13:_law_changed 14:_law_left 15:_law_added 16:_law_one -/
theorem sc_law_operation : FnScope ["_law_bag_here", "_law_here", "_law_kinds", "_law_state", "_law_cells", "_law_shown_here", "_law_click_list", "_law_recent", "_law_number", "_law_kind", "_law_column", "_law_row", "_law_value", "_law_changed", "_law_left", "_law_added", "_law_one"] ["_law_bag_here", "_law_here", "_law_kinds", "_law_state"] (defScope s_law_operation) := ⟨rfl, rfl, rfl, by decide +kernel, rfl, by decide +kernel, by decide +kernel⟩
theorem ok_law_operation (T : Tp K mg w) : FnOk P w K mg base CX0 6 (a_law_operation K) (fdAt K (a_law_operation K)) ["_law_bag_here", "_law_here", "_law_kinds", "_law_state"] (sp_law_operation K) := by
  refine T.f_law_operation.ok sc_law_operation (fun vs H Q E h => ?_) (fun cdv A outer s H vs Q E hr h => ?_)
  · obtain ⟨B, b, s, L, U, k, v, n, ks, sts, st, uns, rfl, A, bb, bg, nbs, nbL, nbU, hk, lr, ok, hk1, hk8, hn, hz, q⟩ := h
    rfl
  · obtain ⟨B, b, s, L, U, k, v, n, ks, sts, st, uns, rfl, A, bb, bg, nbs, nbL, nbU, hk, lr, ok, hk1, hk8, hn, hz, q⟩ := h
    refine ⟨_, PSs.nox (pss_cons (ps_asg (pv 3) (kTup (K := K) (pg_tup (n := 5) rfl (pgs_cons (pg_name (i := 4) sc_law_operation.nd rfl (Or.inl rfl)) (pgs_cons (pg_name (i := 5) sc_law_operation.nd rfl (Or.inl rfl)) (pgs_cons (pg_name (i := 6) sc_law_operation.nd rfl (Or.inl rfl)) (pgs_cons (pg_name (i := 7) sc_law_operation.nd rfl (Or.inl rfl)) (pgs_cons (pg_name (i := 8) sc_law_operation.nd rfl (Or.inl rfl)) pgs_nil)))))) rfl))
      (pss_cons (ps_set (i := 9) sc_law_operation.nd rfl (Or.inl rfl) (pe_call (ok_law_draw (K := K) T) (hr.mono (by decide)) rfl T.g_law_draw T.f_law_draw.kp T.bn_law_draw .nil pass0 (pa_cons (pv 0) (pa_cons pe_int pa_nil))))
      (pss_cons (ps_if (pt_cmpR op_lt (pv 9) pe_int (nomark _)) (pss_cons (ps_set (i := 10) sc_law_operation.nd rfl (Or.inl rfl) (pe_call (ok_law_draw (K := K) T) (hr.mono (by decide)) rfl T.g_law_draw T.f_law_draw.kp T.bn_law_draw .nil pass0 (pa_cons (pv 0) (pa_cons (pe_callB (kCR (K := K) (r := rLenQ) call_len_seq rfl) rfl T.b_len (by decide +kernel) (pa_cons (pv 2) pa_nil)) pa_nil))))
      (pss_cons (ps_expr (pe_meth (pv 1) T.cl_Session T.m_Session_click (ok_Session_click (K := K) T) (hr.mono (by decide)) T.bn_Session_click .nil pass0 (pa_cons (pv 10) pa_nil)))
      (pss_one (ps_ret (pe_call (ok_law_state_clicked (K := K) T) (hr.mono (by decide)) rfl T.g_law_state_clicked T.f_law_state_clicked.kp T.bn_law_state_clicked .nil pass0 (pa_cons (pv 2) (pa_cons (pv 3) (pa_cons (pv 10) pa_nil)))))))) pss_nil)
      (pss_cons (ps_if (PW.pt (pw_and (pt_cmpR op_eq (pv 9) pe_int (nomark _)) (pw_and1 (pt_cmpR (kOp (K := K) (r := rNeD) (op_neD (units_of hr)) rfl) (pv 5) (pe_lst pa_nil) (nomark _))))) (pss_cons (ps_set (i := 11) sc_law_operation.nd rfl (Or.inr rfl) (pe_ix (kIx (K := K) (r := rIxL) ix_list rfl) (pv 5) (pe_call (ok_law_draw (K := K) T) (hr.mono (by decide)) rfl T.g_law_draw T.f_law_draw.kp T.bn_law_draw .nil pass0 (pa_cons (pv 0) (pa_cons (pe_callB (kCR (K := K) (r := rLenQ) call_len_seq rfl) rfl T.b_len (by decide +kernel) (pa_cons (pv 5) pa_nil)) pa_nil))) (fun _ _ => rfl)))
      (pss_cons (ps_set (i := 10) sc_law_operation.nd rfl (Or.inl rfl) (pe_call (ok_law_draw (K := K) T) (hr.mono (by decide)) rfl T.g_law_draw T.f_law_draw.kp T.bn_law_draw .nil pass0 (pa_cons (pv 0) (pa_cons (pe_callB (kCR (K := K) (r := rLenQ) call_len_seq rfl) rfl T.b_len (by decide +kernel) (pa_cons (pv 2) pa_nil)) pa_nil))))
      (pss_cons (ps_set (i := 12) sc_law_operation.nd rfl (Or.inl rfl) (pe_call (ok_law_cell (K := K) T) (hr.mono (by decide)) rfl T.g_law_cell T.f_law_cell.kp T.bn_law_cell .nil pass0 (pa_cons (pv 0) (pa_cons (pe_ix (kIx (K := K) (r := rIxL) ix_list rfl) (pv 2) (pv 10) (fun _ _ => rfl)) pa_nil))))
      (pss_cons (ps_expr (pe_meth (pv 1) T.cl_Session T.m_Session_set_cell (ok_Session_set_cell (K := K) T) (hr.mono (by decide)) T.bn_Session_set_cell .nil pass0 (pa_cons (pv 11) (pa_cons (pv 10) (pa_cons (pv 12) pa_nil)))))
      (pss_cons (ps_set (i := 13) sc_law_operation.nd rfl (Or.inl rfl) (pe_callTy call_dictD rfl T.b_dict (by decide +kernel) (pa_cons (pv 4) pa_nil)))
      (pss_cons (ps_dput (hu_of hr) (pv 13) (pv 11) (pe_callTy (kCR (K := K) (r := rListQ) call_list_of rfl) rfl T.b_list (by decide +kernel) (pa_cons (pe_dget (hu_of hr) (pv 4) (pv 11) (fun _ _ => rfl)) pa_nil)) rfl)
      (pss_cons (ps_asg (pv 12) (pg_sub (pe_dget (hu_of hr) (pv 13) (pv 11) (fun _ _ => rfl)) (pv 10) set_list))
      (pss_one (ps_ret (pe_tup (pa_cons (pv 13) (pa_cons (pv 5) (pa_cons (pv 6) (pa_cons (pe_tup (pa_cons (pe_lst pa_nil) (pa_cons pe_int pa_nil))) (pa_cons (pv 8) pa_nil))))))))))))))) pss_nil)
      (pss_cons (ps_if (PW.pt (pw_and (pt_cmpR op_eq (pv 9) pe_int (nomark _)) (pw_and1 (pt_cmpR (kOp (K := K) (r := rNeD) (op_neD (units_of hr)) rfl) (pv 5) (pe_lst pa_nil) (nomark _))))) (pss_cons (ps_set (i := 11) sc_law_operation.nd rfl (Or.inr rfl) (pe_ix (kIx (K := K) (r := rIxL) ix_list rfl) (pv 5) (pe_call (ok_law_draw (K := K) T) (hr.mono (by decide)) rfl T.g_law_draw T.f_law_draw.kp T.bn_law_draw .nil pass0 (pa_cons (pv 0) (pa_cons (pe_callB (kCR (K := K) (r := rLenQ) call_len_seq rfl) rfl T.b_len (by decide +kernel) (pa_cons (pv 5) pa_nil)) pa_nil))) (fun _ _ => rfl)))
      (pss_cons (ps_expr (pe_meth (pv 1) T.cl_Session T.m_Session_remove_row (ok_Session_remove_row (K := K) T) (hr.mono (by decide)) T.bn_Session_remove_row .nil pass0 (pa_cons (pv 11) pa_nil)))
      (pss_cons (ps_setLc (i := 14) (own := [("_law_one", 16)]) (g := (gName 16)) rfl sc_law_operation.nd rfl rfl (sw_true rfl rfl rfl (by decide +kernel)) (kPI (K := K) (i := fun K => iList K _) (pi_list (pv 5)) rfl) (blkOk_by (own := [("_law_one", 16)]) (N := ["_law_bag_here", "_law_here", "_law_kinds", "_law_state", "_law_cells", "_law_shown_here", "_law_click_list", "_law_recent", "_law_number", "_law_kind", "_law_column", "_law_row", "_law_value", "_law_changed", "_law_left", "_law_added", "_law_one"]) (sc := defScope s_law_operation) (by decide +kernel)) (fun _ _ _ _ _ => (pg_name (i := 16) sc_law_operation.nd rfl (Or.inl rfl) (.inr rfl))) (fun _ _ _ _ _ => (pts_one (pt_cmpR op_ne (pv 16) (pv 11) (nomark _)))) (fun _ _ _ _ _ => (pv 16)))
      (pss_one (ps_ret (pe_tup (pa_cons (pv 4) (pa_cons (pv 14) (pa_cons (pv 6) (pa_cons (pe_tup (pa_cons (pe_lst pa_nil) (pa_cons pe_int pa_nil))) (pa_cons (pv 8) pa_nil))))))))))) pss_nil)
      (pss_cons (ps_setLc (i := 15) (own := [("_law_one", 16)]) (g := (gName 16)) rfl sc_law_operation.nd rfl rfl (sw_true rfl rfl rfl (by decide +kernel)) (kPI (K := K) (i := fun K => iList K _) (pi_list (pv 2)) rfl) (blkOk_by (own := [("_law_one", 16)]) (N := ["_law_bag_here", "_law_here", "_law_kinds", "_law_state", "_law_cells", "_law_shown_here", "_law_click_list", "_law_recent", "_law_number", "_law_kind", "_law_column", "_law_row", "_law_value", "_law_changed", "_law_left", "_law_added", "_law_one"]) (sc := defScope s_law_operation) (by decide +kernel)) (fun _ _ _ _ _ => (pg_name (i := 16) sc_law_operation.nd rfl (Or.inl rfl) (.inr rfl))) (fun _ _ _ _ _ => pts_nil) (fun _ _ _ _ _ => (pe_call (ok_law_cell (K := K) T) (hr.mono (by decide)) rfl T.g_law_cell T.f_law_cell.kp T.bn_law_cell .nil pass0 (pa_cons (pv 0) (pa_cons (pv 16) pa_nil)))))
      (pss_cons (ps_set (i := 13) sc_law_operation.nd rfl (Or.inl rfl) (pe_callTy call_dictD rfl T.b_dict (by decide +kernel) (pa_cons (pv 4) pa_nil)))
      (pss_cons (ps_dput (hu_of hr) (pv 13) (pe_meth (pv 1) T.cl_Session T.m_Session_add_row (ok_Session_add_row (K := K) T) (hr.mono (by decide)) T.bn_Session_add_row .nil pass0 (pa_cons (pv 15) pa_nil)) (pv 15) rfl)
      (pss_one (ps_ret (pe_tup (pa_cons (pv 13) (pa_cons (pe_op op_cat (pv 5) (pe_lst (pa_cons (pv 8) pa_nil))) (pa_cons (pv 6) (pa_cons (pe_tup (pa_cons (pe_lst pa_nil) (pa_cons pe_int pa_nil))) (pa_cons (pe_op op_add (pv 8) pe_int) pa_nil)))))))))))))))), ?_⟩
    have lr0 := lr
    obtain ⟨t, d, sh, cl, e, rfl, ht, ⟨kvs, hkv, hlen, hrows⟩, hsh, hcl, he⟩ := lr
    have sB := A.sm
    have hsl := ok.sl
    obtain ⟨dx, _, svs, _, hs0, _, hL0, _⟩ := A.ex
    have hsN : H s ≠ none := by rw [hs0]; exact fun z => nomatch z
    have hLN : H L ≠ none := by rw [hL0]; exact fun z => nomatch z
    refine q_unp5 rfl (ev_var rfl) (sB _ _ ht) fun H1 e1 => ?_
    have s1 : Step [b, s, L] B H B H1 := (Step.refl sB).ex e1
    refine q_asgCall (vs := [.ref b, nV 6]) (ea_cons (ev_var rfl) (ea_cons ev_c ea_nil)) fun H2 e2 => ⟨B, b, 6, rfl, s1.sH.trans e2, bb, (bg.ex e1).ex e2, by omega, by omega, fun dr H3 hdr st3 bg3 => ?_⟩
    have s3 : Step [b, s, L] B H B H3 := (s1.ex e2).trans (st3.wide fun a m => by rw [List.mem_singleton.mp m]; simp)
    have A3 : SesAt K ks n B H3 s L U (sts ++ [st]) uns := A.step (((Step.refl (M := [b]) sB).ex (e1.trans e2)).trans st3) (fun m => nbs (List.mem_singleton.mp m).symm) (fun m => nbL (List.mem_singleton.mp m).symm) (fun m => nbU (List.mem_singleton.mp m).symm) (Nat.le_refl n)
    have lb : ∀ {a : Addr} {o : HO}, B a = some o → a ≠ b := fun h z => by rw [z, bb] at h; cases h
    /- a draw, a cell, an operation: what stays -/
    have fin : ∀ (v' : V) (B' H4 : Hp) (U' : Addr) (st' : St), Step [b, s, L] B H B' H4 → BagAt H4 b → SesAt K ks (n + 1) B' H4 s L U' (sts ++ [st] ++ [st']) [] → StOk ks (n + 1) st' → H U' = none → ∀ H5, Same H4 H5 → LRep (n + 1) (extX B' H [U'] H5) v' st' → Q v' H5 := fun v' B' H4 U' st' p bg4 A4 ok' nU H5 e5 lr' => by
      have p5 := p.ex e5
      have A5 : SesAt K ks (n + 1) B' H5 s L U' (sts ++ [st] ++ [st']) [] := A4.step (M := []) ((Step.refl A4.sm).ex e5) (by simp) (by simp) (by simp) (Nat.le_refl _)
      exact q v' _ H5 U' st' p5.growX (bg4.ex e5) (A5.growX (Nat.le_refl _) hsN hLN (List.mem_singleton.mpr rfl)) ok' lr' nU
    refine q_when (b := decide (dr < 3)) (et_leaf (ev_op (ev_var rfl) ev_c (rv_I0 (g := fun i j => V.bl (decide (i < j))))) (by rw [Bool.eq_iff_iff, decide_eq_true_eq, decide_eq_true_eq]; omega)) (fun hd H4 e4 => ?_) fun hd H4 e4 => ?_
    · -- a click
      have s4 := s3.ex e4
      refine q_asgCall (vs := [.ref b, nV ks.length]) (ea_cons (ev_var rfl) (ea_cons (ev_cb (ea_cons (ev_var rfl) ea_nil) (rc_lenM (s4.sH _ _ hk))) ea_nil)) fun H5 e5 => ⟨B, b, ks.length, rfl, s4.sH.trans e5, bb, (bg3.ex e4).ex e5, by omega, by omega, fun c H6 hc st6 bg6 => ?_⟩
      have s6 : Step [b, s, L] B H B H6 := (s4.ex e5).trans (st6.wide fun a m => by rw [List.mem_singleton.mp m]; simp)
      have A6 : SesAt K ks n B H6 s L U (sts ++ [st]) uns := A3.step (((Step.refl (M := [b]) s3.sH).ex (e4.trans e5)).trans st6) (fun m => nbs (List.mem_singleton.mp m).symm) (fun m => nbL (List.mem_singleton.mp m).symm) (fun m => nbU (List.mem_singleton.mp m).symm) (Nat.le_refl n)
      obtain ⟨dx6, _, _, _, hs6, _⟩ := A6.ex
      refine q_dropMeth (ev_var rfl) hs6 rfl (eax_v (v := nV c) (ev_var rfl) eax_nil) fun vs H7 e7 ⟨us, f1, f2⟩ => ?_
      subst f2 f1
      have A7 : SesAt K ks n B H7 s L U (sts ++ [st]) uns := A6.step (M := []) ((Step.refl A6.sm).ex e7) (by simp) (by simp) (by simp) (Nat.le_refl n)
      refine ⟨s, c, n, ks, B, L, U, sts, st, uns, rfl, A7, ok, hc, hk8, by omega, by omega, fun B' H8 U' stp A8 nU => ?_⟩
      have s7 := s6.ex e7
      have s8 : Step [b, s, L] B H B' H8 := s7.trans (stp.wide fun a m => List.mem_cons_of_mem _ m)
      have bg8 : BagAt H8 b := (bg6.ex e7).fr stp (by simp; exact ⟨nbs, nbL⟩)
      have A8' : SesAt K ks (n + 1) B' H8 s L U' (sts ++ [st] ++ [stClick ks st c]) [] := A8.step (M := []) (Step.refl A8.sm) (by simp) (by simp) (by simp) (Nat.le_succ n)
      refine s_retX (R := fun v _ H9 => LRep n (ext B' H8 H9) v (stClick ks st c)) ((ex_call (R := fun v H8' H9 => LRep n (ext B' H8' H9) v (stClick ks st c)) (vs := [.ref k, .ref t, nV c]) (ea_cons (ev_var rfl) (ea_cons (ev_var rfl) (ea_cons (ev_var rfl) ea_nil))) fun H9 e9 Q kk E => ⟨k, .ref t, c, n, ks, B', st, rfl, s8.sH.trans e9, s8.sB _ _ hk, lr0.mono s8.sB (Nat.le_refl n), ok, hc, by omega, fun v' H' s h => kk v' H' s h⟩).imp fun v H1 H2 g1 g2 ⟨G, f1, f2, r⟩ => r.mono (ext_le (g1.trans f1) (Same.refl _)) (Nat.le_refl n)) fun v' H9 e9 hr => ?_
      obtain ⟨_, _, _, _, _, _, _, hU8, _⟩ := A8.ex
      exact fin v' B' H8 U' _ s8 bg8 A8' (ok.click hc) (s7.fresh nU) H9 e9 (hr.mono (ext_leX s8 e9 fun a m => by rw [List.mem_singleton.mp m, hU8]; exact fun z => nomatch z) (Nat.le_succ n))
    have nextS : ∀ {Hi Hj : Hp}, Step [b, s, L] B H B Hi → SesAt K ks n B Hi s L U (sts ++ [st]) uns → Step [b] B Hi B Hj → Step [b, s, L] B H B Hj ∧ SesAt K ks n B Hj s L U (sts ++ [st]) uns := fun p A p2 => ⟨p.trans (p2.wide fun a m => by rw [List.mem_singleton.mp m]; simp), A.step p2 (fun m => nbs (List.mem_singleton.mp m).symm) (fun m => nbL (List.mem_singleton.mp m).symm) (fun m => nbU (List.mem_singleton.mp m).symm) (Nat.le_refl n)⟩
    have pu : ∀ {Hi Hj : Hp}, Same B Hi → Same Hi Hj → Step [b] B Hi B Hj := fun a e => (Step.refl a).ex e
    have tDr : ∀ (m : Nat) {σ : L2.St} {Hi : Hp}, σ[9]? = some (some (nV dr)) → Same B Hi → σ[5]? = some (some (.ref sh)) → EvT (tAnd (tTest (tOp rEq (tVar 9) (tC (.int (m : Int))))) (tTest (tOp (rNeD K) (tVar 5) (tLst tNil)))) σ Hi (decide (dr = m) && !decide (st.shown = [])) := fun m {σ Hi} h9 hs h5 => et_and (et_leaf (ev_op (ev_var h9) ev_c rv_eqI) decN) fun _ => et_leaf (ev_opL (ev_var h5) el_nil fun p H1 hp e => rv_neNs (ys := []) (e _ _ (hs _ _ hsh)) hp) rfl
    obtain ⟨s4, A4⟩ := nextS s3 A3 (pu s3.sH e4)
    have bg4 := bg3.ex e4
    refine q_when (tDr 3 rfl s4.sH rfl) (fun hd H5 e5 => ?_) fun hd3 H5 e5 => ?_
    · -- a cell set
      obtain ⟨_, hne⟩ := Bool.and_eq_true_iff.mp hd
      have hne : st.shown ≠ [] := by simpa using hne
      obtain ⟨s5, A5⟩ := nextS s4 A4 (pu s4.sH e5)
      refine q_asgPick (K := K) (sp := sp_law_draw K) rfl rfl rfl (ev_cb (ea_cons (ev_var rfl) ea_nil) (rc_lenM (s5.sH _ _ hsh))) (s5.sH _ _ hsh) hne (by omega) s5.sH bb (bg4.ex e5) (lb hsh) fun r H6 hr st6 bg6 => ?_
      obtain ⟨s6, A6⟩ := nextS s5 A5 st6
      refine q_asgCall (vs := [.ref b, nV ks.length]) (ea_cons (ev_var rfl) (ea_cons (ev_cb (ea_cons (ev_var rfl) ea_nil) (rc_lenM (s6.sH _ _ hk))) ea_nil)) fun H7 e7 => ⟨B, b, ks.length, rfl, s6.sH.trans e7, bb, bg6.ex e7, by omega, by omega, fun c H8 hc st8 bg8 => ?_⟩
      obtain ⟨s7, A7⟩ := nextS s6 A6 (pu s6.sH e7)
      obtain ⟨s8, A8⟩ := nextS s7 A7 st8
      have hkc : ks[c]? = some (ks.getD c .num) := by rw [List.getD_eq_getElem?_getD, List.getElem?_eq_getElem hc] <;> rfl
      refine q_asgCall (vs := [.ref b, (ks.getD c .num).v]) (ea_cons (ev_var rfl) (ea_cons (ev_op (ev_var rfl) (ev_var rfl) (rv_ixL (SqL.of (s8.sH _ _ hk)) (atI_nat (by rw [List.getElem?_map, hkc] <;> rfl)))) ea_nil)) fun H9 e9 => ⟨B, b, _, rfl, s8.sH.trans e9, bb, bg8.ex e9, fun cv H10 hcv st10 bg10 => ?_⟩
      obtain ⟨s9, A9⟩ := nextS s8 A8 (pu s8.sH e9)
      obtain ⟨s10, A10⟩ := nextS s9 A9 st10
      obtain ⟨dx10, _, _, _, hs10, _⟩ := A10.ex
      refine q_dropMeth (ev_var rfl) hs10 rfl (eax_v (v := nV r) (ev_var rfl) (eax_v (v := nV c) (ev_var rfl) (eax_v (v := cv) (ev_var rfl) eax_nil))) fun vs H11 e11 ⟨u1, f1, u2, f2, u3, f3, f4⟩ => ?_
      subst f4 f3 f2 f1
      obtain ⟨s11, A11⟩ := nextS s10 A10 (pu s10.sH e11)
      refine ⟨s, r, c, cv, n, ks, B, L, U, sts, st, uns, _, rfl, A11, ok, hr, hkc, hcv, hk8, by omega, by omega, fun B' H12 U' stp A12 nU => ?_⟩
      have s12 : Step [b, s, L] B H B' H12 := s11.trans (stp.wide fun a m => List.mem_cons_of_mem _ m)
      have bg12 : BagAt H12 b := (bg10.ex e11).fr stp (by simp; exact ⟨nbs, nbL⟩)
      have b12 : ∀ {a : Addr} {o : HO}, B a = some o → H12 a = some o := fun h => s12.sH _ _ (s12.sB _ _ h)
      obtain ⟨x0, hx0, hx0r⟩ := hrows r hr
      have okr := ok.rows r hr
      have hrl : (st.cells r).length = ks.length := (Paired.length okr).symm
      refine q_asgX (ex_dict (ev_var rfl) (b12 hkv)) fun dv H13 e13 ⟨Dc, edv, nDc, hDc⟩ => ?_
      subst edv
      refine q_dputX (a := Dc) (y := nV r) (R := NewL (st.cells r)) (EvX.ofL (el_cb (vs := [.ref x0]) (ea_cons (ev_dget (a := d) (ev_var rfl) (ev_var rfl) fun H1 e => ?_) ea_nil) (rcl_list (e13 _ _ (b12 hx0r))))) (ev_var rfl) (ev_var rfl) fun xv G H14 g1 g2 ⟨x, exv, nx, hx⟩ => ?_
      · rw [← hx0]
        exact DGet.k (k := .inl (r : Int)) (e _ _ (e13 _ _ (b12 hkv)))
      subst exv
      have hDc14 := (g1.trans g2) _ _ hDc
      refine ⟨_, DPut.k (k := .inl (r : Int)) hDc14 (sz_lt (by omega)), ?_⟩
      have nxD : x ≠ Dc := (ne_of_none hDc nx).symm
      have e14 : Same H12 (upd H14 Dc (.dK (putK kvs (.inl (r : Int)) (.ref x)))) := same_mut ((e13.trans g1).trans g2) nDc
      have hx14 : (upd H14 Dc (.dK (putK kvs (.inl (r : Int)) (.ref x)))) x = some (.lst (st.cells r)) := by
        rw [upd_ne nxD]
        exact g2 _ _ hx
      have hD14 : (upd H14 Dc (.dK (putK kvs (.inl (r : Int)) (.ref x)))) Dc = some (.dK (putK kvs (.inl (r : Int)) (.ref x))) := upd_same
      generalize upd H14 Dc (.dK (putK kvs (.inl (r : Int)) (.ref x))) = H15 at e14 hx14 hD14 ⊢
      have nx12 : H12 x = none := fresh_back e13 nx
      refine q_setL (l := x) (xs := st.cells r) (j := c) (v := cv) hx14 (ev_var rfl) (ev_dget (a := Dc) (ev_var rfl) (ev_var rfl) fun H1 e => ?_) (ev_var rfl) (by omega) fun H16 e16 => ?_
      · have := DGet.k (k := .inl (r : Int)) (e _ _ hD14)
        rw [valV_put, if_pos rfl] at this
        exact this
      have e17 : Same H12 (upd H16 x (.lst ((st.cells r).set c cv))) := same_mut (e14.trans e16) nx12
      have hx17 : (upd H16 x (.lst ((st.cells r).set c cv))) x = some (.lst ((st.cells r).set c cv)) := upd_same
      have hD17 : (upd H16 x (.lst ((st.cells r).set c cv))) Dc = some (.dK (putK kvs (.inl (r : Int)) (.ref x))) := by
        rw [upd_ne nxD.symm]
        exact e16 _ _ hD14
      generalize upd H16 x (.lst ((st.cells r).set c cv)) = H17 at e17 hx17 hD17 ⊢
      refine s_retX (ex_tupA (eax_v (v := .ref Dc) (ev_var rfl) (eax_v (v := .ref sh) (ev_var rfl) (eax_v (v := .ref cl) (ev_var rfl) (eax_e0 (eax_v (v := nV st.next) (ev_var rfl) eax_nil))))) fun vs H18 ⟨u1, f1, u2, f2, u3, f3, u4, t1, p1, f4, _, _, _, _, u5, f5, f6⟩ => by
          subst f6 f5 f4 f3 f2 f1
          show 5 ≤ 100000
          omega) fun v' H18 e18 ⟨tp, vs, G18, ev, k1, k2, ntp, ⟨u1, f1, u2, f2, u3, f3, u4, t1, p1, f4, nt1, np1, ht1, hp1, u5, f5, f6⟩, htp⟩ => ?_
      subst f6 f5 f4 f3 f2 f1 ev
      have e18' := e17.trans e18
      have sX := s12.sH.trans e18'
      have fr : ∀ {a : Addr}, H12 a = none → H a = none := fun h => s12.fresh h
      obtain ⟨_, _, _, _, _, _, _, hU12, _⟩ := A12.ex
      have nu : ∀ {a : Addr}, H12 a = none → ¬ a ∈ [U'] := fun h m => by
        rw [List.mem_singleton.mp m, hU12] at h
        cases h
      have new : ∀ {a : Addr} {o : HO}, H12 a = none → H18 a = some o → extX B' H [U'] H18 a = some o := fun h1 h2 => extX_new sX (fr h1) (nu h1) h2
      have oldB : Same B (extX B' H [U'] H18) := s12.sB.trans extX_old
      refine fin _ B' H12 U' (stSet st r c cv) s12 bg12 A12 (ok.set hr hkc hcv) (s11.fresh nU) H18 e18' ⟨tp, Dc, sh, cl, _, rfl, new (fresh_back e17 ntp) htp, put_cells hrows hlen (new nDc (e18 _ _ hD17)) (new nx12 (e18 _ _ hx17)) oldB (fun q m => .inr m), oldB _ _ hsh, oldB _ _ hcl, t1, p1, [], rfl, new (fresh_back e17 nt1) (k2 _ _ ht1), new (fresh_back e17 np1) (k2 _ _ hp1), .nil⟩
    obtain ⟨s5, A5⟩ := nextS s4 A4 (pu s4.sH e5)
    have bg5 := bg4.ex e5
    refine q_when (tDr 4 rfl s5.sH rfl) (fun hd H6 e6 => ?_) fun hd4 H6 e6 => ?_
    · -- a row removed
      obtain ⟨_, hne⟩ := Bool.and_eq_true_iff.mp hd
      have hne : st.shown ≠ [] := by simpa using hne
      obtain ⟨s6, A6⟩ := nextS s5 A5 (pu s5.sH e6)
      refine q_asgPick (K := K) (sp := sp_law_draw K) rfl rfl rfl (ev_cb (ea_cons (ev_var rfl) ea_nil) (rc_lenM (s6.sH _ _ hsh))) (s6.sH _ _ hsh) hne (by omega) s6.sH bb (bg5.ex e6) (lb hsh) fun r H7 hr st7 bg7 => ?_
      obtain ⟨s7, A7⟩ := nextS s6 A6 st7
      obtain ⟨dx7, _, _, _, hs7, _⟩ := A7.ex
      refine q_dropMeth (ev_var rfl) hs7 rfl (eax_v (v := nV r) (ev_var rfl) eax_nil) fun vs H8 e8 ⟨u1, f1, f2⟩ => ?_
      subst f2 f1
      obtain ⟨s8, A8⟩ := nextS s7 A7 (pu s7.sH e8)
      refine ⟨s, r, n, ks, B, L, U, sts, st, uns, rfl, A8, ok, hr, hk8, by omega, by omega, fun B' H12 U' stp A12 nU => ?_⟩
      have s12 : Step [b, s, L] B H B' H12 := s8.trans (stp.wide fun a m => List.mem_cons_of_mem _ m)
      have bg12 : BagAt H12 b := (bg7.ex e8).fr stp (by simp; exact ⟨nbs, nbL⟩)
      have b12 : ∀ {a : Addr} {o : HO}, B a = some o → H12 a = some o := fun h => s12.sH _ _ (s12.sB _ _ h)
      have A12' : SesAt K ks (n + 1) B' H12 s L U' (sts ++ [st] ++ [stDel st r]) [] := A12.step (M := []) (Step.refl A12.sm) (by simp) (by simp) (by simp) (Nat.le_succ n)
      refine q_asgL (el_lcL (K := K) st.shown nV (fun q => !decide (q = r)) nV (ev_var rfl) (SqL.of (b12 hsh)) (by omega) (fun q m => et_leaf (ev_op (ev_var rfl) (ev_var rfl) rv_neI) (by rw [decN])) fun q m _ => ev_var rfl) fun lf H13 nlf e13 hlf => ?_
      refine s_retX (ex_tupA (eax_v (v := .ref d) (ev_var rfl) (eax_v (v := .ref lf) (ev_var rfl) (eax_v (v := .ref cl) (ev_var rfl) (eax_e0 (eax_v (v := nV st.next) (ev_var rfl) eax_nil))))) fun vs H18 ⟨u1, f1, u2, f2, u3, f3, u4, t1, p1, f4, _, _, _, _, u5, f5, f6⟩ => by
          subst f6 f5 f4 f3 f2 f1
          show 5 ≤ 100000
          omega) fun v' H18 e18 ⟨tp, vs, G18, ev, k1, k2, ntp, ⟨u1, f1, u2, f2, u3, f3, u4, t1, p1, f4, nt1, np1, ht1, hp1, u5, f5, f6⟩, htp⟩ => ?_
      subst f6 f5 f4 f3 f2 f1 ev
      have e18' := e13.trans e18
      have sX := s12.sH.trans e18'
      obtain ⟨_, _, _, _, _, _, _, hU12, _⟩ := A12.ex
      have new : ∀ {a : Addr} {o : HO}, H12 a = none → H18 a = some o → extX B' H [U'] H18 a = some o := fun h1 h2 => extX_new sX (s12.fresh h1) (fun m => by
        rw [List.mem_singleton.mp m, hU12] at h1
        cases h1) h2
      have oldB : Same B (extX B' H [U'] H18) := s12.sB.trans extX_old
      refine fin _ B' H12 U' (stDel st r) s12 bg12 A12' (ok.del r) (s8.fresh nU) H18 e18' ⟨tp, d, lf, cl, _, rfl, new (fresh_back e13 ntp) htp, CellsAt.of (CellsAt.mono (shown := st.shown) (cells := st.cells) oldB (Nat.le_succ n) ⟨kvs, hkv, hlen, hrows⟩) fun q m => (List.mem_filter.mp m).1, new nlf (e18 _ _ hlf), oldB _ _ hcl, t1, p1, [], rfl, new (fresh_back e13 nt1) (k2 _ _ ht1), new (fresh_back e13 np1) (k2 _ _ hp1), .nil⟩
    · -- a row added
      obtain ⟨s6, A6⟩ := nextS s5 A5 (pu s5.sH e6)
      refine q_lcDraw (K := K) (a := k) (ev_var rfl) (s6.sH _ _ hk) (by omega) (fun _ => rfl) (fun _ => rfl) s6.sH bb (bg5.ex e6) fun D H7 row okr nD st7 bg7 hD => ?_
      obtain ⟨s7, A7⟩ := nextS s6 A6 st7
      have nD0 : H D = none := s6.fresh nD
      refine q_asgX (ex_dict (ev_var rfl) (s7.sH _ _ hkv)) fun dv H8 e8 ⟨Dc, edv, nDc, hDc⟩ => ?_
      subst edv
      obtain ⟨s8, A8⟩ := nextS s7 A7 (pu s7.sH e8)
      have nDc0 : H Dc = none := s7.fresh nDc
      have hD8 := e8 _ _ hD
      have nDD : D ≠ Dc := ne_of_none hD nDc
      have Ds : D ≠ s := fun z => hsN (by rw [← z]; exact nD0)
      have DL : D ≠ L := fun z => hLN (by rw [← z]; exact nD0)
      have Dcs : Dc ≠ s := fun z => hsN (by rw [← z]; exact nDc0)
      have DcL : Dc ≠ L := fun z => hLN (by rw [← z]; exact nDc0)
      have Dcb : Dc ≠ b := fun z => bg.some (by rw [← z]; exact nDc0)
      obtain ⟨dx8, _, _, _, hs8, _⟩ := A8.ex
      refine ⟨_, rfl, _, rfl, _, rfl, s, dx8, _, rfl, hs8, rfl, _, rfl, s, D, row, n, ks, B, L, U, sts, st, uns, rfl, A8, ok, hD8, okr, hk8, by omega, by omega, fun B' H12 U' stp A12 nU => ?_⟩
      have s12 : Step [b, s, L] B H B' H12 := s8.trans (stp.wide fun a m => List.mem_cons_of_mem _ m)
      have hDc12 := stp.fr _ _ (by simp; exact ⟨Dcs, DcL⟩) hDc
      have hD12 := stp.fr _ _ (by simp; exact ⟨Ds, DL⟩) hD8
      have bDc : B' Dc = none := stp.mu _ (by rw [hDc]; exact fun z => nomatch z) (fresh_back sB nDc0)
      refine ⟨Dc, _, rfl, DPut.k (k := .inl (st.next : Int)) hDc12 (sz_lt (by omega)), ?_⟩
      have s13 := s12.mutNew (o' := .dK (putK kvs (.inl (st.next : Int)) (.ref D))) nDc0 bDc hDc12
      have UD : U' ≠ Dc := fun z => by rw [z, hDc] at nU; cases nU
      have UDr : D ≠ U' := fun z => by rw [← z, hD8] at nU; cases nU
      have A13 := A12.step (n' := n + 1) (Step.mut (o' := .dK (putK kvs (.inl (st.next : Int)) (.ref D))) s12.sH bDc hDc12) (fun m => Dcs (List.mem_singleton.mp m).symm) (fun m => DcL (List.mem_singleton.mp m).symm) (fun m => UD (List.mem_singleton.mp m)) (Nat.le_refl _)
      have bg12 : BagAt H12 b := (bg7.ex e8).fr stp (by simp; exact ⟨nbs, nbL⟩)
      have bg13 : BagAt (upd H12 Dc (.dK (putK kvs (.inl (st.next : Int)) (.ref D)))) b := by
        obtain ⟨x, y, h1, h2⟩ := bg12
        exact ⟨x, y, by rw [upd_ne Dcb.symm]; exact h1, h2⟩
      have hDc13 : (upd H12 Dc (.dK (putK kvs (.inl (st.next : Int)) (.ref D)))) Dc = some (.dK (putK kvs (.inl (st.next : Int)) (.ref D))) := upd_same
      have hD13 : (upd H12 Dc (.dK (putK kvs (.inl (st.next : Int)) (.ref D)))) D = some (.lst row) := by
        rw [upd_ne nDD]
        exact hD12
      generalize upd H12 Dc (.dK (putK kvs (.inl (st.next : Int)) (.ref D))) = H13 at s13 A13 bg13 hDc13 hD13 ⊢
      have b13 : ∀ {a : Addr} {o : HO}, B a = some o → H13 a = some o := fun h => s13.sH _ _ (s13.sB _ _ h)
      refine s_retX (ex_tupA (eax_v (v := .ref Dc) (ev_var rfl) (eax_lF (xs := (st.shown ++ [st.next]).map nV) (by
          rw [List.map_append]
          exact el_catX (EvX.of (ev_var (v := .ref sh) rfl)) (EvX.ofL (el_lst (vs := [nV st.next]) (ea_cons (ev_var rfl) ea_nil) (by show 1 ≤ 100000; omega))) (st.shown.map nV) [nV st.next] (fun v H1 H2 e1 e2 r => ⟨sh, r, e2 _ _ (e1 _ _ (b13 hsh))⟩) (fun v H1 H2 e1 e2 ⟨p, ev, np, hp⟩ => ⟨p, ev, hp⟩) (by rw [List.length_map]; show _ + 1 ≤ _; omega)) (eax_v (v := .ref cl) (ev_var rfl) (eax_e0 (eax_v (v := nV (st.next + 1)) (ev_is (ev_op (ev_var rfl) ev_c (rv_I0 (g := fun i j => V.int (i + j)))) (by show V.int ((st.next : Int) + 1) = V.int ((st.next + 1 : Nat) : Int); rw [show ((st.next + 1 : Nat) : Int) = (st.next : Int) + 1 by omega])) eax_nil))))) fun vs H18 ⟨u1, f1, u2, l2, f2, _, _, u3, f3, u4, t1, p1, f4, _, _, _, _, u5, f5, f6⟩ => by
          subst f6 f5 f4 f3 f2 f1
          show 5 ≤ 100000
          omega) fun v' H18 e18 ⟨tp, vs, G18, ev, k1, k2, ntp, ⟨u1, f1, u2, l2, f2, nl2, hl2, u3, f3, u4, t1, p1, f4, nt1, np1, ht1, hp1, u5, f5, f6⟩, htp⟩ => ?_
      subst f6 f5 f4 f3 f2 f1 ev
      have sX := s13.sH.trans e18
      obtain ⟨_, _, _, _, _, _, _, hU13, _⟩ := A13.ex
      have new : ∀ {a : Addr} {o : HO}, H13 a = none → H18 a = some o → extX B' H [U'] H18 a = some o := fun h1 h2 => extX_new sX (s13.fresh h1) (fun m => by
        rw [List.mem_singleton.mp m, hU13] at h1
        cases h1) h2
      have oldB : Same B (extX B' H [U'] H18) := s13.sB.trans extX_old
      refine fin _ B' H13 U' (stAdd st row) s13 bg13 A13 (ok.add okr) (s8.fresh nU) H18 e18 ⟨tp, Dc, l2, cl, _, rfl, new ntp htp, put_cells hrows hlen (extX_new sX nDc0 (fun m => UD (List.mem_singleton.mp m).symm) (e18 _ _ hDc13)) (extX_new sX nD0 (fun m => UDr (List.mem_singleton.mp m)) (e18 _ _ hD13)) oldB (fun q m => ?_), new nl2 (k2 _ _ hl2), oldB _ _ hcl, t1, p1, [], rfl, new nt1 (k2 _ _ ht1), new np1 (k2 _ _ hp1), .nil⟩
      rcases List.mem_append.mp m with m | m
      · exact .inr m
      · exact .inl (List.mem_singleton.mp m)
end
end HC


set_option Elab.async false
set_option linter.all false
set_option maxRecDepth 100000
set_option maxHeartbeats 4000000
namespace HC
open PySem PySem.Spec PyProof.Rows L2 Evl
local macro_rules
  | `(tactic| walk_at "ev") => `(tactic| first
    | exact ev_c
    | exact ev_var rfl
    | exact ea_nil
    | exact et_yes
    | exact eo_none
    | exact rv_I0
    | exact rv_eqI
    | exact rv_neI
    | exact rv_eqS
    | exact rv_neS
    | exact rv_eqB
    | exact rv_neB
    | exact rv_isN
    | exact rv_notN
    | exact rv_leS
    | exact rv_ltS
    | exact ru_neg
    | assumption
    | (apply ea_cons <;> walk_at "ev")
    | (apply et_test <;> walk_at "ev")
    | (apply et_B <;> walk_at "ev")
    | (apply et_not <;> walk_at "ev")
    | (apply ev_op <;> walk_at "ev")
    | (apply ev_un <;> walk_at "ev")
    | (apply ev_isi_int (h := kit_int_int) <;> walk_at "ev")
    | (apply ev_isi_int (h := kit_int_bool) <;> walk_at "ev")
    | (apply ev_isi_str (h := kit_str_str) <;> walk_at "ev")
    | (apply ev_isi_lst (h := kit_list_list) <;> walk_at "ev")
    | (apply ev_isi_tup (h := kit_tuple_tuple) <;> walk_at "ev")
    | (apply rc_lenL ; assumption)
    | (apply rc_lenT ; assumption)
    | (apply rc_lenS ; assumption)
    | (apply ev_chain <;> first | walk_at "ev" | (intro _; walk_at "ev"))
    | (apply et_or <;> first | walk_at "ev" | (intro _; walk_at "ev"))
    | (apply et_and <;> first | walk_at "ev" | (intro _; walk_at "ev"))
    | (apply ev_orV <;> first | walk_at "ev" | (intro _; walk_at "ev"))
    | (apply ev_andV <;> first | walk_at "ev" | (intro _; walk_at "ev"))
    | (apply ev_notV <;> walk_at "ev")
    | (apply ev_cb <;> walk_at "ev")
    | (apply eo_some <;> walk_at "ev"))
local macro_rules
  | `(tactic| walk_at "dec") => `(tactic| first
    | assumption
    | exact dnI
    | exact dnS
    | decide +kernel
    | (with_reducible rfl)
    | (simp only [decide_eq_true_eq, Bool.and_eq_true, Bool.not_eq_true', decide_eq_false_iff_not, Bool.not_true, Bool.not_false, Bool.and_eq_false_iff, Bool.or_eq_false_iff, Bool.or_eq_true]; omega)
    | rfl)
local macro_rules
  | `(tactic| walk_at "dt") => `(tactic| first
    | assumption
    | exact et_yes
    | (apply et_orF <;> walk_at "dt")
    | (apply et_andT <;> walk_at "dt")
    | (apply et_notF; walk_at "dt")
    | (apply et_notT; walk_at "dt")
    | (apply et_chT <;> first | walk_at "ev" | walk_at "dec")
    | (apply et_leaf <;> first | walk_at "ev" | walk_at "dec")
    | (apply et_leafB <;> first | walk_at "ev" | walk_at "dec"))
local macro_rules
  | `(tactic| walk_at "pass") => `(tactic| (refine' q_pass ?zzh ?zzk; (case zzh => walk_at "dt")))
local macro_rules
  | `(tactic| walk_at "yes") => `(tactic| ((first | refine' q_yes ?zzh ?zzk | refine' s_yes ?zzh ?zzk); (case zzh => walk_at "dt")))
local macro_rules
  | `(tactic| walk_at "no") => `(tactic| ((first | refine' q_no ?zzh ?zzk | refine' s_no ?zzh ?zzk); (case zzh => walk_at "dt")))
local macro_rules
  | `(tactic| walk_at "ret") => `(tactic| (refine' s_ret (v := _) ?zzh ?zzk; (case zzh => walk_at "ev")))
local macro_rules
  | `(tactic| walk_at "set") => `(tactic| ((first | refine' q_asg (v := _) ?zzh ?zzk | refine' s_asg (v := _) ?zzh ?zzk); (case zzh => walk_at "ev")))
section
variable {P : Program} {w : World} {K : PySem.W.Frag} {mg : Str → Option Value} {base : Heap}
/-- the law's two lists of states -/
structure LawAt (n : Nat) (B H : Hp) (Dn Un : Addr) (sts uns : List St) : Prop where
  ex : ∃ dvs uvs, H Dn = some (.lst dvs) ∧ H Un = some (.lst uvs) ∧ Paired (fun st v => LRep n B v st) sts dvs ∧ Paired (fun st v => LRep n B v st) uns uvs
  bD : B Dn = none
  bU : B Un = none
  ne : Dn ≠ Un
theorem LawAt.step {n n' : Nat} {B H B' H' : Hp} {Dn Un : Addr} {sts uns : List St} {M : List Addr} (A : LawAt n B H Dn Un sts uns) (p : Step M B H B' H') (hD : ¬ Dn ∈ M) (hU : ¬ Un ∈ M) (hn : n ≤ n') : LawAt n' B' H' Dn Un sts uns := by
  obtain ⟨dvs, uvs, h1, h2, h3, h4⟩ := A.ex
  have nn : ∀ {a : Addr} {o : HO}, H a = some o → H a ≠ none := fun h e => by
    rw [h] at e
    cases e
  exact ⟨⟨dvs, uvs, p.fr _ _ hD h1, p.fr _ _ hU h2, Paired.mapP h3 fun _ _ r => r.mono p.sB hn, Paired.mapP h4 fun _ _ r => r.mono p.sB hn⟩, p.mu _ (nn h1) A.bD, p.mu _ (nn h2) A.bU, A.ne⟩
/-- all that a run has: the bag, the session, the law's lists -/
structure Run (K : PySem.W.Frag) (ks : List Kind) (n : Nat) (B H : Hp) (b s L U k Dn Un : Addr) (sts uns : List St) : Prop where
  ses : SesAt K ks n B H s L U sts uns
  law : LawAt n B H Dn Un sts uns
  bb : B b = none
  bg : BagAt H b
  hk : B k = some (.lst (ks.map Kind.v))
  ok : ∀ st ∈ sts ++ uns, StOk ks n st
  d1 : b ≠ s ∧ b ≠ L ∧ b ≠ U ∧ b ≠ Dn ∧ b ≠ Un
  d2 : Dn ≠ s ∧ Dn ≠ L ∧ Dn ≠ U
  d3 : Un ≠ s ∧ Un ≠ L ∧ Un ≠ U
theorem Run.step {ks : List Kind} {n n' : Nat} {B H B' H' : Hp} {b s L U k Dn Un : Addr} {sts uns : List St} {M : List Addr} (R : Run K ks n B H b s L U k Dn Un sts uns) (p : Step M B H B' H') (h : ∀ a ∈ M, a ≠ s ∧ a ≠ L ∧ a ≠ U ∧ a ≠ Dn ∧ a ≠ Un) (bg : BagAt H' b) (hn : n ≤ n') : Run K ks n' B' H' b s L U k Dn Un sts uns :=
  ⟨R.ses.step p (fun m => (h _ m).1 rfl) (fun m => (h _ m).2.1 rfl) (fun m => (h _ m).2.2.1 rfl) hn, R.law.step p (fun m => (h _ m).2.2.2.1 rfl) (fun m => (h _ m).2.2.2.2 rfl) hn, p.mu _ R.bg.some R.bb, bg, p.sB _ _ R.hk, fun st m => (R.ok st m).mono hn, R.d1, R.d2, R.d3⟩
theorem Run.ex {ks : List Kind} {n : Nat} {B H H' : Hp} {b s L U k Dn Un : Addr} {sts uns : List St} (R : Run K ks n B H b s L U k Dn Un sts uns) (e : Same H H') : Run K ks n B H' b s L U k Dn Un sts uns := R.step ((Step.refl (M := []) R.ses.sm).ex e) (by simp) (R.bg.ex e) (Nat.le_refl n)
theorem Run.draw {ks : List Kind} {n : Nat} {B H H' : Hp} {b s L U k Dn Un : Addr} {sts uns : List St} (R : Run K ks n B H b s L U k Dn Un sts uns) (p : Step [b] B H B H') (bg : BagAt H' b) : Run K ks n B H' b s L U k Dn Un sts uns := R.step p (fun a m => by rw [List.mem_singleton.mp m]; exact R.d1) bg (Nat.le_refl n)
section
variable {σ : L2.St} {H : Hp} {ta : TA} {tb : TE} {tu tw tz : TS} {D : Ends}
theorem q_ifCallNe {sp : Sp} {E : XK} {vs : List V} (h : EvA ta σ H vs) (k : ∀ H1, Ex H H1 → sp (vs ++ []) H1 (fun v H2 => tSeq (tIfS (tTest (tOp rNe (tC v) tb)) tu tw) tz D σ H2) E) : tSeq (tIfS (tTest (tOp rNe (tCall sp [] E ta) tb)) tu tw) tz D σ H := h H (Ex.refl H) _ fun H1 e => k H1 e
end
def sp_law_step_right (K : PySem.W.Frag) : Sp := fun vs H Q _ => ∃ (ks : List Kind) (n : Nat) (B : Hp) (b s L U k Dn Un : Addr) (sts uns : List St), vs = [.ref b, .ref s, .ref k, .ref Dn, .ref Un] ∧ Run K ks n B H b s L U k Dn Un sts uns ∧ sts ≠ [] ∧ 1 ≤ ks.length ∧ ks.length ≤ 8 ∧ n ≤ 45 ∧ sts.length + uns.length ≤ n + 1 ∧
  ∀ B' H' U' sts' uns', Run K ks (n + 1) B' H' b s L U' k Dn Un sts' uns' → sts' ≠ [] → sts'.length + uns'.length ≤ n + 2 → Step [b, s, L, U, Dn, Un] B H B' H' → Q (.bl true) H'
/-! _law_step_right: slots 0:_law_bag_here 1:_law_here 2:_law_kinds 3:_law_done 4:_law_undone 5:_law_kind 6:_law_k -/
theorem sc_law_step_right : FnScope ["_law_bag_here", "_law_here", "_law_kinds", "_law_done", "_law_undone", "_law_kind", "_law_k"] ["_law_bag_here", "_law_here", "_law_kinds", "_law_done", "_law_undone"] (defScope s_law_step_right) := ⟨rfl, rfl, rfl, by decide +kernel, rfl, by decide +kernel, by decide +kernel⟩
theorem ok_law_step_right (T : Tp K mg w) : FnOk P w K mg base CX0 7 (a_law_step_right K) (fdAt K (a_law_step_right K)) ["_law_bag_here", "_law_here", "_law_kinds", "_law_done", "_law_undone"] (sp_law_step_right K) := by
  refine T.f_law_step_right.ok sc_law_step_right (fun vs H Q E h => ?_) (fun cdv A outer s H vs Q E hr h => ?_)
  · obtain ⟨ks, n, B, b, s, L, U, k, Dn, Un, sts, uns, rfl, R, hne, hk1, hk8, hn, hln, q⟩ := h
    rfl
  · obtain ⟨ks, n, B, b, s, L, U, k, Dn, Un, sts, uns, rfl, R, hne, hk1, hk8, hn, hln, q⟩ := h
    refine ⟨_, PSs.nox (pss_cons (ps_set (i := 5) sc_law_step_right.nd rfl (Or.inl rfl) (pe_call (ok_law_draw (K := K) T) (hr.mono (by decide)) rfl T.g_law_draw T.f_law_draw.kp T.bn_law_draw .nil pass0 (pa_cons (pv 0) (pa_cons pe_int pa_nil))))
      (pss_cons (ps_if (pt_cmpR op_eq (pv 5) pe_int (nomark _)) (pss_cons (ps_if (pt_cmpR op_ne (pe_call (ok_law_raises (K := K) T) (hr.mono (by decide)) rfl T.g_law_raises T.f_law_raises.kp T.bn_law_raises .nil pass0 (pa_cons (pv 1) (pa_cons pe_str pa_nil))) (pe_cmpR op_eq (pe_callB (kCR (K := K) (r := rLenQ) call_len_seq rfl) rfl T.b_len (by decide +kernel) (pa_cons (pv 3) pa_nil)) pe_int (nomark _)) (nomark _)) (pss_one (ps_ret pe_bl)) pss_nil)
      (pss_one (ps_if (pt_cmpR op_gt (pe_callB (kCR (K := K) (r := rLenQ) call_len_seq rfl) rfl T.b_len (by decide +kernel) (pa_cons (pv 3) pa_nil)) pe_int (nomark _)) (pss_one (ps_expr (kBM (K := K) (pe_bm PySem.F.plainAttrs_list PySem.F.slot_list_append PySem.F.type_list_append mt_append (pv 4) (pa_cons (kBM0 (K := K) (pe_bm0 PySem.F.plainAttrs_list PySem.F.slot_list_pop PySem.F.type_list_pop mt_pop (pv 3)) rfl) pa_nil)) rfl))) pss_nil))) (pss_one (ps_if (pt_cmpR op_eq (pv 5) pe_int (nomark _)) (pss_cons (ps_if (pt_cmpR op_ne (pe_call (ok_law_raises (K := K) T) (hr.mono (by decide)) rfl T.g_law_raises T.f_law_raises.kp T.bn_law_raises .nil pass0 (pa_cons (pv 1) (pa_cons pe_str pa_nil))) (pe_cmpR (kOp (K := K) (r := rEq0) (op_eq0 (units_of hr)) rfl) (pv 4) (pe_lst pa_nil) (nomark _)) (nomark _)) (pss_one (ps_ret pe_bl)) pss_nil)
      (pss_one (ps_if (pt_cmpR (kOp (K := K) (r := rNe0) (op_ne0 (units_of hr)) rfl) (pv 4) (pe_lst pa_nil) (nomark _)) (pss_one (ps_expr (kBM (K := K) (pe_bm PySem.F.plainAttrs_list PySem.F.slot_list_append PySem.F.type_list_append mt_append (pv 3) (pa_cons (kBM0 (K := K) (pe_bm0 PySem.F.plainAttrs_list PySem.F.slot_list_pop PySem.F.type_list_pop mt_pop (pv 4)) rfl) pa_nil)) rfl))) pss_nil))) (pss_cons (ps_expr (kBM (K := K) (pe_bm PySem.F.plainAttrs_list PySem.F.slot_list_append PySem.F.type_list_append mt_append (pv 3) (pa_cons (pe_call (ok_law_operation (K := K) T) (hr.mono (by decide)) rfl T.g_law_operation T.f_law_operation.kp T.bn_law_operation .nil pass0 (pa_cons (pv 0) (pa_cons (pv 1) (pa_cons (pv 2) (pa_cons (pe_ix (kIx (K := K) (r := rIxL) ix_list rfl) (pv 3) (pe_un un_neg pe_int) (fun _ _ => rfl)) pa_nil))))) pa_nil)) rfl))
      (pss_one (ps_for PassesOwn.never rfl (pi_range1 rfl T.b_range (pa_cons (pe_callB (kCR (K := K) (r := rLenQ) call_len_seq rfl) rfl T.b_len (by decide +kernel) (pa_cons (pv 4) pa_nil)) pa_nil)) (pg_name (i := 6) sc_law_step_right.nd rfl (Or.inl rfl)) (pss_one (ps_expr (kBM0 (K := K) (pe_bm0 PySem.F.plainAttrs_list PySem.F.slot_list_pop PySem.F.type_list_pop mt_pop (pv 4)) rfl)))))))))
      (pss_one (ps_ret (pe_call (ok_law_state_right (K := K) T) (hr.mono (by decide)) rfl T.g_law_state_right T.f_law_state_right.kp T.bn_law_state_right .nil pass0 (pa_cons (pv 1) (pa_cons (pv 2) (pa_cons (pe_ix (kIx (K := K) (r := rIxL) ix_list rfl) (pv 3) (pe_un un_neg pe_int) (fun _ _ => rfl)) pa_nil)))))))), ?_⟩
    have M6 : ∀ {M : List Addr}, (∀ a ∈ M, a = b ∨ a = s ∨ a = L ∨ a = U ∨ a = Dn ∨ a = Un) → ∀ a ∈ M, a ∈ [b, s, L, U, Dn, Un] := fun h a m => by simpa using h a m
    have fin : ∀ (B' H' : Hp) (U' : Addr) (sts' uns' : List St) (z5 z6 : Option V), Run K ks (n + 1) B' H' b s L U' k Dn Un sts' uns' → sts' ≠ [] → sts'.length + uns'.length ≤ n + 2 → Step [b, s, L, U, Dn, Un] B H B' H' → tRet (tCall (sp_law_state_right K) [] E0 (tCons (tVar 1) (tCons (tVar 2) (tCons (tOp (rIxL K) (tVar 3) (tUn (rU fun i => .int (-i)) (tC (.int 1)))) tNil)))) { nx := fun x H' => Q V.non H', rt := Q } [some (.ref b), some (.ref s), some (.ref k), some (.ref Dn), some (.ref Un), z5, z6] H' := fun B' H' U' sts' uns' z5 z6 R' hne' hln' p => by
      rcases sts'.eq_nil_or_concat with h0 | ⟨a, st, h0⟩
      · exact absurd h0 hne'
      · rw [List.concat_eq_append] at h0
        subst h0
        obtain ⟨dvs, uvs, hD, hU, p1, p2⟩ := R'.law.ex
        obtain ⟨dvs', dv, rfl, p3, lr⟩ := paired_snoc_inv p1
        refine s_ret (v := .bl true) (ev_call (vs := [.ref s, .ref k, dv]) (ea_cons (ev_var rfl) (ea_cons (ev_var rfl) (ea_cons (ev_op (ev_var rfl) (ev_un ev_c ru_neg) (rv_ixL (SqL.of hD) (atI_last _ _))) ea_nil))) fun H2 e2 Q kk E => ⟨s, k, dv, n + 1, ks, st, rfl, (R'.ses.top).mono e2, e2 _ _ (R'.ses.sm _ _ R'.hk), lr.mono (R'.ses.sm.trans e2) (Nat.le_refl _), R'.ok st (by simp), hk8, by omega, kk⟩) fun H2 e2 => q B' H2 U' _ uns' (R'.ex e2) hne' hln' (p.ex e2)
    rcases sts.eq_nil_or_concat with h0 | ⟨sts', st, h0⟩
    · exact absurd h0 hne
    rw [List.concat_eq_append] at h0
    subst h0
    have sB := R.ses.sm
    refine q_asgCall (vs := [.ref b, nV 5]) (ea_cons (ev_var rfl) (ea_cons ev_c ea_nil)) fun H1 e1 => ⟨B, b, 5, rfl, sB.trans e1, R.bb, R.bg.ex e1, by omega, by omega, fun dr H2 hdr st2 bg2 => ?_⟩
    have R2 : Run K ks n B H2 b s L U k Dn Un (sts' ++ [st]) uns := (R.ex e1).draw st2 bg2
    have p2 : Step [b, s, L, U, Dn, Un] B H B H2 := (((Step.refl (M := [b]) sB).ex e1).trans st2).wide (M6 fun a m => .inl (List.mem_singleton.mp m))
    have hln' : sts'.length + 1 + uns.length ≤ n + 1 := by
      rw [List.length_append, List.length_singleton] at hln
      exact hln
    clear st2 bg2 e1 R
    refine q_if (b := decide (dr = 0)) (et_leaf (ev_op (ev_var rfl) ev_c rv_eqI) (decN (b := 0))) (fun hd H3 e3 => ?_) fun hd H3 e3 => ?_
    · -- undo
      have R3 := R2.ex e3
      have p3 := p2.ex e3
      refine q_ifCallNe (vs := [.ref s, .str "undo"]) (ea_cons (ev_var rfl) (ea_cons ev_c ea_nil)) fun H4 e4 => ?_
      have R4 := R3.ex e4
      have p4 := p3.ex e4
      refine ⟨s, true, n, ks, B, L, U, sts', st, uns, rfl, R4.ses, by omega, by omega, fun _ hs0 H5 e5 => ?_, fun _ hs0 H5 st5 A5 => ?_, fun h => (nomatch h), fun h => (nomatch h)⟩
      · have R5 := R4.ex e5
        have p5 := p4.ex e5
        obtain ⟨dvs, uvs, hD, hU, q1, q2⟩ := R5.law.ex
        have hl1 : dvs.length = 1 := by rw [← Paired.length q1, hs0] <;> rfl
        refine q_pass (et_leaf (ev_op ev_c (ev_op (ev_cb (ea_cons (ev_var rfl) ea_nil) (rc_lenL hD)) ev_c rv_eqI) rv_neB) (by rw [hl1] <;> rfl)) fun H6 e6 => ?_
        refine s_when (b := false) (et_leaf (ev_op (ev_cb (ea_cons (ev_var rfl) ea_nil) (rc_lenL (e6 _ _ hD))) ev_c (rv_I0 (g := fun i j => V.bl (decide (j < i))))) (by rw [hl1] <;> rfl)) (fun h => nomatch h) fun _ H7 e7 => ?_
        have e67 := e6.trans e7
        exact fin B H7 U _ uns _ _ ((R5.ex e67).step (Step.refl (M := []) (R5.ex e67).ses.sm) (by simp) (R5.ex e67).bg (Nat.le_succ n)) hne (by rw [List.length_append, List.length_singleton]; omega) (p5.ex e67)
      · have p5 : Step [b, s, L, U, Dn, Un] B H B H5 := p4.trans (st5.wide (M6 fun a m => by simp at m; rcases m with rfl | rfl <;> simp))
        have bg5 := R4.bg.fr st5 (by simp; exact ⟨R4.d1.2.1, R4.d1.2.2.1⟩)
        have L5 := R4.law.step (n' := n) st5 (by simp; exact ⟨R4.d2.2.1, R4.d2.2.2⟩) (by simp; exact ⟨R4.d3.2.1, R4.d3.2.2⟩) (Nat.le_refl n)
        obtain ⟨dvs, uvs, hD, hU, q1, q2⟩ := L5.ex
        obtain ⟨dvs', dv, rfl, q3, lr⟩ := paired_snoc_inv q1
        have hl1 : (dvs' ++ [dv]).length = dvs'.length + 1 := by rw [List.length_append] <;> rfl
        have hl2 : 1 ≤ dvs'.length := by
          rw [← Paired.length q3]
          exact List.length_pos_iff.mpr hs0
        refine q_pass (et_leaf (ev_op ev_c (ev_op (ev_cb (ea_cons (ev_var rfl) ea_nil) (rc_lenL hD)) ev_c rv_eqI) rv_neB) (by rw [decide_eq_false (p := V.int ((dvs' ++ [dv]).length : Int) = V.int 1) fun h => by have := V.int.inj h; omega] <;> rfl)) fun H6 e6 => ?_
        refine s_when (b := true) (et_leaf (ev_op (ev_cb (ea_cons (ev_var rfl) ea_nil) (rc_lenL (e6 _ _ hD))) ev_c (rv_I0 (g := fun i j => V.bl (decide (j < i))))) (decide_eq_true (by omega))) (fun _ H7 e7 => ?_) fun h => (nomatch h)
        have e67 := e6.trans e7
        have hul := Paired.length q2
        refine s_appPop (K := K) (a := Un) (b := Dn) L5.ne.symm (ev_var rfl) (ev_var rfl) (e67 _ _ hU) (e67 _ _ hD) (by omega) fun H8 e8 => ?_
        have e58 := e67.trans e8
        have stp := Step.two (p1 := .lst (uvs ++ [dv])) (p2 := .lst dvs') A5.sm e58 L5.bU L5.bD hU hD
        refine fin B _ U sts' (uns ++ [st]) _ _ ⟨A5.step stp (by simp; exact ⟨R4.d2.1.symm, R4.d3.1.symm⟩) (by simp; exact ⟨R4.d2.2.1.symm, R4.d3.2.1.symm⟩) (by simp; exact ⟨R4.d2.2.2.symm, R4.d3.2.2.symm⟩) (Nat.le_succ n), ⟨⟨dvs', uvs ++ [dv], by rw [upd_ne L5.ne, upd_same], upd_same, Paired.mapP q3 fun _ _ r => r.mono (Same.refl B) (Nat.le_succ n), Paired.snoc (Paired.mapP q2 fun _ _ r => r.mono (Same.refl B) (Nat.le_succ n)) (lr.mono (Same.refl B) (Nat.le_succ n))⟩, L5.bD, L5.bU, L5.ne⟩, R4.bb, bg5.fr stp (by simp; exact ⟨R4.d1.2.2.2.1, R4.d1.2.2.2.2⟩), R4.hk, fun x m => (R4.ok x (by simp at m ⊢; rcases m with m | m | m <;> simp [m])).mono (Nat.le_succ n), R4.d1, R4.d2, R4.d3⟩ hs0 (by rw [List.length_append, List.length_singleton]; omega) (p5.trans (stp.wide (M6 fun a m => by simp at m; rcases m with rfl | rfl <;> simp)))
    have eE : ∀ {σ : L2.St} {Hi : Hp} {uvs : List V}, σ[4]? = some (some (.ref Un)) → Hi Un = some (.lst uvs) → Ev (tOp (rEq0 K) (tVar 4) (tLst tNil)) σ Hi (.bl uvs.isEmpty) ∧ Ev (tOp (rNe0 K) (tVar 4) (tLst tNil)) σ Hi (.bl (!uvs.isEmpty)) := fun {σ Hi uvs} h4 hU => ⟨ev_opL (ev_var h4) el_nil fun p H1 hp e H2 e2 Q q => ⟨Un, p, uvs, rfl, rfl, SqL.of (e2 _ _ (e _ _ hU)), SqL.of (e2 _ _ hp), q H2 (Ex.refl H2)⟩, ev_opL (ev_var h4) el_nil fun p H1 hp e H2 e2 Q q => ⟨Un, p, uvs, rfl, rfl, SqL.of (e2 _ _ (e _ _ hU)), SqL.of (e2 _ _ hp), q H2 (Ex.refl H2)⟩⟩
    refine s_if (b := decide (dr = 1)) (et_leaf (ev_op (ev_var rfl) ev_c rv_eqI) (decN (b := 1))) (fun hd1 H4 e4 => ?_) fun hd1 H4 e4 => ?_
    · -- redo
      have R4 := (R2.ex e3).ex e4
      have p4 := (p2.ex e3).ex e4
      refine q_ifCallNe (vs := [.ref s, .str "redo"]) (ea_cons (ev_var rfl) (ea_cons ev_c ea_nil)) fun H5 e5 => ?_
      have R5 := R4.ex e5
      have p5 := p4.ex e5
      refine ⟨s, false, n, ks, B, L, U, sts', st, uns, rfl, R5.ses, by omega, by omega, fun h => (nomatch h), fun h => (nomatch h), fun _ hu0 H6 e6 => ?_, fun _ us u hu0 H6 st6 A6 => ?_⟩
      · have R6 := R5.ex e6
        have p6 := p5.ex e6
        obtain ⟨dvs, uvs, hD, hU, q1, q2⟩ := R6.law.ex
        have hu : uvs = [] := by
          rw [hu0] at q2
          cases q2
          rfl
        subst hu
        refine q_pass (et_leaf (ev_op ev_c (eE rfl hU).1 rv_neB) rfl) fun H7 e7 => ?_
        refine s_when (b := false) (et_leaf (eE rfl (e7 _ _ hU)).2 rfl) (fun h => nomatch h) fun _ H8 e8 => ?_
        have e78 := e7.trans e8
        exact fin B H8 U _ uns _ _ ((R6.ex e78).step (Step.refl (M := []) (R6.ex e78).ses.sm) (by simp) (R6.ex e78).bg (Nat.le_succ n)) hne (by rw [List.length_append, List.length_singleton]; omega) (p6.ex e78)
      · have p6 : Step [b, s, L, U, Dn, Un] B H B H6 := p5.trans (st6.wide (M6 fun a m => by simp at m; rcases m with rfl | rfl <;> simp))
        have bg6 := R5.bg.fr st6 (by simp; exact ⟨R5.d1.2.1, R5.d1.2.2.1⟩)
        have L6 := R5.law.step (n' := n) st6 (by simp; exact ⟨R5.d2.2.1, R5.d2.2.2⟩) (by simp; exact ⟨R5.d3.2.1, R5.d3.2.2⟩) (Nat.le_refl n)
        subst hu0
        obtain ⟨dvs, uvs, hD, hU, q1, q2⟩ := L6.ex
        obtain ⟨uvs', uv, rfl, q3, lr⟩ := paired_snoc_inv q2
        have hem : (uvs' ++ [uv]).isEmpty = false := by cases uvs' <;> rfl
        refine q_pass (et_leaf (ev_op ev_c (eE rfl hU).1 rv_neB) (by rw [hem] <;> rfl)) fun H7 e7 => ?_
        refine s_when (b := true) (et_leaf (eE rfl (e7 _ _ hU)).2 (by rw [hem] <;> rfl)) (fun _ H8 e8 => ?_) fun h => (nomatch h)
        have e78 := e7.trans e8
        have hdl := Paired.length q1
        rw [List.length_append, List.length_singleton] at hdl hln'
        refine s_appPop (K := K) (a := Dn) (b := Un) L6.ne (ev_var rfl) (ev_var rfl) (e78 _ _ hD) (e78 _ _ hU) (by omega) fun H9 e9 => ?_
        have e69 := e78.trans e9
        have stp := Step.two (p1 := .lst (dvs ++ [uv])) (p2 := .lst uvs') A6.sm e69 L6.bD L6.bU hD hU
        refine fin B _ U (sts' ++ [st] ++ [u]) us _ _ ⟨A6.step stp (by simp; exact ⟨R5.d3.1.symm, R5.d2.1.symm⟩) (by simp; exact ⟨R5.d3.2.1.symm, R5.d2.2.1.symm⟩) (by simp; exact ⟨R5.d3.2.2.symm, R5.d2.2.2.symm⟩) (Nat.le_succ n), ⟨⟨dvs ++ [uv], uvs', upd_same, by rw [upd_ne L6.ne.symm, upd_same], Paired.snoc (Paired.mapP q1 fun _ _ r => r.mono (Same.refl B) (Nat.le_succ n)) (lr.mono (Same.refl B) (Nat.le_succ n)), Paired.mapP q3 fun _ _ r => r.mono (Same.refl B) (Nat.le_succ n)⟩, L6.bD, L6.bU, L6.ne⟩, R5.bb, bg6.fr stp (by simp; exact ⟨R5.d1.2.2.2.2, R5.d1.2.2.2.1⟩), R5.hk, fun x m => (R5.ok x (by simp at m ⊢; rcases m with m | m | m | m <;> simp [m])).mono (Nat.le_succ n), R5.d1, R5.d2, R5.d3⟩ (by simp) (by rw [List.length_append, List.length_append, List.length_singleton, List.length_singleton]; omega) (p6.trans (stp.wide (M6 fun a m => by simp at m; rcases m with rfl | rfl <;> simp)))
    · -- an operation
      have R4 := (R2.ex e3).ex e4
      have p4 := (p2.ex e3).ex e4
      obtain ⟨dvs, uvs, hD, hU, q1, q2⟩ := R4.law.ex
      obtain ⟨dvs', dv, rfl, q3, lr⟩ := paired_snoc_inv q1
      have hdl := Paired.length q3
      have hul := Paired.length q2
      refine ⟨_, rfl, Or.inl ⟨rfl, _, sq_of hD⟩, ?_⟩
      refine ⟨_, rfl, _, rfl, _, rfl, _, rfl, 1, rfl, Dn, _, -1, dv, rfl, rfl, SqL.of hD, atI_last _ _, B, b, s, L, U, k, dv, n, ks, sts', st, uns, rfl, R4.ses, R4.bb, R4.bg, R4.d1.1, R4.d1.2.1, R4.d1.2.2.1, R4.hk, lr, R4.ok st (by simp), hk1, hk8, hn, by omega, fun v' B' H5 U' st' stp bg5 A5 ok' lr' nU => ?_⟩
      have hD5 := stp.fr _ _ (by simp; exact ⟨R4.d1.2.2.2.1.symm, R4.d2.1, R4.d2.2.1⟩) hD
      have hU5 := stp.fr _ _ (by simp; exact ⟨R4.d1.2.2.2.2.symm, R4.d3.1, R4.d3.2.1⟩) hU
      have p5 : Step [b, s, L, U, Dn, Un] B H B' H5 := p4.trans (stp.wide (M6 fun a m => by simp at m; rcases m with rfl | rfl | rfl <;> simp))
      have bD5 : B' Dn = none := stp.mu _ (by rw [hD]; exact fun z => nomatch z) R4.law.bD
      have bU5 : B' Un = none := stp.mu _ (by rw [hU]; exact fun z => nomatch z) R4.law.bU
      have UD : U' ≠ Dn := fun z => by rw [z, hD] at nU; cases nU
      have UUn : U' ≠ Un := fun z => by rw [z, hU] at nU; cases nU
      have Ub : b ≠ U' := fun z => R4.bg.some (by rw [z]; exact nU)
      have st1 : Step [Dn] B' H5 B' (upd H5 Dn (.lst (dvs' ++ [dv] ++ [v']))) := Step.mut stp.sH bD5 hD5
      refine ⟨Dn, _, v', rfl, rfl, hD5, sz_lt (by rw [List.length_append, List.length_singleton]; omega), ?_⟩
      have p6 := p5.trans (st1.wide (M6 fun a m => by rw [List.mem_singleton.mp m]; simp))
      have hD6 : (upd H5 Dn (.lst (dvs' ++ [dv] ++ [v']))) Dn = some (.lst (dvs' ++ [dv] ++ [v'])) := upd_same
      have hU6 := st1.fr _ _ (fun z => R4.law.ne (List.mem_singleton.mp z).symm) hU5
      have A6 := A5.step (n' := n + 1) st1 (fun m => R4.d2.1 (List.mem_singleton.mp m).symm) (fun m => R4.d2.2.1 (List.mem_singleton.mp m).symm) (fun m => UD (List.mem_singleton.mp m)) (Nat.le_refl _)
      have bg6 := bg5.fr st1 (fun m => R4.d1.2.2.2.1 (List.mem_singleton.mp m))
      generalize upd H5 Dn (.lst (dvs' ++ [dv] ++ [v'])) = H6 at st1 p6 hD6 hU6 A6 bg6 ⊢
      refine s_forR1 (n := (uvs.length : Int)) (ea_cons (ev_cb (ea_cons (ev_var rfl) ea_nil) (rc_lenL hU6)) ea_nil) (by omega) (fun i σ' H' => (∃ z5 z6, σ' = [some (.ref b), some (.ref s), some (.ref k), some (.ref Dn), some (.ref Un), z5, z6]) ∧ Step [Un] B' H6 B' H' ∧ H' Un = some (.lst (uvs.take (uvs.length - i)))) (fun H7 e7 => ⟨⟨_, _, rfl⟩, (Step.refl A6.sm).ex e7, by rw [Nat.sub_zero, List.take_length]; exact e7 _ _ hU6⟩) (fun i σ' H' hi ⟨⟨z5, z6, es⟩, st7, hU7⟩ => ?_) fun σ' H' ⟨⟨z5, z6, es⟩, st7, hU7⟩ => ?_
      · subst es
        have hi' : i < uvs.length := by omega
        refine ⟨_, rfl, Or.inl ⟨rfl, _, sq_of hU7⟩, Un, _, uvs[uvs.length - i - 1]'(by omega), rfl, rfl, hU7, ?_, ⟨_, _, rfl⟩, st7.mutS (List.mem_singleton.mpr rfl) bU5 hU7, ?_⟩
        · rw [List.length_take, show min (uvs.length - i) uvs.length - 1 = uvs.length - i - 1 by omega, List.getElem?_take, if_pos (show uvs.length - i - 1 < uvs.length - i by omega)]
          exact List.getElem?_eq_getElem _
        · rw [upd_same, List.dropLast_eq_take, List.take_take, List.length_take, show min (min (uvs.length - i) uvs.length - 1) (uvs.length - i) = uvs.length - (i + 1) by omega]
      · subst es
        rw [Int.toNat_natCast, Nat.sub_self, List.take_zero] at hU7
        refine fin B' H' U' (sts' ++ [st] ++ [st']) [] _ _ ⟨A6.step st7 (fun m => R4.d3.1 (List.mem_singleton.mp m).symm) (fun m => R4.d3.2.1 (List.mem_singleton.mp m).symm) (fun m => UUn (List.mem_singleton.mp m)) (Nat.le_refl _), ⟨⟨dvs' ++ [dv] ++ [v'], [], st7.fr _ _ (fun m => R4.law.ne (List.mem_singleton.mp m)) hD6, hU7, Paired.snoc (Paired.snoc (Paired.mapP q3 fun _ _ r => r.mono stp.sB (Nat.le_succ n)) (lr.mono stp.sB (Nat.le_succ n))) lr', .nil⟩, bD5, bU5, R4.law.ne⟩, stp.mu _ R4.bg.some R4.bb, bg6.fr st7 (fun m => R4.d1.2.2.2.2 (List.mem_singleton.mp m)), stp.sB _ _ R4.hk, fun x m => ?_, ⟨R4.d1.1, R4.d1.2.1, Ub, R4.d1.2.2.2⟩, ⟨R4.d2.1, R4.d2.2.1, UD.symm⟩, ⟨R4.d3.1, R4.d3.2.1, UUn.symm⟩⟩ (by simp) (by rw [List.length_append, List.length_append, List.length_singleton, List.length_singleton]; show _ + 0 ≤ _; omega) (p6.trans (st7.wide (M6 fun a m => by rw [List.mem_singleton.mp m]; simp)))
        rw [List.append_nil] at m
        rcases List.mem_append.mp m with m | m
        · exact (R4.ok x (List.mem_append_left _ m)).mono (Nat.le_succ n)
        · rw [List.mem_singleton.mp m]
          exact ok'
end
end HC


set_option Elab.async false
set_option linter.all false
set_option maxRecDepth 100000
set_option maxHeartbeats 2000000
namespace HC
open PySem PySem.Spec PyProof.Rows L2 Evl
theorem dc_gen {α : Type} {J : It} {n : Nat} {G : Hp → Prop} {Y : Nat → Hp → V → Hp → Prop} (w : Walk J n G Y) (xs : List α) (hn : xs.length = n) {g : TG} {vs : List Nat} {slot : α → L2.St}
    {tt : TT} {tk tv : TE} {σ : L2.St} {H : Hp} {Q : VK} (hz : n ≤ 100000) (hG : ∀ H', Same H H' → G H')
    (hg : ∀ i a H1 x H1', xs[i]? = some a → Same H H1 → Y i H1 x H1' → ∀ C : L2.St → Hp → Prop, (∀ H'', Same H1 H'' → C (slot a) H'') → g x (wipe σ vs) H1' C) (hw : ∀ a, wipe (slot a) vs = wipe σ vs)
    (f : α → Bool) (key : α → Key) (R : α → V → Hp → Prop) (nd : ((xs.filter f).map key).Nodup)
    (ht : ∀ a, a ∈ xs → EvT tt (slot a) H (f a)) (hk : ∀ a, a ∈ xs → f a = true → Ev tk (slot a) H (kV (key a))) (he : ∀ a, a ∈ xs → f a = true → EvX tv (slot a) H (Made (R a)))
    (hd : ∀ D H' kvs, H D = none → Same H H' → H' D = some (.dK kvs) → Paired (fun a kv => kv.1 = key a ∧ R a kv.2 H') (xs.filter f) kvs → Q (.ref D) H') :
    ∀ D, H D = none → ∃ W : Nat → Nat → Hp → Prop, (∃ m, W 0 m (upd H D (.dK []))) ∧ ∀ i m H, W i m H →
      (J.stop i H ∧ Q (.ref D) H) ∨ (J.go i H ∧ ∃ Nx : Hp → Prop, (∀ H', Nx H' → ∃ m', m' < m ∧ W (i + 1) m' H') ∧ ∀ x H', J.yld i H x H' → g x (wipe σ vs) H' fun σ2 H2 => wipe σ2 vs = wipe σ vs ∧ tt σ2 H2 fun b H3 =>
        if b = true then tk σ2 H3 fun y H4 => tv σ2 H4 fun z H5 => ∃ kvs k, y = kV k ∧ H5 D = some (.dK kvs) ∧ kvs.length < sizeLine ∧ Nx (upd H5 D (.dK (putK kvs k z))) else Nx H3) := by
  intro D hD
  refine ⟨fun i m H1 => m = n - i ∧ i ≤ n ∧ Same H H1 ∧ ∃ kvs, H1 D = some (.dK kvs) ∧ kvs.length ≤ i ∧ Paired (fun a (kv : Key × V) => kv.1 = key a ∧ ∀ H'', But D H1 H'' → R a kv.2 H'') ((xs.take i).filter f) kvs, ⟨n, by simp, Nat.zero_le _, same_new hD, [], upd_same, Nat.le_refl _, .nil⟩, ?_⟩
  rintro i m H1 ⟨rfl, hi, s1, kvs, q1, l1, p1⟩
  have hg2 := hG H1 s1
  by_cases hlt : i < n
  · refine .inr ⟨w.goes i H1 hlt hg2, fun H1 => Same H H1 ∧ ∃ kvs, H1 D = some (.dK kvs) ∧ kvs.length ≤ i + 1 ∧ Paired (fun a (kv : Key × V) => kv.1 = key a ∧ ∀ H'', But D H1 H'' → R a kv.2 H'') ((xs.take (i + 1)).filter f) kvs, fun H' p' => ⟨n - (i + 1), by omega, rfl, hlt, p'⟩, fun x H1' y => ?_⟩
    obtain ⟨a, ha⟩ : ∃ a, xs[i]? = some a := ⟨xs[i]'(by omega), List.getElem?_eq_getElem (by omega)⟩
    have hm : a ∈ xs := List.mem_of_getElem? ha
    have et : xs.take (i + 1) = xs.take i ++ [a] := by
      rw [List.take_add_one, ha]
      rfl
    refine hg i a H1 x H1' ha s1 (w.yields i H1 x H1' hlt hg2 y) _ fun H2 s2 => ⟨hw a, ht a hm H2 (s1.trans s2) _ fun H3 s3' => ?_⟩
    have s3 := Same.trans s2 s3'
    cases hf : f a with
    | true =>
      refine iteT (hk a hm hf H3 (s1.trans s3) _ fun H4 s4 => he a hm hf H4 ((s1.trans s3).trans s4) _ fun z H5 s5 r5 => ?_)
      have s35 := (s3.trans s4).trans s5
      have hkn : valV kvs (key a) = none := valV_none_iff.mpr fun m => by
        have hkk : kvs.map (·.1) = ((xs.take i).filter f).map key := paired_mapeq (Paired.mapP p1 fun _ _ h => h.1)
        rw [hkk] at m
        have hsub : (((xs.take i).filter f ++ [a]).map key).Nodup := by
          have : ((xs.take i).filter f ++ [a]).Sublist (xs.filter f) := by
            have h1 : (xs.take (i + 1)).filter f = (xs.take i).filter f ++ [a] := by rw [et, List.filter_append, List.filter_cons, if_pos hf] <;> rfl
            rw [← h1]
            exact (List.take_sublist _ _).filter _
          exact List.Sublist.nodup (this.map key) nd
        rw [List.map_append, List.nodup_append] at hsub
        exact hsub.2.2 _ m _ (by simp) rfl
      refine ⟨kvs, key a, rfl, s35 _ _ q1, Nat.lt_of_le_of_lt l1 (Nat.lt_of_lt_of_le hlt (Nat.le_trans hz (by decide))), same_mut (s1.trans s35) hD, putK kvs (key a) z, upd_same, Nat.le_trans (length_putK _ _ _) (Nat.succ_le_succ l1), ?_⟩
      rw [putK_new z hkn, et, List.filter_append, List.filter_cons, if_pos hf]
      refine Paired.snoc (Paired.mapP p1 fun _ _ h => ⟨h.1, fun H'' b => h.2 H'' (((But.of s35).trans But.upd).trans b)⟩) ⟨rfl, fun H'' b => r5 D H'' ⟨_, s4 _ _ (s3 _ _ q1)⟩ (But.upd.trans b)⟩
    | false =>
      refine iteF ⟨s1.trans s3, kvs, s3 _ _ q1, Nat.le_succ_of_le l1, ?_⟩
      rw [et, List.filter_append, List.filter_cons, if_neg (by rw [hf]; decide)]
      show Paired _ (_ ++ []) _
      rw [List.append_nil]
      exact Paired.mapP p1 fun _ _ h => ⟨h.1, fun H'' b => h.2 H'' ((But.of s3).trans b)⟩
  · have e : i = n := by omega
    subst e
    rw [List.take_of_length_le (by omega)] at p1
    exact .inl ⟨w.stops H1 hg2, hd D H1 kvs hD s1 q1 (Paired.mapP p1 fun _ _ h => ⟨h.1, h.2 H1 (But.of (Same.refl H1))⟩)⟩
section
variable {α : Type} {K : PySem.W.Frag} {tt : TT} {tk tv tl : TE} {j k : Nat} {σ : L2.St} {H : Hp}
/-- {..: v for x, y in a list of pairs}: its length -/
theorem ex_dcP (xs : List α) (e1 e2 : α → V) (vs : List V) (key : α → Key) (v : V) {a : Addr} (hl : Ev tl σ H (.ref a)) (ha : SqL K H a vs) (hp : Paired (fun x v => ∃ t, v = .ref t ∧ H t = some (.tup [e1 x, e2 x])) xs vs) (hz : xs.length ≤ 100000) (nd : (xs.map key).Nodup)
    (hk : ∀ x, x ∈ xs → Ev tk (((wipe σ [j, k]).set j (some (e1 x))).set k (some (e2 x))) H (kV (key x))) (he : ∀ x, x ∈ xs → Ev tv (((wipe σ [j, k]).set j (some (e1 x))).set k (some (e2 x))) H v) :
    EvX (tDc (iList K tl) (gTup K 2 (gCons (gName j) (gCons (gName k) gNil))) tYes tk tv [j, k]) σ H fun y H1 H2 => ∃ D kvs, y = .ref D ∧ H2 D = some (.dK kvs) ∧ kvs.length = xs.length := fun H1 e Q q => hl H1 e _ fun H2 e2' => by
  refine ⟨a, rfl, ⟨_, ex_l (e.trans e2') ha⟩, ?_⟩
  refine dc_gen (walk_list (xs := vs)) xs (Paired.length hp) (slot := fun x => ((wipe σ [j, k]).set j (some (e1 x))).set k (some (e2 x))) (by rw [← Paired.length hp]; exact hz) (fun H' s => ex_l ((e.trans e2').trans s) ha) (fun i x H1 v H1' hx s y C c => ?_) (fun _ => wipe2) (fun _ => true) key (fun _ y _ => y = v) (by rw [filter_tt]; exact nd)
    (fun x hm => et_yes) (fun x hm _ => (hk x hm).mono (e.trans e2')) (fun x hm _ => (made_val (he x hm)).mono (e.trans e2')) fun D H' kvs nD s hD pr => q _ H' (e2'.trans s) ⟨D, kvs, rfl, hD, by rw [filter_tt] at pr; exact (Paired.length pr).symm⟩
  obtain ⟨h1, h2⟩ := y
  subst h1
  obtain ⟨t, rfl, htt⟩ := paired_at hp hx h2
  exact ⟨t, [e1 x, e2 x], rfl, SqT.of (s _ _ ((e.trans e2') _ _ htt)), rfl, e1 x, [e2 x], rfl, e2 x, [], rfl, rfl, c _ (Same.refl _)⟩
theorem ev_lenDX {te : TE} {n : Nat} (h : EvX te σ H fun y H1 H2 => ∃ D kvs, y = .ref D ∧ H2 D = some (.dK kvs) ∧ kvs.length = n) : Ev (tCB (fun xs H Q => ∃ a kvs, xs = [V.ref a] ∧ H a = some (.dK kvs) ∧ Q (.int kvs.length) H) (tCons te tNil)) σ H (.int (n : Int)) := fun H1 e Q q =>
  h H1 e _ fun y H2 e2 ⟨D, kvs, ey, hD, hl⟩ => by
    subst ey hl
    exact ⟨D, kvs, rfl, hD, q H2 e2⟩
end
end HC

set_option Elab.async false
set_option linter.all false
set_option maxRecDepth 100000
set_option maxHeartbeats 4000000
namespace HC
open PySem PySem.Spec PyProof.Rows L2 Evl
local macro_rules
  | `(tactic| walk_at "ev") => `(tactic| first
    | exact ev_c
    | exact ev_var rfl
    | exact ea_nil
    | exact et_yes
    | exact eo_none
    | exact rv_I0
    | exact rv_eqI
    | exact rv_neI
    | exact rv_eqS
    | exact rv_neS
    | exact rv_eqB
    | exact rv_neB
    | exact rv_isN
    | exact rv_notN
    | exact rv_leS
    | exact rv_ltS
    | exact ru_neg
    | assumption
    | (apply ea_cons <;> walk_at "ev")
    | (apply et_test <;> walk_at "ev")
    | (apply et_B <;> walk_at "ev")
    | (apply et_not <;> walk_at "ev")
    | (apply ev_op <;> walk_at "ev")
    | (apply ev_un <;> walk_at "ev")
    | (apply ev_isi_int (h := kit_int_int) <;> walk_at "ev")
    | (apply ev_isi_int (h := kit_int_bool) <;> walk_at "ev")
    | (apply ev_isi_str (h := kit_str_str) <;> walk_at "ev")
    | (apply ev_isi_lst (h := kit_list_list) <;> walk_at "ev")
    | (apply ev_isi_tup (h := kit_tuple_tuple) <;> walk_at "ev")
    | (apply rc_lenL ; assumption)
    | (apply rc_lenT ; assumption)
    | (apply rc_lenS ; assumption)
    | (apply ev_chain <;> first | walk_at "ev" | (intro _; walk_at "ev"))
    | (apply et_or <;> first | walk_at "ev" | (intro _; walk_at "ev"))
    | (apply et_and <;> first | walk_at "ev" | (intro _; walk_at "ev"))
    | (apply ev_orV <;> first | walk_at "ev" | (intro _; walk_at "ev"))
    | (apply ev_andV <;> first | walk_at "ev" | (intro _; walk_at "ev"))
    | (apply ev_notV <;> walk_at "ev")
    | (apply ev_cb <;> walk_at "ev")
    | (apply eo_some <;> walk_at "ev"))
local macro_rules
  | `(tactic| walk_at "dec") => `(tactic| first
    | assumption
    | exact dnI
    | exact dnS
    | decide +kernel
    | (with_reducible rfl)
    | (simp only [decide_eq_true_eq, Bool.and_eq_true, Bool.not_eq_true', decide_eq_false_iff_not, Bool.not_true, Bool.not_false, Bool.and_eq_false_iff, Bool.or_eq_false_iff, Bool.or_eq_true]; omega)
    | rfl)
local macro_rules
  | `(tactic| walk_at "dt") => `(tactic| first
    | assumption
    | exact et_yes
    | (apply et_orF <;> walk_at "dt")
    | (apply et_andT <;> walk_at "dt")
    | (apply et_notF; walk_at "dt")
    | (apply et_notT; walk_at "dt")
    | (apply et_chT <;> first | walk_at "ev" | walk_at "dec")
    | (apply et_leaf <;> first | walk_at "ev" | walk_at "dec")
    | (apply et_leafB <;> first | walk_at "ev" | walk_at "dec"))
local macro_rules
  | `(tactic| walk_at "pass") => `(tactic| (refine' q_pass ?zzh ?zzk; (case zzh => walk_at "dt")))
local macro_rules
  | `(tactic| walk_at "yes") => `(tactic| ((first | refine' q_yes ?zzh ?zzk | refine' s_yes ?zzh ?zzk); (case zzh => walk_at "dt")))
local macro_rules
  | `(tactic| walk_at "no") => `(tactic| ((first | refine' q_no ?zzh ?zzk | refine' s_no ?zzh ?zzk); (case zzh => walk_at "dt")))
local macro_rules
  | `(tactic| walk_at "ret") => `(tactic| (refine' s_ret (v := _) ?zzh ?zzk; (case zzh => walk_at "ev")))
local macro_rules
  | `(tactic| walk_at "set") => `(tactic| ((first | refine' q_asg (v := _) ?zzh ?zzk | refine' s_asg (v := _) ?zzh ?zzk); (case zzh => walk_at "ev")))
section
variable {P : Program} {w : World} {K : PySem.W.Frag} {mg : Str → Option Value} {base : Heap}
def sp_check_columns (_ : PySem.W.Frag) : Sp := fun vs H Q _ => ∃ c : Int, vs = [.int c] ∧ 1 ≤ c ∧ c ≤ 8 ∧ RetV .non H Q
/-! check_columns: slots 0:columns -/
theorem sc_check_columns : FnScope ["columns"] ["columns"] (defScope s_check_columns) := ⟨rfl, rfl, rfl, by decide +kernel, rfl, by decide +kernel, by decide +kernel⟩
theorem ok_check_columns (T : Tp K mg w) : FnOk P w K mg base CX0 2 (a_check_columns K) (fdAt K (a_check_columns K)) ["columns"] (sp_check_columns K) := by
  refine T.f_check_columns.ok sc_check_columns (fun vs H Q E h => ?_) (fun cdv A outer s H vs Q E hr h => ?_)
  · obtain ⟨c, rfl, h1, h8, q⟩ := h
    rfl
  · obtain ⟨c, rfl, h1, h8, q⟩ := h
    refine ⟨_, PSs.nox (pss_one (ps_if (PW.pt (pw_or (pt_not (pt_val (pe_call (ok_is_integer (K := K) T) (hr.mono (by decide)) rfl T.g_is_integer T.f_is_integer.kp T.bn_is_integer .nil pass0 (pa_cons (pv 0) pa_nil)))) (pw_or1 (pt_not (pt_chain op_le op_le pe_int (pv 0) (pe_gk rfl T.c_MOST_COLUMNS)))))) (pss_one ps_never) pss_nil)), ?_⟩
    exact s_no (et_orF (et_notF (et_B (ev_call (ea_cons (ev_var rfl) ea_nil) (spv_is_integer (K := K) c)))) (et_notF (et_chT ev_c (ev_var rfl) (rv_I0 (g := fun i j => V.bl (decide (i ≤ j)))) (decide_eq_true h1) ev_c (rv_I0 (g := fun i j => V.bl (decide (i ≤ j)))) (decide_eq_true h8)))) q
def sp_is_sign (_ : PySem.W.Frag) : Sp := fun vs H Q _ => ∃ i : Int, vs = [.int i] ∧ (i = 1 ∨ i = -1) ∧ RetV (.bl true) H Q
/-! is_sign: slots 0:value -/
theorem sc_is_sign : FnScope ["value"] ["value"] (defScope s_is_sign) := ⟨rfl, rfl, rfl, by decide +kernel, rfl, by decide +kernel, by decide +kernel⟩
theorem ok_is_sign (T : Tp K mg w) : FnOk P w K mg base CX0 2 (a_is_sign K) (fdAt K (a_is_sign K)) ["value"] (sp_is_sign K) := by
  refine T.f_is_sign.ok sc_is_sign (fun vs H Q E h => ?_) (fun cdv A outer s H vs Q E hr h => ?_)
  · obtain ⟨i, rfl, hi, q⟩ := h
    rfl
  · obtain ⟨i, rfl, hi, q⟩ := h
    refine ⟨_, PSs.nox (pss_one (ps_ret (pe_and (pe_call (ok_is_integer (K := K) T) (hr.mono (by decide)) rfl T.g_is_integer T.f_is_integer.kp T.bn_is_integer .nil pass0 (pa_cons (pv 0) pa_nil)) (pe_one (pe_cmpR (kOp (K := K) (r := fun K => rIn K false) op_in_seq rfl) (pv 0) (pe_tup (pa_cons (pe_gk rfl T.c_ASCENDING) (pa_cons (pe_gk rfl T.c_DESCENDING) pa_nil))) rfl))))), ?_⟩
    refine s_ret (v := .bl true) (ev_is (ev_andV (ev_call (ea_cons (ev_var rfl) ea_nil) (spv_is_integer (K := K) i)) fun _ => ev_inU (ev_var rfl) (eu_tup (ea_cons ev_c (ea_cons ev_c ea_nil)) (by show 2 ≤ 100000; omega)) rfl rfl) ?_) q
    rcases hi with rfl | rfl <;> decide +kernel
theorem spv_is_sign {H : Hp} {i : Int} (h : i = 1 ∨ i = -1) : SpV (sp_is_sign K) ([.int i] ++ []) H (.bl true) := fun H1 _ _ q _ => ⟨i, rfl, h, q⟩
def sp_is_key (_ : PySem.W.Frag) : Sp := fun vs H Q _ => ∃ (c : Int) (t : Addr) (p : Nat × Int), vs = [.int c, .ref t] ∧ H t = some (.tup [nV p.1, .int p.2]) ∧ (p.1 : Int) < c ∧ (p.2 = 1 ∨ p.2 = -1) ∧ RetV (.bl true) H Q
/-! is_key: slots 0:columns 1:value -/
theorem sc_is_key : FnScope ["columns", "value"] ["columns", "value"] (defScope s_is_key) := ⟨rfl, rfl, rfl, by decide +kernel, rfl, by decide +kernel, by decide +kernel⟩
theorem ok_is_key (T : Tp K mg w) : FnOk P w K mg base CX0 3 (a_is_key K) (fdAt K (a_is_key K)) ["columns", "value"] (sp_is_key K) := by
  refine T.f_is_key.ok sc_is_key (fun vs H Q E h => ?_) (fun cdv A outer s H vs Q E hr h => ?_)
  · obtain ⟨c, t, p, rfl, ht, hc, hp, q⟩ := h
    rfl
  · obtain ⟨c, t, p, rfl, ht, hc, hp, q⟩ := h
    refine ⟨_, PSs.nox (pss_cons (ps_if (PW.pt (pw_or (pt_not (pt_val (pe_callB (kCR (K := K) (r := rIsi) call_isi rfl) rfl T.b_isinstance (by decide +kernel) (pa_cons (pv 1) (pa_cons (pe_bltn (v := .ty "tuple") rfl T.b_tuple (by decide +kernel) rfl) pa_nil))))) (pw_or1 (pt_cmpR op_ne (pe_callB (kCR (K := K) (r := rLenQ) call_len_seq rfl) rfl T.b_len (by decide +kernel) (pa_cons (pv 1) pa_nil)) pe_int (nomark _))))) (pss_one (ps_ret pe_bl)) pss_nil)
      (pss_one (ps_ret (pe_and (pe_call (ok_is_integer (K := K) T) (hr.mono (by decide)) rfl T.g_is_integer T.f_is_integer.kp T.bn_is_integer .nil pass0 (pa_cons (pe_ix (kIx (K := K) (r := rIxT) ix_tup rfl) (pv 1) pe_int (fun _ _ => rfl)) pa_nil)) (pe_and (pe_chain op_le op_lt pe_int (pe_ix (kIx (K := K) (r := rIxT) ix_tup rfl) (pv 1) pe_int (fun _ _ => rfl)) (pv 0)) (pe_one (pe_call (ok_is_sign (K := K) T) (hr.mono (by decide)) rfl T.g_is_sign T.f_is_sign.kp T.bn_is_sign .nil pass0 (pa_cons (pe_ix (kIx (K := K) (r := rIxT) ix_tup rfl) (pv 1) pe_int (fun _ _ => rfl)) pa_nil)))))))), ?_⟩
    refine q_pass (et_orF (et_notF (et_B (ev_isi_tup (h := kit_tuple_tuple) (ev_var rfl) ht))) (et_leaf (ev_op (ev_cb (ea_cons (ev_var rfl) ea_nil) (rc_lenT ht)) ev_c rv_neI) rfl)) fun H1 e1 => ?_
    have i0 : ∀ {σ : L2.St}, σ[1]? = some (some (.ref t)) → Ev (tOp (rIxT K) (tVar 1) (tC (.int 0))) σ H1 (nV p.1) := fun h => ev_op (ev_var h) ev_c (rv_ixT (SqT.of (e1 _ _ ht)) (atI_nat (j := 0) rfl))
    have i1 : ∀ {σ : L2.St}, σ[1]? = some (some (.ref t)) → Ev (tOp (rIxT K) (tVar 1) (tC (.int 1))) σ H1 (.int p.2) := fun h => ev_op (ev_var h) ev_c (rv_ixT (SqT.of (e1 _ _ ht)) (atI_nat (j := 1) rfl))
    refine s_ret (v := .bl true) (ev_is (ev_andV (ev_call (ea_cons (i0 rfl) ea_nil) (spv_is_integer (K := K) (p.1 : Int))) fun _ => ev_andV (ev_chain ev_c (i0 rfl) (rv_I0 (g := fun i j => V.bl (decide (i ≤ j)))) (fun _ => ev_var rfl) fun _ => rv_I0 (g := fun i j => V.bl (decide (i < j)))) fun _ => ev_call (ea_cons (i1 rfl) ea_nil) (spv_is_sign (K := K) hp)) ?_) fun H2 e2 => q H2 (e1.trans e2)
    rw [decide_eq_true (show (0 : Int) ≤ (p.1 : Int) by omega), decide_eq_true hc]
    rfl
def sp_is_effect (_ : PySem.W.Frag) : Sp := fun vs H Q _ => ∃ (v : V) (kb : List (Nat × Int) × Int), vs = [.int 8, v] ∧ EffAt H v kb.1 kb.2 ∧ EffOk 8 kb ∧ kb.1.length ≤ 900 ∧ RetV (.bl true) H Q
/-! is_effect: slots 0:columns 1:value 2:keys 3:base 4:key 5:column 6:sign -/
theorem sc_is_effect : FnScope ["columns", "value", "keys", "base", "key", "column", "sign"] ["columns", "value"] (defScope s_is_effect) := ⟨rfl, rfl, rfl, by decide +kernel, rfl, by decide +kernel, by decide +kernel⟩
theorem ok_is_effect (T : Tp K mg w) : FnOk P w K mg base CX0 4 (a_is_effect K) (fdAt K (a_is_effect K)) ["columns", "value"] (sp_is_effect K) := by
  refine T.f_is_effect.ok sc_is_effect (fun vs H Q E h => ?_) (fun cdv A outer s H vs Q E hr h => ?_)
  · obtain ⟨v, kb, rfl, ⟨t, l, ys, rfl, ht, hl, pr⟩, ok, hz, q⟩ := h
    rfl
  · obtain ⟨v, kb, rfl, ⟨t, l, ys, rfl, ht, hl, pr⟩, ok, hz, q⟩ := h
    refine ⟨_, PSs.nox (pss_cons (ps_expr (pe_call (ok_check_columns (K := K) T) (hr.mono (by decide)) rfl T.g_check_columns T.f_check_columns.kp T.bn_check_columns .nil pass0 (pa_cons (pv 0) pa_nil)))
      (pss_cons (ps_if (PW.pt (pw_or (pt_not (pt_val (pe_callB (kCR (K := K) (r := rIsi) call_isi rfl) rfl T.b_isinstance (by decide +kernel) (pa_cons (pv 1) (pa_cons (pe_bltn (v := .ty "tuple") rfl T.b_tuple (by decide +kernel) rfl) pa_nil))))) (pw_or (pt_cmpR op_ne (pe_callB (kCR (K := K) (r := rLenQ) call_len_seq rfl) rfl T.b_len (by decide +kernel) (pa_cons (pv 1) pa_nil)) pe_int (nomark _)) (pw_or1 (pt_not (pt_val (pe_callB (kCR (K := K) (r := rIsi) call_isi rfl) rfl T.b_isinstance (by decide +kernel) (pa_cons (pe_ix (kIx (K := K) (r := rIxT) ix_tup rfl) (pv 1) pe_int (fun _ _ => rfl)) (pa_cons (pe_bltn (v := .ty "list") rfl T.b_list (by decide +kernel) rfl) pa_nil))))))))) (pss_one (ps_ret pe_bl)) pss_nil)
      (pss_cons (ps_asg (pv 1) (kTup (K := K) (pg_tup (n := 2) rfl (pgs_cons (pg_name (i := 2) sc_is_effect.nd rfl (Or.inl rfl)) (pgs_cons (pg_name (i := 3) sc_is_effect.nd rfl (Or.inl rfl)) pgs_nil))) rfl))
      (pss_cons (ps_if (pt_not (pt_val (pe_callB (kCR (K := K) (r := rAll) (cr_all rfl) rfl) rfl T.b_all (by decide +kernel) (pa_cons (pe_lc (own := [("key", 4)]) (g := (gName 4)) rfl sc_is_effect.nd (kPI (K := K) (i := fun K => iList K _) (pi_list (pv 2)) rfl) (blkOk_by (own := [("key", 4)]) (N := ["columns", "value", "keys", "base", "key", "column", "sign"]) (sc := defScope s_is_effect) (by decide +kernel)) (fun _ _ _ _ _ => (pg_name (i := 4) sc_is_effect.nd rfl (Or.inl rfl) (.inr rfl))) (fun _ _ _ _ _ => pts_nil) (fun _ _ _ _ _ => (pe_call (ok_is_key (K := K) T) (hr.mono (by decide)) rfl T.g_is_key T.f_is_key.kp T.bn_is_key .nil pass0 (pa_cons (pv 0) (pa_cons (pv 4) pa_nil))))) pa_nil)))) (pss_one (ps_ret pe_bl)) pss_nil)
      (pss_one (ps_ret (pe_and (pe_call (ok_is_sign (K := K) T) (hr.mono (by decide)) rfl T.g_is_sign T.f_is_sign.kp T.bn_is_sign .nil pass0 (pa_cons (pv 3) pa_nil)) (pe_one (pe_cmpR op_eq (pe_callB call_lenD rfl T.b_len (by decide +kernel) (pa_cons (pe_dc (own := [("column", 5), ("sign", 6)]) (g := (gTup K 2 (gCons (gName 5) (gCons (gName 6) gNil)))) rfl sc_is_effect.nd (kPI (K := K) (i := fun K => iList K _) (pi_list (pv 2)) rfl) (blkOk_by (own := [("column", 5), ("sign", 6)]) (N := ["columns", "value", "keys", "base", "key", "column", "sign"]) (sc := defScope s_is_effect) (by decide +kernel)) (fun _ _ _ _ _ => (kTup (K := K) (pg_tup (n := 2) rfl (pgs_cons (pg_name (i := 5) sc_is_effect.nd rfl (Or.inl rfl) (.inr rfl)) (pgs_cons (pg_name (i := 6) sc_is_effect.nd rfl (Or.inl rfl) (.inr rfl)) pgs_nil))) rfl)) (fun _ _ _ _ _ => pts_nil) (fun _ _ _ _ _ => (pv 5)) (fun _ _ _ _ _ => pe_bl)) pa_nil)) (pe_callB (kCR (K := K) (r := rLenQ) call_len_seq rfl) rfl T.b_len (by decide +kernel) (pa_cons (pv 2) pa_nil)) (nomark _)))))))))), ?_⟩
    refine q_drop (v := .non) (ev_call (vs := [.int 8]) (ea_cons (ev_var rfl) ea_nil) fun H1 e Q k E => ⟨8, rfl, by omega, by omega, k⟩) fun H1 e1 => ?_
    refine q_pass (et_orF (et_notF (et_B (ev_isi_tup (h := kit_tuple_tuple) (ev_var rfl) (e1 _ _ ht)))) (et_orF (et_leaf (ev_op (ev_cb (ea_cons (ev_var rfl) ea_nil) (rc_lenT (e1 _ _ ht))) ev_c rv_neI) rfl) (et_notF (et_B (ev_isi_lst (h := kit_list_list) (ev_op (ev_var rfl) ev_c (rv_ixT (SqT.of (e1 _ _ ht)) (atI_nat (j := 0) rfl))) (e1 _ _ hl)))))) fun H2 e2 => ?_
    have e12 := e1.trans e2
    refine q_unp2 rfl (ev_var rfl) (e12 _ _ ht) fun H3 e3 => ?_
    have e13 := e12.trans e3
    have hyl := Paired.length pr
    refine q_pass (et_notF (et_B (ev_allL (K := K) ys id (ev_var rfl) (by rw [List.map_id]; exact SqL.of (e13 _ _ hl)) (by omega) fun y m => ?_))) fun H4 e4 => ?_
    · obtain ⟨p, hp, t2, ey, ht2⟩ := paired_mem pr m
      obtain ⟨h1, h2⟩ := ok.kc p hp
      subst ey
      exact ev_call (vs := [.int 8, .ref t2]) (ea_cons (ev_var rfl) (ea_cons (ev_var rfl) ea_nil)) fun H4 e4 Q k E => ⟨8, t2, p, rfl, e4 _ _ (e13 _ _ ht2), by omega, h2, k⟩
    · have e14 := e13.trans e4
      refine s_ret (v := .bl true) (ev_is (ev_andV (ev_call (ea_cons (ev_var rfl) ea_nil) (spv_is_sign (K := K) ok.bs)) fun _ => ev_op (ev_lenDX (n := kb.1.length) ?_) (ev_cb (ea_cons (ev_var rfl) ea_nil) (rc_lenL (e14 _ _ hl))) rv_eqI) ?_) fun H5 e5 => q H5 (e14.trans e5)
      · exact ex_dcP (K := K) kb.1 (fun p => nV p.1) (fun p => .int p.2) ys (fun p => .inl (p.1 : Int)) (.bl true) (ev_var rfl) (SqL.of (e14 _ _ hl)) (Paired.mapP pr fun p y ⟨t, e, h⟩ => ⟨t, e, e14 _ _ h⟩) (by omega) (by
          have : (kb.1.map fun p => (.inl (p.1 : Int) : Key)) = (kb.1.map Prod.fst).map fun i : Nat => (.inl (i : Int) : Key) := by rw [List.map_map] <;> rfl
          rw [this]
          exact List.Pairwise.map _ (fun a b (h : a ≠ b) z => h (by have := Sum.inl.inj z; omega)) ok.kn) (fun p m => ev_var rfl) (fun p m => ev_c)
      · rw [hyl, decide_eq_true rfl]
        rfl
end
end HC


set_option Elab.async false
set_option linter.all false
set_option maxRecDepth 100000
set_option maxHeartbeats 2000000
/-! Texts; the dict that the text writes at its top. -/
namespace HC
open PySem PySem.Spec PyProof.Rows L2 Evl
section
variable {X : Cx} {d : Addr} {o i : Expr} {pos : Pos} {td ty : TE} {K : PySem.W.Frag}
def tKd (K : PySem.W.Frag) (d : Addr) (td ty : TE) : TE := fun σ H Q => td σ H fun x H1 => ty σ H1 fun y H2 => ∃ (z : Str) (u0 : Value) (v0 : V), x = .ref d ∧ y = .str z ∧ PySem.W.nsIn K d z = some (some u0) ∧ RelV v0 u0 ∧ Q v0 H2
theorem pe_ixKd (D : ∃ es n, KDict X.K X.w d es n) (ho : PE X o td) (hi : PE X i ty) (hs : NoSl i) : PE X (.Subscript o i pos) (tKd X.K d td ty) := by
  obtain ⟨es, n, D⟩ := D
  refine ⟨fun pins s σ H Q I h => ?_⟩
  refine subD_of PySem.F.slot_dict_getitem.lookup hs (thn (ho.run pins s σ H _ I h) fun u s1 ⟨x, H1, I1, rx, q1⟩ => thn (hi.run pins s1 σ H1 _ I1 q1) fun iv s2 ⟨y, H2, I2, ry, z, u0, v0, ex, ey, e, r, q2⟩ => ?_)
  subst ex
  obtain rfl : u = Value.ref d := rx
  exact ⟨kd_type D I2, op_item_kd D pins s2 σ H2 (.ref d) y _ iv Q I2 rfl ry ⟨z, u0, v0, rfl, ey, e, r, q2⟩⟩
theorem kKd {e : Expr} (h : PE X e (tKd X.K d td ty)) (hK : X.K = K) : PE X e (tKd K d td ty) := hK ▸ h
def rNotInKd (d : Addr) (K : PySem.W.Frag) : R2 := fun x y H Q => ∃ (z : Str) (r : Option Value), x = .str z ∧ y = .ref d ∧ PySem.W.nsIn K d z = some r ∧ Q (.bl (!r.isSome)) H
theorem op_notIn_kdE (D : ∃ es n, KDict X.K X.w d es n) : OpR X (compareOp .NotIn) (rNotInKd d X.K) := let ⟨_, _, D⟩ := D; op_notIn_kd D
end
section
variable {K : PySem.W.Frag} {σ : L2.St} {H : Hp} {ta tb te t1 t2 : TE} {x y z v : V} {D : Ends} {tu tz : TS}
theorem ev_fmtI {i : Int} (h : Ev te σ H (.int i)) (hi : i.natAbs.log2 < 1920) : Ev (tFmt te) σ H (.str (toString i)) := fun H1 e Q q => h H1 e _ fun H2 e2 => .inr ⟨i, rfl, hi, q H2 e2⟩
theorem ev_fmtS {a : Str} (h : Ev te σ H (.str a)) (ha : a.length ≤ 1000) : Ev (tFmt te) σ H (.str a) := fun H1 e Q q => h H1 e _ fun H2 e2 => .inl ⟨a, rfl, sz_of (by omega), q H2 e2⟩
theorem ev_fs2 {a b : Str} (h1 : Ev t1 σ H (.str a)) (h2 : Ev t2 σ H (.str b)) (ha : (Str.empty ++ a).length ≤ 1000) (hb : (Str.empty ++ a ++ b).length ≤ 1000) : Ev (fun σ H Q => tJs [t1, t2] Str.empty σ H fun out H1 => Q (.str out) H1) σ H (.str (Str.empty ++ a ++ b)) := fun H1 e Q q =>
  h1 H1 e _ fun H2 e2 => ⟨a, rfl, sz_of (by omega), h2 H2 (e.trans e2) _ fun H3 e3 => ⟨b, rfl, sz_of (by omega), q H3 (e2.trans e3)⟩⟩
/-- sep.join(a new list of texts) -/
theorem ev_join {a : Str} {ys : List Str} (h : EvL te σ H (ys.map V.str)) (hz : (ys.map (·.length)).sum + ys.length * a.length ≤ 16777216) : Ev (tM1 (rJoin K) (tC (.str a)) te) σ H (.str (Txt.join a ys)) := fun H1 e Q q =>
  ⟨⟨a, rfl⟩, h H1 e _ fun p H2 np e2 hp => ⟨a, p, ys, rfl, rfl, .inl (SqL.of hp), hz, q H2 e2⟩⟩
abbrev rSplit : V → List V → Hp → VK → Prop := fun x xs H Q => ∃ a b, x = .str a ∧ xs = [.str b] ∧ (b.length == 0) = false ∧ a.length + 2 ≤ sizeLine ∧ rNewStrs (Txt.split a b) H Q
theorem el_split {a b : Str} (h : Ev te σ H (.str a)) (hb : (b.length == 0) = false) (ha : a.length ≤ 90000) : EvL (tM1 rSplit te (tC (.str b))) σ H ((Txt.split a b).map V.str) := fun H1 e Q q =>
  h H1 e _ fun H2 e2 => ⟨⟨a, rfl⟩, a, b, rfl, rfl, hb, sz_of (by omega), fun p hp => q p _ (fresh_back e2 hp) (e2.trans (Ex.new hp)) upd_same⟩
theorem ev_kd {d : Addr} {s : Str} {u : Value} (hd : Ev ta σ H (.ref d)) (hs : Ev tb σ H (.str s)) (hn : PySem.W.nsIn K d s = some (some u)) (hr : RelV v u) : Ev (tKd K d ta tb) σ H v := fun H1 e Q q =>
  hd H1 e _ fun H2 e2 => hs H2 (e.trans e2) _ fun H3 e3 => ⟨s, u, v, rfl, rfl, hn, hr, q H3 (e2.trans e3)⟩
/-- for i, x in enumerate(xs): nothing but the slots changes -/
theorem q_forE {α : Type} (xs : List α) (enc : α → V) {a : Addr} {t : TA} {j k : Nat} (hl : EvA t σ H [.ref a]) (ha : SqL K H a (xs.map enc)) (Pv : Nat → L2.St → Hp → Prop) (h0 : ∀ H1, Ex H H1 → Pv 0 σ H1) (hx : ∀ i σ' H', Pv i σ' H' → Same H H')
    (hs : ∀ (i : Nat) x σ' H', xs[i]? = some x → Pv i σ' H' → ∀ H'', Same H' H'' → tu { D with nx := Pv (i + 1), ct := Pv (i + 1), bk := tz D } ((σ'.set j (some (.int (i : Int)))).set k (some (enc x))) H'') (hd : ∀ σ' H', Pv xs.length σ' H' → tz D σ' H') :
    tSeq (tFor (iEnum K t) (gTup K 2 (gCons (gName j) (gCons (gName k) gNil))) tu) tz D σ H := by
  refine hl H (Ex.refl H) _ fun H1 e1 => ?_
  refine ⟨a, xs.map enc, rfl, ex_l e1 ha, ?_⟩
  refine for_it (D := { D with nx := tz D }) (walk_enum (K := K) (a := a) (xs := xs.map enc)) Pv (h0 H1 e1) (fun i σ' H' _ p => ex_l (hx i σ' H' p) ha) (fun i x σ' H' H'' hi p y => ?_) (fun σ' H' p => hd σ' H' (by rw [List.length_map] at p; exact p))
  obtain ⟨T, x1, x2, rfl, nT, rfl, f1, f2⟩ := y
  have g1 : V.int (i : Nat) = x1 := Option.some.inj f1
  have f2 : (xs.map enc)[i]? = some x2 := f2
  rw [List.getElem?_map] at f2
  cases hxi : xs[i]? with
  | none => rw [hxi] at f2; cases f2
  | some w =>
    rw [hxi] at f2
    have g2 : enc w = x2 := Option.some.inj f2
    subst g1 g2
    exact ⟨T, _, rfl, .inl (.inl upd_same), rfl, _, _, rfl, _, [], rfl, rfl, hs i w σ' H' hxi p _ (same_new nT)⟩
/-- for i, x in enumerate(xs): nothing but the slots changes -/
theorem s_forE {α : Type} (xs : List α) (enc : α → V) {a : Addr} {t : TA} {j k : Nat} (hl : EvA t σ H [.ref a]) (ha : SqL K H a (xs.map enc)) (Pv : Nat → L2.St → Hp → Prop) (h0 : ∀ H1, Ex H H1 → Pv 0 σ H1) (hx : ∀ i σ' H', Pv i σ' H' → Same H H')
    (hs : ∀ (i : Nat) x σ' H', xs[i]? = some x → Pv i σ' H' → ∀ H'', Same H' H'' → tu { D with nx := Pv (i + 1), ct := Pv (i + 1), bk := D.nx } ((σ'.set j (some (.int (i : Int)))).set k (some (enc x))) H'') (hd : ∀ σ' H', Pv xs.length σ' H' → D.nx σ' H') :
    tFor (iEnum K t) (gTup K 2 (gCons (gName j) (gCons (gName k) gNil))) tu D σ H := by
  refine hl H (Ex.refl H) _ fun H1 e1 => ?_
  refine ⟨a, xs.map enc, rfl, ex_l e1 ha, ?_⟩
  refine for_it (D := D) (walk_enum (K := K) (a := a) (xs := xs.map enc)) Pv (h0 H1 e1) (fun i σ' H' _ p => ex_l (hx i σ' H' p) ha) (fun i x σ' H' H'' hi p y => ?_) (fun σ' H' p => hd σ' H' (by rw [List.length_map] at p; exact p))
  obtain ⟨T, x1, x2, rfl, nT, rfl, f1, f2⟩ := y
  have g1 : V.int (i : Nat) = x1 := Option.some.inj f1
  have f2 : (xs.map enc)[i]? = some x2 := f2
  rw [List.getElem?_map] at f2
  cases hxi : xs[i]? with
  | none => rw [hxi] at f2; cases f2
  | some w =>
    rw [hxi] at f2
    have g2 : enc w = x2 := Option.some.inj f2
    subst g1 g2
    exact ⟨T, _, rfl, .inl (.inl upd_same), rfl, _, _, rfl, _, [], rfl, rfl, hs i w σ' H' hxi p _ (same_new nT)⟩
end
theorem sum_len {c : Nat} : ∀ {ys : List Str}, (∀ y ∈ ys, y.length ≤ c) → (ys.map (·.length)).sum ≤ ys.length * c
  | [], _ => Nat.zero_le _
  | y :: ys, h => by
    have h1 := h y List.mem_cons_self
    have h2 := sum_len fun z m => h z (List.mem_cons_of_mem _ m)
    rw [List.map_cons, List.sum_cons, List.length_cons, Nat.succ_mul]
    omega
theorem joinL_len (S : List Nat) : ∀ parts : List (List Nat), (TL.joinL S parts).length ≤ (parts.map (·.length)).sum + parts.length * S.length
  | [] => Nat.zero_le _
  | [p] => by
    show p.length ≤ p.length + 0 + 1 * S.length
    omega
  | p :: q :: r => by
    have h := joinL_len S (q :: r)
    show (p ++ (S ++ TL.joinL S (q :: r))).length ≤ _
    rw [List.length_append, List.length_append, List.map_cons, List.sum_cons, List.length_cons, Nat.succ_mul]
    omega
theorem join_len (a : Str) (ys : List Str) : (Txt.join a ys).length ≤ (ys.map (·.length)).sum + ys.length * a.length := by
  have h := joinL_len (TL.tl a) (ys.map TL.tl)
  rw [← TL.tl_join, List.map_map, List.length_map, ← TL.join_eq] at h
  exact h
theorem cut_last (xs : List V) (y : V) : cutV (xs ++ [y]) none (some (-1)) = xs := by
  unfold cutV
  have a : HT.sIx (xs ++ [y]).length 0 none = 0 := rfl
  have b : HT.sIx (xs ++ [y]).length (xs ++ [y]).length (some (-1)) = xs.length := by
    show (if (-1 : Int) < 0 then ((-1 : Int) + ((xs ++ [y]).length : Int)).toNat else min (-1 : Int).toNat (xs ++ [y]).length) = _
    rw [if_pos (by decide), List.length_append, List.length_singleton]
    omega
  rw [a, b, List.drop_zero, Nat.sub_zero, List.take_left]
section
variable {H : Hp} {K : PySem.W.Frag}
theorem rv_notInS {c : Nat} {z : Str} : RV (fun x y H Q => ∃ (c : Nat) (z : Str), x = V.str ⟨#[c]⟩ ∧ y = V.str z ∧ Q (.bl (!decide (c ∈ z.cps.toList))) H) (.str ⟨#[c]⟩) (.str z) H (.bl (!decide (c ∈ z.cps.toList))) := fun H1 _ _ q => ⟨c, z, rfl, rfl, q H1 (Ex.refl H1)⟩
theorem rv_inS {c : Nat} {z : Str} : RV (fun x y H Q => ∃ (c : Nat) (z : Str), x = V.str ⟨#[c]⟩ ∧ y = V.str z ∧ Q (.bl (decide (c ∈ z.cps.toList))) H) (.str ⟨#[c]⟩) (.str z) H (.bl (decide (c ∈ z.cps.toList))) := fun H1 _ _ q => ⟨c, z, rfl, rfl, q H1 (Ex.refl H1)⟩
theorem rv_notInKd {d : Addr} {z : Str} {u : Value} (h : PySem.W.nsIn K d z = some (some u)) : RV (rNotInKd d K) (.str z) (.ref d) H (.bl false) := fun H1 _ _ q => ⟨z, some u, rfl, rfl, h, q H1 (Ex.refl H1)⟩
theorem rc_intS {a : Str} {n : Int} (h : PySem.intText? a = some n) (hl : a.length ≤ 640) : RC (fun xs H Q => ∃ a n, xs = [V.str a] ∧ PySem.intText? a = some n ∧ a.length ≤ 640 ∧ Q (.int n) H) [.str a] H (.int n) := fun H1 _ _ q => ⟨a, n, rfl, h, hl, q H1 (Ex.refl H1)⟩
end
end HC

set_option Elab.async false
set_option linter.all false
set_option maxRecDepth 100000
set_option maxHeartbeats 4000000
namespace HC
open PySem PySem.Spec PyProof.Rows L2 Evl
local macro_rules
  | `(tactic| walk_at "ev") => `(tactic| first
    | exact ev_c
    | exact ev_var rfl
    | exact ea_nil
    | exact et_yes
    | exact eo_none
    | exact rv_I0
    | exact rv_eqI
    | exact rv_neI
    | exact rv_eqS
    | exact rv_neS
    | exact rv_eqB
    | exact rv_neB
    | exact rv_isN
    | exact rv_notN
    | exact rv_leS
    | exact rv_ltS
    | exact ru_neg
    | assumption
    | (apply ea_cons <;> walk_at "ev")
    | (apply et_test <;> walk_at "ev")
    | (apply et_B <;> walk_at "ev")
    | (apply et_not <;> walk_at "ev")
    | (apply ev_op <;> walk_at "ev")
    | (apply ev_un <;> walk_at "ev")
    | (apply ev_isi_int (h := kit_int_int) <;> walk_at "ev")
    | (apply ev_isi_int (h := kit_int_bool) <;> walk_at "ev")
    | (apply ev_isi_str (h := kit_str_str) <;> walk_at "ev")
    | (apply ev_isi_lst (h := kit_list_list) <;> walk_at "ev")
    | (apply ev_isi_tup (h := kit_tuple_tuple) <;> walk_at "ev")
    | (apply rc_lenL ; assumption)
    | (apply rc_lenT ; assumption)
    | (apply rc_lenS ; assumption)
    | (apply ev_chain <;> first | walk_at "ev" | (intro _; walk_at "ev"))
    | (apply et_or <;> first | walk_at "ev" | (intro _; walk_at "ev"))
    | (apply et_and <;> first | walk_at "ev" | (intro _; walk_at "ev"))
    | (apply ev_orV <;> first | walk_at "ev" | (intro _; walk_at "ev"))
    | (apply ev_andV <;> first | walk_at "ev" | (intro _; walk_at "ev"))
    | (apply ev_notV <;> walk_at "ev")
    | (apply ev_cb <;> walk_at "ev")
    | (apply eo_some <;> walk_at "ev"))
local macro_rules
  | `(tactic| walk_at "dec") => `(tactic| first
    | assumption
    | exact dnI
    | exact dnS
    | decide +kernel
    | (with_reducible rfl)
    | (simp only [decide_eq_true_eq, Bool.and_eq_true, Bool.not_eq_true', decide_eq_false_iff_not, Bool.not_true, Bool.not_false, Bool.and_eq_false_iff, Bool.or_eq_false_iff, Bool.or_eq_true]; omega)
    | rfl)
local macro_rules
  | `(tactic| walk_at "dt") => `(tactic| first
    | assumption
    | exact et_yes
    | (apply et_orF <;> walk_at "dt")
    | (apply et_andT <;> walk_at "dt")
    | (apply et_notF; walk_at "dt")
    | (apply et_notT; walk_at "dt")
    | (apply et_chT <;> first | walk_at "ev" | walk_at "dec")
    | (apply et_leaf <;> first | walk_at "ev" | walk_at "dec")
    | (apply et_leafB <;> first | walk_at "ev" | walk_at "dec"))
local macro_rules
  | `(tactic| walk_at "pass") => `(tactic| (refine' q_pass ?zzh ?zzk; (case zzh => walk_at "dt")))
local macro_rules
  | `(tactic| walk_at "yes") => `(tactic| ((first | refine' q_yes ?zzh ?zzk | refine' s_yes ?zzh ?zzk); (case zzh => walk_at "dt")))
local macro_rules
  | `(tactic| walk_at "no") => `(tactic| ((first | refine' q_no ?zzh ?zzk | refine' s_no ?zzh ?zzk); (case zzh => walk_at "dt")))
local macro_rules
  | `(tactic| walk_at "ret") => `(tactic| (refine' s_ret (v := _) ?zzh ?zzk; (case zzh => walk_at "ev")))
local macro_rules
  | `(tactic| walk_at "set") => `(tactic| ((first | refine' q_asg (v := _) ?zzh ?zzk | refine' s_asg (v := _) ?zzh ?zzk); (case zzh => walk_at "ev")))
section
variable {P : Program} {w : World} {K : PySem.W.Frag} {mg : Str → Option Value} {base : Heap}
def sgn (i : Int) : Str := if i = 1 then "+" else "-"
def wordE (p : Nat × Int) : Str := (toString (p.1 : Int) : Str) ++ sgn p.2
def effWords (kb : List (Nat × Int) × Int) : List Str := kb.1.map wordE ++ [("/" : Str) ++ sgn kb.2]
def effText (kb : List (Nat × Int) × Int) : Str := Txt.join " " (effWords kb)
theorem pm1 {P : Int → Prop} {i : Int} (h : i = 1 ∨ i = -1) (h1 : P 1) (h2 : P (-1)) : P i := by
  rcases h with rfl | rfl
  · exact h1
  · exact h2
theorem lt8 {P : Nat → Prop} {c : Nat} (h : c < 8) (h0 : ∀ c ∈ List.range 8, P c) : P c := h0 c (List.mem_range.mpr h)
def sp_sign_text (_ : PySem.W.Frag) : Sp := fun vs H Q _ => ∃ i : Int, vs = [.int i] ∧ (i = 1 ∨ i = -1) ∧ RetV (.str (sgn i)) H Q
/-! sign_text: slots 0:sign -/
theorem sc_sign_text : FnScope ["sign"] ["sign"] (defScope s_sign_text) := ⟨rfl, rfl, rfl, by decide +kernel, rfl, by decide +kernel, by decide +kernel⟩
theorem ok_sign_text (T : Tp K mg w) : FnOk P w K mg base CX0 1 (a_sign_text K) (fdAt K (a_sign_text K)) ["sign"] (sp_sign_text K) := by
  refine T.f_sign_text.ok sc_sign_text (fun vs H Q E h => ?_) (fun cdv A outer s H vs Q E hr h => ?_)
  · obtain ⟨i, rfl, hi, q⟩ := h
    rfl
  · obtain ⟨i, rfl, hi, q⟩ := h
    refine ⟨_, PSs.nox (pss_one (ps_ret (pe_ifExp (pt_cmpR op_eq (pv 0) pe_int (nomark _)) pe_str pe_str))), ?_⟩
    refine s_ret (v := .str (sgn i)) ?_ q
    rcases hi with rfl | rfl
    · exact ev_ifT (K := K) (et_leaf (ev_op (ev_var rfl) ev_c rv_eqI) (by decide +kernel)) ev_c
    · exact ev_ifF (K := K) (et_leaf (ev_op (ev_var rfl) ev_c rv_eqI) (by decide +kernel)) ev_c
theorem wordE_ok : ∀ c ∈ List.range 8, ∀ i ∈ [(1 : Int), -1], Str.empty ++ (toString (c : Int) : Str) ++ sgn i = wordE (c, i) ∧ (Str.empty ++ (toString (c : Int) : Str)).length ≤ 1000 ∧ (Str.empty ++ (toString (c : Int) : Str) ++ sgn i).length ≤ 1000 ∧ (c : Int).natAbs.log2 < 1920 ∧ (wordE (c, i)).length = 2 ∧ ¬ 32 ∈ (wordE (c, i)).cps.toList := by decide +kernel
theorem sgn_len (i : Int) : (sgn i).length ≤ 1000 := by
  unfold sgn
  split <;> decide +kernel
theorem slash_ok : ∀ i ∈ [(1 : Int), -1], Str.empty ++ "/" ++ sgn i = ("/" : Str) ++ sgn i ∧ (Str.empty ++ ("/" : Str)).length ≤ 1000 ∧ (Str.empty ++ ("/" : Str) ++ sgn i).length ≤ 1000 ∧ (("/" : Str) ++ sgn i).length = 2 ∧ ¬ 32 ∈ (("/" : Str) ++ sgn i).cps.toList := by decide +kernel
theorem pm_mem {i : Int} (h : i = 1 ∨ i = -1) : i ∈ [(1 : Int), -1] := by
  rcases h with rfl | rfl <;> decide
theorem effWords_ok {kb : List (Nat × Int) × Int} (ok : EffOk 8 kb) : ∀ y ∈ effWords kb, y.length = 2 ∧ ¬ 32 ∈ y.cps.toList := fun y m => by
  rcases List.mem_append.mp m with m | m
  · obtain ⟨p, hp, rfl⟩ := List.mem_map.mp m
    obtain ⟨h1, h2⟩ := ok.kc p hp
    obtain ⟨_, _, _, _, h3, h4⟩ := wordE_ok p.1 (List.mem_range.mpr h1) p.2 (pm_mem h2)
    exact ⟨h3, h4⟩
  · rw [List.mem_singleton.mp m]
    obtain ⟨_, _, _, h3, h4⟩ := slash_ok kb.2 (pm_mem ok.bs)
    exact ⟨h3, h4⟩
theorem spv_sign_text {H : Hp} {i : Int} (h : i = 1 ∨ i = -1) : SpV (sp_sign_text K) ([.int i] ++ []) H (.str (sgn i)) := fun H1 _ _ q _ => ⟨i, rfl, h, q⟩
def sp_format_effect (_ : PySem.W.Frag) : Sp := fun vs H Q _ => ∃ (v : V) (kb : List (Nat × Int) × Int), vs = [v] ∧ EffAt H v kb.1 kb.2 ∧ EffOk 8 kb ∧ kb.1.length ≤ 900 ∧ RetV (.str (effText kb)) H Q
/-! format_effect: slots 0:effect 1:keys 2:base 3:column 4:sign -/
theorem sc_format_effect : FnScope ["effect", "keys", "base", "column", "sign"] ["effect"] (defScope s_format_effect) := ⟨rfl, rfl, rfl, by decide +kernel, rfl, by decide +kernel, by decide +kernel⟩
theorem ok_format_effect (T : Tp K mg w) : FnOk P w K mg base CX0 5 (a_format_effect K) (fdAt K (a_format_effect K)) ["effect"] (sp_format_effect K) := by
  refine T.f_format_effect.ok sc_format_effect (fun vs H Q E h => ?_) (fun cdv A outer s H vs Q E hr h => ?_)
  · obtain ⟨v, kb, rfl, he, ok, hz, q⟩ := h
    rfl
  · obtain ⟨v, kb, rfl, he, ok, hz, q⟩ := h
    refine ⟨_, PSs.nox (pss_cons (ps_if (pt_not (pt_val (pe_call (ok_is_effect (K := K) T) (hr.mono (by decide)) rfl T.g_is_effect T.f_is_effect.kp T.bn_is_effect .nil pass0 (pa_cons (pe_gk rfl T.c_MAX_COLUMNS) (pa_cons (pv 0) pa_nil))))) (pss_one ps_never) pss_nil)
      (pss_cons (ps_asg (pv 0) (kTup (K := K) (pg_tup (n := 2) rfl (pgs_cons (pg_name (i := 1) sc_format_effect.nd rfl (Or.inl rfl)) (pgs_cons (pg_name (i := 2) sc_format_effect.nd rfl (Or.inl rfl)) pgs_nil))) rfl))
      (pss_one (ps_ret (kJoin (K := K) (pe_join pe_str (pe_op op_cat (pe_lc (own := [("column", 3), ("sign", 4)]) (g := (gTup K 2 (gCons (gName 3) (gCons (gName 4) gNil)))) rfl sc_format_effect.nd (kPI (K := K) (i := fun K => iList K _) (pi_list (pv 1)) rfl) (blkOk_by (own := [("column", 3), ("sign", 4)]) (N := ["effect", "keys", "base", "column", "sign"]) (sc := defScope s_format_effect) (by decide +kernel)) (fun _ _ _ _ _ => (kTup (K := K) (pg_tup (n := 2) rfl (pgs_cons (pg_name (i := 3) sc_format_effect.nd rfl (Or.inl rfl) (.inr rfl)) (pgs_cons (pg_name (i := 4) sc_format_effect.nd rfl (Or.inl rfl) (.inr rfl)) pgs_nil))) rfl)) (fun _ _ _ _ _ => pts_nil) (fun _ _ _ _ _ => (pe_joined (PJ.cons (pe_fmt (pv 3)) (PJ.cons (pe_fmt (pe_call (ok_sign_text (K := K) T) (hr.mono (by decide)) rfl T.g_sign_text T.f_sign_text.kp T.bn_sign_text .nil pass0 (pa_cons (pv 4) pa_nil))) PJ.nil))))) (pe_lst (pa_cons (pe_joined (PJ.cons pe_str (PJ.cons (pe_fmt (pe_call (ok_sign_text (K := K) T) (hr.mono (by decide)) rfl T.g_sign_text T.f_sign_text.kp T.bn_sign_text .nil pass0 (pa_cons (pv 2) pa_nil))) PJ.nil))) pa_nil)))) rfl))))), ?_⟩
    have he0 := he
    obtain ⟨t, l, ys, rfl, ht, hl, pr⟩ := he
    refine q_pass (et_notF (et_B (ev_call (vs := [.int 8, .ref t]) (ea_cons ev_c (ea_cons (ev_var rfl) ea_nil)) fun H1 e Q k E => ⟨.ref t, kb, rfl, he0.mono e, ok, hz, k⟩))) fun H1 e1 => ?_
    refine q_unp2 rfl (ev_var rfl) (e1 _ _ ht) fun H2 e2 => ?_
    have e12 := e1.trans e2
    have hln : (effWords kb).length = kb.1.length + 1 := by
      unfold effWords
      rw [List.length_append, List.length_map]
      rfl
    have hsum := sum_len (c := 2) (ys := effWords kb) fun y m => by rw [(effWords_ok ok y m).1]; exact Nat.le_refl _
    refine s_ret (v := .str (effText kb)) (ev_join ?_ ?_) fun H3 e3 => q H3 (e12.trans e3)
    · have hmap : (effWords kb).map V.str = kb.1.map (fun p => V.str (wordE p)) ++ [V.str (("/" : Str) ++ sgn kb.2)] := by
        unfold effWords
        rw [List.map_append, List.map_map]
        rfl
      rw [hmap]
      obtain ⟨g1, g2, g3, g4, g5⟩ := slash_ok kb.2 (pm_mem ok.bs)
      refine el_catX (EvX.ofL (el_lcP (K := K) kb.1 (fun p => nV p.1) (fun p => .int p.2) ys (fun _ => true) (fun p => .str (wordE p)) (ev_var rfl) (SqL.of (e12 _ _ hl)) (Paired.mapP pr fun p y ⟨t, e, h⟩ => ⟨t, e, e12 _ _ h⟩) (by omega) (fun _ _ => et_yes) fun p m _ => ?_)) (EvX.ofL (el_lst (vs := [.str (("/" : Str) ++ sgn kb.2)]) (ea_cons (ev_is (ev_fs2 ev_c (ev_fmtS (ev_call (ea_cons (ev_var rfl) ea_nil) (spv_sign_text (K := K) ok.bs)) (sgn_len _)) g2 g3) (by rw [g1])) ea_nil) (by show 1 ≤ 100000; omega))) _ _ (fun v H1 H2 _ _ ⟨p, e, _, h⟩ => ⟨p, e, by rw [h, filter_tt]⟩) (fun v H1 H2 _ _ ⟨p, e, _, h⟩ => ⟨p, e, h⟩) (by rw [List.length_map]; show _ + 1 ≤ _; omega)
      obtain ⟨h1, h2⟩ := ok.kc p m
      obtain ⟨f1, f2, f3, f4, _, _⟩ := wordE_ok p.1 (List.mem_range.mpr h1) p.2 (pm_mem h2)
      exact ev_is (ev_fs2 (ev_fmtI (ev_var rfl) f4) (ev_fmtS (ev_call (ea_cons (ev_var rfl) ea_nil) (spv_sign_text (K := K) h2)) (sgn_len _)) f2 f3) (by rw [f1])
    · rw [hln] at hsum ⊢
      show _ + (kb.1.length + 1) * 1 ≤ 16777216
      omega
def sp_check_text (_ : PySem.W.Frag) : Sp := fun vs H Q _ => ∃ z : Str, vs = [.str z] ∧ RetV .non H Q
/-! check_text: slots 0:text -/
theorem sc_check_text : FnScope ["text"] ["text"] (defScope s_check_text) := ⟨rfl, rfl, rfl, by decide +kernel, rfl, by decide +kernel, by decide +kernel⟩
theorem ok_check_text (T : Tp K mg w) : FnOk P w K mg base CX0 1 (a_check_text K) (fdAt K (a_check_text K)) ["text"] (sp_check_text K) := by
  refine T.f_check_text.ok sc_check_text (fun vs H Q E h => ?_) (fun cdv A outer s H vs Q E hr h => ?_)
  · obtain ⟨z, rfl, q⟩ := h
    rfl
  · obtain ⟨z, rfl, q⟩ := h
    refine ⟨_, PSs.nox (pss_one (ps_if (pt_not (pt_val (pe_callB (kCR (K := K) (r := rIsi) call_isi rfl) rfl T.b_isinstance (by decide +kernel) (pa_cons (pv 0) (pa_cons (pe_bltn (v := .ty "str") rfl T.b_str (by decide +kernel) rfl) pa_nil))))) (pss_one ps_never) pss_nil)), ?_⟩
    exact s_no (et_notF (et_B (ev_isi_str (h := kit_str_str) (ev_var rfl)))) q
theorem spv_check_text {H : Hp} (z : Str) : SpV (sp_check_text K) ([.str z] ++ []) H .non := fun H1 _ _ q _ => ⟨z, rfl, q⟩
end
end HC


set_option Elab.async false
set_option linter.all false
set_option maxRecDepth 100000
set_option maxHeartbeats 4000000
namespace HC
open PySem PySem.Spec PyProof.Rows L2 Evl
local macro_rules
  | `(tactic| walk_at "ev") => `(tactic| first
    | exact ev_c
    | exact ev_var rfl
    | exact ea_nil
    | exact et_yes
    | exact eo_none
    | exact rv_I0
    | exact rv_eqI
    | exact rv_neI
    | exact rv_eqS
    | exact rv_neS
    | exact rv_eqB
    | exact rv_neB
    | exact rv_isN
    | exact rv_notN
    | exact rv_leS
    | exact rv_ltS
    | exact ru_neg
    | assumption
    | (apply ea_cons <;> walk_at "ev")
    | (apply et_test <;> walk_at "ev")
    | (apply et_B <;> walk_at "ev")
    | (apply et_not <;> walk_at "ev")
    | (apply ev_op <;> walk_at "ev")
    | (apply ev_un <;> walk_at "ev")
    | (apply ev_isi_int (h := kit_int_int) <;> walk_at "ev")
    | (apply ev_isi_int (h := kit_int_bool) <;> walk_at "ev")
    | (apply ev_isi_str (h := kit_str_str) <;> walk_at "ev")
    | (apply ev_isi_lst (h := kit_list_list) <;> walk_at "ev")
    | (apply ev_isi_tup (h := kit_tuple_tuple) <;> walk_at "ev")
    | (apply rc_lenL ; assumption)
    | (apply rc_lenT ; assumption)
    | (apply rc_lenS ; assumption)
    | (apply ev_chain <;> first | walk_at "ev" | (intro _; walk_at "ev"))
    | (apply et_or <;> first | walk_at "ev" | (intro _; walk_at "ev"))
    | (apply et_and <;> first | walk_at "ev" | (intro _; walk_at "ev"))
    | (apply ev_orV <;> first | walk_at "ev" | (intro _; walk_at "ev"))
    | (apply ev_andV <;> first | walk_at "ev" | (intro _; walk_at "ev"))
    | (apply ev_notV <;> walk_at "ev")
    | (apply ev_cb <;> walk_at "ev")
    | (apply eo_some <;> walk_at "ev"))
local macro_rules
  | `(tactic| walk_at "dec") => `(tactic| first
    | assumption
    | exact dnI
    | exact dnS
    | decide +kernel
    | (with_reducible rfl)
    | (simp only [decide_eq_true_eq, Bool.and_eq_true, Bool.not_eq_true', decide_eq_false_iff_not, Bool.not_true, Bool.not_false, Bool.and_eq_false_iff, Bool.or_eq_false_iff, Bool.or_eq_true]; omega)
    | rfl)
local macro_rules
  | `(tactic| walk_at "dt") => `(tactic| first
    | assumption
    | exact et_yes
    | (apply et_orF <;> walk_at "dt")
    | (apply et_andT <;> walk_at "dt")
    | (apply et_notF; walk_at "dt")
    | (apply et_notT; walk_at "dt")
    | (apply et_chT <;> first | walk_at "ev" | walk_at "dec")
    | (apply et_leaf <;> first | walk_at "ev" | walk_at "dec")
    | (apply et_leafB <;> first | walk_at "ev" | walk_at "dec"))
local macro_rules
  | `(tactic| walk_at "pass") => `(tactic| (refine' q_pass ?zzh ?zzk; (case zzh => walk_at "dt")))
local macro_rules
  | `(tactic| walk_at "yes") => `(tactic| ((first | refine' q_yes ?zzh ?zzk | refine' s_yes ?zzh ?zzk); (case zzh => walk_at "dt")))
local macro_rules
  | `(tactic| walk_at "no") => `(tactic| ((first | refine' q_no ?zzh ?zzk | refine' s_no ?zzh ?zzk); (case zzh => walk_at "dt")))
local macro_rules
  | `(tactic| walk_at "ret") => `(tactic| (refine' s_ret (v := _) ?zzh ?zzk; (case zzh => walk_at "ev")))
local macro_rules
  | `(tactic| walk_at "set") => `(tactic| ((first | refine' q_asg (v := _) ?zzh ?zzk | refine' s_asg (v := _) ?zzh ?zzk); (case zzh => walk_at "ev")))
section
variable {P : Program} {w : World} {K : PySem.W.Frag} {mg : Str → Option Value} {base : Heap}
def sc (i : Int) : Nat := if i = 1 then 43 else 45
theorem wordE_cps : ∀ c ∈ List.range 8, ∀ i ∈ [(1 : Int), -1], (wordE (c, i)).cps.toList = [48 + c, sc i] ∧ (48 + c) ∈ ("01234567" : Str).cps.toList ∧ PySem.intText? ⟨#[48 + c]⟩ = some (c : Int) ∧ (⟨#[48 + c]⟩ : Str).length ≤ 640 := by decide +kernel
theorem slash_cps : ∀ i ∈ [(1 : Int), -1], (("/" : Str) ++ sgn i).cps.toList = [47, sc i] ∧ 47 ∈ ("/" : Str).cps.toList := by decide +kernel
theorem effText_len {kb : List (Nat × Int) × Int} (ok : EffOk 8 kb) (hz : kb.1.length ≤ 900) : (effText kb).length ≤ 90000 := by
  have h1 := join_len " " (effWords kb)
  have h2 := sum_len (c := 2) (ys := effWords kb) fun y m => by rw [(effWords_ok ok y m).1]; exact Nat.le_refl _
  have hln : (effWords kb).length = kb.1.length + 1 := by
    unfold effWords
    rw [List.length_append, List.length_map]
    rfl
  have h3 : (" " : Str).length = 1 := by decide +kernel
  rw [h3, hln] at h1
  rw [hln] at h2
  unfold effText
  omega
theorem eff_split {kb : List (Nat × Int) × Int} (ok : EffOk 8 kb) : Txt.split (effText kb) " " = effWords kb :=
  TL.split_join (s := 32) (S := []) (by decide +kernel) (by decide +kernel) (by unfold effWords; simp) fun y m => (effWords_ok ok y m).2
/-- a word's second sign -/
theorem sign_kd (T : Tp K mg w) {i : Int} (h : i = 1 ∨ i = -1) : ∃ u, PySem.W.nsIn K (aSign K) (⟨#[sc i]⟩ : Str) = some (some u) ∧ RelV (.int i) u := by
  rcases h with rfl | rfl
  · exact T.vSign (z := "+") (i := 1) (by simp)
  · exact T.vSign (z := "-") (i := -1) (by simp)
def sp_parse_effect (_ : PySem.W.Frag) : Sp := fun vs H Q _ => ∃ kb : List (Nat × Int) × Int, vs = [.str (effText kb)] ∧ EffOk 8 kb ∧ kb.1.length ≤ 900 ∧ ∀ v' H', Same H H' → EffAt H' v' kb.1 kb.2 → Q v' H'
/-! parse_effect: slots 0:text 1:words 2:place 3:word 4:signs 5:effect -/
theorem sc_parse_effect : FnScope ["text", "words", "place", "word", "signs", "effect"] ["text"] (defScope s_parse_effect) := ⟨rfl, rfl, rfl, by decide +kernel, rfl, by decide +kernel, by decide +kernel⟩
theorem ok_parse_effect (T : Tp K mg w) : FnOk P w K mg base CX0 5 (a_parse_effect K) (fdAt K (a_parse_effect K)) ["text"] (sp_parse_effect K) := by
  refine T.f_parse_effect.ok sc_parse_effect (fun vs H Q E h => ?_) (fun cdv A outer s H vs Q E hr h => ?_)
  · obtain ⟨kb, rfl, ok, hz, q⟩ := h
    rfl
  · obtain ⟨kb, rfl, ok, hz, q⟩ := h
    refine ⟨_, PSs.nox (pss_cons (ps_expr (pe_call (ok_check_text (K := K) T) (hr.mono (by decide)) rfl T.g_check_text T.f_check_text.kp T.bn_check_text .nil pass0 (pa_cons (pv 0) pa_nil)))
      (pss_cons (ps_set (i := 1) sc_parse_effect.nd rfl (Or.inl rfl) (pe_split (pv 0) pe_str))
      (pss_cons (ps_for PassesOwn.never rfl (kPI (K := K) (i := fun K => iEnum K _) (pi_enum rfl T.b_enumerate (pa_cons (pv 1) pa_nil)) rfl) (kTup (K := K) (pg_tup (n := 2) rfl (pgs_cons (pg_name (i := 2) sc_parse_effect.nd rfl (Or.inl rfl)) (pgs_cons (pg_name (i := 3) sc_parse_effect.nd rfl (Or.inl rfl)) pgs_nil))) rfl) (pss_cons (ps_set (i := 4) sc_parse_effect.nd rfl (Or.inl rfl) (pe_ifExp (pt_cmpR op_lt (pv 2) (pe_op op_sub (pe_callB (kCR (K := K) (r := rLenQ) call_len_seq rfl) rfl T.b_len (by decide +kernel) (pa_cons (pv 1) pa_nil)) pe_int) (nomark _)) (pe_gk rfl T.c_COLUMNS) pe_str))
      (pss_one (ps_if (PW.pt (pw_or (pt_cmpR op_ne (pe_callB call_len_str rfl T.b_len (by decide +kernel) (pa_cons (pv 3) pa_nil)) pe_int (nomark _)) (pw_or (pt_cmpR op_notIn_sign (pe_ix ix_str (pv 3) pe_int (fun _ _ => rfl)) (pv 4) rfl) (pw_or1 (pt_cmpR (kOp (K := K) (r := rNotInKd (aSign K)) (op_notIn_kdE T.kdSign) rfl) (pe_ix ix_str (pv 3) pe_int (fun _ _ => rfl)) (pe_glob (v := .ref (aSign K)) rfl T.g_SIGN_OF rfl) rfl))))) (pss_one ps_never) pss_nil))))
      (pss_cons (ps_set (i := 5) sc_parse_effect.nd rfl (Or.inl rfl) (pe_tup (pa_cons (pe_lc (own := [("word", 3)]) (g := (gName 3)) rfl sc_parse_effect.nd (kPI (K := K) (i := fun K => iList K _) (pi_list (pe_slice (kSl (K := K) (r := rSlL) sl_list rfl) (pv 1) po_none (po_some (pe_un un_neg pe_int)))) rfl) (blkOk_by (own := [("word", 3)]) (N := ["text", "words", "place", "word", "signs", "effect"]) (sc := defScope s_parse_effect) (by decide +kernel)) (fun _ _ _ _ _ => (pg_name (i := 3) sc_parse_effect.nd rfl (Or.inl rfl) (.inr rfl))) (fun _ _ _ _ _ => pts_nil) (fun _ _ _ _ _ => (pe_tup (pa_cons (pe_callTy call_int_str rfl T.b_int (by decide +kernel) (pa_cons (pe_ix ix_str (pv 3) pe_int (fun _ _ => rfl)) pa_nil)) (pa_cons (kKd (K := K) (pe_ixKd T.kdSign (pe_glob (v := .ref (aSign K)) rfl T.g_SIGN_OF rfl) (pe_ix ix_str (pv 3) pe_int (fun _ _ => rfl)) (fun _ _ => rfl)) rfl) pa_nil))))) (pa_cons (kKd (K := K) (pe_ixKd T.kdSign (pe_glob (v := .ref (aSign K)) rfl T.g_SIGN_OF rfl) (pe_ix ix_str (pe_ix (kIx (K := K) (r := rIxL) ix_list rfl) (pv 1) (pe_un un_neg pe_int) (fun _ _ => rfl)) pe_int (fun _ _ => rfl)) (fun _ _ => rfl)) rfl) pa_nil))))
      (pss_cons (ps_if (pt_not (pt_val (pe_call (ok_is_effect (K := K) T) (hr.mono (by decide)) rfl T.g_is_effect T.f_is_effect.kp T.bn_is_effect .nil pass0 (pa_cons (pe_gk rfl T.c_MAX_COLUMNS) (pa_cons (pv 5) pa_nil))))) (pss_one ps_never) pss_nil)
      (pss_one (ps_ret (pv 5)))))))), ?_⟩
    have hln : (effWords kb).length = kb.1.length + 1 := by
      unfold effWords
      rw [List.length_append, List.length_map]
      rfl
    refine q_drop (v := .non) (ev_call (ea_cons (ev_var rfl) ea_nil) (spv_check_text (K := K) _)) fun H1 e1 => ?_
    refine q_asgL (el_split (ev_var rfl) (by decide +kernel) (effText_len ok hz)) fun wl H2 nwl e2 hwl => ?_
    have e12 := e1.trans e2
    rw [eff_split ok] at hwl
    refine q_forE (K := K) (effWords kb) V.str (ea_cons (ev_var rfl) ea_nil) (SqL.of hwl) (fun i σ' H' => (∃ z2 z3 z4, σ' = [some (.str (effText kb)), some (.ref wl), z2, z3, z4, none]) ∧ Same H2 H') (fun H3 e3 => ⟨⟨_, _, _, rfl⟩, e3⟩) (fun i σ' H' p => p.2) (fun i y σ' H' hy ⟨⟨z2, z3, z4, es⟩, s⟩ H3 e3 => ?_) fun σ' H3 ⟨⟨z2, z3, z4, es⟩, s3⟩ => ?_
    · subst es
      have s3 := s.trans e3
      have hw3 := s3 _ _ hwl
      have hil : i < (effWords kb).length := (List.getElem?_eq_some_iff.mp hy).1
      /- the word: its two signs -/
      obtain ⟨c0, z, sg, hz0, hcps, hcz, hsg⟩ : ∃ (c0 : Nat) (z : Str) (sg : Int), z = (if i < kb.1.length then ("01234567" : Str) else "/") ∧ y.cps.toList = [c0, sc sg] ∧ c0 ∈ z.cps.toList ∧ (sg = 1 ∨ sg = -1) := by
        unfold effWords at hy
        by_cases h : i < kb.1.length
        · rw [List.getElem?_append_left (by rw [List.length_map]; exact h), List.getElem?_map] at hy
          cases hp : kb.1[i]? with
          | none => rw [hp] at hy; cases hy
          | some p =>
            rw [hp] at hy
            have hy : wordE p = y := Option.some.inj hy
            obtain ⟨h1, h2⟩ := ok.kc p (List.mem_of_getElem? hp)
            obtain ⟨f1, f2, _⟩ := wordE_cps p.1 (List.mem_range.mpr h1) p.2 (pm_mem h2)
            exact ⟨48 + p.1, _, p.2, by rw [if_pos h], by rw [← hy]; exact f1, f2, h2⟩
        · rw [List.getElem?_append_right (by rw [List.length_map]; omega), List.length_map] at hy
          have hi0 : i - kb.1.length = 0 := by omega
          rw [hi0] at hy
          have hy : ("/" : Str) ++ sgn kb.2 = y := Option.some.inj hy
          obtain ⟨f1, f2⟩ := slash_cps kb.2 (pm_mem ok.bs)
          exact ⟨47, _, kb.2, by rw [if_neg h], by rw [← hy]; exact f1, f2, ok.bs⟩
      have hyl : y.length = 2 := (effWords_ok ok y (List.mem_of_getElem? hy)).1
      refine q_asg (v := .str z) ?_ fun H4 e4 => ?_
      · have ht : EvT (tTest (tOp (rI0 fun i j => .bl (decide (i < j))) (tVar 2) (tOp (rI0 fun i j => .int (i - j)) (tCB (rLenQ K) (tCons (tVar 1) tNil)) (tC (.int 1))))) [some (.str (effText kb)), some (.ref wl), some (nV i), some (.str y), z4, none] H3 (decide (i < kb.1.length)) := et_leaf (ev_op (ev_var rfl) (ev_op (ev_cb (ea_cons (ev_var rfl) ea_nil) (rc_lenM hw3)) ev_c (rv_I0 (g := fun i j => V.int (i - j)))) (rv_I0 (g := fun i j => V.bl (decide (i < j))))) (by rw [hln, Bool.eq_iff_iff, decide_eq_true_eq, decide_eq_true_eq]; omega)
        rw [hz0]
        by_cases h : i < kb.1.length
        · rw [decide_eq_true h] at ht
          rw [if_pos h]
          exact ev_ifT (K := K) ht ev_c
        · rw [decide_eq_false h] at ht
          rw [if_neg h]
          exact ev_ifF (K := K) ht ev_c
      · have hx0 : ∀ {σ : L2.St} {H5 : Hp}, σ[3]? = some (some (.str y)) → Ev (tOp rIxS (tVar 3) (tC (.int 0))) σ H5 (.str ⟨#[c0]⟩) := fun h => ev_op (ev_var h) ev_c (rv_ixS (by omega) (by rw [hcps]; exact atI_nat (j := 0) rfl))
        have hx1 : ∀ {σ : L2.St} {H5 : Hp}, σ[3]? = some (some (.str y)) → Ev (tOp rIxS (tVar 3) (tC (.int 1))) σ H5 (.str ⟨#[sc sg]⟩) := fun h => ev_op (ev_var h) ev_c (rv_ixS (by omega) (by rw [hcps]; exact atI_nat (j := 1) rfl))
        obtain ⟨u, hu, _⟩ := sign_kd T hsg
        refine s_no (et_orF (et_leaf (ev_op (ev_cb (ea_cons (ev_var rfl) ea_nil) (rc_lenS (by omega))) ev_c rv_neI) (by rw [hyl] <;> rfl)) (et_orF (et_leaf (ev_op (hx0 rfl) (ev_var rfl) rv_notInS) (by rw [decide_eq_true hcz] <;> rfl)) (et_leaf (ev_op (hx1 rfl) ev_c (rv_notInKd hu)) rfl))) fun H5 e5 => ⟨⟨_, _, _, rfl⟩, (s3.trans e4).trans e5⟩
    · subst es
      have hw3 := s3 _ _ hwl
      have hmap : (effWords kb).map V.str = kb.1.map (fun p => V.str (wordE p)) ++ [V.str (("/" : Str) ++ sgn kb.2)] := by
        unfold effWords
        rw [List.map_append, List.map_map]
        rfl
      rw [hmap] at hw3
      obtain ⟨g1, g2⟩ := slash_cps kb.2 (pm_mem ok.bs)
      obtain ⟨ub, hub, hrb⟩ := sign_kd T ok.bs
      have hl2 : (("/" : Str) ++ sgn kb.2).length ≤ 100000 := by
        obtain ⟨_, _, _, h, _⟩ := slash_ok kb.2 (pm_mem ok.bs)
        omega
      have hsl : EvL (tSl (rSlL K) (tVar 1) tNoPart (tPart (tUn (rU fun i => .int (-i)) (tC (.int 1))))) [some (.str (effText kb)), some (.ref wl), z2, z3, z4, none] H3 (kb.1.map fun p => V.str (wordE p)) := by
        have := el_sl (K := K) (te := tVar 1) (tl := tNoPart) (th := tPart (tUn (rU fun i => .int (-i)) (tC (.int 1)))) (σ := [some (.str (effText kb)), some (.ref wl), z2, z3, z4, none]) (H := H3) (ev_var rfl) eo_none (eo_some (ev_un ev_c ru_neg)) (SqL.of hw3)
        rw [show cutV _ none (some (-(1 : Int))) = _ from cut_last _ _] at this
        exact this
      refine q_asgX (ex_tup1 (ex_lcN (K := K) kb.1 (fun p => V.str (wordE p)) (fun _ => true) (fun p y H => ∃ t, y = V.ref t ∧ H t = some (.tup [nV p.1, .int p.2])) hsl (by omega) (fun _ _ => et_yes) fun p m _ => ?_) (ev_kd (v := .int kb.2) ev_c (ev_op (ev_op (ev_var rfl) (ev_un ev_c ru_neg) (rv_ixL (SqL.of hw3) (atI_last _ _))) ev_c (rv_ixS hl2 (by rw [g1]; exact atI_nat (j := 1) rfl))) hub hrb)) fun v H4 e4 ⟨t, x, G, ev, k1, k2, ⟨D, zs, ex, nD, hD, pr⟩, nt, ht⟩ => ?_
      · obtain ⟨h1, h2⟩ := ok.kc p m
        obtain ⟨f1, f2, f3, f4⟩ := wordE_cps p.1 (List.mem_range.mpr h1) p.2 (pm_mem h2)
        obtain ⟨u, hu, hr'⟩ := sign_kd T h2
        have hwl2 : (wordE p).length ≤ 100000 := by
          obtain ⟨_, _, _, _, h, _⟩ := wordE_ok p.1 (List.mem_range.mpr h1) p.2 (pm_mem h2)
          have h : (wordE p).length = 2 := h
          omega
        have f1 : (wordE p).cps.toList = [48 + p.1, sc p.2] := f1
        refine made_tup (xs := [nV p.1, .int p.2]) (EvX.ofU (eu_tup (ea_cons (ev_cb (ea_cons (ev_op (ev_var rfl) ev_c (rv_ixS hwl2 (by rw [f1]; exact atI_nat (j := 0) rfl))) ea_nil) (rc_intS f3 f4)) (ea_cons (ev_kd (v := .int p.2) ev_c (ev_op (ev_var rfl) ev_c (rv_ixS hwl2 (by rw [f1]; exact atI_nat (j := 1) rfl))) hu hr') ea_nil)) (by show 2 ≤ 100000; omega))) fun t H ht => ⟨t, rfl, ht⟩
      · subst ev ex
        rw [filter_tt] at pr
        have he : EffAt H4 (.ref t) kb.1 kb.2 := ⟨t, D, zs, rfl, ht, k2 _ _ hD, Paired.mapP pr fun _ _ ⟨t, e, h⟩ => ⟨t, e, k2 _ _ h⟩⟩
        refine q_pass (et_notF (et_B (ev_call (vs := [.int 8, .ref t]) (ea_cons ev_c (ea_cons (ev_var rfl) ea_nil)) fun H5 e5 Q k E => ⟨.ref t, kb, rfl, he.mono e5, ok, hz, k⟩))) fun H5 e5 => ?_
        exact s_ret (ev_var rfl) fun H6 e6 => q _ H6 ((((e12.trans s3).trans e4).trans e5).trans e6) (he.mono (e5.trans e6))
end
end HC


set_option Elab.async false
set_option linter.all false
set_option maxRecDepth 100000
set_option maxHeartbeats 4000000
namespace HC
open PySem PySem.Spec PyProof.Rows L2 Evl
local macro_rules
  | `(tactic| walk_at "ev") => `(tactic| first
    | exact ev_c
    | exact ev_var rfl
    | exact ea_nil
    | exact et_yes
    | exact eo_none
    | exact rv_I0
    | exact rv_eqI
    | exact rv_neI
    | exact rv_eqS
    | exact rv_neS
    | exact rv_eqB
    | exact rv_neB
    | exact rv_isN
    | exact rv_notN
    | exact rv_leS
    | exact rv_ltS
    | exact ru_neg
    | assumption
    | (apply ea_cons <;> walk_at "ev")
    | (apply et_test <;> walk_at "ev")
    | (apply et_B <;> walk_at "ev")
    | (apply et_not <;> walk_at "ev")
    | (apply ev_op <;> walk_at "ev")
    | (apply ev_un <;> walk_at "ev")
    | (apply ev_isi_int (h := kit_int_int) <;> walk_at "ev")
    | (apply ev_isi_int (h := kit_int_bool) <;> walk_at "ev")
    | (apply ev_isi_str (h := kit_str_str) <;> walk_at "ev")
    | (apply ev_isi_lst (h := kit_list_list) <;> walk_at "ev")
    | (apply ev_isi_tup (h := kit_tuple_tuple) <;> walk_at "ev")
    | (apply rc_lenL ; assumption)
    | (apply rc_lenT ; assumption)
    | (apply rc_lenS ; assumption)
    | (apply ev_chain <;> first | walk_at "ev" | (intro _; walk_at "ev"))
    | (apply et_or <;> first | walk_at "ev" | (intro _; walk_at "ev"))
    | (apply et_and <;> first | walk_at "ev" | (intro _; walk_at "ev"))
    | (apply ev_orV <;> first | walk_at "ev" | (intro _; walk_at "ev"))
    | (apply ev_andV <;> first | walk_at "ev" | (intro _; walk_at "ev"))
    | (apply ev_notV <;> walk_at "ev")
    | (apply ev_cb <;> walk_at "ev")
    | (apply eo_some <;> walk_at "ev"))
local macro_rules
  | `(tactic| walk_at "dec") => `(tactic| first
    | assumption
    | exact dnI
    | exact dnS
    | decide +kernel
    | (with_reducible rfl)
    | (simp only [decide_eq_true_eq, Bool.and_eq_true, Bool.not_eq_true', decide_eq_false_iff_not, Bool.not_true, Bool.not_false, Bool.and_eq_false_iff, Bool.or_eq_false_iff, Bool.or_eq_true]; omega)
    | rfl)
local macro_rules
  | `(tactic| walk_at "dt") => `(tactic| first
    | assumption
    | exact et_yes
    | (apply et_orF <;> walk_at "dt")
    | (apply et_andT <;> walk_at "dt")
    | (apply et_notF; walk_at "dt")
    | (apply et_notT; walk_at "dt")
    | (apply et_chT <;> first | walk_at "ev" | walk_at "dec")
    | (apply et_leaf <;> first | walk_at "ev" | walk_at "dec")
    | (apply et_leafB <;> first | walk_at "ev" | walk_at "dec"))
local macro_rules
  | `(tactic| walk_at "pass") => `(tactic| (refine' q_pass ?zzh ?zzk; (case zzh => walk_at "dt")))
local macro_rules
  | `(tactic| walk_at "yes") => `(tactic| ((first | refine' q_yes ?zzh ?zzk | refine' s_yes ?zzh ?zzk); (case zzh => walk_at "dt")))
local macro_rules
  | `(tactic| walk_at "no") => `(tactic| ((first | refine' q_no ?zzh ?zzk | refine' s_no ?zzh ?zzk); (case zzh => walk_at "dt")))
local macro_rules
  | `(tactic| walk_at "ret") => `(tactic| (refine' s_ret (v := _) ?zzh ?zzk; (case zzh => walk_at "ev")))
local macro_rules
  | `(tactic| walk_at "set") => `(tactic| ((first | refine' q_asg (v := _) ?zzh ?zzk | refine' s_asg (v := _) ?zzh ?zzk); (case zzh => walk_at "ev")))
section
variable {P : Program} {w : World} {K : PySem.W.Frag} {mg : Str → Option Value} {base : Heap}
def sp_check_clicks (_ : PySem.W.Frag) : Sp := fun vs H Q _ => ∃ (a : Addr) (cs : List Nat), vs = [.int 8, .ref a] ∧ H a = some (.lst (cs.map nV)) ∧ (∀ c ∈ cs, c < 8) ∧ ∀ H', Same H H' → Q .non H'
/-! check_clicks: slots 0:columns 1:clicks 2:index 3:column -/
theorem sc_check_clicks : FnScope ["columns", "clicks", "index", "column"] ["columns", "clicks"] (defScope s_check_clicks) := ⟨rfl, rfl, rfl, by decide +kernel, rfl, by decide +kernel, by decide +kernel⟩
theorem ok_check_clicks (T : Tp K mg w) : FnOk P w K mg base CX0 2 (a_check_clicks K) (fdAt K (a_check_clicks K)) ["columns", "clicks"] (sp_check_clicks K) := by
  refine T.f_check_clicks.ok sc_check_clicks (fun vs H Q E h => ?_) (fun cdv A outer s H vs Q E hr h => ?_)
  · obtain ⟨a, cs, rfl, ha, hc, q⟩ := h
    rfl
  · obtain ⟨a, cs, rfl, ha, hc, q⟩ := h
    refine ⟨_, PSs.nox (pss_cons (ps_if (pt_not (pt_val (pe_callB (kCR (K := K) (r := rIsi) call_isi rfl) rfl T.b_isinstance (by decide +kernel) (pa_cons (pv 1) (pa_cons (pe_bltn (v := .ty "list") rfl T.b_list (by decide +kernel) rfl) pa_nil))))) (pss_one ps_never) pss_nil)
      (pss_one (ps_for PassesOwn.never rfl (kPI (K := K) (i := fun K => iEnum K _) (pi_enum rfl T.b_enumerate (pa_cons (pv 1) pa_nil)) rfl) (kTup (K := K) (pg_tup (n := 2) rfl (pgs_cons (pg_name (i := 2) sc_check_clicks.nd rfl (Or.inl rfl)) (pgs_cons (pg_name (i := 3) sc_check_clicks.nd rfl (Or.inl rfl)) pgs_nil))) rfl) (pss_one (ps_if (PW.pt (pw_or (pt_not (pt_val (pe_call (ok_is_integer (K := K) T) (hr.mono (by decide)) rfl T.g_is_integer T.f_is_integer.kp T.bn_is_integer .nil pass0 (pa_cons (pv 3) pa_nil)))) (pw_or1 (pt_not (pt_chain op_le op_lt pe_int (pv 3) (pv 0)))))) (pss_one ps_never) pss_nil))))), ?_⟩
    refine q_pass (et_notF (et_B (ev_isi_lst (h := kit_list_list) (ev_var rfl) ha))) fun H1 e1 => ?_
    refine s_forE (K := K) cs nV (ea_cons (ev_var rfl) ea_nil) (SqL.of (e1 _ _ ha)) (fun i σ' H' => (∃ z2 z3, σ' = [some (.int 8), some (.ref a), z2, z3]) ∧ Same H1 H') (fun H2 e2 => ⟨⟨_, _, rfl⟩, e2⟩) (fun i σ' H' p => p.2) (fun i c σ' H' hi ⟨⟨z2, z3, es⟩, s⟩ H2 e2 => ?_) fun σ' H' ⟨_, s⟩ => q H' (e1.trans s)
    subst es
    have h8 := hc c (List.mem_of_getElem? hi)
    exact s_no (et_orF (et_notF (et_B (ev_call (ea_cons (ev_var rfl) ea_nil) (spv_is_integer (K := K) (c : Int))))) (et_notF (et_chT ev_c (ev_var rfl) (rv_I0 (g := fun i j => V.bl (decide (i ≤ j)))) (decide_eq_true (by omega)) (ev_var rfl) (rv_I0 (g := fun i j => V.bl (decide (i < j)))) (decide_eq_true (by omega))))) fun H3 e3 => ⟨⟨_, _, rfl⟩, (s.trans e2).trans e3⟩
def numText (c : Nat) : Str := (toString (c : Int) : Str)
def clickText (cs : List Nat) : Str := Txt.join " " (cs.map numText)
theorem num_ok : ∀ c ∈ List.range 8, (c : Int).natAbs.log2 < 1920 ∧ (numText c).length = 1 ∧ ¬ 32 ∈ (numText c).cps.toList ∧ numText c = ⟨#[48 + c]⟩ ∧ (48 + c) ∈ ("01234567" : Str).cps.toList ∧ PySem.intText? (numText c) = some (c : Int) := by decide +kernel
theorem rc_strI {H : Hp} {i : Int} (h : i.natAbs.log2 < 1920) : RC (fun xs H Q => ∃ i, xs = [V.int i] ∧ i.natAbs.log2 < 1920 ∧ Q (.str (toString i)) H) [.int i] H (.str (toString i)) := fun H1 _ _ q => ⟨i, rfl, h, q H1 (Ex.refl H1)⟩
theorem click_sum {cs : List Nat} (h : ∀ c ∈ cs, c < 8) (hz : cs.length ≤ 900) : ((cs.map numText).map (·.length)).sum + (cs.map numText).length * (" " : Str).length ≤ 1800 := by
  have h2 := sum_len (c := 1) (ys := cs.map numText) fun y m => by
    obtain ⟨c, hc, rfl⟩ := List.mem_map.mp m
    rw [(num_ok c (List.mem_range.mpr (h c hc))).2.1]
    exact Nat.le_refl _
  have h3 : (" " : Str).length = 1 := by decide +kernel
  rw [h3]
  rw [List.length_map] at h2 ⊢
  omega
def sp_format_clicks (_ : PySem.W.Frag) : Sp := fun vs H Q _ => ∃ (a : Addr) (cs : List Nat), vs = [.ref a] ∧ H a = some (.lst (cs.map nV)) ∧ (∀ c ∈ cs, c < 8) ∧ cs.length ≤ 900 ∧ RetV (.str (clickText cs)) H Q
theorem spv_check_clicks {H : Hp} {a : Addr} {cs : List Nat} (ha : H a = some (.lst (cs.map nV))) (hc : ∀ c ∈ cs, c < 8) : SpV (sp_check_clicks K) ([.int 8, .ref a] ++ []) H .non := fun H1 e _ q _ => ⟨a, cs, rfl, e _ _ ha, hc, fun H' s => q H' s⟩
/-- ' '.join([str(c) for c in cs]) -/
theorem ev_clicks {σ : L2.St} {H : Hp} {tl te : TE} {j : Nat} {a : Addr} {cs : List Nat} (hl : Ev tl σ H (.ref a)) (ha : H a = some (.lst (cs.map nV))) (hc : ∀ c ∈ cs, c < 8) (hz : cs.length ≤ 900) (he : ∀ c ∈ cs, Ev te ((wipe σ [j]).set j (some (nV c))) H (.str (numText c))) : Ev (tM1 (rJoin K) (tC (.str " ")) (tLc (iList K tl) (gName j) tYes te [j])) σ H (.str (clickText cs)) := by
  refine ev_join ?_ (Nat.le_trans (click_sum hc hz) (by omega))
  have h := el_lcL (K := K) cs nV (fun _ => true) (fun c => .str (numText c)) hl (SqL.of ha) (by omega) (fun _ _ => et_yes) fun c m _ => he c m
  rw [filter_tt] at h
  rw [List.map_map]
  exact h
/-! format_clicks: slots 0:clicks 1:column -/
theorem sc_format_clicks : FnScope ["clicks", "column"] ["clicks"] (defScope s_format_clicks) := ⟨rfl, rfl, rfl, by decide +kernel, rfl, by decide +kernel, by decide +kernel⟩
theorem ok_format_clicks (T : Tp K mg w) : FnOk P w K mg base CX0 3 (a_format_clicks K) (fdAt K (a_format_clicks K)) ["clicks"] (sp_format_clicks K) := by
  refine T.f_format_clicks.ok sc_format_clicks (fun vs H Q E h => ?_) (fun cdv A outer s H vs Q E hr h => ?_)
  · obtain ⟨a, cs, rfl, ha, hc, hz, q⟩ := h
    rfl
  · obtain ⟨a, cs, rfl, ha, hc, hz, q⟩ := h
    refine ⟨_, PSs.nox (pss_cons (ps_expr (pe_call (ok_check_clicks (K := K) T) (hr.mono (by decide)) rfl T.g_check_clicks T.f_check_clicks.kp T.bn_check_clicks .nil pass0 (pa_cons (pe_gk rfl T.c_MAX_COLUMNS) (pa_cons (pv 0) pa_nil))))
      (pss_one (ps_ret (kJoin (K := K) (pe_join pe_str (pe_lc (own := [("column", 1)]) (g := (gName 1)) rfl sc_format_clicks.nd (kPI (K := K) (i := fun K => iList K _) (pi_list (pv 0)) rfl) (blkOk_by (own := [("column", 1)]) (N := ["clicks", "column"]) (sc := defScope s_format_clicks) (by decide +kernel)) (fun _ _ _ _ _ => (pg_name (i := 1) sc_format_clicks.nd rfl (Or.inl rfl) (.inr rfl))) (fun _ _ _ _ _ => pts_nil) (fun _ _ _ _ _ => (pe_callTy call_str_int rfl T.b_str (by decide +kernel) (pa_cons (pv 1) pa_nil))))) rfl)))), ?_⟩
    refine q_drop (v := .non) (ev_call (vs := [.int 8, .ref a]) (ea_cons ev_c (ea_cons (ev_var rfl) ea_nil)) (spv_check_clicks (K := K) ha hc)) fun H1 e1 => ?_
    exact s_ret (ev_clicks (K := K) (ev_var rfl) (e1 _ _ ha) hc hz fun c m => ev_cb (ea_cons (ev_var rfl) ea_nil) (rc_strI (num_ok c (List.mem_range.mpr (hc c m))).1)) fun H2 e2 => q H2 (e1.trans e2)
def sp_parse_clicks (_ : PySem.W.Frag) : Sp := fun vs H Q _ => ∃ cs : List Nat, vs = [.str (clickText cs)] ∧ (∀ c ∈ cs, c < 8) ∧ cs.length ≤ 900 ∧ RetL (cs.map nV) H Q
theorem click_split {cs : List Nat} (h : ∀ c ∈ cs, c < 8) (hne : cs ≠ []) : Txt.split (clickText cs) " " = cs.map numText :=
  TL.split_join (s := 32) (S := []) (by decide +kernel) (by decide +kernel) (by simpa using hne) fun y m => by
    obtain ⟨c, hc, rfl⟩ := List.mem_map.mp m
    exact (num_ok c (List.mem_range.mpr (h c hc))).2.2.1
theorem click_len {cs : List Nat} (h : ∀ c ∈ cs, c < 8) (hz : cs.length ≤ 900) : (clickText cs).length ≤ 1800 := Nat.le_trans (join_len " " (cs.map numText)) (click_sum h hz)
theorem click_ne {cs : List Nat} (h : ∀ c ∈ cs, c < 8) : decide (V.str (clickText cs) = V.str "") = decide (cs = []) := by
  cases cs with
  | nil => decide +kernel
  | cons c cs =>
    rw [decide_eq_false (p := c :: cs = []) (by simp)]
    refine decide_eq_false fun e => ?_
    have e := V.str.inj e
    have h1 := click_split h (by simp)
    rw [e, show Txt.split ("" : Str) " " = [("" : Str)] by decide +kernel] at h1
    have h2 := congrArg (fun l => l.map (·.length)) h1
    rw [List.map_map] at h2
    have h3 := (num_ok c (List.mem_range.mpr (h c List.mem_cons_self))).2.1
    have h4 := (List.cons.inj h2).1
    have h5 : ("" : Str).length = (numText c).length := h4
    rw [h3] at h5
    exact absurd h5 (by decide +kernel)
/-! parse_clicks: slots 0:text 1:words 2:word -/
theorem sc_parse_clicks : FnScope ["text", "words", "word"] ["text"] (defScope s_parse_clicks) := ⟨rfl, rfl, rfl, by decide +kernel, rfl, by decide +kernel, by decide +kernel⟩
theorem ok_parse_clicks (T : Tp K mg w) : FnOk P w K mg base CX0 2 (a_parse_clicks K) (fdAt K (a_parse_clicks K)) ["text"] (sp_parse_clicks K) := by
  refine T.f_parse_clicks.ok sc_parse_clicks (fun vs H Q E h => ?_) (fun cdv A outer s H vs Q E hr h => ?_)
  · obtain ⟨cs, rfl, hc, hz, q⟩ := h
    rfl
  · obtain ⟨cs, rfl, hc, hz, q⟩ := h
    refine ⟨_, PSs.nox (pss_cons (ps_expr (pe_call (ok_check_text (K := K) T) (hr.mono (by decide)) rfl T.g_check_text T.f_check_text.kp T.bn_check_text .nil pass0 (pa_cons (pv 0) pa_nil)))
      (pss_cons (ps_set (i := 1) sc_parse_clicks.nd rfl (Or.inl rfl) (pe_ifExp (pt_cmpR op_ne (pv 0) pe_str (nomark _)) (pe_split (pv 0) pe_str) (pe_lst pa_nil)))
      (pss_cons (ps_if (pt_not (pt_val (pe_callB (kCR (K := K) (r := rAll) (cr_all rfl) rfl) rfl T.b_all (by decide +kernel) (pa_cons (pe_lc (own := [("word", 2)]) (g := (gName 2)) rfl sc_parse_clicks.nd (kPI (K := K) (i := fun K => iList K _) (pi_list (pv 1)) rfl) (blkOk_by (own := [("word", 2)]) (N := ["text", "words", "word"]) (sc := defScope s_parse_clicks) (by decide +kernel)) (fun _ _ _ _ _ => (pg_name (i := 2) sc_parse_clicks.nd rfl (Or.inl rfl) (.inr rfl))) (fun _ _ _ _ _ => pts_nil) (fun _ _ _ _ _ => (pe_and (pe_cmpR op_eq (pe_callB call_len_str rfl T.b_len (by decide +kernel) (pa_cons (pv 2) pa_nil)) pe_int (nomark _)) (pe_one (pe_cmpR op_in_sign (pv 2) (pe_gk rfl T.c_COLUMNS) rfl))))) pa_nil)))) (pss_one ps_never) pss_nil)
      (pss_one (ps_ret (pe_lc (own := [("word", 2)]) (g := (gName 2)) rfl sc_parse_clicks.nd (kPI (K := K) (i := fun K => iList K _) (pi_list (pv 1)) rfl) (blkOk_by (own := [("word", 2)]) (N := ["text", "words", "word"]) (sc := defScope s_parse_clicks) (by decide +kernel)) (fun _ _ _ _ _ => (pg_name (i := 2) sc_parse_clicks.nd rfl (Or.inl rfl) (.inr rfl))) (fun _ _ _ _ _ => pts_nil) (fun _ _ _ _ _ => (pe_callTy call_int_str rfl T.b_int (by decide +kernel) (pa_cons (pv 2) pa_nil))))))))), ?_⟩
    refine q_drop (v := .non) (ev_call (ea_cons (ev_var rfl) ea_nil) (spv_check_text (K := K) _)) fun H1 e1 => ?_
    refine q_asgL (xs := (cs.map numText).map V.str) ?_ fun wl H2 nwl e2 hwl => ?_
    · have ht := et_leaf (ev_op (ev_var (i := 0) (σ := L2.start ["text", "words", "word"] [.str (clickText cs)]) (H := H1) (v := .str (clickText cs)) rfl) (ev_c (v := .str "")) rv_neS) (congrArg not (click_ne hc))
      by_cases h : cs = []
      · rw [decide_eq_true h] at ht
        subst h
        exact el_ifF ht el_nil
      · rw [decide_eq_false h] at ht
        have := el_split (te := tVar 0) (b := " ") (σ := L2.start ["text", "words", "word"] [.str (clickText cs)]) (H := H1) (ev_var rfl) (by decide +kernel) (Nat.le_trans (click_len hc hz) (by omega))
        rw [click_split hc h] at this
        exact el_ifT ht this
    · have e12 := e1.trans e2
      rw [List.map_map] at hwl
      have ln1 : ∀ c ∈ cs, (numText c).length = 1 := fun c m => (num_ok c (List.mem_range.mpr (hc c m))).2.1
      refine q_pass (et_notF (et_B (ev_allL (K := K) cs (V.str ∘ numText) (ev_var rfl) (SqL.of hwl) (by omega) fun c m => ?_))) fun H3 e3 => ?_
      · obtain ⟨_, h1, _, h3, h4, _⟩ := num_ok c (List.mem_range.mpr (hc c m))
        refine ev_is (ev_andV (ev_op (ev_cb (ea_cons (ev_var rfl) ea_nil) (rc_lenS (by omega))) ev_c rv_eqI) fun _ => ev_op (ev_is (ev_var rfl) (congrArg V.str h3)) ev_c rv_inS) ?_
        rw [h1, decide_eq_true h4]
        rfl
      · have h := el_lcL (K := K) (tt := tYes) (j := 2) (te := tCB (fun xs H Q => ∃ a n, xs = [V.str a] ∧ PySem.intText? a = some n ∧ a.length ≤ 640 ∧ Q (.int n) H) (tCons (tVar 2) tNil)) (tl := tVar 1) (σ := [some (.str (clickText cs)), some (.ref wl), none]) (H := H3) cs (V.str ∘ numText) (fun _ => true) nV (ev_var rfl) (SqL.of (e3 _ _ hwl)) (by omega) (fun _ _ => et_yes) fun c m _ => ev_cb (ea_cons (ev_var rfl) ea_nil) (rc_intS (num_ok c (List.mem_range.mpr (hc c m))).2.2.2.2.2 (by rw [ln1 c m]; omega))
        rw [filter_tt] at h
        exact s_retL h fun p H4 np e4 hp => RetL.go q (e12.trans e3) np e4 hp
end
end HC


set_option Elab.async false
set_option linter.all false
set_option maxRecDepth 100000
set_option maxHeartbeats 4000000
namespace HC
open PySem PySem.Spec PyProof.Rows L2 Evl
local macro_rules
  | `(tactic| walk_at "ev") => `(tactic| first
    | exact ev_c
    | exact ev_var rfl
    | exact ea_nil
    | exact et_yes
    | exact eo_none
    | exact rv_I0
    | exact rv_eqI
    | exact rv_neI
    | exact rv_eqS
    | exact rv_neS
    | exact rv_eqB
    | exact rv_neB
    | exact rv_isN
    | exact rv_notN
    | exact rv_leS
    | exact rv_ltS
    | exact ru_neg
    | assumption
    | (apply ea_cons <;> walk_at "ev")
    | (apply et_test <;> walk_at "ev")
    | (apply et_B <;> walk_at "ev")
    | (apply et_not <;> walk_at "ev")
    | (apply ev_op <;> walk_at "ev")
    | (apply ev_un <;> walk_at "ev")
    | (apply ev_isi_int (h := kit_int_int) <;> walk_at "ev")
    | (apply ev_isi_int (h := kit_int_bool) <;> walk_at "ev")
    | (apply ev_isi_str (h := kit_str_str) <;> walk_at "ev")
    | (apply ev_isi_lst (h := kit_list_list) <;> walk_at "ev")
    | (apply ev_isi_tup (h := kit_tuple_tuple) <;> walk_at "ev")
    | (apply rc_lenL ; assumption)
    | (apply rc_lenT ; assumption)
    | (apply rc_lenS ; assumption)
    | (apply ev_chain <;> first | walk_at "ev" | (intro _; walk_at "ev"))
    | (apply et_or <;> first | walk_at "ev" | (intro _; walk_at "ev"))
    | (apply et_and <;> first | walk_at "ev" | (intro _; walk_at "ev"))
    | (apply ev_orV <;> first | walk_at "ev" | (intro _; walk_at "ev"))
    | (apply ev_andV <;> first | walk_at "ev" | (intro _; walk_at "ev"))
    | (apply ev_notV <;> walk_at "ev")
    | (apply ev_cb <;> walk_at "ev")
    | (apply eo_some <;> walk_at "ev"))
local macro_rules
  | `(tactic| walk_at "dec") => `(tactic| first
    | assumption
    | exact dnI
    | exact dnS
    | decide +kernel
    | (with_reducible rfl)
    | (simp only [decide_eq_true_eq, Bool.and_eq_true, Bool.not_eq_true', decide_eq_false_iff_not, Bool.not_true, Bool.not_false, Bool.and_eq_false_iff, Bool.or_eq_false_iff, Bool.or_eq_true]; omega)
    | rfl)
local macro_rules
  | `(tactic| walk_at "dt") => `(tactic| first
    | assumption
    | exact et_yes
    | (apply et_orF <;> walk_at "dt")
    | (apply et_andT <;> walk_at "dt")
    | (apply et_notF; walk_at "dt")
    | (apply et_notT; walk_at "dt")
    | (apply et_chT <;> first | walk_at "ev" | walk_at "dec")
    | (apply et_leaf <;> first | walk_at "ev" | walk_at "dec")
    | (apply et_leafB <;> first | walk_at "ev" | walk_at "dec"))
local macro_rules
  | `(tactic| walk_at "pass") => `(tactic| (refine' q_pass ?zzh ?zzk; (case zzh => walk_at "dt")))
local macro_rules
  | `(tactic| walk_at "yes") => `(tactic| ((first | refine' q_yes ?zzh ?zzk | refine' s_yes ?zzh ?zzk); (case zzh => walk_at "dt")))
local macro_rules
  | `(tactic| walk_at "no") => `(tactic| ((first | refine' q_no ?zzh ?zzk | refine' s_no ?zzh ?zzk); (case zzh => walk_at "dt")))
local macro_rules
  | `(tactic| walk_at "ret") => `(tactic| (refine' s_ret (v := _) ?zzh ?zzk; (case zzh => walk_at "ev")))
local macro_rules
  | `(tactic| walk_at "set") => `(tactic| ((first | refine' q_asg (v := _) ?zzh ?zzk | refine' s_asg (v := _) ?zzh ?zzk); (case zzh => walk_at "ev")))
section
variable {P : Program} {w : World} {K : PySem.W.Frag} {mg : Str → Option Value} {base : Heap}
/-- a cell's text -/
def cellT : V → Str
  | .int i => (toString i : Str)
  | .str s => s
  | _ => ""
theorem numT_ok : ∀ i ∈ numCells, i.natAbs.log2 < 1920 ∧ (toString i : Str).length ≤ 30 ∧ ¬ 124 ∈ (toString i : Str).cps.toList ∧ ¬ 10 ∈ (toString i : Str).cps.toList ∧ (toString i : Str) ≠ "" ∧ PySem.intText? (toString i : Str) = some i := by decide +kernel
theorem txtT_ok : ∀ s ∈ txtCells, s.length ≤ 30 ∧ ¬ 124 ∈ s.cps.toList ∧ ¬ 10 ∈ s.cps.toList ∧ s ≠ "" := by decide +kernel
theorem cellT_ok {k : Kind} {v : V} (h : CellOk k v) : (cellT v).length ≤ 30 ∧ ¬ 124 ∈ (cellT v).cps.toList ∧ ¬ 10 ∈ (cellT v).cps.toList := by
  cases h with
  | non => exact ⟨by decide +kernel, by decide +kernel, by decide +kernel⟩
  | num i hi => exact ⟨(numT_ok i hi).2.1, (numT_ok i hi).2.2.1, (numT_ok i hi).2.2.2.1⟩
  | str k s hk hs => exact ⟨(txtT_ok s hs).1, (txtT_ok s hs).2.1, (txtT_ok s hs).2.2.1⟩
/-- '' if c is None else str(c) -/
theorem ev_cellT {σ : L2.St} {H : Hp} {ta : TE} {k : Kind} {v : V} (ha : Ev ta σ H v) (h : CellOk k v) : Ev (tIf (tTest (tOp rIsNon ta (tC .non))) (tC (.str "")) (tCB (fun xs H Q => (∃ i, xs = [V.int i] ∧ i.natAbs.log2 < 1920 ∧ Q (.str (toString i)) H) ∨ ∃ a, xs = [V.str a] ∧ Q (.str a) H) (tCons ta tNil))) σ H (.str (cellT v)) := by
  cases h with
  | non => exact ev_if (b := true) (et_leaf (ev_op ha ev_c rv_isN) (by decide +kernel)) (fun _ => ev_c) fun h => nomatch h
  | num i hi => exact ev_if (b := false) (et_leaf (ev_op ha ev_c rv_isN) dnI) (fun h => nomatch h) fun _ => (ev_cb (ea_cons ha ea_nil) fun H1 _ _ q => .inl ⟨i, rfl, (numT_ok i hi).1, q H1 (Ex.refl H1)⟩)
  | str k s hk hs => exact ev_if (b := false) (et_leaf (ev_op ha ev_c rv_isN) dnS) (fun h => nomatch h) fun _ => (ev_cb (ea_cons ha ea_nil) fun H1 _ _ q => .inr ⟨s, rfl, q H1 (Ex.refl H1)⟩)
def sp_cell_text (_ : PySem.W.Frag) : Sp := fun vs H Q _ => ∃ (k : Kind) (v : V), vs = [v] ∧ CellOk k v ∧ RetV (.str (cellT v)) H Q
/-! cell_text: slots 0:cell -/
theorem sc_cell_text : FnScope ["cell"] ["cell"] (defScope s_cell_text) := ⟨rfl, rfl, rfl, by decide +kernel, rfl, by decide +kernel, by decide +kernel⟩
theorem ok_cell_text (T : Tp K mg w) : FnOk P w K mg base CX0 1 (a_cell_text K) (fdAt K (a_cell_text K)) ["cell"] (sp_cell_text K) := by
  refine T.f_cell_text.ok sc_cell_text (fun vs H Q E h => ?_) (fun cdv A outer s H vs Q E hr h => ?_)
  · obtain ⟨k, v, rfl, ok, q⟩ := h
    rfl
  · obtain ⟨k, v, rfl, ok, q⟩ := h
    refine ⟨_, PSs.nox (pss_one (ps_ret (pe_ifExp (pt_cmpR op_isN (pv 0) pe_non (nomark _)) pe_str (pe_callTy (CallR_or call_str_int SkE.call_str_str) rfl T.b_str (by decide +kernel) (pa_cons (pv 0) pa_nil))))), ?_⟩
    exact s_ret (ev_cellT (ev_var rfl) ok) q
def rowT (row : List V) : Str := Txt.join "|" (row.map cellT)
theorem row_sum {ks : List Kind} {row : List V} (ok : RowOk ks row) (hk : ks.length ≤ 8) : ((row.map cellT).map (·.length)).sum + (row.map cellT).length * ("|" : Str).length ≤ 248 := by
  have h2 := sum_len (c := 30) (ys := row.map cellT) fun y m => by
    obtain ⟨v, hv, rfl⟩ := List.mem_map.mp m
    obtain ⟨k, _, h⟩ := paired_mem ok hv
    exact (cellT_ok h).1
  have h3 : ("|" : Str).length = 1 := by decide +kernel
  have h4 := Paired.length ok
  rw [h3]
  rw [List.length_map] at h2 ⊢
  omega
theorem ev_rowT {σ : L2.St} {H : Hp} {tl te : TE} {j : Nat} {a : Addr} {ks : List Kind} {row : List V} (hl : Ev tl σ H (.ref a)) (ha : H a = some (.lst row)) (ok : RowOk ks row) (hk : ks.length ≤ 8) (he : ∀ v ∈ row, ∀ k, CellOk k v → Ev te ((wipe σ [j]).set j (some v)) H (.str (cellT v))) : Ev (tM1 (rJoin K) (tC (.str "|")) (tLc (iList K tl) (gName j) tYes te [j])) σ H (.str (rowT row)) := by
  refine ev_join ?_ (Nat.le_trans (row_sum ok hk) (by omega))
  have hn := Paired.length ok
  have h := el_lcL (K := K) row id (fun _ => true) (fun v => .str (cellT v)) hl (by rw [List.map_id]; exact SqL.of ha) (by omega) (fun _ _ => et_yes) fun v m _ => by
    obtain ⟨k, _, h⟩ := paired_mem ok m
    exact he v m k h
  rw [filter_tt] at h
  rw [List.map_map]
  exact h
def sp_law_line (_ : PySem.W.Frag) : Sp := fun vs H Q _ => ∃ (a : Addr) (ks : List Kind) (row : List V), vs = [.ref a] ∧ H a = some (.lst row) ∧ RowOk ks row ∧ ks.length ≤ 8 ∧ RetV (.str (rowT row)) H Q
/-! _law_line: slots 0:_law_cells 1:_law_cell_here -/
theorem sc_law_line : FnScope ["_law_cells", "_law_cell_here"] ["_law_cells"] (defScope s_law_line) := ⟨rfl, rfl, rfl, by decide +kernel, rfl, by decide +kernel, by decide +kernel⟩
theorem ok_law_line (T : Tp K mg w) : FnOk P w K mg base CX0 1 (a_law_line K) (fdAt K (a_law_line K)) ["_law_cells"] (sp_law_line K) := by
  refine T.f_law_line.ok sc_law_line (fun vs H Q E h => ?_) (fun cdv A outer s H vs Q E hr h => ?_)
  · obtain ⟨a, ks, row, rfl, ha, ok, hk, q⟩ := h
    rfl
  · obtain ⟨a, ks, row, rfl, ha, ok, hk, q⟩ := h
    refine ⟨_, PSs.nox (pss_one (ps_ret (kJoin (K := K) (pe_join pe_str (pe_lc (own := [("_law_cell_here", 1)]) (g := (gName 1)) rfl sc_law_line.nd (kPI (K := K) (i := fun K => iList K _) (pi_list (pv 0)) rfl) (blkOk_by (own := [("_law_cell_here", 1)]) (N := ["_law_cells", "_law_cell_here"]) (sc := defScope s_law_line) (by decide +kernel)) (fun _ _ _ _ _ => (pg_name (i := 1) sc_law_line.nd rfl (Or.inl rfl) (.inr rfl))) (fun _ _ _ _ _ => pts_nil) (fun _ _ _ _ _ => (pe_ifExp (pt_cmpR op_isN (pv 1) pe_non (nomark _)) pe_str (pe_callTy (CallR_or call_str_int SkE.call_str_str) rfl T.b_str (by decide +kernel) (pa_cons (pv 1) pa_nil)))))) rfl))), ?_⟩
    exact s_ret (ev_rowT (K := K) (ev_var rfl) ha ok hk fun v m k h => ev_cellT (ev_var rfl) h) q
end
end HC


set_option Elab.async false
set_option linter.all false
set_option maxRecDepth 100000
set_option maxHeartbeats 4000000
namespace HC
open PySem PySem.Spec PyProof.Rows L2 Evl
local macro_rules
  | `(tactic| walk_at "ev") => `(tactic| first
    | exact ev_c
    | exact ev_var rfl
    | exact ea_nil
    | exact et_yes
    | exact eo_none
    | exact rv_I0
    | exact rv_eqI
    | exact rv_neI
    | exact rv_eqS
    | exact rv_neS
    | exact rv_eqB
    | exact rv_neB
    | exact rv_isN
    | exact rv_notN
    | exact rv_leS
    | exact rv_ltS
    | exact ru_neg
    | assumption
    | (apply ea_cons <;> walk_at "ev")
    | (apply et_test <;> walk_at "ev")
    | (apply et_B <;> walk_at "ev")
    | (apply et_not <;> walk_at "ev")
    | (apply ev_op <;> walk_at "ev")
    | (apply ev_un <;> walk_at "ev")
    | (apply ev_isi_int (h := kit_int_int) <;> walk_at "ev")
    | (apply ev_isi_int (h := kit_int_bool) <;> walk_at "ev")
    | (apply ev_isi_str (h := kit_str_str) <;> walk_at "ev")
    | (apply ev_isi_lst (h := kit_list_list) <;> walk_at "ev")
    | (apply ev_isi_tup (h := kit_tuple_tuple) <;> walk_at "ev")
    | (apply rc_lenL ; assumption)
    | (apply rc_lenT ; assumption)
    | (apply rc_lenS ; assumption)
    | (apply ev_chain <;> first | walk_at "ev" | (intro _; walk_at "ev"))
    | (apply et_or <;> first | walk_at "ev" | (intro _; walk_at "ev"))
    | (apply et_and <;> first | walk_at "ev" | (intro _; walk_at "ev"))
    | (apply ev_orV <;> first | walk_at "ev" | (intro _; walk_at "ev"))
    | (apply ev_andV <;> first | walk_at "ev" | (intro _; walk_at "ev"))
    | (apply ev_notV <;> walk_at "ev")
    | (apply ev_cb <;> walk_at "ev")
    | (apply eo_some <;> walk_at "ev"))
local macro_rules
  | `(tactic| walk_at "dec") => `(tactic| first
    | assumption
    | exact dnI
    | exact dnS
    | decide +kernel
    | (with_reducible rfl)
    | (simp only [decide_eq_true_eq, Bool.and_eq_true, Bool.not_eq_true', decide_eq_false_iff_not, Bool.not_true, Bool.not_false, Bool.and_eq_false_iff, Bool.or_eq_false_iff, Bool.or_eq_true]; omega)
    | rfl)
local macro_rules
  | `(tactic| walk_at "dt") => `(tactic| first
    | assumption
    | exact et_yes
    | (apply et_orF <;> walk_at "dt")
    | (apply et_andT <;> walk_at "dt")
    | (apply et_notF; walk_at "dt")
    | (apply et_notT; walk_at "dt")
    | (apply et_chT <;> first | walk_at "ev" | walk_at "dec")
    | (apply et_leaf <;> first | walk_at "ev" | walk_at "dec")
    | (apply et_leafB <;> first | walk_at "ev" | walk_at "dec"))
local macro_rules
  | `(tactic| walk_at "pass") => `(tactic| (refine' q_pass ?zzh ?zzk; (case zzh => walk_at "dt")))
local macro_rules
  | `(tactic| walk_at "yes") => `(tactic| ((first | refine' q_yes ?zzh ?zzk | refine' s_yes ?zzh ?zzk); (case zzh => walk_at "dt")))
local macro_rules
  | `(tactic| walk_at "no") => `(tactic| ((first | refine' q_no ?zzh ?zzk | refine' s_no ?zzh ?zzk); (case zzh => walk_at "dt")))
local macro_rules
  | `(tactic| walk_at "ret") => `(tactic| (refine' s_ret (v := _) ?zzh ?zzk; (case zzh => walk_at "ev")))
local macro_rules
  | `(tactic| walk_at "set") => `(tactic| ((first | refine' q_asg (v := _) ?zzh ?zzk | refine' s_asg (v := _) ?zzh ?zzk); (case zzh => walk_at "ev")))
section
variable {P : Program} {w : World} {K : PySem.W.Frag} {mg : Str → Option Value} {base : Heap}
theorem ev_slS {σ : L2.St} {H : Hp} {te : TE} {z : Str} {tl th : TO} {lo hi : Option Int} (h : Ev te σ H (.str z)) (hz : z.length ≤ 100000) (hl : ∀ H1 Q, Ex H H1 → (∀ H2, Ex H1 H2 → Q lo H2) → tl σ H1 Q) (hh : ∀ H1 Q, Ex H H1 → (∀ H2, Ex H1 H2 → Q hi H2) → th σ H1 Q) : Ev (tSl rSlS te tl th) σ H (.str (cutS z lo hi)) := fun H1 e Q q =>
  h H1 e _ fun H2 e2 => hl H2 _ (e.trans e2) fun H3 e3 => hh H3 _ ((e.trans e2).trans e3) fun H4 e4 => ⟨z, rfl, sz_of hz, q H4 ((e2.trans e3).trans e4)⟩
theorem eoS_none {σ : L2.St} {H : Hp} : ∀ H1 Q, Ex H H1 → (∀ H2, Ex H1 H2 → Q none H2) → tNoPart σ H1 Q := fun H1 Q _ q => q H1 (Ex.refl H1)
theorem eoS_some {σ : L2.St} {H : Hp} {i : Int} : ∀ H1 Q, Ex H H1 → (∀ H2, Ex H1 H2 → Q (some i) H2) → tPart (tC (.int i)) σ H1 Q := fun H1 Q _ q => ⟨i, rfl, q H1 (Ex.refl H1)⟩
theorem ev_allS {σ : L2.St} {H : Hp} {j : Nat} {tl te : TE} {z : Str} (hl : ∀ H1 (C : VK), C (.str z) H1 → tl σ H1 C) (hz : z.length ≤ 100000) (he : ∀ c, c ∈ z.cps.toList → Ev te ((wipe σ [j]).set j (some (.str ⟨#[c]⟩))) H (.bl true)) : Ev (tCB (rAll K) (tCons (tLc (iStr tl) (gName j) tYes te [j]) tNil)) σ H (.bl true) := fun H1 e Q q =>
  tall_str z (fun C k => hl H1 C k) hz (fun c H2 m s C k => he c m H2 (e.trans s) _ fun H3 e3 => k H3 e3) fun H2 s => q H2 s
theorem ev_orV {σ : L2.St} {H : Hp} {ta tb : TE} {a : Bool} (h : Ev ta σ H (.bl a)) (k : a = false → Ev tb σ H (.bl true)) : Ev (tOrV ta tb) σ H (.bl true) := fun H1 e Q q =>
  h H1 e _ fun H2 e2 => ⟨a, rfl, by
    cases a with
    | true => exact iteT (q H2 e2)
    | false => exact iteF (k rfl H2 (e.trans e2) Q fun H3 e3 => q H3 (e2.trans e3))⟩
/-- word[1:] if word[:1] == '-' else word -/
def digT (w : Str) : Str := if w.cps.toList.head? = some 45 then cutS w (some 1) none else w
theorem digT_ok : ∀ i ∈ numCells, decide (V.str (cutS (toString i : Str) none (some 1)) = V.str "-") = decide ((toString i : Str).cps.toList.head? = some 45) ∧ 1 ≤ (digT (toString i : Str)).length ∧ (digT (toString i : Str)).length ≤ 30 ∧ (∀ c ∈ (digT (toString i : Str)).cps.toList, c ∈ ("0123456789" : Str).cps.toList) ∧ (∃ c, (digT (toString i : Str)).cps.toList[0]? = some c ∧ ((⟨#[c]⟩ : Str) ≠ "0" ∨ (toString i : Str) = "0")) := by decide +kernel
def sp_is_integer_text (_ : PySem.W.Frag) : Sp := fun vs H Q _ => ∃ i : Int, vs = [.str (toString i : Str)] ∧ i ∈ numCells ∧ RetV (.bl true) H Q
/-! is_integer_text: slots 0:word 1:digits 2:digit -/
theorem sc_is_integer_text : FnScope ["word", "digits", "digit"] ["word"] (defScope s_is_integer_text) := ⟨rfl, rfl, rfl, by decide +kernel, rfl, by decide +kernel, by decide +kernel⟩
theorem ok_is_integer_text (T : Tp K mg w) : FnOk P w K mg base CX0 1 (a_is_integer_text K) (fdAt K (a_is_integer_text K)) ["word"] (sp_is_integer_text K) := by
  refine T.f_is_integer_text.ok sc_is_integer_text (fun vs H Q E h => ?_) (fun cdv A outer s H vs Q E hr h => ?_)
  · obtain ⟨i, rfl, hi, q⟩ := h
    rfl
  · obtain ⟨i, rfl, hi, q⟩ := h
    refine ⟨_, PSs.nox (pss_cons (ps_set (i := 1) sc_is_integer_text.nd rfl (Or.inl rfl) (pe_ifExp (pt_cmpR op_eq (pe_slice sl_str (pv 0) po_none (po_some pe_int)) pe_str (nomark _)) (pe_slice sl_str (pv 0) (po_some pe_int) po_none) (pv 0)))
      (pss_cons (ps_if (PW.pt (pw_or (pt_not (pt_chain op_le op_le pe_int (pe_callB call_len_str rfl T.b_len (by decide +kernel) (pa_cons (pv 1) pa_nil)) (pe_gk rfl T.c_MAX_DIGITS))) (pw_or1 (pt_not (pt_val (pe_callB (kCR (K := K) (r := rAll) (cr_all rfl) rfl) rfl T.b_all (by decide +kernel) (pa_cons (pe_lc (own := [("digit", 2)]) (g := (gName 2)) rfl sc_is_integer_text.nd (pi_str (pv 1)) (blkOk_by (own := [("digit", 2)]) (N := ["word", "digits", "digit"]) (sc := defScope s_is_integer_text) (by decide +kernel)) (fun _ _ _ _ _ => (pg_name (i := 2) sc_is_integer_text.nd rfl (Or.inl rfl) (.inr rfl))) (fun _ _ _ _ _ => pts_nil) (fun _ _ _ _ _ => (pe_cmpR op_in_sign (pv 2) (pe_gk rfl T.c_DIGITS) rfl))) pa_nil))))))) (pss_one (ps_ret pe_bl)) pss_nil)
      (pss_one (ps_ret (pe_or (pe_cmpR op_ne (pe_ix ix_str (pv 1) pe_int (fun _ _ => rfl)) pe_str (nomark _)) (pe_one (pe_cmpR op_eq (pv 0) pe_str (nomark _)))))))), ?_⟩
    obtain ⟨f1, f2, f3, f4, c, f5, f6⟩ := digT_ok i hi
    have hw : (toString i : Str).length ≤ 100000 := by have := (numT_ok i hi).2.1; omega
    refine q_asg (v := .str (digT (toString i : Str))) ?_ fun H1 e1 => ?_
    · have ht : EvT (tTest (tOp rEq (tSl rSlS (tVar 0) tNoPart (tPart (tC (.int 1)))) (tC (.str "-")))) [some (.str (toString i : Str)), none, none] H (decide ((toString i : Str).cps.toList.head? = some 45)) := et_leaf (ev_op (ev_slS (ev_var rfl) hw eoS_none eoS_some) ev_c rv_eqS) f1
      unfold digT
      by_cases h : (toString i : Str).cps.toList.head? = some 45
      · rw [decide_eq_true h] at ht
        rw [if_pos h]
        exact ev_ifT (K := K) ht (ev_slS (ev_var rfl) hw eoS_some eoS_none)
      · rw [decide_eq_false h] at ht
        rw [if_neg h]
        exact ev_ifF (K := K) ht (ev_var rfl)
    · refine q_pass ?_ fun H2 e2 => ?_
      · refine et_orF (et_notF (et_chT ev_c (ev_cb (ea_cons (ev_var rfl) ea_nil) (rc_lenS (by omega))) (rv_I0 (g := fun i j => V.bl (decide (i ≤ j)))) (decide_eq_true (by omega)) ev_c (rv_I0 (g := fun i j => V.bl (decide (i ≤ j)))) (decide_eq_true (by omega)))) (et_notF (et_B (ev_allS (K := K) (fun H1 C k => ⟨_, rfl, k⟩) (by omega) fun c m => ev_is (ev_op (ev_var rfl) ev_c rv_inS) (congrArg V.bl (decide_eq_true (f4 c m))))))
      · refine s_ret (v := .bl true) ?_ fun H3 e3 => q H3 ((e1.trans e2).trans e3)
        have hx : Ev (tOp rNe (tOp rIxS (tVar 1) (tC (.int 0))) (tC (.str "0"))) [some (.str (toString i : Str)), some (.str (digT (toString i : Str))), none] H2 (.bl (!decide (V.str ⟨#[c]⟩ = V.str "0"))) := ev_op (ev_op (ev_var rfl) ev_c (rv_ixS (by omega) (atI_nat (j := 0) f5))) ev_c rv_neS
        rcases f6 with f6 | f6
        · exact ev_orV hx fun h => absurd h (by rw [decide_eq_false fun e => f6 (V.str.inj e)] <;> decide)
        · exact ev_orV hx fun _ => ev_is (ev_op (ev_var rfl) ev_c rv_eqS) (congrArg V.bl (decide_eq_true (congrArg V.str f6)))
def sp_parse_cell (_ : PySem.W.Frag) : Sp := fun vs H Q _ => ∃ (k : Kind) (v : V), vs = [k.v, .str (cellT v)] ∧ CellOk k v ∧ RetV v H Q
/-! parse_cell: slots 0:kind 1:word -/
theorem sc_parse_cell : FnScope ["kind", "word"] ["kind", "word"] (defScope s_parse_cell) := ⟨rfl, rfl, rfl, by decide +kernel, rfl, by decide +kernel, by decide +kernel⟩
theorem ok_parse_cell (T : Tp K mg w) : FnOk P w K mg base CX0 2 (a_parse_cell K) (fdAt K (a_parse_cell K)) ["kind", "word"] (sp_parse_cell K) := by
  refine T.f_parse_cell.ok sc_parse_cell (fun vs H Q E h => ?_) (fun cdv A outer s H vs Q E hr h => ?_)
  · obtain ⟨k, v, rfl, ok, q⟩ := h
    rfl
  · obtain ⟨k, v, rfl, ok, q⟩ := h
    refine ⟨_, PSs.nox (pss_cons (ps_if (pt_cmpR op_eq (pv 1) pe_str (nomark _)) (pss_one (ps_ret pe_non)) pss_nil)
      (pss_cons (ps_if (pt_cmpR op_ne (pv 0) (pe_gk rfl T.c_NUMBER) (nomark _)) (pss_one (ps_ret (pv 1))) pss_nil)
      (pss_cons (ps_if (pt_not (pt_val (pe_call (ok_is_integer_text (K := K) T) (hr.mono (by decide)) rfl T.g_is_integer_text T.f_is_integer_text.kp T.bn_is_integer_text .nil pass0 (pa_cons (pv 1) pa_nil)))) (pss_one ps_never) pss_nil)
      (pss_one (ps_ret (pe_callTy call_int_str rfl T.b_int (by decide +kernel) (pa_cons (pv 1) pa_nil))))))), ?_⟩
    cases ok with
    | non => exact s_yes (et_leaf (ev_op (ev_var rfl) ev_c rv_eqS) rfl) fun H1 e1 => s_ret ev_c fun H2 e2 => q H2 (e1.trans e2)
    | num i hi =>
      obtain ⟨_, f2, _, _, f5, f6⟩ := numT_ok i hi
      refine q_pass (et_leaf (ev_op (ev_var rfl) ev_c rv_eqS) (decide_eq_false fun e => f5 (V.str.inj e))) fun H1 e1 => ?_
      refine q_pass (et_leaf (ev_op (ev_var rfl) ev_c rv_neS) (by decide +kernel)) fun H2 e2 => ?_
      refine q_pass (et_notF (et_B (ev_call (vs := [.str (toString i : Str)]) (ea_cons (ev_var rfl) ea_nil) fun H3 e Q k E => ⟨i, rfl, hi, k⟩))) fun H3 e3 => ?_
      exact s_ret (ev_cb (ea_cons (ev_var rfl) ea_nil) (rc_intS f6 (show (toString i : Str).length ≤ 640 by omega))) fun H4 e4 => q H4 (((e1.trans e2).trans e3).trans e4)
    | str k s hk hs =>
      obtain ⟨_, _, _, f5⟩ := txtT_ok s hs
      refine q_pass (et_leaf (ev_op (ev_var rfl) ev_c rv_eqS) (decide_eq_false fun e => f5 (V.str.inj e))) fun H1 e1 => ?_
      exact s_yes (et_leaf (ev_op (ev_var rfl) ev_c rv_neS) (by cases k <;> first | exact absurd rfl hk | decide +kernel)) fun H2 e2 => s_ret (ev_var rfl) fun H3 e3 => q H3 ((e1.trans e2).trans e3)
end
end HC


set_option Elab.async false
set_option linter.all false
set_option maxRecDepth 100000
set_option maxHeartbeats 4000000
namespace HC
open PySem PySem.Spec PyProof.Rows L2 Evl
local macro_rules
  | `(tactic| walk_at "ev") => `(tactic| first
    | exact ev_c
    | exact ev_var rfl
    | exact ea_nil
    | exact et_yes
    | exact eo_none
    | exact rv_I0
    | exact rv_eqI
    | exact rv_neI
    | exact rv_eqS
    | exact rv_neS
    | exact rv_eqB
    | exact rv_neB
    | exact rv_isN
    | exact rv_notN
    | exact rv_leS
    | exact rv_ltS
    | exact ru_neg
    | assumption
    | (apply ea_cons <;> walk_at "ev")
    | (apply et_test <;> walk_at "ev")
    | (apply et_B <;> walk_at "ev")
    | (apply et_not <;> walk_at "ev")
    | (apply ev_op <;> walk_at "ev")
    | (apply ev_un <;> walk_at "ev")
    | (apply ev_isi_int (h := kit_int_int) <;> walk_at "ev")
    | (apply ev_isi_int (h := kit_int_bool) <;> walk_at "ev")
    | (apply ev_isi_str (h := kit_str_str) <;> walk_at "ev")
    | (apply ev_isi_lst (h := kit_list_list) <;> walk_at "ev")
    | (apply ev_isi_tup (h := kit_tuple_tuple) <;> walk_at "ev")
    | (apply rc_lenL ; assumption)
    | (apply rc_lenT ; assumption)
    | (apply rc_lenS ; assumption)
    | (apply ev_chain <;> first | walk_at "ev" | (intro _; walk_at "ev"))
    | (apply et_or <;> first | walk_at "ev" | (intro _; walk_at "ev"))
    | (apply et_and <;> first | walk_at "ev" | (intro _; walk_at "ev"))
    | (apply ev_orV <;> first | walk_at "ev" | (intro _; walk_at "ev"))
    | (apply ev_andV <;> first | walk_at "ev" | (intro _; walk_at "ev"))
    | (apply ev_notV <;> walk_at "ev")
    | (apply ev_cb <;> walk_at "ev")
    | (apply eo_some <;> walk_at "ev"))
local macro_rules
  | `(tactic| walk_at "dec") => `(tactic| first
    | assumption
    | exact dnI
    | exact dnS
    | decide +kernel
    | (with_reducible rfl)
    | (simp only [decide_eq_true_eq, Bool.and_eq_true, Bool.not_eq_true', decide_eq_false_iff_not, Bool.not_true, Bool.not_false, Bool.and_eq_false_iff, Bool.or_eq_false_iff, Bool.or_eq_true]; omega)
    | rfl)
local macro_rules
  | `(tactic| walk_at "dt") => `(tactic| first
    | assumption
    | exact et_yes
    | (apply et_orF <;> walk_at "dt")
    | (apply et_andT <;> walk_at "dt")
    | (apply et_notF; walk_at "dt")
    | (apply et_notT; walk_at "dt")
    | (apply et_chT <;> first | walk_at "ev" | walk_at "dec")
    | (apply et_leaf <;> first | walk_at "ev" | walk_at "dec")
    | (apply et_leafB <;> first | walk_at "ev" | walk_at "dec"))
local macro_rules
  | `(tactic| walk_at "pass") => `(tactic| (refine' q_pass ?zzh ?zzk; (case zzh => walk_at "dt")))
local macro_rules
  | `(tactic| walk_at "yes") => `(tactic| ((first | refine' q_yes ?zzh ?zzk | refine' s_yes ?zzh ?zzk); (case zzh => walk_at "dt")))
local macro_rules
  | `(tactic| walk_at "no") => `(tactic| ((first | refine' q_no ?zzh ?zzk | refine' s_no ?zzh ?zzk); (case zzh => walk_at "dt")))
local macro_rules
  | `(tactic| walk_at "ret") => `(tactic| (refine' s_ret (v := _) ?zzh ?zzk; (case zzh => walk_at "ev")))
local macro_rules
  | `(tactic| walk_at "set") => `(tactic| ((first | refine' q_asg (v := _) ?zzh ?zzk | refine' s_asg (v := _) ?zzh ?zzk); (case zzh => walk_at "ev")))
section
variable {P : Program} {w : World} {K : PySem.W.Frag} {mg : Str → Option Value} {base : Heap}
theorem el_catU {σ : L2.St} {H : Hp} {ta tb : TE} {xs ys : List V} (ha : EvL ta σ H xs) (hb : EvL tb σ H ys) (hz : xs.length + ys.length ≤ 100000) : EvL (tOp rCat ta tb) σ H (xs ++ ys) := el_catX (EvX.ofL ha) (EvX.ofL hb) _ _ (fun v H1 H2 _ _ ⟨p, e, _, h⟩ => ⟨p, e, h⟩) (fun v H1 H2 _ _ ⟨p, e, _, h⟩ => ⟨p, e, h⟩) hz
/-- sep.join(kinds), the list lies in the heap -/
theorem ev_joinV {σ : L2.St} {H : Hp} {te : TE} {a : Str} {ys : List Str} {p : Addr} (h : Ev te σ H (.ref p)) (hp : H p = some (.lst (ys.map V.str))) (hz : (ys.map (·.length)).sum + ys.length * a.length ≤ 16777216) : Ev (tM1 (rJoin K) (tC (.str a)) te) σ H (.str (Txt.join a ys)) := fun H1 e Q q =>
  ⟨⟨a, rfl⟩, h H1 e _ fun H2 e2 => ⟨a, p, ys, rfl, rfl, .inl (SqL.of ((e.trans e2) _ _ hp)), hz, q H2 e2⟩⟩
def kindsT (ks : List Kind) : Str := Txt.join "|" (ks.map Kind.s)
def tabLines (ks : List Kind) (rows : List (List V)) : List Str := kindsT ks :: rows.map rowT
def tabT (ks : List Kind) (rows : List (List V)) : Str := Txt.join "\n" (tabLines ks rows)
theorem kind_ok (k : Kind) : k.s.length ≤ 8 ∧ ¬ 124 ∈ k.s.cps.toList ∧ ¬ 10 ∈ k.s.cps.toList := by cases k <;> decide +kernel
theorem kinds_sum {ks : List Kind} (hk : ks.length ≤ 8) : ((ks.map Kind.s).map (·.length)).sum + (ks.map Kind.s).length * ("|" : Str).length ≤ 72 := by
  have h2 := sum_len (c := 8) (ys := ks.map Kind.s) fun y m => by
    obtain ⟨k, _, rfl⟩ := List.mem_map.mp m
    exact (kind_ok k).1
  have h3 : ("|" : Str).length = 1 := by decide +kernel
  rw [h3]
  rw [List.length_map] at h2 ⊢
  omega
theorem rowT_len {ks : List Kind} {row : List V} (ok : RowOk ks row) (hk : ks.length ≤ 8) : (rowT row).length ≤ 248 := Nat.le_trans (join_len "|" _) (row_sum ok hk)
theorem kindsT_len {ks : List Kind} (hk : ks.length ≤ 8) : (kindsT ks).length ≤ 72 := Nat.le_trans (join_len "|" _) (kinds_sum hk)
theorem tab_sum {ks : List Kind} {rows : List (List V)} (ok : TabOk ks rows) : ((tabLines ks rows).map (·.length)).sum + (tabLines ks rows).length * ("\n" : Str).length ≤ 16000 := by
  have h2 := sum_len (c := 248) (ys := tabLines ks rows) fun y m => by
    rcases List.mem_cons.mp m with rfl | m
    · have := kindsT_len ok.k8
      omega
    · obtain ⟨r, hr, rfl⟩ := List.mem_map.mp m
      exact rowT_len (ok.ok r hr) ok.k8
  have h3 : ("\n" : Str).length = 1 := by decide +kernel
  have h4 : (tabLines ks rows).length = rows.length + 1 := by
    unfold tabLines
    rw [List.length_cons, List.length_map]
  have h5 := ok.r60
  rw [h3, h4]
  rw [h4] at h2
  omega
theorem tabT_len {ks : List Kind} {rows : List (List V)} (ok : TabOk ks rows) : (tabT ks rows).length ≤ 16000 := Nat.le_trans (join_len "\n" _) (tab_sum ok)
theorem paired_zipM {α β : Type} {R : α → β → Prop} {xs : List α} {ys : List β} (h : Paired R xs ys) : ∀ p ∈ xs.zip ys, R p.1 p.2 ∧ p.2 ∈ ys := by
  intro p m
  obtain ⟨i, hi⟩ := List.getElem?_of_mem m
  obtain ⟨h1, h2⟩ := List.getElem?_zip_eq_some.mp hi
  exact ⟨paired_at h h1 h2, List.mem_of_getElem? h2⟩
theorem joinL_free {c : Nat} {S : List Nat} (hs : ¬ c ∈ S) : ∀ {ps : List (List Nat)}, (∀ p ∈ ps, ¬ c ∈ p) → ¬ c ∈ TL.joinL S ps
  | [], _ => List.not_mem_nil
  | [p], h => h p (List.mem_singleton.mpr rfl)
  | p :: q :: r, h => by
    show ¬ c ∈ p ++ (S ++ TL.joinL S (q :: r))
    intro m
    rcases List.mem_append.mp m with m | m
    · exact h p (List.mem_cons_self ..) m
    · rcases List.mem_append.mp m with m | m
      · exact hs m
      · exact joinL_free hs (fun p hp => h p (List.mem_cons_of_mem _ hp)) m
theorem join_free {c : Nat} {a : Str} {ys : List Str} (hs : ¬ c ∈ a.cps.toList) (h : ∀ y ∈ ys, ¬ c ∈ y.cps.toList) : ¬ c ∈ (Txt.join a ys).cps.toList := by
  have := joinL_free (S := TL.tl a) (ps := ys.map TL.tl) hs fun p m => by
    obtain ⟨y, hy, rfl⟩ := List.mem_map.mp m
    exact h y hy
  rw [← TL.tl_join, ← TL.join_eq] at this
  exact this
theorem tab_split {ks : List Kind} {rows : List (List V)} (ok : TabOk ks rows) : Txt.split (tabT ks rows) "\n" = tabLines ks rows :=
  TL.split_join (s := 10) (S := []) (by decide +kernel) (by decide +kernel) (by unfold tabLines; exact List.cons_ne_nil _ _) fun y m => by
    rcases List.mem_cons.mp m with rfl | m
    · exact join_free (by decide +kernel) fun y m => by
        obtain ⟨k, _, rfl⟩ := List.mem_map.mp m
        exact (kind_ok k).2.2
    · obtain ⟨r, hr, rfl⟩ := List.mem_map.mp m
      exact join_free (by decide +kernel) fun y m => by
        obtain ⟨v, hv, rfl⟩ := List.mem_map.mp m
        obtain ⟨k, _, h⟩ := paired_mem (ok.ok r hr) hv
        exact (cellT_ok h).2.2
theorem kinds_split {ks : List Kind} {rows : List (List V)} (ok : TabOk ks rows) : Txt.split (kindsT ks) "|" = ks.map Kind.s :=
  TL.split_join (s := 124) (S := []) (by decide +kernel) (by decide +kernel) (by have h1 := ok.k1; intro e; rw [List.map_eq_nil_iff.mp e] at h1; exact absurd h1 (by decide)) fun y m => by
    obtain ⟨k, _, rfl⟩ := List.mem_map.mp m
    exact (kind_ok k).2.1
theorem row_split {ks : List Kind} {row : List V} (ok : RowOk ks row) (hk : 1 ≤ ks.length) : Txt.split (rowT row) "|" = row.map cellT :=
  TL.split_join (s := 124) (S := []) (by decide +kernel) (by decide +kernel) (by have h1 := Paired.length ok; intro e; rw [List.map_eq_nil_iff.mp e] at h1; rw [h1] at hk; exact absurd hk (by decide)) fun y m => by
    obtain ⟨v, hv, rfl⟩ := List.mem_map.mp m
    obtain ⟨k, _, h⟩ := paired_mem ok hv
    exact (cellT_ok h).2.1
def sp_format_table (_ : PySem.W.Frag) : Sp := fun vs H Q _ => ∃ (v : V) (ks : List Kind) (rows : List (List V)), vs = [v] ∧ TabAt H v ks rows ∧ TabOk ks rows ∧ RetV (.str (tabT ks rows)) H Q
/-! format_table: slots 0:table 1:kinds 2:rows 3:row 4:cell -/
theorem sc_format_table : FnScope ["table", "kinds", "rows", "row", "cell"] ["table"] (defScope s_format_table) := ⟨rfl, rfl, rfl, by decide +kernel, rfl, by decide +kernel, by decide +kernel⟩
theorem ok_format_table (T : Tp K mg w) : FnOk P w K mg base CX0 6 (a_format_table K) (fdAt K (a_format_table K)) ["table"] (sp_format_table K) := by
  refine T.f_format_table.ok sc_format_table (fun vs H Q E h => ?_) (fun cdv A outer s H vs Q E hr h => ?_)
  · obtain ⟨v, ks, rows, rfl, ta, ok, q⟩ := h
    rfl
  · obtain ⟨v, ks, rows, rfl, ta, ok, q⟩ := h
    refine ⟨_, PSs.nox (pss_cons (ps_expr (pe_call (ok_check_table (K := K) T) (hr.mono (by decide)) rfl T.g_check_table T.f_check_table.kp T.bn_check_table .nil pass0 (pa_cons (pv 0) pa_nil)))
      (pss_cons (ps_asg (pv 0) (kTup (K := K) (pg_tup (n := 2) rfl (pgs_cons (pg_name (i := 1) sc_format_table.nd rfl (Or.inl rfl)) (pgs_cons (pg_name (i := 2) sc_format_table.nd rfl (Or.inl rfl)) pgs_nil))) rfl))
      (pss_one (ps_ret (kJoin (K := K) (pe_join pe_str (pe_op op_cat (pe_lst (pa_cons (kJoin (K := K) (pe_join pe_str (pv 1)) rfl) pa_nil)) (pe_lc (own := [("row", 3)]) (g := (gName 3)) rfl sc_format_table.nd (kPI (K := K) (i := fun K => iList K _) (pi_list (pv 2)) rfl) (blkOk_by (own := [("row", 3)]) (N := ["table", "kinds", "rows", "row", "cell"]) (sc := defScope s_format_table) (by decide +kernel)) (fun _ _ _ _ _ => (pg_name (i := 3) sc_format_table.nd rfl (Or.inl rfl) (.inr rfl))) (fun _ _ _ _ _ => pts_nil) (fun _ _ _ _ _ => (kJoin (K := K) (pe_join pe_str (pe_lc (own := [("cell", 4)]) (g := (gName 4)) rfl sc_format_table.nd (kPI (K := K) (i := fun K => iList K _) (pi_list (pv 3)) rfl) (blkOk_by (own := [("cell", 4)]) (by kernel_rfl)) (fun _ _ _ _ _ => (pg_name (i := 4) sc_format_table.nd rfl (Or.inl rfl) (.inr rfl))) (fun _ _ _ _ _ => pts_nil) (fun _ _ _ _ _ => (pe_call (ok_cell_text (K := K) T) (hr.mono (by decide)) rfl T.g_cell_text T.f_cell_text.kp T.bn_cell_text .nil pass0 (pa_cons (pv 4) pa_nil))))) rfl))))) rfl))))), ?_⟩
    refine q_drop (v := .non) (ev_call (ea_cons (ev_var rfl) ea_nil) fun H1 e Q k E => ⟨v, ks, rows, rfl, ta.mono e, ok, fun H' s => k H' s⟩) fun H1 e1 => ?_
    obtain ⟨t, a, b, rs, rfl, ht, ha, hb, hr2⟩ := (ta.mono e1).ex
    refine q_unp2 rfl (ev_var rfl) ht fun H2 e2 => ?_
    have hyl := Paired.length hr2
    have hr60 := ok.r60
    have hmk : ks.map Kind.v = (ks.map Kind.s).map V.str := by rw [List.map_map] <;> rfl
    have hml : (tabLines ks rows).map V.str = [V.str (kindsT ks)] ++ rows.map (fun r => V.str (rowT r)) := by
      unfold tabLines
      rw [List.map_cons, List.map_map] <;> rfl
    refine s_ret (ev_join ?_ (Nat.le_trans (tab_sum ok) (by omega))) fun H3 e3 => q H3 ((e1.trans e2).trans e3)
    rw [hml]
    refine el_catU (el_lst (ea_cons (ev_joinV (K := K) (ev_var rfl) (by rw [← hmk]; exact e2 _ _ ha) (Nat.le_trans (kinds_sum ok.k8) (by omega))) ea_nil) (by show 1 ≤ 100000; omega)) ?_ (by rw [List.length_map]; show 1 + _ ≤ _; omega)
    have h := el_lcL (K := K) (te := tM1 (rJoin K) (tC (.str "|")) (tLc (iList K (tVar 3)) (gName 4) tYes (tCall (sp_cell_text K) [] E0 (tCons (tVar 4) tNil)) [4])) (j := 3) (tl := tVar 2) (σ := [some (.ref t), some (.ref a), some (.ref b), none, none]) (H := H2) (rs.zip rows) Prod.fst (fun _ => true) (fun p => .str (rowT p.2)) (ev_var rfl) (by rw [List.map_fst_zip (by omega)]; exact SqL.of (e2 _ _ hb)) (by rw [List.length_zip]; omega) (fun _ _ => et_yes) fun p m _ => by
      obtain ⟨⟨c, ec, hc⟩, hm⟩ := paired_zipM hr2 p m
      rw [ec]
      exact ev_rowT (K := K) (ev_var rfl) (e2 _ _ hc) (ok.ok _ hm) ok.k8 fun v m k h => ev_call (vs := [v]) (ea_cons (ev_var rfl) ea_nil) fun H3 e Q kk E => ⟨k, v, rfl, h, kk⟩
    rw [filter_tt] at h
    have e : (rs.zip rows).map (fun p => V.str (rowT p.2)) = rows.map fun r => V.str (rowT r) := by
      have := List.map_snd_zip (l₁ := rs) (l₂ := rows) (by omega)
      exact (List.map_map (f := Prod.snd) (g := fun r => V.str (rowT r)) (l := rs.zip rows)).symm.trans (congrArg _ this)
    rw [e] at h
    exact h
/-- [e for x, y in zip(xs, ys)], of plain values -/
theorem el_lcZ {α β : Type} {σ : L2.St} {H : Hp} {j k : Nat} (xs : List α) (ys : List β) (e1 : α → V) (e2 : β → V) (v : α × β → V) {ta : TA} {te : TE} {a b : Addr} (hl : EvA ta σ H [.ref a, .ref b]) (ha : SqL K H a (xs.map e1)) (hb : SqL K H b (ys.map e2)) (hn : xs.length = ys.length) (hz : xs.length ≤ 100000)
    (he : ∀ (i : Nat) x y, xs[i]? = some x → ys[i]? = some y → Ev te (((wipe σ [j, k]).set j (some (e1 x))).set k (some (e2 y))) H (v (x, y))) :
    EvL (tLc (iZip K ta) (gTup K 2 (gCons (gName j) (gCons (gName k) gNil))) tYes te [j, k]) σ H ((xs.zip ys).map v) := fun H1 e Q q => hl H1 e _ fun H2 e2' => by
  have ha2 := ex_l (e.trans e2') ha
  have hb2 := ex_l (e.trans e2') hb
  refine ⟨a, b, _, _, rfl, ha2, hb2, ?_⟩
  have hm : (xs.zip ys).length = min (xs.map e1).length (ys.map e2).length := by rw [List.length_zip, List.length_map, List.length_map]
  refine lc_two (walk_zip (K := K) (a := a) (b := b) (xs := xs.map e1) (ys := ys.map e2) hm) (xs.zip ys) (fun p => e1 p.1) (fun p => e2 p.2) rfl (fun i p hp => ?_) (by rw [List.length_zip]; omega) (fun H' s => ⟨s.seq ha2, s.seq hb2⟩) (fun _ => true) (fun p y _ => y = v p) (fun _ _ _ _ => evb_yes)
    (fun p H3 D zs m s _ _ _ => ?_) fun D H' zs hD s ez p => ?_
  · obtain ⟨h1, h2⟩ := List.getElem?_zip_eq_some.mp hp
    exact ⟨by rw [List.getElem?_map, h1] <;> rfl, by rw [List.getElem?_map, h2] <;> rfl⟩
  · obtain ⟨i, hi⟩ := List.getElem?_of_mem m
    obtain ⟨h1, h2⟩ := List.getElem?_zip_eq_some.mp hi
    exact evr_of (fun C kk => he i p.1 p.2 h1 h2 H3 ((e.trans e2').trans s) _ fun H4 e4 => kk H4 e4) fun _ _ _ _ => rfl
  · rw [filter_tt] at p
    rw [paired_map p] at ez
    exact q D H' (fresh_back e2' hD) (e2'.trans s) ez
theorem cut_one (y : V) (xs : List V) : cutV (y :: xs) (some 1) none = xs := by
  unfold cutV
  have a : HT.sIx (y :: xs).length 0 (some 1) = 1 := by
    show (if (1 : Int) < 0 then ((1 : Int) + ((y :: xs).length : Int)).toNat else min (1 : Int).toNat (y :: xs).length) = 1
    rw [if_neg (by decide), List.length_cons]
    show min 1 (xs.length + 1) = 1
    omega
  have b : HT.sIx (y :: xs).length (y :: xs).length none = xs.length + 1 := by rw [List.length_cons] <;> rfl
  rw [a, b, Nat.add_sub_cancel]
  show xs.take xs.length = xs
  exact List.take_length
def sp_parse_table (_ : PySem.W.Frag) : Sp := fun vs H Q _ => ∃ (ks : List Kind) (rows : List (List V)), vs = [.str (tabT ks rows)] ∧ TabOk ks rows ∧ ∀ v' H', Same H H' → TabAt H' v' ks rows → Q v' H'
/-! parse_table: slots 0:text 1:lines 2:kinds 3:rows 4:line 5:words 6:table 7:kind 8:word -/
theorem sc_parse_table : FnScope ["text", "lines", "kinds", "rows", "line", "words", "table", "kind", "word"] ["text"] (defScope s_parse_table) := ⟨rfl, rfl, rfl, by decide +kernel, rfl, by decide +kernel, by decide +kernel⟩
theorem ok_parse_table (T : Tp K mg w) : FnOk P w K mg base CX0 5 (a_parse_table K) (fdAt K (a_parse_table K)) ["text"] (sp_parse_table K) := by
  refine T.f_parse_table.ok sc_parse_table (fun vs H Q E h => ?_) (fun cdv A outer s H vs Q E hr h => ?_)
  · obtain ⟨ks, rows, rfl, ok, q⟩ := h
    rfl
  · obtain ⟨ks, rows, rfl, ok, q⟩ := h
    refine ⟨_, PSs.nox (pss_cons (ps_expr (pe_call (ok_check_text (K := K) T) (hr.mono (by decide)) rfl T.g_check_text T.f_check_text.kp T.bn_check_text .nil pass0 (pa_cons (pv 0) pa_nil)))
      (pss_cons (ps_set (i := 1) sc_parse_table.nd rfl (Or.inl rfl) (pe_split (pv 0) pe_str))
      (pss_cons (ps_set (i := 2) sc_parse_table.nd rfl (Or.inl rfl) (pe_split (pe_ix (kIx (K := K) (r := rIxL) ix_list rfl) (pv 1) pe_int (fun _ _ => rfl)) pe_str))
      (pss_cons (ps_set (i := 3) sc_parse_table.nd rfl (Or.inl rfl) (pe_lst pa_nil))
      (pss_cons (ps_for PassesOwn.never rfl (kPI (K := K) (i := fun K => iList K _) (pi_list (pe_slice (kSl (K := K) (r := rSlL) sl_list rfl) (pv 1) (po_some pe_int) po_none)) rfl) (pg_name (i := 4) sc_parse_table.nd rfl (Or.inl rfl)) (pss_cons (ps_set (i := 5) sc_parse_table.nd rfl (Or.inl rfl) (pe_split (pv 4) pe_str))
      (pss_cons (ps_if (pt_cmpR op_ne (pe_callB (kCR (K := K) (r := rLenQ) call_len_seq rfl) rfl T.b_len (by decide +kernel) (pa_cons (pv 5) pa_nil)) (pe_callB (kCR (K := K) (r := rLenQ) call_len_seq rfl) rfl T.b_len (by decide +kernel) (pa_cons (pv 2) pa_nil)) (nomark _)) (pss_one ps_never) pss_nil)
      (pss_one (ps_expr (kBM (K := K) (pe_bm PySem.F.plainAttrs_list PySem.F.slot_list_append PySem.F.type_list_append mt_append (pv 3) (pa_cons (pe_lc (own := [("kind", 7), ("word", 8)]) (g := (gTup K 2 (gCons (gName 7) (gCons (gName 8) gNil)))) rfl sc_parse_table.nd (kPI (K := K) (i := fun K => iZip K _) (pi_zip rfl T.b_zip (pa_cons (pv 2) (pa_cons (pv 5) pa_nil))) rfl) (blkOk_by (own := [("kind", 7), ("word", 8)]) (N := ["text", "lines", "kinds", "rows", "line", "words", "table", "kind", "word"]) (sc := defScope s_parse_table) (by decide +kernel)) (fun _ _ _ _ _ => (kTup (K := K) (pg_tup (n := 2) rfl (pgs_cons (pg_name (i := 7) sc_parse_table.nd rfl (Or.inl rfl) (.inr rfl)) (pgs_cons (pg_name (i := 8) sc_parse_table.nd rfl (Or.inl rfl) (.inr rfl)) pgs_nil))) rfl)) (fun _ _ _ _ _ => pts_nil) (fun _ _ _ _ _ => (pe_call (ok_parse_cell (K := K) T) (hr.mono (by decide)) rfl T.g_parse_cell T.f_parse_cell.kp T.bn_parse_cell .nil pass0 (pa_cons (pv 7) (pa_cons (pv 8) pa_nil))))) pa_nil)) rfl))))))
      (pss_cons (ps_set (i := 6) sc_parse_table.nd rfl (Or.inl rfl) (pe_tup (pa_cons (pv 2) (pa_cons (pv 3) pa_nil))))
      (pss_cons (ps_if (pt_not (pt_val (pe_call (ok_is_table (K := K) T) (hr.mono (by decide)) rfl T.g_is_table T.f_is_table.kp T.bn_is_table .nil pass0 (pa_cons (pv 6) pa_nil)))) (pss_one ps_never) pss_nil)
      (pss_one (ps_ret (pv 6)))))))))), ?_⟩
    refine q_drop (v := .non) (ev_call (ea_cons (ev_var rfl) ea_nil) (spv_check_text (K := K) _)) fun H1 e1 => ?_
    refine q_asgL (el_split (ev_var rfl) (by decide +kernel) (by have := tabT_len ok; omega)) fun wl H2 nwl e2 hwl => ?_
    rw [tab_split ok] at hwl
    refine q_asgL (el_split (a := kindsT ks) (ev_op (ev_var rfl) ev_c (rv_ixL (SqL.of hwl) (atI_nat (j := 0) rfl))) (by decide +kernel) (by have := kindsT_len ok.k8; omega)) fun kl H3 nkl e3 hkl => ?_
    rw [kinds_split ok] at hkl
    refine q_asgL (el_lst ea_nil (by decide)) fun rl H4 nrl e4 hrl => ?_
    have e12 := e1.trans e2
    have hwl4 := e4 _ _ (e3 _ _ hwl)
    have hkl4 := e4 _ _ hkl
    have nrl0 : H rl = none := fresh_back (e12.trans e3) nrl
    have krl : kl ≠ rl := ne_of_none hkl nrl
    have wrl : wl ≠ rl := ne_of_none (e3 _ _ hwl) nrl
    have hr60 := ok.r60
    have hk8 := ok.k8
    refine q_forX (EvX.ofL (el_sl (ev_var rfl) (eo_some ev_c) eo_none (SqL.of hwl4))) fun v H5 e5 ⟨p, ev, np, hp⟩ => ?_
    subst ev
    rw [show cutV ((tabLines ks rows).map V.str) (some 1) none = (rows.map rowT).map V.str from cut_one _ _] at hp
    have prl : p ≠ rl := fun z => by rw [z, hrl] at np; cases np
    refine q_forLn (K := K) (xs := (rows.map rowT).map V.str) ev_c (SqL.of hp) (fun i σ' H' => (∃ z4 z5, σ' = [some (.str (tabT ks rows)), some (.ref wl), some (.ref kl), some (.ref rl), z4, z5, none, none, none]) ∧ Same H H' ∧ H' kl = some (.lst ((ks.map Kind.s).map V.str)) ∧ H' p = some (.lst ((rows.map rowT).map V.str)) ∧ ∃ rs, H' rl = some (.lst rs) ∧ Paired (fun x row => ∃ a, x = V.ref a ∧ a ≠ rl ∧ H' a = some (.lst row)) rs (rows.take i)) (fun H6 e6 => ⟨⟨none, none, rfl⟩, (((e12.trans e3).trans e4).trans e5).trans e6, e6 _ _ (e5 _ _ hkl4), e6 _ _ hp, [], e6 _ _ (e5 _ _ hrl), .nil⟩) (fun i σ' H' _ p => SqL.of p.2.2.2.1) (fun i y σ' H' hy ⟨⟨z4, z5, es⟩, s, hk', hp', rs, hr', pr⟩ => ?_) fun σ' H6 ⟨⟨z4, z5, es⟩, s6, hk6, _, rs, hr6, pr⟩ => ?_
    · subst es
      rw [List.getElem?_map, List.getElem?_map] at hy
      obtain ⟨row, hrow, rfl⟩ : ∃ r, rows[i]? = some r ∧ V.str (rowT r) = y := by
        cases h : rows[i]? with
        | none => rw [h] at hy; cases hy
        | some c =>
          rw [h] at hy
          exact ⟨c, rfl, Option.some.inj hy⟩
      have okr := ok.ok row (List.mem_of_getElem? hrow)
      have hil : i < rows.length := (List.getElem?_eq_some_iff.mp hrow).1
      refine q_asgL (el_split (ev_var rfl) (by decide +kernel) (by have := rowT_len okr hk8; omega)) fun sl H7 nsl e7 hsl => ?_
      rw [row_split okr ok.k1] at hsl
      have hn : ks.length = row.length := Paired.length okr
      refine q_pass (et_leaf (ev_op (ev_cb (ea_cons (ev_var rfl) ea_nil) (rc_lenM hsl)) (ev_cb (ea_cons (ev_var rfl) ea_nil) (rc_lenM (e7 _ _ hk'))) rv_neI) (by rw [List.length_map, List.length_map, hn, decide_eq_true rfl] <;> rfl)) fun H8 e8 => ?_
      have hr8 := e8 _ _ (e7 _ _ hr')
      refine ⟨_, rfl, Or.inl ⟨rfl, _, sq_of hr8⟩, ?_⟩
      have m1 : (ks.zip row).map (fun p => V.str p.1.s) = (ks.map Kind.s).map V.str := by
        have h := List.map_fst_zip (l₁ := ks) (l₂ := row) (by omega)
        exact ((List.map_map (f := Prod.fst) (g := fun k : Kind => V.str k.s) (l := ks.zip row)).symm.trans (congrArg _ h)).trans (by rw [List.map_map] <;> rfl)
      have m2 : (ks.zip row).map (fun p => V.str (cellT p.2)) = (row.map cellT).map V.str := by
        have h := List.map_snd_zip (l₁ := ks) (l₂ := row) (by omega)
        exact ((List.map_map (f := Prod.snd) (g := fun k : V => V.str (cellT k)) (l := ks.zip row)).symm.trans (congrArg _ h)).trans (by rw [List.map_map] <;> rfl)
      have m3 : ((ks.zip row).zip (ks.zip row)).map (fun p => p.1.2) = row := by
        have h := List.map_snd_zip (l₁ := ks) (l₂ := row) (by omega)
        have h2 := List.map_fst_zip (l₁ := ks.zip row) (l₂ := ks.zip row) (Nat.le_refl _)
        exact ((List.map_map (f := Prod.fst) (g := fun p : Kind × V => p.2) (l := (ks.zip row).zip (ks.zip row))).symm.trans (congrArg _ h2)).trans h
      refine el_lcZ (K := K) (ks.zip row) (ks.zip row) (fun p => V.str p.1.s) (fun p => V.str (cellT p.2)) (fun p => p.1.2) (ea_cons (ev_var rfl) (ea_cons (ev_var rfl) ea_nil)) (by rw [m1]; exact SqL.of (e8 _ _ (e7 _ _ hk'))) (by rw [m2]; exact SqL.of (e8 _ _ hsl)) rfl (by rw [List.length_zip]; omega) (fun c x z hx hz => ?_) H8 (Ex.refl H8) _ fun N H9 nN e9 hN => ?_
      · rw [hx] at hz
        obtain rfl := Option.some.inj hz
        have ok2 := (paired_zipM okr x (List.mem_of_getElem? hx)).1
        exact ev_call (vs := [x.1.v, .str (cellT x.2)]) (ea_cons (ev_var rfl) (ea_cons (ev_var rfl) ea_nil)) fun H9 e Q kk E => ⟨x.1, x.2, rfl, ok2, kk⟩
      · rw [m3] at hN
        have hr9 := e9 _ _ hr8
        have Nrl : N ≠ rl := (ne_of_none hr8 nN).symm
        have e79 := (e7.trans e8).trans e9
        refine ⟨rl, rs, .ref N, rfl, rfl, hr9, sz_lt (by have := Paired.length pr; rw [List.length_take] at this; omega), ⟨_, _, rfl⟩, same_mut (s.trans e79) nrl0, by rw [upd_ne krl]; exact e79 _ _ hk', by rw [upd_ne prl]; exact e79 _ _ hp', rs ++ [.ref N], upd_same, ?_⟩
        rw [List.take_add_one, hrow]
        exact Paired.snoc (Paired.mapP pr fun x r ⟨a, e, n2, h⟩ => ⟨a, e, n2, by rw [upd_ne n2]; exact e79 _ _ h⟩) ⟨N, rfl, Nrl, by rw [upd_ne Nrl]; exact hN⟩
    · subst es
      rw [List.length_map, List.length_map, List.take_length] at pr
      refine q_asgU (eu_tup (ea_cons (ev_var rfl) (ea_cons (ev_var rfl) ea_nil)) (by show 2 ≤ 100000; omega)) fun t H7 nt e7 ht => ?_
      have ta : TabAt H7 (.ref t) ks rows := ⟨t, kl, rl, rs, rfl, ht, by have h := e7 _ _ hk6; rw [List.map_map] at h; exact h, e7 _ _ hr6, Paired.mapP pr fun x row ⟨a, e, _, h⟩ => ⟨a, e, e7 _ _ h⟩⟩
      refine q_pass (et_notF (et_B (ev_call (vs := [.ref t]) (ea_cons (ev_var rfl) ea_nil) fun H8 e Q k E => ⟨.ref t, ks, rows, rfl, ta.mono e, ok, fun H' s => k H' s⟩))) fun H8 e8 => ?_
      exact s_ret (ev_var rfl) fun H9 e9 => q _ H9 (((s6.trans e7).trans e8).trans e9) (ta.mono (e8.trans e9))
end
end HC


set_option Elab.async false
set_option linter.all false
set_option maxRecDepth 100000
set_option maxHeartbeats 4000000
namespace HC
open PySem PySem.Spec PyProof.Rows L2 Evl
local macro_rules
  | `(tactic| walk_at "ev") => `(tactic| first
    | exact ev_c
    | exact ev_var rfl
    | exact ea_nil
    | exact et_yes
    | exact eo_none
    | exact rv_I0
    | exact rv_eqI
    | exact rv_neI
    | exact rv_eqS
    | exact rv_neS
    | exact rv_eqB
    | exact rv_neB
    | exact rv_isN
    | exact rv_notN
    | exact rv_leS
    | exact rv_ltS
    | exact ru_neg
    | assumption
    | (apply ea_cons <;> walk_at "ev")
    | (apply et_test <;> walk_at "ev")
    | (apply et_B <;> walk_at "ev")
    | (apply et_not <;> walk_at "ev")
    | (apply ev_op <;> walk_at "ev")
    | (apply ev_un <;> walk_at "ev")
    | (apply ev_isi_int (h := kit_int_int) <;> walk_at "ev")
    | (apply ev_isi_int (h := kit_int_bool) <;> walk_at "ev")
    | (apply ev_isi_str (h := kit_str_str) <;> walk_at "ev")
    | (apply ev_isi_lst (h := kit_list_list) <;> walk_at "ev")
    | (apply ev_isi_tup (h := kit_tuple_tuple) <;> walk_at "ev")
    | (apply rc_lenL ; assumption)
    | (apply rc_lenT ; assumption)
    | (apply rc_lenS ; assumption)
    | (apply ev_chain <;> first | walk_at "ev" | (intro _; walk_at "ev"))
    | (apply et_or <;> first | walk_at "ev" | (intro _; walk_at "ev"))
    | (apply et_and <;> first | walk_at "ev" | (intro _; walk_at "ev"))
    | (apply ev_orV <;> first | walk_at "ev" | (intro _; walk_at "ev"))
    | (apply ev_andV <;> first | walk_at "ev" | (intro _; walk_at "ev"))
    | (apply ev_notV <;> walk_at "ev")
    | (apply ev_cb <;> walk_at "ev")
    | (apply eo_some <;> walk_at "ev"))
local macro_rules
  | `(tactic| walk_at "dec") => `(tactic| first
    | assumption
    | exact dnI
    | exact dnS
    | decide +kernel
    | (with_reducible rfl)
    | (simp only [decide_eq_true_eq, Bool.and_eq_true, Bool.not_eq_true', decide_eq_false_iff_not, Bool.not_true, Bool.not_false, Bool.and_eq_false_iff, Bool.or_eq_false_iff, Bool.or_eq_true]; omega)
    | rfl)
local macro_rules
  | `(tactic| walk_at "dt") => `(tactic| first
    | assumption
    | exact et_yes
    | (apply et_orF <;> walk_at "dt")
    | (apply et_andT <;> walk_at "dt")
    | (apply et_notF; walk_at "dt")
    | (apply et_notT; walk_at "dt")
    | (apply et_chT <;> first | walk_at "ev" | walk_at "dec")
    | (apply et_leaf <;> first | walk_at "ev" | walk_at "dec")
    | (apply et_leafB <;> first | walk_at "ev" | walk_at "dec"))
local macro_rules
  | `(tactic| walk_at "pass") => `(tactic| (refine' q_pass ?zzh ?zzk; (case zzh => walk_at "dt")))
local macro_rules
  | `(tactic| walk_at "yes") => `(tactic| ((first | refine' q_yes ?zzh ?zzk | refine' s_yes ?zzh ?zzk); (case zzh => walk_at "dt")))
local macro_rules
  | `(tactic| walk_at "no") => `(tactic| ((first | refine' q_no ?zzh ?zzk | refine' s_no ?zzh ?zzk); (case zzh => walk_at "dt")))
local macro_rules
  | `(tactic| walk_at "ret") => `(tactic| (refine' s_ret (v := _) ?zzh ?zzk; (case zzh => walk_at "ev")))
local macro_rules
  | `(tactic| walk_at "set") => `(tactic| ((first | refine' q_asg (v := _) ?zzh ?zzk | refine' s_asg (v := _) ?zzh ?zzk); (case zzh => walk_at "ev")))
section
variable {P : Program} {w : World} {K : PySem.W.Frag} {mg : Str → Option Value} {base : Heap}
theorem q_unp2X {σ : L2.St} {H : Hp} {D : Ends} {te : TE} {tz : TS} {R : V → Hp → Hp → Prop} {i j n : Nat} (hn : n = 2) (h : EvX te σ H R) (k : ∀ v H1, Ex H H1 → R v H H1 → ∃ p x y, v = .ref p ∧ H1 p = some (.tup [x, y]) ∧ tz D ((σ.set i (some x)).set j (some y)) H1) : tSeq (tAsg te (gTup K n (gCons (gName i) (gCons (gName j) gNil)))) tz D σ H := h H (Ex.refl H) _ fun v H1 e r => by
  obtain ⟨p, x, y, rfl, hp, kk⟩ := k v H1 e r
  exact ⟨p, [x, y], rfl, SqT.of hp, hn.symm, x, [y], rfl, y, [], rfl, rfl, kk⟩
theorem effFrom_len : ∀ (cs : List Nat) (kb : List (Nat × Int) × Int) (last : Option Nat), (effFrom kb last cs).1.length ≤ kb.1.length + cs.length
  | [], _, _ => Nat.le_refl _
  | c :: cs, kb, last => by
    have h := effFrom_len cs (effKeys kb.1 c (decide (last = some c)), effBase kb.2 (decide (last = some c))) (some c)
    have h2 := effKeys_len kb.1 c (decide (last = some c))
    rw [List.length_cons]
    show (effFrom (effKeys kb.1 c (decide (last = some c)), effBase kb.2 (decide (last = some c))) (some c) cs).1.length ≤ _
    have h : _ ≤ (effKeys kb.1 c (decide (last = some c))).length + cs.length := h
    omega
theorem effL_len (cs : List Nat) : (effL cs).1.length ≤ cs.length := by
  have h := effFrom_len cs ([], 1) none
  have h : _ ≤ 0 + cs.length := h
  rw [Nat.zero_add] at h
  exact h
/-- '-+'[int(sign == 1)] -/
theorem ev_sgn {σ : L2.St} {H : Hp} {te : TE} {i : Int} (h : Ev te σ H (.int i)) : Ev (tOp rIxS (tC (.str "-+")) (tCB (fun xs H Q => (∃ i, xs = [V.int i] ∧ Q (.int i) H) ∨ ∃ k, xs = [V.bl k] ∧ Q (.int (if k then 1 else 0)) H) (tCons (tOp rEq te (tC (.int 1))) tNil))) σ H (.str (sgn i)) := by
  refine ev_op ev_c (ev_cb (ea_cons (ev_op h ev_c rv_eqI) ea_nil) fun H1 _ _ q => .inr ⟨_, rfl, q H1 (Ex.refl H1)⟩) ?_
  unfold sgn
  by_cases e : i = 1
  · rw [if_pos e, decide_eq_true (congrArg V.int e), if_pos rfl]
    exact rv_ixS (c := 43) (by decide +kernel) (by decide +kernel)
  · rw [if_neg e, decide_eq_false (fun z => e (V.int.inj z)), if_neg (by decide)]
    exact rv_ixS (c := 45) (by decide +kernel) (by decide +kernel)
section
variable {σ : L2.St} {H : Hp} {tl te : TE} {j k : Nat}
theorem el_lcP1 {α : Type} (xs : List α) (e1 e2 : α → V) (vs : List V) (v : α → V) {a : Addr} (hl : Ev tl σ H (.ref a)) (ha : H a = some (.lst vs)) (hp : Paired (fun x v => ∃ t, v = .ref t ∧ H t = some (.tup [e1 x, e2 x])) xs vs) (hz : xs.length ≤ 100000)
    (he : ∀ x, x ∈ xs → Ev te (((wipe σ [j, k]).set j (some (e1 x))).set k (some (e2 x))) H (v x)) : EvL (tLc (iList K tl) (gTup K 2 (gCons (gName j) (gCons (gName k) gNil))) tYes te [j, k]) σ H (xs.map v) := by
  have h := el_lcP (K := K) xs e1 e2 vs (fun _ => true) v hl (SqL.of ha) hp hz (fun _ _ => et_yes) fun x m _ => he x m
  rw [filter_tt] at h
  exact h
theorem el_lcL1 {α : Type} (xs : List α) (enc : α → V) (v : α → V) {a : Addr} (hl : Ev tl σ H (.ref a)) (ha : H a = some (.lst (xs.map enc))) (hz : xs.length ≤ 100000)
    (he : ∀ x, x ∈ xs → Ev te ((wipe σ [j]).set j (some (enc x))) H (v x)) : EvL (tLc (iList K tl) (gName j) tYes te [j]) σ H (xs.map v) := by
  have h := HC.el_lcL (K := K) xs enc (fun _ => true) v hl (SqL.of ha) hz (fun _ _ => et_yes) fun x m _ => he x m
  rw [filter_tt] at h
  exact h
/-- [line(row) for row in rows] -/
theorem el_lines {ks : List Kind} {rs : List V} {rows : List (List V)} {b : Addr} (hl : Ev tl σ H (.ref b)) (hb : H b = some (.lst rs)) (pr : Paired (RowAt H) rs rows) (hz : rows.length ≤ 60) (he : ∀ c row, row ∈ rows → H c = some (.lst row) → Ev te ((wipe σ [j]).set j (some (.ref c))) H (.str (rowT row))) :
    EvL (tLc (iList K tl) (gName j) tYes te [j]) σ H (rows.map fun r => V.str (rowT r)) := by
  have hn := Paired.length pr
  have h := el_lcL1 (K := K) (te := te) (j := j) (rs.zip rows) Prod.fst (fun p => .str (rowT p.2)) hl (by rw [List.map_fst_zip (by omega)]; exact hb) (by rw [List.length_zip]; omega) fun p m => by
    obtain ⟨⟨c, ec, hc⟩, hm⟩ := paired_zipM pr p m
    rw [ec]
    exact he c p.2 hm hc
  have e : (rs.zip rows).map (fun p => V.str (rowT p.2)) = rows.map fun r => V.str (rowT r) := by
    have := List.map_snd_zip (l₁ := rs) (l₂ := rows) (by omega)
    exact (List.map_map (f := Prod.snd) (g := fun r => V.str (rowT r)) (l := rs.zip rows)).symm.trans (congrArg _ this)
  rw [e] at h
  exact h
end
theorem effAt_new {H H' : Hp} {p ke : Addr} {ys : List V} {keys : List (Nat × Int)} {b : Int} (e : Same H H') (hke : H ke = some (.lst ys)) (pr : Paired (fun (p : Nat × Int) y => ∃ t, y = V.ref t ∧ H t = some (.tup [nV p.1, .int p.2])) keys ys) (hp : H' p = some (.tup [.ref ke, .int b])) : EffAt H' (.ref p) keys b := ⟨p, ke, ys, rfl, hp, e _ _ hke, Paired.mapP pr fun _ _ ⟨t, e', h⟩ => ⟨t, e', e _ _ h⟩⟩
theorem effWords_map (kb : List (Nat × Int) × Int) : (effWords kb).map V.str = kb.1.map (fun p => V.str (wordE p)) ++ [V.str (("/" : Str) ++ sgn kb.2)] := by
  unfold effWords
  rw [List.map_append, List.map_map]
  rfl
theorem effWords_sum {kb : List (Nat × Int) × Int} (ok : EffOk 8 kb) (hz : kb.1.length ≤ 900) : ((effWords kb).map (·.length)).sum + (effWords kb).length * (" " : Str).length ≤ 16777216 := by
  have hln : (effWords kb).length = kb.1.length + 1 := by
    unfold effWords
    rw [List.length_append, List.length_map]
    rfl
  have hsum := sum_len (c := 2) (ys := effWords kb) fun y m => by rw [(effWords_ok ok y m).1]; exact Nat.le_refl _
  have h3 : (" " : Str).length = 1 := by decide +kernel
  rw [h3, hln]
  rw [hln] at hsum
  omega
theorem kind_strOk (k : Kind) : PyData.strOk k.s = true := by cases k <;> decide +kernel
/-- a table's data -/
abbrev dTab (ks : List Kind) (rows : List (List V)) : PyData := .tuple [.list (ks.map fun k => .str k.s), .list (rows.map fun r => .list (r.map dC))]
theorem dp_tab {H : Hp} {v : V} {ks : List Kind} {rows : List (List V)} (h : TabAt H v ks rows) (ok : ∀ row ∈ rows, RowOk ks row) : Dp K H v (dTab ks rows) := by
  obtain ⟨t, a, b, rs, rfl, ht, ha, hb, pr⟩ := h.ex
  refine .tup (SqT.of ht) (.cons (.lst (SqL.of ha) (dpAll_of (paired_self fun k _ => .str k.s))) (.cons (.lst (SqL.of hb) (dpAll_of (paired_in (paired_flip pr) fun row x m ⟨c, ex, hc⟩ => ?_))) .nil))
  subst ex
  exact dp_row (ok row m) hc
theorem lay_tab {ks : List Kind} {rows : List (List V)} (ok : ∀ row ∈ rows, RowOk ks row) : Lay 60 (dTab ks rows) := by
  refine lay_tup (n := 59) fun d m => ?_
  rcases List.mem_cons.mp m with rfl | m
  · exact lay_map (n := 58) fun k _ => lay_str (kind_strOk k)
  · rw [List.mem_singleton.mp m]
    exact lay_map (n := 58) fun r hr => lay_row (n := 57) (ok r hr)
theorem tabLines_map (ks : List Kind) (rows : List (List V)) : (tabLines ks rows).map V.str = [V.str (kindsT ks)] ++ rows.map (fun r => V.str (rowT r)) := by
  unfold tabLines
  rw [List.map_cons, List.map_map] <;> rfl
def sp_law_text_right (_ : PySem.W.Frag) : Sp := fun vs H Q _ => ∃ (k : Addr) (v : V) (n : Nat) (ks : List Kind) (st : St), vs = [.ref k, v] ∧ H k = some (.lst (ks.map Kind.v)) ∧ LRep n H v st ∧ StOk ks n st ∧ 1 ≤ ks.length ∧ ks.length ≤ 8 ∧ n ≤ 60 ∧ RetV (.bl true) H Q
/-! _law_text_right: slots 0:_law_kinds 1:_law_state 2:_law_cells 3:_law_shown_here 4:_law_click_list 5:_law_recent 6:_law_number 7:_law_keys 8:_law_base 9:_law_words 10:_law_numbers 11:_law_table_here 12:_law_text 13:_law_column 14:_law_sign 15:_law_row -/
theorem sc_law_text_right : FnScope ["_law_kinds", "_law_state", "_law_cells", "_law_shown_here", "_law_click_list", "_law_recent", "_law_number", "_law_keys", "_law_base", "_law_words", "_law_numbers", "_law_table_here", "_law_text", "_law_column", "_law_sign", "_law_row"] ["_law_kinds", "_law_state"] (defScope s_law_text_right) := ⟨rfl, rfl, rfl, by decide +kernel, rfl, by decide +kernel, by decide +kernel⟩
theorem ok_law_text_right (T : Tp K mg w) : FnOk P w K mg base CX0 7 (a_law_text_right K) (fdAt K (a_law_text_right K)) ["_law_kinds", "_law_state"] (sp_law_text_right K) := by
  refine T.f_law_text_right.ok sc_law_text_right (fun vs H Q E h => ?_) (fun cdv A outer s H vs Q E hr h => ?_)
  · obtain ⟨k, v, n, ks, st, rfl, hk, lr, ok, hk1, hk8, hn, q⟩ := h
    rfl
  · obtain ⟨k, v, n, ks, st, rfl, hk, lr, ok, hk1, hk8, hn, q⟩ := h
    refine ⟨_, PSs.nox (pss_cons (ps_asg (pv 1) (kTup (K := K) (pg_tup (n := 5) rfl (pgs_cons (pg_name (i := 2) sc_law_text_right.nd rfl (Or.inr rfl) (.inl rfl)) (pgs_cons (pg_name (i := 3) sc_law_text_right.nd rfl (Or.inl rfl)) (pgs_cons (pg_name (i := 4) sc_law_text_right.nd rfl (Or.inl rfl)) (pgs_cons (pg_name (i := 5) sc_law_text_right.nd rfl (Or.inl rfl)) (pgs_cons (pg_name (i := 6) sc_law_text_right.nd rfl (Or.inl rfl)) pgs_nil)))))) rfl))
      (pss_cons (ps_asg (pe_call (ok_law_effect (K := K) T) (hr.mono (by decide)) rfl T.g_law_effect T.f_law_effect.kp T.bn_law_effect .nil pass0 (pa_cons (pv 4) pa_nil)) (kTup (K := K) (pg_tup (n := 2) rfl (pgs_cons (pg_name (i := 7) sc_law_text_right.nd rfl (Or.inl rfl)) (pgs_cons (pg_name (i := 8) sc_law_text_right.nd rfl (Or.inl rfl)) pgs_nil))) rfl))
      (pss_cons (ps_set (i := 9) sc_law_text_right.nd rfl (Or.inl rfl) (pe_op op_cat (pe_lc (own := [("_law_column", 13), ("_law_sign", 14)]) (g := (gTup K 2 (gCons (gName 13) (gCons (gName 14) gNil)))) rfl sc_law_text_right.nd (kPI (K := K) (i := fun K => iList K _) (pi_list (pv 7)) rfl) (blkOk_by (own := [("_law_column", 13), ("_law_sign", 14)]) (N := ["_law_kinds", "_law_state", "_law_cells", "_law_shown_here", "_law_click_list", "_law_recent", "_law_number", "_law_keys", "_law_base", "_law_words", "_law_numbers", "_law_table_here", "_law_text", "_law_column", "_law_sign", "_law_row"]) (sc := defScope s_law_text_right) (by decide +kernel)) (fun _ _ _ _ _ => (kTup (K := K) (pg_tup (n := 2) rfl (pgs_cons (pg_name (i := 13) sc_law_text_right.nd rfl (Or.inl rfl) (.inr rfl)) (pgs_cons (pg_name (i := 14) sc_law_text_right.nd rfl (Or.inl rfl) (.inr rfl)) pgs_nil))) rfl)) (fun _ _ _ _ _ => pts_nil) (fun _ _ _ _ _ => (pe_op op_add_str (pe_callTy call_str_int rfl T.b_str (by decide +kernel) (pa_cons (pv 13) pa_nil)) (pe_ix ix_str pe_str (pe_callTy call_int1 rfl T.b_int (by decide +kernel) (pa_cons (pe_cmpR op_eq (pv 14) pe_int (nomark _)) pa_nil)) (fun _ _ => rfl))))) (pe_lst (pa_cons (pe_op op_add_str pe_str (pe_ix ix_str pe_str (pe_callTy call_int1 rfl T.b_int (by decide +kernel) (pa_cons (pe_cmpR op_eq (pv 8) pe_int (nomark _)) pa_nil)) (fun _ _ => rfl))) pa_nil))))
      (pss_cons (ps_if (PW.pt (pw_or (pt_cmpR op_ne (pe_call (ok_format_effect (K := K) T) (hr.mono (by decide)) rfl T.g_format_effect T.f_format_effect.kp T.bn_format_effect .nil pass0 (pa_cons (pe_tup (pa_cons (pv 7) (pa_cons (pv 8) pa_nil))) pa_nil)) (kJoin (K := K) (pe_join pe_str (pv 9)) rfl) (nomark _)) (pw_or1 (pt_cmpR (kOp (K := K) (r := rNeD) (op_neD (units_of hr)) rfl) (pe_call (ok_parse_effect (K := K) T) (hr.mono (by decide)) rfl T.g_parse_effect T.f_parse_effect.kp T.bn_parse_effect .nil pass0 (pa_cons (kJoin (K := K) (pe_join pe_str (pv 9)) rfl) pa_nil)) (pe_tup (pa_cons (pv 7) (pa_cons (pv 8) pa_nil))) (nomark _))))) (pss_one (ps_ret pe_bl)) pss_nil)
      (pss_cons (ps_set (i := 10) sc_law_text_right.nd rfl (Or.inl rfl) (kJoin (K := K) (pe_join pe_str (pe_lc (own := [("_law_column", 13)]) (g := (gName 13)) rfl sc_law_text_right.nd (kPI (K := K) (i := fun K => iList K _) (pi_list (pv 4)) rfl) (blkOk_by (own := [("_law_column", 13)]) (N := ["_law_kinds", "_law_state", "_law_cells", "_law_shown_here", "_law_click_list", "_law_recent", "_law_number", "_law_keys", "_law_base", "_law_words", "_law_numbers", "_law_table_here", "_law_text", "_law_column", "_law_sign", "_law_row"]) (sc := defScope s_law_text_right) (by decide +kernel)) (fun _ _ _ _ _ => (pg_name (i := 13) sc_law_text_right.nd rfl (Or.inl rfl) (.inr rfl))) (fun _ _ _ _ _ => pts_nil) (fun _ _ _ _ _ => (pe_callTy call_str_int rfl T.b_str (by decide +kernel) (pa_cons (pv 13) pa_nil))))) rfl))
      (pss_cons (ps_if (PW.pt (pw_or (pt_cmpR op_ne (pe_call (ok_format_clicks (K := K) T) (hr.mono (by decide)) rfl T.g_format_clicks T.f_format_clicks.kp T.bn_format_clicks .nil pass0 (pa_cons (pv 4) pa_nil)) (pv 10) (nomark _)) (pw_or1 (pt_cmpR (kOp (K := K) (r := rNeD) (op_neD (units_of hr)) rfl) (pe_call (ok_parse_clicks (K := K) T) (hr.mono (by decide)) rfl T.g_parse_clicks T.f_parse_clicks.kp T.bn_parse_clicks .nil pass0 (pa_cons (pv 10) pa_nil)) (pv 4) (nomark _))))) (pss_one (ps_ret pe_bl)) pss_nil)
      (pss_cons (ps_if (pt_cmpR (kOp (K := K) (r := rEqD) (op_eqD (units_of hr)) rfl) (pv 3) (pe_lst pa_nil) (nomark _)) (pss_one (ps_ret pe_bl)) pss_nil)
      (pss_cons (ps_set (i := 11) sc_law_text_right.nd rfl (Or.inl rfl) (pe_tup (pa_cons (pv 0) (pa_cons (pe_lc (own := [("_law_row", 15)]) (g := (gName 15)) rfl sc_law_text_right.nd (kPI (K := K) (i := fun K => iList K _) (pi_list (pv 3)) rfl) (blkOk_by (own := [("_law_row", 15)]) (N := ["_law_kinds", "_law_state", "_law_cells", "_law_shown_here", "_law_click_list", "_law_recent", "_law_number", "_law_keys", "_law_base", "_law_words", "_law_numbers", "_law_table_here", "_law_text", "_law_column", "_law_sign", "_law_row"]) (sc := defScope s_law_text_right) (by decide +kernel)) (fun _ _ _ _ _ => (pg_name (i := 15) sc_law_text_right.nd rfl (Or.inl rfl) (.inr rfl))) (fun _ _ _ _ _ => pts_nil) (fun _ _ _ _ _ => (pe_dget (hu_of hr) (pv 2) (pv 15) (fun _ _ => rfl)))) pa_nil))))
      (pss_cons (ps_set (i := 12) sc_law_text_right.nd rfl (Or.inl rfl) (kJoin (K := K) (pe_join pe_str (pe_op op_cat (pe_lst (pa_cons (kJoin (K := K) (pe_join pe_str (pv 0)) rfl) pa_nil)) (pe_lc (own := [("_law_row", 15)]) (g := (gName 15)) rfl sc_law_text_right.nd (kPI (K := K) (i := fun K => iList K _) (pi_list (pe_ix (kIx (K := K) (r := rIxT) ix_tup rfl) (pv 11) pe_int (fun _ _ => rfl))) rfl) (blkOk_by (own := [("_law_row", 15)]) (N := ["_law_kinds", "_law_state", "_law_cells", "_law_shown_here", "_law_click_list", "_law_recent", "_law_number", "_law_keys", "_law_base", "_law_words", "_law_numbers", "_law_table_here", "_law_text", "_law_column", "_law_sign", "_law_row"]) (sc := defScope s_law_text_right) (by decide +kernel)) (fun _ _ _ _ _ => (pg_name (i := 15) sc_law_text_right.nd rfl (Or.inl rfl) (.inr rfl))) (fun _ _ _ _ _ => pts_nil) (fun _ _ _ _ _ => (pe_call (ok_law_line (K := K) T) (hr.mono (by decide)) rfl T.g_law_line T.f_law_line.kp T.bn_law_line .nil pass0 (pa_cons (pv 15) pa_nil)))))) rfl))
      (pss_one (ps_ret (pe_and (pe_cmpR op_eq (pe_call (ok_format_table (K := K) T) (hr.mono (by decide)) rfl T.g_format_table T.f_format_table.kp T.bn_format_table .nil pass0 (pa_cons (pv 11) pa_nil)) (pv 12) (nomark _)) (pe_one (pe_cmpR (kOp (K := K) (r := rEqD) (op_eqD (units_of hr)) rfl) (pe_call (ok_parse_table (K := K) T) (hr.mono (by decide)) rfl T.g_parse_table T.f_parse_table.kp T.bn_parse_table .nil pass0 (pa_cons (pv 12) pa_nil)) (pv 11) (nomark _))))))))))))))), ?_⟩
    obtain ⟨t, d, sh, cl, e, rfl, ht, hd, hsh, hcl, he⟩ := lr
    obtain ⟨kvs, hkv, _, hrows⟩ := hd
    have hc8 : ∀ c ∈ st.clicked, c < 8 := fun c m => Nat.lt_of_lt_of_le (ok.cc c m) hk8
    have hcl9 : st.clicked.length ≤ 900 := Nat.le_trans ok.cl (by omega)
    refine q_unp5 rfl (ev_var rfl) ht fun H1 e1 => ?_
    refine q_unp2X (K := K) rfl (ex_call (R := fun v _ H2 => EffAt H2 v (effL st.clicked).1 (effL st.clicked).2) (vs := [.ref cl]) (ea_cons (ev_var rfl) ea_nil) fun H2 e2 Q k E => ⟨cl, st.clicked, rfl, e2 _ _ (e1 _ _ hcl), hcl9, fun v' H3 s h => k v' H3 s h⟩) fun v H2 e2 ⟨H1', e1', e2', he2⟩ => ?_
    have eo := effL_ok hc8
    have el : (effL st.clicked).1.length ≤ 900 := Nat.le_trans (effL_len st.clicked) hcl9
    obtain ⟨te, ke, ys, rfl, hte, hke, hpr⟩ := he2
    refine ⟨te, _, _, rfl, hte, ?_⟩
    have e02 := e1.trans e2
    generalize effL st.clicked = kb at eo el hte hke hpr ⊢
    refine q_asgL (xs := (effWords kb).map V.str) ?_ fun wl H3 nwl e3 hwl => ?_
    · rw [effWords_map]
      refine el_catU (el_lcP1 (K := K) kb.1 (fun p => nV p.1) (fun p => .int p.2) ys (fun p => V.str (wordE p)) (ev_var rfl) hke hpr (by omega) fun p m => ?_) (el_lst (vs := [V.str (("/" : Str) ++ sgn kb.2)]) (ea_cons (ev_op ev_c (ev_sgn (ev_var rfl)) (rv_addS ?_)) ea_nil) (by show 1 ≤ 100000; omega)) (by rw [List.length_map]; show _ + 1 ≤ 100000; omega)
      · obtain ⟨h1, h2⟩ := eo.kc p m
        obtain ⟨f1, f2, _⟩ := num_ok p.1 (List.mem_range.mpr h1)
        have f3 := sgn_len p.2
        exact ev_op (ev_cb (ea_cons (ev_var rfl) ea_nil) (rc_strI f1)) (ev_sgn (ev_var rfl)) (rv_addS (by show (numText p.1).length + _ ≤ _; omega))
      · have f3 := sgn_len kb.2
        have f4 : ("/" : Str).length = 1 := by decide +kernel
        rw [f4]
        omega
    have e03 := e02.trans e3
    have hke3 := e3 _ _ hke
    have hpr3 : Paired (fun (p : Nat × Int) y => ∃ t, y = V.ref t ∧ H3 t = some (.tup [nV p.1, .int p.2])) kb.1 ys := Paired.mapP hpr fun _ _ ⟨t, e', h⟩ => ⟨t, e', e3 _ _ h⟩
    have hj := effWords_sum eo el
    refine q_pass (et_orF (et_leaf (ev_op (ev_callA (z := .str (effText kb)) (eax_uF (xs := [.ref ke, .int kb.2]) (eu_tup (ea_cons (ev_var rfl) (ea_cons (ev_var rfl) ea_nil)) (by show 2 ≤ 100000; omega)) eax_nil) fun vs H4 e4 ⟨us, p, ev, np, hp, eu⟩ => ?_) (ev_joinV (K := K) (ys := effWords kb) (ev_var rfl) hwl hj) rv_neS) (congrArg not (decide_eq_true rfl)))
      (et_leaf (ev_opXX (R1 := fun v H1 H2 => ∃ G, Ex H1 G ∧ Ex G H2 ∧ EffAt H2 v kb.1 kb.2) (R := NewU [.ref ke, .int kb.2]) (ex_call (R := fun v _ H2 => EffAt H2 v kb.1 kb.2) (vs := [.str (effText kb)]) (ea_cons (ev_joinV (K := K) (ys := effWords kb) (ev_var rfl) hwl hj) ea_nil) fun H4 e4 Q k E => ⟨kb, rfl, eo, el, fun v' H' s h => k v' H' s h⟩)
        (EvX.ofU (eu_tup (ea_cons (ev_var rfl) (ea_cons (ev_var rfl) ea_nil)) (by show 2 ≤ 100000; omega))) fun u v H4 H5 H6 H7 e4 e5 e6 e7 ⟨G, g1, g2, h1⟩ ⟨p, ev, np, hp⟩ => ?_) rfl)) fun H4 e4 => ?_
    · subst eu ev
      exact fun H5 e5 Q k E => ⟨.ref p, kb, rfl, effAt_new (e4.trans e5) hke3 hpr3 (e5 _ _ hp), eo, el, k⟩
    · subst ev
      exact rv_neDt (dp_eff (h1.mono (e6.trans e7))) (dp_eff (effAt_new ((((e4.trans e5).trans e6).trans e7)) hke3 hpr3 hp)) (lay_eff _ _)
    have e04 := e03.trans e4
    refine q_asg (v := .str (clickText st.clicked)) (ev_clicks (K := K) (ev_var rfl) (e04 _ _ hcl) hc8 hcl9 fun c m => ev_cb (ea_cons (ev_var rfl) ea_nil) (rc_strI (num_ok c (List.mem_range.mpr (hc8 c m))).1)) fun H5 e5 => ?_
    have e05 := e04.trans e5
    refine q_pass (et_orF (et_leaf (ev_op (ev_call (vs := [.ref cl]) (z := .str (clickText st.clicked)) (ea_cons (ev_var rfl) ea_nil) fun H6 e6 Q k E => ⟨cl, st.clicked, rfl, e6 _ _ (e05 _ _ hcl), hc8, hcl9, k⟩) (ev_var rfl) rv_neS) (congrArg not (decide_eq_true rfl)))
      (et_leaf (ev_opL1 (xs := st.clicked.map nV) (el_call (vs := [.str (clickText st.clicked)]) (ea_cons (ev_var rfl) ea_nil) fun H6 e6 Q k E => ⟨st.clicked, rfl, hc8, hcl9, k⟩) (fun H6 e6 => ev_var rfl) fun p H6 hp e6 => rv_neNs hp (e6 _ _ (e05 _ _ hcl))) (congrArg not (decide_eq_true rfl)))) fun H6 e6 => ?_
    have e06 := e05.trans e6
    refine q_when (b := decide (st.shown = [])) (et_leaf (ev_opL (ev_var rfl) el_nil fun p H7 hp e7 => rv_eqNs (ys := []) (e7 _ _ (e06 _ _ hsh)) hp) rfl) (fun _ H7 e7 => s_ret ev_c fun H8 e8 => q H8 ((e06.trans e7).trans e8)) fun hne H7 e7 => ?_
    have hne : st.shown ≠ [] := of_decide_eq_false hne
    have e07 := e06.trans e7
    have hsl := ok.sl
    have hv : ∀ r ∈ st.shown, ∃ x, (valV kvs (.inl (r : Int))).getD .non = .ref x ∧ valV kvs (.inl (r : Int)) = some (.ref x) ∧ H x = some (.lst (st.cells r)) := fun r m => by
      obtain ⟨x, e, h⟩ := hrows r m
      exact ⟨x, by rw [e] <;> rfl, e, h⟩
    have okt : TabOk ks (st.shown.map st.cells) := ⟨hk1, hk8, by rw [List.length_map]; exact List.length_pos_iff.mpr hne, by rw [List.length_map]; omega, fun row m => by
      obtain ⟨r, hr, rfl⟩ := List.mem_map.mp m
      exact ok.rows r hr⟩
    refine q_asgX (ex_tup2 (x := .ref k) (ev_var rfl) (EvX.ofL (el_lcL1 (K := K) st.shown nV (fun r => (valV kvs (.inl (r : Int))).getD .non) (ev_var rfl) (e07 _ _ hsh) (by omega) fun r m => ?_))) fun v H8 e8 ⟨t2, y, G0, G, ev, g1, g2, g3, ⟨p, ey, np, hp⟩, nt, ht2⟩ => ?_
    · obtain ⟨x, h1, h2, h3⟩ := hv r m
      refine ev_dget (a := d) (ev_var rfl) (ev_var rfl) fun H8 e8 => ?_
      rw [h1, ← h2]
      exact DGet.k (k := .inl (r : Int)) (e8 _ _ (e07 _ _ hkv))
    subst ev ey
    have e08 := e07.trans e8
    have hp8 := g3 _ _ hp
    have hpr8 : Paired (RowAt H8) (st.shown.map fun r : Nat => (valV kvs (.inl (r : Int))).getD .non) (st.shown.map st.cells) := by
      refine paired_flip' (paired_self fun r m => ?_)
      obtain ⟨x, h1, h2, h3⟩ := hv r m
      exact ⟨x, h1, e08 _ _ h3⟩
    have ta : TabAt H8 (.ref t2) ks (st.shown.map st.cells) := ⟨t2, k, p, _, rfl, ht2, e08 _ _ hk, hp8, hpr8⟩
    refine q_asg (v := .str (tabT ks (st.shown.map st.cells))) (ev_join (ys := tabLines ks (st.shown.map st.cells)) ?_ (Nat.le_trans (tab_sum okt) (by omega))) fun H9 e9 => ?_
    · rw [tabLines_map]
      refine el_catU (el_lst (vs := [V.str (kindsT ks)]) (ea_cons (ev_joinV (K := K) (ys := ks.map Kind.s) (ev_var rfl) (by rw [List.map_map]; exact e08 _ _ hk) (Nat.le_trans (kinds_sum hk8) (by omega))) ea_nil) (by show 1 ≤ 100000; omega)) (el_lines (K := K) (ks := ks) (ev_op (ev_var rfl) ev_c (rv_ixT (SqT.of ht2) (atI_nat (j := 1) rfl))) hp8 hpr8 okt.r60 fun c row m hc => ?_) (by have := okt.r60; rw [List.length_map]; show 1 + _ ≤ 100000; omega)
      exact ev_call (vs := [.ref c]) (ea_cons (ev_var rfl) ea_nil) fun H9 e9 Q kk E => ⟨c, ks, row, rfl, e9 _ _ hc, okt.ok row m, hk8, kk⟩
    have e09 := e08.trans e9
    refine s_ret (v := .bl true) (ev_is (ev_andV (ev_op (ev_call (vs := [.ref t2]) (z := .str (tabT ks (st.shown.map st.cells))) (ea_cons (ev_var rfl) ea_nil) fun H10 e10 Q kk E => ⟨.ref t2, ks, _, rfl, ta.mono (e9.trans e10), okt, kk⟩) (ev_var rfl) rv_eqS)
      fun _ => ev_opXE (R1 := fun v H1 H2 => ∃ G, Ex H1 G ∧ Ex G H2 ∧ TabAt H2 v ks (st.shown.map st.cells)) (ex_call (R := fun v _ H2 => TabAt H2 v ks (st.shown.map st.cells)) (vs := [.str (tabT ks (st.shown.map st.cells))]) (ea_cons (ev_var rfl) ea_nil) fun H10 e10 Q kk E => ⟨ks, _, rfl, okt, fun v' H' s h => kk v' H' s h⟩) (ev_var rfl) fun v H10 H11 e10 e11 ⟨G, g1, g2, h1⟩ => rv_eqDt (dp_tab h1 okt.ok) (dp_tab (ta.mono ((e9.trans e10).trans e11)) okt.ok) (lay_tab okt.ok)) ?_) fun H10 e10 => q H10 (e09.trans e10)
    rw [decide_eq_true rfl]
    rfl
end
end HC


set_option Elab.async false
set_option linter.all false
set_option maxRecDepth 100000
set_option maxHeartbeats 2000000
/-! list(zip(xs, ys)): every tuple is kept, so that zip makes a new one at each turn. -/
namespace HC
open PySem PySem.Spec PyProof.Rows L2 Evl
theorem zip_lenless : typeLookup (.type "zip") "__len__" = pure none := am_miss_of_fast (by decide +kernel)
theorem zip_hintless : typeLookup (.type "zip") "__length_hint__" = pure none := am_miss_of_fast (by decide +kernel)
abbrev lstO (acc : Array Value) (c : Nat) : Obj := { cls := .type "list", dict := none, data := .seq acc c, slots := #[] }
/-- zip's own objects, its last tuple kept -/
structure ZAt (h : Heap) (z TI TO i1 i2 l1 l2 S : Addr) (xs ys : Array Value) (i : Nat) : Prop where
  out : (IsZip h z TI TO .none ∧ ∃ a b, IsPair h TO a b) ∨ ∃ (T : Addr) (f : Bool) (o : Obj), IsZipHeld h z TI TO T f ∧ h.get? T = some o ∧ S < T
  ti : IsPair h TI (.ref i1) (.ref i2)
  a1 : h.IsListIter i1 l1 i
  a2 : h.IsListIter i2 l2 i
  b1 : h.IsList l1 xs
  b2 : h.IsList l2 ys
structure ZLow (lo z TI TO i1 i2 l1 l2 S : Addr) : Prop where
  l : lo ≤ z ∧ lo ≤ TO ∧ lo ≤ i1 ∧ lo ≤ i2
  u : z < S ∧ TI < S ∧ TO < S ∧ i1 < S ∧ i2 < S ∧ l1 < S ∧ l2 < S
/-- the list and its tuples -/
structure ZG (S : Addr) (h : Heap) (xs ys : Array Value) (as : List Addr) : Prop where
  rise : as.Pairwise (· < ·)
  above : ∀ a ∈ as, S < a
  pairs : ∀ (j : Nat) (a : Addr), as[j]? = some a → ∃ x y, xs[j]? = some x ∧ ys[j]? = some y ∧ IsPair h a x y
section
variable {h h' : Heap} {lo z TI TO i1 i2 l1 l2 S : Addr} {xs ys : Array Value} {i : Nat}
theorem ZAt.keep (x : ZAt h z TI TO i1 i2 l1 l2 S xs ys i) (m : ZLow lo z TI TO i1 i2 l1 l2 S) (k : ∀ b o, b ≠ S → h.get? b = some o → h'.get? b = some o) : ZAt h' z TI TO i1 i2 l1 l2 S xs ys i := by
  obtain ⟨u1, u2, u3, u4, u5, u6, u7⟩ := m.u
  refine ⟨?_, k _ _ (Nat.ne_of_lt u2) x.ti, x.a1.at fun o e => k _ o (Nat.ne_of_lt u4) e, x.a2.at fun o e => k _ o (Nat.ne_of_lt u5) e, x.b1.at fun o e => k _ o (Nat.ne_of_lt u6) e, x.b2.at fun o e => k _ o (Nat.ne_of_lt u7) e⟩
  rcases x.out with ⟨q, a, b, t⟩ | ⟨T, f, o, q, t, g⟩
  · exact .inl ⟨k _ _ (Nat.ne_of_lt u1) q, a, b, k _ _ (Nat.ne_of_lt u3) t⟩
  · exact .inr ⟨T, f, o, k _ _ (Nat.ne_of_lt u1) q, k _ _ (Nat.ne_of_gt g) t, g⟩
theorem ZG.there {as : List Addr} (g : ZG S h xs ys as) {a : Addr} (m : a ∈ as) : a < h.objs.size := by
  obtain ⟨j, hj⟩ := List.getElem?_of_mem m
  obtain ⟨_, _, _, _, q⟩ := g.pairs j a hj
  exact Heap.lt_size q
theorem ZG.keep {as : List Addr} (g : ZG S h xs ys as) (k : ∀ b o, S < b → h.get? b = some o → h'.get? b = some o) : ZG S h' xs ys as := ⟨g.rise, g.above, fun j a hj => by
  obtain ⟨x, y, q1, q2, q3⟩ := g.pairs j a hj
  exact ⟨x, y, q1, q2, k _ _ (g.above a (List.mem_of_getElem? hj)) q3⟩⟩
end
section
variable {prog : Program} {w : World} {A : Around} {E : Value → Shared → Prop} {s : Shared} {lo z TI TO i1 i2 l1 l2 S : Addr} {xs ys : Array Value} {i : Nat}
theorem z_item {x y : Value} {Q : Option Value → Shared → Prop} (D : ZipApart z TI TO i1 i2 l1 l2) (m : ZLow lo z TI TO i1 i2 l1 l2 S) (st : ZAt s.heap z TI TO i1 i2 l1 l2 S xs ys i) (hS : S < s.heap.objs.size) (hx : xs[i]? = some x) (hy : ys[i]? = some y)
    (q : ∀ h', ZAt h' z TI TO i1 i2 l1 l2 S xs ys (i + 1) → IsPair h' s.heap.objs.size x y → (∀ c o, c ≠ z → c ≠ TO → c ≠ i1 → c ≠ i2 → s.heap.get? c = some o → h'.get? c = some o) → Q (some (.ref s.heap.objs.size)) { s with heap := h' }) :
    wpAny (model prog w) A (pyNext (.ref z)) Q E s := by
  obtain ⟨u1, u2, u3, u4, u5, u6, u7⟩ := m.u
  rcases st.out with ⟨hz, a, b, hTO⟩ | ⟨T, f, o, hz, hT, hTS⟩
  · refine wpAny_pyNext_zip_item D hz st.ti hTO st.a1 st.a2 st.b1 st.b2 hx hy fun h' q1 q2 q3 q4 q5 q6 q7 => q h' ⟨.inr ⟨s.heap.objs.size, false, _, q1, q5, hS⟩, q7 _ _ D.TIz D.TITO D.TIi1 D.TIi2 st.ti, q3, q4, ?_, ?_⟩ q5 q7
    · exact st.b1.at fun o e => q7 _ o D.l1z D.l1TO D.l1i1 D.l1i2 e
    · exact st.b2.at fun o e => q7 _ o D.l2z D.l2TO D.l2i1 D.l2i2 e
  · have gt : ∀ {c : Addr}, c < S → T ≠ c := fun l => Nat.ne_of_gt (Nat.lt_trans l hTS)
    refine wpAny_pyNext_zip_item_held D hz hT st.ti st.a1 st.a2 st.b1 st.b2 hx hy fun h' q1 q3 q4 q5 q6 q7 => q h' ⟨.inr ⟨T, true, o, q1, q7 _ _ (gt u1) (gt u4) (gt u5) hT, hTS⟩, q7 _ _ D.TIz D.TIi1 D.TIi2 st.ti, q3, q4, ?_, ?_⟩ q5 fun c o c1 _ c3 c4 e => q7 c o c1 c3 c4 e
    · exact st.b1.at fun o e => q7 _ o D.l1z D.l1i1 D.l1i2 e
    · exact st.b2.at fun o e => q7 _ o D.l2z D.l2i1 D.l2i2 e
theorem z_done {Q : Option Value → Shared → Prop} (hh : A.handled = none) (D : ZipApart z TI TO i1 i2 l1 l2) (st : ZAt s.heap z TI TO i1 i2 l1 l2 S xs ys i) (e : xs[i]? = none ∨ ys[i]? = none)
    (q : ∀ h', (∀ c o, c ≠ z → c ≠ TO → c ≠ i1 → c ≠ i2 → s.heap.get? c = some o → h'.get? c = some o) → Q none { s with heap := h' }) : wpAny (model prog w) A (pyNext (.ref z)) Q E s := by
  rcases st.out with ⟨hz, a, b, hTO⟩ | ⟨T, f, o, hz, hT, hTS⟩
  · exact wpAny_pyNext_zip_end hh D hz st.ti hTO st.a1 st.a2 st.b1 st.b2 e q
  · exact wpAny_pyNext_zip_end_held hh D hz hT st.ti st.a1 st.a2 st.b1 st.b2 e fun h' k => q h' fun c o c1 _ c3 c4 x => k c o c1 c3 c4 x
theorem z_loop {R : Result → Shared → Prop} {n : Nat} {h₁ : Heap} (hh : A.handled = none) (D : ZipApart z TI TO i1 i2 l1 l2) (m : ZLow lo z TI TO i1 i2 l1 l2 S) (lS : lo ≤ S) (hx : xs.size = n) (hy : ys.size = n) (hn : n ≤ sizeLine) (res : Value)
    (fin : ∀ h' tk acc c as, (∀ b o, b < lo → h₁.get? b = some o → h'.get? b = some o) → h'.get? S = some (lstO acc c) → as.length = n → ZG S h' xs ys as → acc.toList = as.map Value.ref → R (.ok (.ret res)) { s with heap := h', toks := tk }) :
    ∀ (k i : Nat) (h : Heap) (tk c : Nat) (acc : Array Value) (as : List Addr), n - i = k → i ≤ n → ZAt h z TI TO i1 i2 l1 l2 S xs ys i → (∀ b o, b < lo → h₁.get? b = some o → h.get? b = some o) → h.get? S = some (lstO acc c) → acc.toList = as.map Value.ref → as.length = i → ZG S h xs ys as →
      codeAny (model prog w) A (.builtin "list.extend.loop" ⟨[.ref S, .ref z, res], []⟩) R { s with heap := h, toks := tk } := by
  obtain ⟨v1, v2, v3, v4⟩ := m.l
  obtain ⟨u1, u2, u3, u4, u5, u6, u7⟩ := m.u
  have far : ∀ {b : Addr}, b < lo → b ≠ z ∧ b ≠ TO ∧ b ≠ i1 ∧ b ≠ i2 ∧ b ≠ S := fun {b} l => ⟨Nat.ne_of_lt (Nat.lt_of_lt_of_le l v1), Nat.ne_of_lt (Nat.lt_of_lt_of_le l v2), Nat.ne_of_lt (Nat.lt_of_lt_of_le l v3), Nat.ne_of_lt (Nat.lt_of_lt_of_le l v4), Nat.ne_of_lt (Nat.lt_of_lt_of_le l lS)⟩
  intro k
  induction k with
  | zero =>
    intro i h tk c acc as hk hi st kp hS hacc hal g
    refine (codeAny_builtin F.entry_extend_loop ?_)
    rw [show ∀ a, A.under (.builtin "list.extend.loop" a) = A.in1 from fun a => Around.under_plainId F.plain_extend_loop a]
    show wpAny _ _ (pyNext (.ref z) >>= _) _ _ _
    refine wpAny_bind (z_done (s := { s with heap := h, toks := tk }) (A := A.in1) hh D st (.inl (Array.getElem?_eq_none (by omega))) fun h' k' => wpAny_pure (fin h' tk acc c as (fun b o l e => ?_) ?_ (by omega) (g.keep fun b o l e => ?_) hacc))
    · obtain ⟨f1, f2, f3, f4, _⟩ := far l
      exact k' b o f1 f2 f3 f4 (kp b o l e)
    · exact k' S _ (Nat.ne_of_gt u1) (Nat.ne_of_gt u3) (Nat.ne_of_gt u4) (Nat.ne_of_gt u5) hS
    · exact k' b o (Nat.ne_of_gt (Nat.lt_trans u1 l)) (Nat.ne_of_gt (Nat.lt_trans u3 l)) (Nat.ne_of_gt (Nat.lt_trans u4 l)) (Nat.ne_of_gt (Nat.lt_trans u5 l)) e
  | succ k ih =>
    intro i h tk c acc as hk hi st kp hS hacc hal g
    have hl : i < n := by omega
    have hsz : acc.size = i := by rw [← Array.length_toList, hacc, List.length_map, hal]
    have hSl : S < h.objs.size := Heap.lt_size hS
    refine (codeAny_builtin F.entry_extend_loop ?_)
    rw [show ∀ a, A.under (.builtin "list.extend.loop" a) = A.in1 from fun a => Around.under_plainId F.plain_extend_loop a]
    show wpAny _ _ (pyNext (.ref z) >>= _) _ _ _
    refine wpAny_bind (z_item (s := { s with heap := h, toks := tk }) D m st hSl (Array.getElem?_eq_getElem (by omega)) (Array.getElem?_eq_getElem (by omega)) fun h' st' hp k' => ?_)
    dsimp only at hp k' ⊢
    have hS' := k' S _ (Nat.ne_of_gt u1) (Nat.ne_of_gt u3) (Nat.ne_of_gt u4) (Nat.ne_of_gt u5) hS
    have up : ∀ b o, b ≠ S → h'.get? b = some o → (h'.update S (Obj.mapSeq (·.push (Value.ref h.objs.size)))).get? b = some o := fun b o n e => by
      rw [Heap.get?_update_other _ _ (fun q : S = b => n q.symm)]
      exact e
    show wpAny _ _ (updateSeq S (·.push (Value.ref h.objs.size)) >>= _) _ _ _
    refine wpAny_bind (wpAny_updateSeq hS' rfl (wpAny_pure ⟨plainId_quiet F.plain_extend_loop _, ih (i + 1) _ tk _ (acc.push (Value.ref h.objs.size)) (as ++ [h.objs.size]) (by omega) hl (st'.keep m up) (fun b o l e => ?_) (Heap.get?_update_self _ hS' rfl) ?_ ?_ ?_⟩) ?_ ?_)
    · obtain ⟨f1, f2, f3, f4, f5⟩ := far l
      exact up b o f5 (k' b o f1 f2 f3 f4 (kp b o l e))
    · rw [Array.toList_push, hacc, List.map_append]
      rfl
    · rw [List.length_append, hal]
      rfl
    · have g' : ZG S (h'.update S (Obj.mapSeq (·.push (Value.ref h.objs.size)))) xs ys as := g.keep fun b o l e => up b o (Nat.ne_of_gt l) (k' b o (Nat.ne_of_gt (Nat.lt_trans u1 l)) (Nat.ne_of_gt (Nat.lt_trans u3 l)) (Nat.ne_of_gt (Nat.lt_trans u4 l)) (Nat.ne_of_gt (Nat.lt_trans u5 l)) e)
      refine ⟨List.pairwise_append.mpr ⟨g.rise, List.pairwise_singleton _ _, fun a ha b hb => ?_⟩, fun a ha => ?_, fun j b hj => ?_⟩
      · rw [List.mem_singleton.mp hb]
        exact g.there ha
      · rcases List.mem_append.mp ha with ha | ha
        · exact g.above a ha
        · rw [List.mem_singleton.mp ha]
          exact hSl
      · by_cases lt : j < as.length
        · rw [List.getElem?_append_left lt] at hj
          exact g'.pairs j b hj
        · rw [List.getElem?_append_right (by omega)] at hj
          have j0 : j - as.length = 0 := by
            have := (List.getElem?_eq_some_iff.mp hj).1
            rw [List.length_singleton] at this
            omega
          rw [j0] at hj
          obtain rfl : h.objs.size = b := Option.some.inj hj
          have ji : j = i := by omega
          subst ji
          exact ⟨_, _, Array.getElem?_eq_getElem (by omega), Array.getElem?_eq_getElem (by omega), up _ _ (Nat.ne_of_gt hSl) hp⟩
    · rw [hsz]
      omega
    · show (acc.push (Value.ref h.objs.size)).size ≤ sizeLine + 1
      rw [Array.size_push, hsz]
      omega
/-- S takes all of zip -/
theorem z_extend {R : Result → Shared → Prop} {n c₀ : Nat} (hh : A.handled = none) (D : ZipApart z TI TO i1 i2 l1 l2) (m : ZLow lo z TI TO i1 i2 l1 l2 S) (lS : lo ≤ S) (hx : xs.size = n) (hy : ys.size = n) (hn : n ≤ sizeLine) (res : Value) (st : ZAt s.heap z TI TO i1 i2 l1 l2 S xs ys 0) (hz : IsZip s.heap z TI TO .none) (hS : s.heap.get? S = some (lstO #[] c₀))
    (fin : ∀ h' tk acc c as, (∀ b o, b < lo → s.heap.get? b = some o → h'.get? b = some o) → h'.get? S = some (lstO acc c) → as.length = n → ZG S h' xs ys as → acc.toList = as.map Value.ref → R (.ok (.ret res)) { s with heap := h', toks := tk }) :
    wpAny (model prog w) A.in1 (Builtin.List.listExtendWith (.ref S) (.ref z) res)
      (fun v s' => match v with | .done f => R (.ok f) s' | .again c' => c'.quiet = true ∧ codeAny (model prog w) A c' R s') (fun e s' => R (.error e) s') s := by
  obtain ⟨u1, u2, u3, u4, u5, u6, u7⟩ := m.u
  have ty : s.TypeIs (.ref z) "zip" := ⟨_, hz, rfl⟩
  unfold Builtin.List.listExtendWith
  refine wpAny_bind (wpAny_typeOf ty ?_)
  have n1 : Builtin.List.listSameRef (.ref S) (.ref z) = false := by simp [Builtin.List.listSameRef, Nat.ne_of_gt u1]
  have n2 : (Value.type "zip" == Value.type "list") = false := by decide
  have n3 : (Value.type "zip" == Value.type "tuple") = false := by decide
  simp only [n1, n2, n3, Bool.or_false, Bool.false_eq_true, if_false]
  refine wpAny_bind (wpAny_pyIter_zip hz ?_)
  refine wpAny_bind (wpAny_holding ?_)
  unfold Builtin.List.listLengthHint
  refine wpAny_bind (wpAny_specialOf ty zip_lenless ?_)
  show wpAny _ _ (specialOf (Value.ref z) (Str.ofString "__length_hint__") >>= _) _ _ _
  refine wpAny_bind (wpAny_specialOf ty zip_hintless (wpAny_pure ?_))
  show wpAny _ _ (rule "list.extend.makes-room" >>= fun _ => Builtin.List.listTouch (.ref S) >>= fun _ => again (.builtin "list.extend.loop" ⟨[.ref S, .ref z, res], []⟩)) _ _ _
  refine wpAny_bind (wpAny_rule (wpAny_bind ?_))
  show wpAny _ _ (updateSeq S (·.push .none) >>= fun _ => updateSeq S (·.pop)) _ _ _
  refine wpAny_bind (wpAny_updateSeq hS rfl ?_)
  have s2 := Heap.get?_update_self (Obj.mapSeq (·.push Value.none)) hS rfl
  refine wpAny_updateSeq (hz := by seq_fits) s2 rfl ?_
  have s3 := Heap.get?_update_self (Obj.mapSeq (·.pop)) s2 rfl
  have oth : ∀ b o, b ≠ S → s.heap.get? b = some o → ((s.heap.update S (Obj.mapSeq (·.push Value.none))).update S (Obj.mapSeq (·.pop))).get? b = some o := fun b o n e => by
    rw [Heap.get?_update_other _ _ (fun q : S = b => n q.symm), Heap.get?_update_other _ _ (fun q : S = b => n q.symm)]
    exact e
  exact wpAny_pure ⟨plainId_quiet F.plain_extend_loop _, z_loop (h₁ := s.heap) (s := s) hh D m lS hx hy hn res fin n 0 _ _ _ #[] [] (Nat.sub_zero _) (Nat.zero_le _) (st.keep m oth) (fun b o l e => oth b o (Nat.ne_of_lt (Nat.lt_of_lt_of_le l lS)) e) s3 rfl rfl ⟨.nil, (fun _ q => nomatch q), fun j a q => by simp at q⟩⟩
/-- list(z), z a zip of two lists of one length -/
theorem z_call {Q : Value → Shared → Prop} {n : Nat} (hh : A.handled = none) (D : ZipApart z TI TO i1 i2 l1 l2) (m : ZLow lo z TI TO i1 i2 l1 l2 s.heap.objs.size) (lS : lo ≤ s.heap.objs.size) (hx : xs.size = n) (hy : ys.size = n) (hn : n ≤ sizeLine) (st : ZAt s.heap z TI TO i1 i2 l1 l2 s.heap.objs.size xs ys 0) (hz : IsZip s.heap z TI TO .none)
    (fin : ∀ h' tk acc c as, (∀ b o, b < lo → s.heap.get? b = some o → h'.get? b = some o) → h'.get? s.heap.objs.size = some (lstO acc c) → as.length = n → ZG s.heap.objs.size h' xs ys as → acc.toList = as.map Value.ref → Q (.ref s.heap.objs.size) { s with heap := h', toks := tk }) :
    wpAny (model prog w) A (call (.type "list") [.ref z]) Q E s := by
  have low : ∀ {b : Addr}, b < lo → b ≠ s.heap.objs.size := fun l => Nat.ne_of_lt (Nat.lt_of_lt_of_le l lS)
  refine callType_codes (Q₁ := fun v s₁ => v = .ref s.heap.objs.size ∧ s₁ = { s with heap := s.heap.push (lstO #[] 0) }) F.called_list (F.typeCall_list_1 _) F.entry_list_init (code_list_new _ ⟨rfl, rfl⟩) fun v s₁ q => ?_
  obtain ⟨rfl, rfl⟩ := q
  have hS : (s.heap.push (lstO #[] 0)).get? s.heap.objs.size = some (lstO #[] 0) := Heap.get?_push_size _ rfl
  have st1 : ZAt (s.heap.push (lstO #[] 0)) z TI TO i1 i2 l1 l2 s.heap.objs.size xs ys 0 := st.keep m fun b o _ e => Heap.get?_push_of_some _ e
  refine ⟨⟨_, hS, rfl⟩, F.args_list_init_2 _ _, ?_⟩
  show wpAny _ _ (do let old ← Builtin.List.listItems (.ref s.heap.objs.size); Builtin.List.listUpdate (.ref s.heap.objs.size) (fun _ => #[]); letGo old.toList.reverse; Builtin.List.listExtendWith (.ref s.heap.objs.size) (.ref z) .none) _ _ _
  refine wpAny_bind ?_
  unfold Builtin.List.listItems
  refine (wpAny_bind (wpAny_seqItems hS rfl (wpAny_pure ?_)))
  show wpAny _ _ (updateSeq s.heap.objs.size (fun _ => #[]) >>= fun _ => letGo (#[] : Array Value).toList.reverse >>= fun _ => Builtin.List.listExtendWith (.ref s.heap.objs.size) (.ref z) .none) _ _ _
  refine wpAny_bind (wpAny_updateSeq hS rfl ?_)
  have s2 := Heap.get?_update_self (Obj.mapSeq (fun _ => (#[] : Array Value))) hS rfl
  have oth : ∀ b o, b ≠ s.heap.objs.size → (s.heap.push (lstO #[] 0)).get? b = some o → ((s.heap.push (lstO #[] 0)).update s.heap.objs.size (Obj.mapSeq (fun _ => (#[] : Array Value)))).get? b = some o := fun b o n e => by
    rw [Heap.get?_update_other _ _ (fun q : s.heap.objs.size = b => n q.symm)]
    exact e
  refine (wpAny_bind (wpAny_letGo ?_))
  refine z_extend (A := A.in1) hh D m lS hx hy hn .none (st1.keep m oth) (oth _ _ (Nat.ne_of_lt m.u.1) (Heap.get?_push_of_some _ hz)) s2 fun h' tk acc c as kp hS' hl g hacc => ⟨rfl, fin h' tk acc c as (fun b o l e => ?_) hS' hl g hacc⟩
  exact kp b o l (oth b o (low l) (Heap.get?_push_of_some _ e))
end
/-- many new objects at once -/
theorem laidMany {X : Cx} {pins : List (Addr × Obj)} {σ : L2.St} {H H' : Hp} {s : Shared} {h' : Heap} {tk : Nat} (I : Inv X pins σ H s) (k : ∀ b o, s.heap.get? b = some o → h'.get? b = some o) (e : Same H H')
    (new : ∀ b u, H b = none → H' b = some u → s.heap.objs.size ≤ b ∧ ObjOk X.prog X.w H' h' b u) : Inv X pins σ H' { s with heap := h', toks := tk } := by
  have old : ∀ b o, s.heap.get? b = some o → H b = none → H' b = none := fun b o q n => by
    cases z : H' b with
    | none => rfl
    | some u => exact absurd (Heap.lt_size q) (Nat.not_lt.mpr (new b u n z).1)
  refine I.call' (ch := []) (s' := { s with heap := h', toks := tk }) rfl { keep := fun b o q _ _ _ => k b o q, slot := fun b o q _ _ _ => ⟨o.slots, k b o q⟩, free := fun b o q n _ => old b o q n, there := fun b o q _ => ⟨o, k b o q⟩, tups := fun b xs q => e b _ q, frzs := fun b o u q => e b _ q, tbls := fun b ps q => ⟨#[], by rw [e b _ q]; simp⟩ } (fun b u q => ?_) I.bare fun b z => nomatch z
  cases n : H b with
  | none => exact (new b u n q).2
  | some u' =>
    have q' := e b u' n
    rw [q] at q'
    cases q'
    exact (I.hok b u n).stay (fun d v _ y => k d v y) (fun d y => e d _ y) fun d xs y => e d _ y
/-- list(zip(xs, ys)), xs numbers or texts -/
def rZipL (K : PySem.W.Frag) : List V → Hp → VK → Prop := fun vs H Q => ∃ (a b : Addr) (kvs : List (Key × V)), vs = [.ref a, .ref b] ∧ SqL K H a (kvs.map fun q => kV q.1) ∧ SqL K H b (kvs.map Prod.snd) ∧
  ∀ (H' : Hp) (p : Addr) (ts : List Addr), Same H H' → H p = none → (∀ t ∈ ts, H t = none) → p ∉ ts → H' p = some (.lst (ts.map V.ref)) → Paired (fun (t : Addr) (q : Key × V) => H' t = some (.tup [kV q.1, q.2])) ts kvs → Q (.ref p) H'
def tListZip (K : PySem.W.Frag) (ta : TA) : TE := fun σ H Q => ta σ H fun vs H1 => rZipL K vs H1 Q
theorem vals_at {xs : List V} {us : List Value} (h : Vals xs us) {j : Nat} {x : V} {u : Value} (a : xs[j]? = some x) (b : us[j]? = some u) : RelV x u := by
  obtain ⟨w, e, r⟩ := h.get a
  rw [b] at e
  rw [Option.some.inj e]
  exact r
theorem pe_listZip {X : Cx} {p p2 pos cpos : Pos} {e e2 : Expr} {ta : TA} (hc : X.calm = true) (hg : Gl X "list") (hm : X.mg "list" = none) (hgz : Gl X "zip") (hmz : X.mg "zip" = none) (ha : PA X [e, e2] ta)
    (na : starEach [.Call (.Name "zip" p2) [e, e2] [] cpos] X.env = (false, eval (.Call (.Name "zip" p2) [e, e2] [] cpos) X.env) :: starEach [] X.env := by rfl)
    (hs : starEach [e, e2] X.env = (false, eval e X.env) :: starEach [e2] X.env := by rfl) (hpl : (backTo cpos (starEach [e2] X.env)).any (·.1) = false := by rfl) :
    PE X (.Call (.Name "list" p) [.Call (.Name "zip" p2) [e, e2] [] cpos] [] pos) (tListZip X.K ta) := by
  refine ⟨fun pins s σ H Q I h => ?_⟩
  refine Call_ (ld_blt I hg hm boot_list (PyProof.Rows.callWith_type1 (args_cons ?_ na) na))
  refine Call_ (ld_blt I hgz hmz PyProof.Rows.boot_zip (PyProof.Rows.callWith_type1 (thn (ha.run cpos pins s σ H _ I h) fun us s1 ⟨vs, H1, I1, r1, q1⟩ => ?_) hs hpl))
  obtain ⟨a, b, kvs, ex, hqx, hqy, q⟩ := q1
  subst ex
  obtain ⟨u1, u2, eus, r, r'⟩ := vals2 r1
  subst eus
  cases r
  cases r'
  obtain ⟨its, rv, p1, z1⟩ := I1.list hqx
  obtain ⟨its2, rv2, p2', z2⟩ := I1.list hqy
  have la : a < s1.heap.objs.size := p1.lt
  have lb : b < s1.heap.objs.size := p2'.lt
  have n1 : its.length = kvs.length := by rw [← rv.length, List.length_map]
  have n2 : its2.length = kvs.length := by rw [← rv2.length, List.length_map]
  have z1' : kvs.length ≤ sizeLine := by
    rw [List.length_map] at z1
    exact z1
  refine call_zip_2 p1.isList p2'.isList fun h2 hz hTI hTO hi1 hi2 hsz hk => args_nil ?_
  have es : ({ s1 with heap := h2 } : Shared).heap.objs.size = s1.heap.objs.size + 5 := hsz
  refine z_call (s := { s1 with heap := h2 }) (lo := s1.heap.objs.size) (n := kvs.length) (xs := its.toArray) (ys := its2.toArray) (I1.ok.hd hc) (PySem.W.ktu_apart s1.heap.objs.size a b la lb) ?_ (by rw [es]; exact Nat.le_add_right _ _) (by rw [List.size_toArray, n1]) (by rw [List.size_toArray, n2]) z1' ⟨.inl ⟨hz, _, _, hTO⟩, hTI, hi1, hi2, p1.isList.at fun o e => hk _ o e, p2'.isList.at fun o e => hk _ o e⟩ hz fun h' tk acc c as kp hS hl g hacc => ?_
  · rw [es]
    constructor
    · exact ⟨Nat.le_add_right _ _, Nat.le_add_right _ _, Nat.le_refl _, Nat.le_add_right _ _⟩
    · exact ⟨Nat.add_lt_add_left (by decide) _, Nat.add_lt_add_left (by decide) _, Nat.add_lt_add_left (by decide) _, Nat.lt_add_of_pos_right (by decide), Nat.add_lt_add_left (by decide) _, Nat.lt_of_lt_of_le la (Nat.le_add_right _ _), Nat.lt_of_lt_of_le lb (Nat.le_add_right _ _)⟩
  · rw [es] at hS g ⊢
    dsimp only at kp
    have kp1 : ∀ b o, s1.heap.get? b = some o → h'.get? b = some o := fun b o e => kp b o (Heap.lt_size e) (hk b o e)
    have nS : H1 (s1.heap.objs.size + 5) = none := I1.hok.fresh (Nat.le_add_right _ _)
    have ge : ∀ t ∈ as, s1.heap.objs.size ≤ t := fun t m => Nat.le_trans (Nat.le_add_right _ _) (Nat.le_of_lt (g.above t m))
    have nT : ∀ t ∈ as, H1 t = none := fun t m => I1.hok.fresh (ge t m)
    have Sn : s1.heap.objs.size + 5 ∉ as := fun m => Nat.lt_irrefl _ (g.above _ m)
    have nd : as.Nodup := List.Pairwise.imp (fun {a b} (l : a < b) => Nat.ne_of_lt l) g.rise
    have atP := LiI.putT_at as kvs (upd H1 (s1.heap.objs.size + 5) (.lst (as.map V.ref))) hl nd
    have eS : LiI.putT (upd H1 (s1.heap.objs.size + 5) (.lst (as.map V.ref))) as kvs (s1.heap.objs.size + 5) = some (.lst (as.map V.ref)) := by rw [LiI.putT_off as kvs _ Sn, upd_same]
    have off : ∀ b, b ∉ as → b ≠ s1.heap.objs.size + 5 → LiI.putT (upd H1 (s1.heap.objs.size + 5) (.lst (as.map V.ref))) as kvs b = H1 b := fun b h1 h2 => by rw [LiI.putT_off as kvs _ h1, upd_ne h2]
    generalize LiI.putT (upd H1 (s1.heap.objs.size + 5) (.lst (as.map V.ref))) as kvs = H' at atP eS off
    have sm : Same H1 H' := fun b o e => by
      rw [off b (fun m => by rw [nT b m] at e; cases e) (fun z => by rw [z, nS] at e; cases e)]
      exact e
    refine ⟨.ref (s1.heap.objs.size + 5), H', laidMany (s := s1) (tk := tk) I1 kp1 sm fun b u n e => ?_, rfl, q H' _ as sm nS nT Sn eS atP⟩
    by_cases hb : b ∈ as
    · refine ⟨ge b hb, ?_⟩
      obtain ⟨j, pk, e1, e2, e3⟩ := LiI.paired_ix atP hb
      rw [e3] at e
      cases e
      obtain ⟨x, y, f1, f2, f3⟩ := g.pairs j b e1
      have rx : RelV (kV pk.1) x := vals_at rv (j := j) (by rw [List.getElem?_map, e2]; rfl) (by simpa using f1)
      have ry : RelV pk.2 y := vals_at rv2 (j := j) (by rw [List.getElem?_map, e2]; rfl) (by simpa using f2)
      exact ⟨by show 2 ≤ sizeLine; decide, [x, y], .cons rx (.cons ry .nil), ⟨_, f3, rfl, _, rfl⟩⟩
    · by_cases hb2 : b = s1.heap.objs.size + 5
      · subst hb2
        refine ⟨Nat.le_add_right _ _, ?_⟩
        rw [eS] at e
        cases e
        refine ⟨by rw [List.length_map, hl]; exact z1', acc.toList, c, by rw [hacc]; exact LiI.vals_refs as, ?_⟩
        rw [Array.toArray_toList]
        exact hS
      · rw [off b hb hb2, n] at e
        cases e
theorem kLZ {X : Cx} {K : PySem.W.Frag} {e : Expr} {ta : TA} (h : PE X e (tListZip X.K ta)) (hK : X.K = K) : PE X e (tListZip K ta) := hK ▸ h
end HC

set_option Elab.async false
set_option linter.all false
set_option maxRecDepth 100000
set_option maxHeartbeats 2000000
/-! dict(list(zip(..))); a call in a test; a method's answer. -/
namespace HC
open PySem PySem.Spec PyProof.Rows L2 Evl
theorem mergeK_new : ∀ (more acc : List (Key × V)), ((acc ++ more).map (·.1)).Nodup → mergeK acc more = acc ++ more
  | [], acc, _ => (List.append_nil acc).symm
  | p :: more, acc, h => by
    have hk : valV acc p.1 = none := valV_none_iff.mpr fun m => by
      rw [List.map_append, List.nodup_append] at h
      exact h.2.2 _ m p.1 (by simp) rfl
    show mergeK (putK acc p.1 p.2) more = _
    rw [putK_new p.2 hk, mergeK_new more (acc ++ [(p.1, p.2)]) (by rw [List.append_assoc]; exact h), List.append_assoc]
    rfl
/-- rows by their numbers -/
def zipKV (rs : List V) : List (Key × V) := ((List.range rs.length).zip rs).map fun p => (.inl (p.1 : Int), p.2)
theorem zipKV_keys (rs : List V) : (zipKV rs).map (fun q => kV q.1) = (List.range rs.length).map nV := by
  unfold zipKV
  rw [List.map_map]
  exact zip_fst_map nV rs
theorem zipKV_vals (rs : List V) : (zipKV rs).map Prod.snd = rs := by
  unfold zipKV
  rw [List.map_map]
  exact List.map_snd_zip (l₁ := List.range rs.length) (l₂ := rs) (by rw [List.length_range]; exact Nat.le_refl _)
theorem zipKV_len (rs : List V) : (zipKV rs).length = rs.length := by
  have h := congrArg List.length (zipKV_vals rs)
  rw [List.length_map] at h
  exact h
theorem zipKV_nd (rs : List V) : ((zipKV rs).map (·.1)).Nodup := by
  have h : (zipKV rs).map (·.1) = (List.range rs.length).map fun i : Nat => (.inl (i : Int) : Key) := by
    unfold zipKV
    rw [List.map_map]
    exact zip_fst_map (fun i : Nat => (.inl (i : Int) : Key)) rs
  rw [h]
  exact List.Pairwise.map _ (fun a b (h : a ≠ b) z => h (by have := Sum.inl.inj z; omega)) List.nodup_range
theorem zipKV_val {rs : List V} {i : Nat} {x : V} (h : rs[i]? = some x) : valV (zipKV rs) (.inl (i : Int)) = some x := by
  have hi : i < rs.length := (List.getElem?_eq_some_iff.mp h).1
  refine val_nodup (zipKV_nd rs) (.inl (i : Int), x) ?_
  unfold zipKV
  refine List.mem_map.mpr ⟨(i, x), List.mem_of_getElem? (i := i) (List.getElem?_zip_eq_some.mpr ⟨List.getElem?_range hi, h⟩), rfl⟩
def rDictP (K : PySem.W.Frag) : List V → Hp → VK → Prop := fun xs H Q => ∃ (a : Addr) (ps : List Addr) (kvs : List (Key × V)), xs = [.ref a] ∧ SqL K H a (ps.map V.ref) ∧ Paired (fun p kv => SqT K H p [kV kv.1, kv.2]) ps kvs ∧ ∀ p, H p = none → Q (.ref p) (upd H p (.dK (mergeK [] kvs)))
section
variable {K : PySem.W.Frag} {σ : L2.St} {H : Hp} {ta : TE} {D : Ends} {tu tw tz : TS}
/-- dict(list(zip(xs, ys))) -/
theorem ex_dictZip {t : TA} {A : List V → Hp → Prop} {kvs : List (Key × V)} (h : EvAX t σ H A) (hs : ∀ vs H1, Ex H H1 → A vs H1 → ∃ a b, vs = [.ref a, .ref b] ∧ SqL K H1 a (kvs.map fun q => kV q.1) ∧ SqL K H1 b (kvs.map Prod.snd)) (nd : (kvs.map (·.1)).Nodup) :
    EvX (tCB (rDictP K) (tCons (tListZip K t) tNil)) σ H (NewD kvs) := fun H1 e Q q => h H1 e _ fun vs H2 e2 a => by
  obtain ⟨x, y, rfl, hx, hy⟩ := hs vs H2 (e.trans e2) a
  refine ⟨x, y, kvs, rfl, hx, hy, fun H3 p ts e3 np nts pnt hp pr => ⟨p, ts, kvs, rfl, SqL.of hp, Paired.mapP pr fun _ _ h => SqT.of h, fun l nl => ?_⟩⟩
  rw [mergeK_new kvs [] nd]
  exact q _ _ ((e2.trans e3).trans (Ex.new nl)) ⟨l, rfl, fresh_back (e2.trans e3) nl, upd_same⟩
/-- x = o.m(..), the method changing things -/
theorem q_asgMeth {C p dx : Addr} {fs : List (Str × V)} {m : Str} {sp : Sp} {dvs : List V} {E : XK} {t : TA} {A : List V → Hp → Prop} {i : Nat} (ho : Ev ta σ H (.ref p)) (hp : H p = some (.ins C dx fs)) (hl : fs.lookup m = none) (h : EvAX t σ H A)
    (k : ∀ vs H1, Ex H H1 → A vs H1 → sp (.ref p :: (vs ++ dvs)) H1 (fun v H2 => tz D (σ.set i (some v)) H2) E) : tSeq (tAsg (tMeth C m sp dvs E ta t) (gName i)) tz D σ H :=
  ho H (Ex.refl H) _ fun H1 e1 => ⟨p, dx, fs, rfl, e1 _ _ hp, hl, h H1 e1 _ fun vs H2 e2 a => k vs H2 (e1.trans e2) a⟩
/-- if not f(..), f changing things -/
theorem s_ifNotCall {sp : Sp} {E : XK} {t : TA} {vs : List V} (h : EvA t σ H vs) (k : ∀ H1, Ex H H1 → sp (vs ++ []) H1 (fun v H2 => ∃ b, v = .bl b ∧ if (!b) = true then tu D σ H2 else tw D σ H2) E) : tIfS (tNot (tB (tCall sp [] E t))) tu tw D σ H := h H (Ex.refl H) _ fun H1 e => k H1 e
theorem s_ifNotCallA {sp : Sp} {E : XK} {t : TA} (h : t σ H fun vs H1 => sp (vs ++ []) H1 (fun v H2 => ∃ b, v = .bl b ∧ if (!b) = true then tu D σ H2 else tw D σ H2) E) : tIfS (tNot (tB (tCall sp [] E t))) tu tw D σ H := h
end
/-- the heap without the object at b -/
def offH (H : Hp) (b : Addr) : Hp := fun a => if a = b then none else H a
theorem offH_same {H : Hp} {b : Addr} : Same (offH H b) H := fun a o h => by
  unfold offH at h
  by_cases e : a = b
  · rw [if_pos e] at h
    cases h
  · rw [if_neg e] at h
    exact h
theorem offH_none {H : Hp} {b : Addr} : offH H b b = none := if_pos rfl
theorem offH_at {H : Hp} {a b : Addr} {o : HO} (n : a ≠ b) (h : H a = some o) : offH H b a = some o := by
  unfold offH
  rw [if_neg n]
  exact h
theorem cut_take (xs : List V) (c : Nat) : cutV xs none (some (c : Int)) = xs.take c := by
  unfold cutV
  have a : HT.sIx xs.length 0 none = 0 := rfl
  rw [a, HT.sIx_nat, List.drop_zero, Nat.sub_zero]
  by_cases h : c ≤ xs.length
  · rw [Nat.min_eq_left h]
  · rw [Nat.min_eq_right (by omega), List.take_of_length_le (Nat.le_refl _), List.take_of_length_le (by omega)]
theorem flat_rep (x : V) : ∀ k : Nat, (List.replicate k [x]).flatten = List.replicate k x
  | 0 => rfl
  | n + 1 => by rw [List.replicate_succ, List.replicate_succ, List.flatten_cons, flat_rep x n] <;> rfl
section
variable {σ : L2.St} {H : Hp} {ta tb : TE}
/-- [x] * k -/
theorem el_rep1 {x : V} {k : Nat} (ha : EvL ta σ H [x]) (hb : Ev tb σ H (.int (k : Int))) (hk : k ≤ 100000) : EvL (tOp rRep ta tb) σ H (List.replicate k x) := fun H1 e Q q =>
  ha H1 e _ fun p H2 np e2 hp => hb H2 (e.trans e2) _ fun H3 e3 => ⟨p, _, _, rfl, rfl, e3 _ _ hp, by omega, by omega, by show 1 * _ ≤ sizeLine; rw [Nat.one_mul, Int.toNat_natCast]; exact sz_of hk, fun l nl => by
    rw [Int.toNat_natCast, flat_rep]
    exact q l _ (fresh_back (e2.trans e3) nl) ((e2.trans e3).trans (Ex.new nl)) upd_same⟩
end
end HC

set_option Elab.async false
set_option linter.all false
set_option maxRecDepth 100000
set_option maxHeartbeats 4000000
namespace HC
open PySem PySem.Spec PyProof.Rows L2 Evl
local macro_rules
  | `(tactic| walk_at "ev") => `(tactic| first
    | exact ev_c
    | exact ev_var rfl
    | exact ea_nil
    | exact et_yes
    | exact eo_none
    | exact rv_I0
    | exact rv_eqI
    | exact rv_neI
    | exact rv_eqS
    | exact rv_neS
    | exact rv_eqB
    | exact rv_neB
    | exact rv_isN
    | exact rv_notN
    | exact rv_leS
    | exact rv_ltS
    | exact ru_neg
    | assumption
    | (apply ea_cons <;> walk_at "ev")
    | (apply et_test <;> walk_at "ev")
    | (apply et_B <;> walk_at "ev")
    | (apply et_not <;> walk_at "ev")
    | (apply ev_op <;> walk_at "ev")
    | (apply ev_un <;> walk_at "ev")
    | (apply ev_isi_int (h := kit_int_int) <;> walk_at "ev")
    | (apply ev_isi_int (h := kit_int_bool) <;> walk_at "ev")
    | (apply ev_isi_str (h := kit_str_str) <;> walk_at "ev")
    | (apply ev_isi_lst (h := kit_list_list) <;> walk_at "ev")
    | (apply ev_isi_tup (h := kit_tuple_tuple) <;> walk_at "ev")
    | (apply rc_lenL ; assumption)
    | (apply rc_lenT ; assumption)
    | (apply rc_lenS ; assumption)
    | (apply ev_chain <;> first | walk_at "ev" | (intro _; walk_at "ev"))
    | (apply et_or <;> first | walk_at "ev" | (intro _; walk_at "ev"))
    | (apply et_and <;> first | walk_at "ev" | (intro _; walk_at "ev"))
    | (apply ev_orV <;> first | walk_at "ev" | (intro _; walk_at "ev"))
    | (apply ev_andV <;> first | walk_at "ev" | (intro _; walk_at "ev"))
    | (apply ev_notV <;> walk_at "ev")
    | (apply ev_cb <;> walk_at "ev")
    | (apply eo_some <;> walk_at "ev"))
local macro_rules
  | `(tactic| walk_at "dec") => `(tactic| first
    | assumption
    | exact dnI
    | exact dnS
    | decide +kernel
    | (with_reducible rfl)
    | (simp only [decide_eq_true_eq, Bool.and_eq_true, Bool.not_eq_true', decide_eq_false_iff_not, Bool.not_true, Bool.not_false, Bool.and_eq_false_iff, Bool.or_eq_false_iff, Bool.or_eq_true]; omega)
    | rfl)
local macro_rules
  | `(tactic| walk_at "dt") => `(tactic| first
    | assumption
    | exact et_yes
    | (apply et_orF <;> walk_at "dt")
    | (apply et_andT <;> walk_at "dt")
    | (apply et_notF; walk_at "dt")
    | (apply et_notT; walk_at "dt")
    | (apply et_chT <;> first | walk_at "ev" | walk_at "dec")
    | (apply et_leaf <;> first | walk_at "ev" | walk_at "dec")
    | (apply et_leafB <;> first | walk_at "ev" | walk_at "dec"))
local macro_rules
  | `(tactic| walk_at "pass") => `(tactic| (refine' q_pass ?zzh ?zzk; (case zzh => walk_at "dt")))
local macro_rules
  | `(tactic| walk_at "yes") => `(tactic| ((first | refine' q_yes ?zzh ?zzk | refine' s_yes ?zzh ?zzk); (case zzh => walk_at "dt")))
local macro_rules
  | `(tactic| walk_at "no") => `(tactic| ((first | refine' q_no ?zzh ?zzk | refine' s_no ?zzh ?zzk); (case zzh => walk_at "dt")))
local macro_rules
  | `(tactic| walk_at "ret") => `(tactic| (refine' s_ret (v := _) ?zzh ?zzk; (case zzh => walk_at "ev")))
local macro_rules
  | `(tactic| walk_at "set") => `(tactic| ((first | refine' q_asg (v := _) ?zzh ?zzk | refine' s_asg (v := _) ?zzh ?zzk); (case zzh => walk_at "ev")))
section
variable {P : Program} {w : World} {K : PySem.W.Frag} {mg : Str → Option Value} {base : Heap}
/-- for .. in range(draw(bag, m)) -/
theorem q_forD0 {σ : L2.St} {H : Hp} {te : TE} {E : XK} {B : Hp} {b : Addr} {m : Nat} {g : TG} {tu tz : TS} {D : Ends} (hb : σ[0]? = some (some (.ref b))) (he : Ev te σ H (nV m)) (sB : Same B H) (bb : B b = none) (bg : BagAt H b) (h0 : 0 < m) (hm : m < 1000)
    (k : ∀ (d : Nat) H1, d < m → Step [b] B H B H1 → BagAt H1 b → tSeq (tFor (iRng1 (tCons (tC (.int (d : Int))) tNil)) g tu) tz D σ H1) : tSeq (tFor (iRng1 (tCons (tCall (sp_law_draw K) [] E (tCons (tVar 0) (tCons te tNil))) tNil)) g tu) tz D σ H :=
  ⟨_, hb, he H (Ex.refl H) _ fun H1 e1 => ⟨B, b, m, rfl, sB.trans e1, bb, bg.ex e1, h0, hm, fun d H2 hd st bg2 => k d H2 hd (((Step.refl sB).ex e1).trans st) bg2⟩⟩
/-- != of two sessions with one last state -/
theorem rv_neSes {E : XK} {ks : List Kind} {n : Nat} {st : St} {H : Hp} {s o dx k L U dx2 k2 L2 U2 : Addr} {svs svs2 : List V} {v : V} (hs : H s = some (.ins (aSession K) dx (seFs k L U))) (hk : H k = some (.lst (ks.map Kind.v))) (hL : H L = some (.lst (svs ++ [v])))
    (ho : H o = some (.ins (aSession K) dx2 (seFs k2 L2 U2))) (hk2 : H k2 = some (.lst (ks.map Kind.v))) (hL2 : H L2 = some (.lst (svs2 ++ [v]))) (sr : StRep K ks n H v st) : RV (rNeO (aSession K) (sp_Session_eq K) E) (.ref s) (.ref o) H (.bl false) := fun H1 e Q k' =>
  ⟨s, o, dx, dx2, _, _, rfl, rfl, e _ _ hs, e _ _ ho, s, o, ks, n, st, dx, k, L, U, dx2, k2, L2, U2, svs, svs2, v, rfl, e _ _ hs, e _ _ hk, e _ _ hL, e _ _ ho, e _ _ hk2, e _ _ hL2, sr.mono e (Nat.le_refl n), fun H2 e2 => ⟨true, rfl, k' H2 e2⟩⟩
def sp_law_right (_ : PySem.W.Frag) : Sp := fun vs H Q _ => ∃ b : Addr, vs = [.ref b] ∧ BagAt H b ∧ ∀ H', But b H H' → Q (.bl true) H'
/-! _law_right: slots 0:_law_bag_here 1:_law_table_here 2:_law_kinds 3:_law_here 4:_law_cells 5:_law_done 6:_law_undone 7:_law_step 8:_law_other -/
theorem sc_law_right : FnScope ["_law_bag_here", "_law_table_here", "_law_kinds", "_law_here", "_law_cells", "_law_done", "_law_undone", "_law_step", "_law_other"] ["_law_bag_here"] (defScope s_law_right) := ⟨rfl, rfl, rfl, by decide +kernel, rfl, by decide +kernel, by decide +kernel⟩
theorem ok_law_right (T : Tp K mg w) : FnOk P w K mg base CX0 9 (a_law_right K) (fdAt K (a_law_right K)) ["_law_bag_here"] (sp_law_right K) := by
  refine T.f_law_right.ok sc_law_right (fun vs H Q E h => ?_) (fun cdv A outer s H vs Q E hr h => ?_)
  · obtain ⟨b, rfl, bg, q⟩ := h
    rfl
  · obtain ⟨b, rfl, bg, q⟩ := h
    refine ⟨_, PSs.nox (pss_cons (ps_set (i := 1) sc_law_right.nd rfl (Or.inl rfl) (pe_call (ok_law_table (K := K) T) (hr.mono (by decide)) rfl T.g_law_table T.f_law_table.kp T.bn_law_table .nil pass0 (pa_cons (pv 0) (pa_cons pe_int (pa_cons pe_int pa_nil)))))
      (pss_cons (ps_set (i := 2) sc_law_right.nd rfl (Or.inl rfl) (pe_ix (kIx (K := K) (r := rIxT) ix_tup rfl) (pv 1) pe_int (fun _ _ => rfl)))
      (pss_cons (ps_set (i := 3) sc_law_right.nd rfl (Or.inl rfl) (pe_make T.mk_Session (ok_Session_init (K := K) T) (hr.mono (by decide)) rfl T.g_Session T.bn_Session_init .nil pass0 (pa_cons (pv 1) pa_nil)))
      (pss_cons (ps_set (i := 4) sc_law_right.nd rfl (Or.inl rfl) (pe_callTy (kCR (K := K) (r := rDictP) (call_dictP rfl) rfl) rfl T.b_dict (by decide +kernel) (pa_cons (kLZ (K := K) (pe_listZip rfl rfl T.b_list rfl T.b_zip (pa_cons (pe_listRg rfl rfl T.b_list (prg_1 rfl T.b_range (pe_callB (kCR (K := K) (r := rLenQ) call_len_seq rfl) rfl T.b_len (by decide +kernel) (pa_cons (pe_ix (kIx (K := K) (r := rIxT) ix_tup rfl) (pv 1) pe_int (fun _ _ => rfl)) pa_nil)))) (pa_cons (pe_ix (kIx (K := K) (r := rIxT) ix_tup rfl) (pv 1) pe_int (fun _ _ => rfl)) pa_nil))) rfl) pa_nil)))
      (pss_cons (ps_set (i := 5) sc_law_right.nd rfl (Or.inl rfl) (pe_lst (pa_cons (pe_tup (pa_cons (pv 4) (pa_cons (pe_listRg rfl rfl T.b_list (prg_1 rfl T.b_range (pe_callB (kCR (K := K) (r := rLenQ) call_len_seq rfl) rfl T.b_len (by decide +kernel) (pa_cons (pe_ix (kIx (K := K) (r := rIxT) ix_tup rfl) (pv 1) pe_int (fun _ _ => rfl)) pa_nil)))) (pa_cons (pe_lst pa_nil) (pa_cons (pe_tup (pa_cons (pe_lst pa_nil) (pa_cons pe_int pa_nil))) (pa_cons (pe_callB (kCR (K := K) (r := rLenQ) call_len_seq rfl) rfl T.b_len (by decide +kernel) (pa_cons (pe_ix (kIx (K := K) (r := rIxT) ix_tup rfl) (pv 1) pe_int (fun _ _ => rfl)) pa_nil)) pa_nil)))))) pa_nil)))
      (pss_cons (ps_set (i := 6) sc_law_right.nd rfl (Or.inl rfl) (pe_lst pa_nil))
      (pss_cons (ps_for PassesOwn.never rfl (pi_range1 rfl T.b_range (pa_cons (pe_call (ok_law_draw (K := K) T) (hr.mono (by decide)) rfl T.g_law_draw T.f_law_draw.kp T.bn_law_draw .nil pass0 (pa_cons (pv 0) (pa_cons pe_int pa_nil))) pa_nil)) (pg_name (i := 7) sc_law_right.nd rfl (Or.inl rfl)) (pss_one (ps_if (pt_not (pt_val (pe_call (ok_law_step_right (K := K) T) (hr.mono (by decide)) rfl T.g_law_step_right T.f_law_step_right.kp T.bn_law_step_right .nil pass0 (pa_cons (pv 0) (pa_cons (pv 3) (pa_cons (pv 2) (pa_cons (pv 5) (pa_cons (pv 6) pa_nil)))))))) (pss_one (ps_ret pe_bl)) pss_nil)))
      (pss_cons (ps_set (i := 8) sc_law_right.nd rfl (Or.inl rfl) (pe_meth0 (pv 3) T.cl_Session T.m_Session_duplicate (ok_Session_duplicate (K := K) T) (hr.mono (by decide)) T.bn_Session_duplicate .nil pass0))
      (pss_cons (ps_if (PW.pt (pw_or (pt_cmpR (op_neO (ok_Session_eq (K := K) T) (hr.mono (by decide)) T.m_Session_eq T.ne_Session T.so_Session T.bn_Session_eq pass0) (pv 8) (pv 3) (nomark _)) (pw_or1 (pt_not (pt_val (pe_call (ok_law_state_right (K := K) T) (hr.mono (by decide)) rfl T.g_law_state_right T.f_law_state_right.kp T.bn_law_state_right .nil pass0 (pa_cons (pv 8) (pa_cons (pv 2) (pa_cons (pe_ix (kIx (K := K) (r := rIxL) ix_list rfl) (pv 5) (pe_un un_neg pe_int) (fun _ _ => rfl)) pa_nil))))))))) (pss_one (ps_ret pe_bl)) pss_nil)
      (pss_cons (ps_expr (pe_meth (pv 8) T.cl_Session T.m_Session_click (ok_Session_click (K := K) T) (hr.mono (by decide)) T.bn_Session_click .nil pass0 (pa_cons pe_int pa_nil)))
      (pss_cons (ps_if (pt_not (pt_val (pe_call (ok_law_state_right (K := K) T) (hr.mono (by decide)) rfl T.g_law_state_right T.f_law_state_right.kp T.bn_law_state_right .nil pass0 (pa_cons (pv 3) (pa_cons (pv 2) (pa_cons (pe_ix (kIx (K := K) (r := rIxL) ix_list rfl) (pv 5) (pe_un un_neg pe_int) (fun _ _ => rfl)) pa_nil)))))) (pss_one (ps_ret pe_bl)) pss_nil)
      (pss_one (ps_ret (pe_and (pe_call (ok_law_state_right (K := K) T) (hr.mono (by decide)) rfl T.g_law_state_right T.f_law_state_right.kp T.bn_law_state_right .nil pass0 (pa_cons (pv 8) (pa_cons (pv 2) (pa_cons (pe_call (ok_law_state_clicked (K := K) T) (hr.mono (by decide)) rfl T.g_law_state_clicked T.f_law_state_clicked.kp T.bn_law_state_clicked .nil pass0 (pa_cons (pv 2) (pa_cons (pe_ix (kIx (K := K) (r := rIxL) ix_list rfl) (pv 5) (pe_un un_neg pe_int) (fun _ _ => rfl)) (pa_cons pe_int pa_nil)))) pa_nil)))) (pe_one (pe_call (ok_law_text_right (K := K) T) (hr.mono (by decide)) rfl T.g_law_text_right T.f_law_text_right.kp T.bn_law_text_right .nil pass0 (pa_cons (pv 2) (pa_cons (pe_ix (kIx (K := K) (r := rIxL) ix_list rfl) (pv 5) (pe_un un_neg pe_int) (fun _ _ => rfl)) pa_nil)))))))))))))))))), ?_⟩
    have sB : Same (offH H b) H := offH_same
    have bb : offH H b b = none := offH_none
    have off : ∀ {B' H' : Hp}, Same (offH H b) B' → Same B' H' → But b H H' := fun s1 s2 a o n h => s2 _ _ (s1 _ _ (offH_at n h))
    generalize offH H b = B at sB bb off
    refine q_asgCall (vs := [.ref b, nV 3, nV 4]) (ea_cons (ev_var rfl) (ea_cons ev_c (ea_cons ev_c ea_nil))) fun H1 e1 => ⟨B, b, 3, 4, rfl, sB.trans e1, bb, bg.ex e1, by omega, by omega, by omega, by omega, fun v H2 ks rows tok hr4 st2 bg2 ta2 => ?_⟩
    have p2 : Step [b] B H (ext B H1 H2) H2 := ((Step.refl sB).ex e1).trans st2
    clear st2
    generalize ext B H1 H2 = B2 at p2 ta2
    have ta := ta2
    obtain ⟨t, ka, rb, rs, rfl, ht, hka, hrb, pr⟩ := ta2.ex
    have hk1 := tok.k1
    have hk8 := tok.k8
    refine q_asg (v := .ref ka) (ev_op (ev_var rfl) ev_c (rv_ixT (SqT.of (p2.sH _ _ ht)) (atI_nat (j := 0) rfl))) fun H3 e3 => ?_
    refine q_asgMake (EvX.of (ev_var (v := .ref t) rfl)) fun v4 H4 e4 ev4 s dx ns nd ne => ?_
    subst ev4
    have p4 := (p2.ex e3).ex e4
    have ps1 := p4.trans (Step.new (o := .own s) p4.sH nd [b])
    have ns1 : (upd H4 dx (.own s)) s = none := by
      rw [upd_ne ne.symm]
      exact ns
    have p5 := ps1.trans (Step.new (o := .ins (aSession K) dx []) ps1.sH ns1 [b])
    have e5 : Same H4 (upd (upd H4 dx (.own s)) s (.ins (aSession K) dx [])) := (same_new nd).trans (same_new ns1)
    have hs5 : (upd (upd H4 dx (.own s)) s (.ins (aSession K) dx [])) s = some (.ins (aSession K) dx []) := upd_same
    have bg5 : BagAt (upd (upd H4 dx (.own s)) s (.ins (aSession K) dx [])) b := ((bg2.ex e3).ex e4).ex e5
    generalize upd (upd H4 dx (.own s)) s (.ins (aSession K) dx []) = H5 at p5 e5 hs5 bg5 ⊢
    have ns0 : H s = none := p4.fresh ns
    have bs : B2 s = none := fresh_back p4.sH ns
    clear ps1 ns1
    refine ⟨B2, s, dx, .ref t, ks, rows, rfl, p5.sH, bs, hs5, ta.mono p5.sH, tok, fun B6 H6 L U st6 A6 nL nU => ⟨rfl, ?_⟩⟩
    have sb : s ≠ b := fun z => bg.some (by rw [← z]; exact ns0)
    have p6 : Step [b, s] B H B6 H6 := (p5.wide (by simp)).trans (st6.wide (by simp))
    have bg6 : BagAt H6 b := bg5.fr st6 (fun m => sb (List.mem_singleton.mp m).symm)
    have nL0 : H L = none := p5.fresh nL
    have nU0 : H U = none := p5.fresh nU
    have up6 : ∀ {a : Addr} {o : HO}, B2 a = some o → H6 a = some o := fun h => p6.sH _ _ (st6.sB _ _ h)
    have hrl : rs.length = rows.length := Paired.length pr
    have hln : ∀ {σ : L2.St} {Hx : Hp}, Same H6 Hx → σ[1]? = some (some (.ref t)) → Ev (tCB (rLenQ K) (tCons (tOp (rIxT K) (tVar 1) (tC (.int 1))) tNil)) σ Hx (.int (rows.length : Int)) := fun e h => ev_is (ev_cb (ea_cons (ev_op (ev_var h) ev_c (rv_ixT (SqT.of (e _ _ (up6 ht))) (atI_nat (j := 1) rfl))) ea_nil) (rc_lenL (e _ _ (up6 hrb)))) (by rw [hrl])
    refine q_asgX (ex_dictZip (K := K) (kvs := zipKV rs) (eax_l (el_lrg (hln (Same.refl H6) rfl) (by omega)) (eax_v (v := .ref rb) (ev_op (ev_var rfl) ev_c (rv_ixT (SqT.of (up6 ht)) (atI_nat (j := 1) rfl))) eax_nil)) (fun vs H7 e7 ⟨us, p, f1, hp, us2, f2, f3⟩ => ?_) (zipKV_nd rs)) fun v7 H7 e7 ⟨cd, ecd, ncd, hcd⟩ => ?_
    · subst f3 f2 f1
      exact ⟨p, rb, rfl, SqL.of (by rw [zipKV_keys, hrl]; exact hp), SqL.of (by rw [zipKV_vals]; exact e7 _ _ (up6 hrb))⟩
    subst ecd
    refine q_asgX (ex_lst1X (ex_tupA (eax_v (v := .ref cd) (ev_var rfl) (eax_lF (el_lrg (hln e7 rfl) (by omega)) (eax_lF el_nil (eax_e0 (eax_v (v := .int (rows.length : Int)) (hln e7 rfl) eax_nil))))) fun vs H8 ⟨u1, f1, u2, l2, f2, _, _, u3, l3, f3, _, _, u4, t1, p1, f4, _, _, _, _, u5, f5, f6⟩ => by
        subst f6 f5 f4 f3 f2 f1
        show 5 ≤ 100000
        omega)) fun v8 H8 e8 ⟨Dn, y8, G8, eDn, g1, ⟨tp, vs, G9, ey, g2, g3, ntp, ⟨u1, f1, u2, l2, f2, nl2, hl2, u3, l3, f3, nl3, hl3, u4, t1, p1, f4, nt1, np1, ht1, hp1, u5, f5, f6⟩, htp⟩, nDn, g4, hDn⟩ => ?_
    subst f6 f5 f4 f3 f2 f1 ey eDn
    have sm6 := A6.sm
    have e6G : Same H6 G8 := e7.trans g1
    have s67 : Step [] B6 H6 (ext B6 H6 G8) H8 := (Step.pure sm6 e6G []).ex g4
    have nw : ∀ {a : Addr} {o : HO}, H7 a = none → G8 a = some o → ext B6 H6 G8 a = some o := fun n h => ext_new sm6 (fresh_back e7 n) h
    have bD : ext B6 H6 G8 Dn = none := fresh_back (ext_same sm6 e6G) nDn
    have lr0 : LRep rows.length (ext B6 H6 G8) (.ref tp) (stNew rows) := by
      refine ⟨tp, cd, l2, l3, .ref t1, rfl, nw ntp htp, ⟨zipKV rs, ext_new sm6 ncd (g1 _ _ hcd), by rw [zipKV_len, hrl]; exact Nat.le_refl _, fun r m => ?_⟩, nw nl2 (g3 _ _ hl2), nw nl3 (g3 _ _ hl3), t1, p1, [], rfl, nw nt1 (g3 _ _ ht1), nw np1 (g3 _ _ hp1), .nil⟩
      have hr : r < rows.length := List.mem_range.mp m
      have hrr : rs[r]? = some (rs[r]'(by omega)) := List.getElem?_eq_getElem (by omega)
      obtain ⟨a, ea, ha⟩ := paired_at pr hrr (List.getElem?_eq_getElem hr)
      refine ⟨a, by rw [zipKV_val hrr, ea], ?_⟩
      show _ = some (HO.lst (rows.getD r []))
      rw [List.getD_eq_getElem?_getD, List.getElem?_eq_getElem hr]
      exact s67.sB _ _ (st6.sB _ _ ha)
    have hka7 : ext B6 H6 G8 ka = some (.lst (ks.map Kind.v)) := s67.sB _ _ (st6.sB _ _ hka)
    have eGH : Same (ext B6 H6 G8) G8 := ext_same sm6 e6G
    clear nw
    generalize ext B6 H6 G8 = B7 at s67 bD lr0 hka7 eGH
    refine q_asgL el_nil fun Un H9 nUn e9 hUn => ?_
    have s69 := s67.ex e9
    have p9 : Step [b, s] B H B7 H9 := p6.trans (s69.wide (by simp))
    obtain ⟨dx6, k6, svs6, uvs6, hs6, hk6, hL6, hU6, _, _⟩ := A6.ex
    have nD6 : H6 Dn = none := fresh_back e6G nDn
    have nU6 : H6 Un = none := fresh_back (e6G.trans g4) nUn
    have R : Run K ks rows.length B7 H9 b s L U ka Dn Un [stNew rows] [] := by
      refine ⟨A6.step s69 (by simp) (by simp) (by simp) (Nat.le_refl _), ⟨⟨[.ref tp], [], e9 _ _ hDn, hUn, .cons lr0 .nil, .nil⟩, bD, fresh_back (eGH.trans g4) nUn, ne_of_none hDn nUn⟩, p9.mu b bg.some bb, bg6.ex ((e6G.trans g4).trans e9), hka7, fun st m => ?_, ⟨sb.symm, fun z => bg.some (by rw [z]; exact nL0), fun z => bg.some (by rw [z]; exact nU0), fun z => bg6.some (by rw [z]; exact nD6), fun z => bg6.some (by rw [z]; exact nU6)⟩, ⟨(ne_of_none hs6 nD6).symm, (ne_of_none hL6 nD6).symm, (ne_of_none hU6 nD6).symm⟩, ⟨(ne_of_none hs6 nU6).symm, (ne_of_none hL6 nU6).symm, (ne_of_none hU6 nU6).symm⟩⟩
      rw [List.append_nil, List.mem_singleton] at m
      rw [m]
      exact stNew_ok tok.ok
    have smB : Same B B7 := p9.sB
    clear A6 hln up6 p6 p9 s67 s69 eGH lr0 bg6 bg5 bg2 p5 p4 p2 st6 nD6 nU6 hs6 hk6 hL6 hU6
    refine q_forD0 (K := K) (m := 19) rfl ev_c R.ses.sm R.bb R.bg (by omega) (by omega) fun d H10 hd st10 bg10 => ?_
    have R10 := R.draw st10 bg10
    refine q_forR1 (n := (d : Int)) (ea_cons ev_c ea_nil) (by omega) (fun i σ' H' => (∃ z7, σ' = [some (.ref b), some (.ref t), some (.ref ka), some (.ref s), some (.ref cd), some (.ref Dn), some (.ref Un), z7, none]) ∧ ∃ (B' : Hp) (U' : Addr) (sts uns : List St), Run K ks (rows.length + i) B' H' b s L U' ka Dn Un sts uns ∧ sts ≠ [] ∧ sts.length + uns.length ≤ rows.length + i + 1 ∧ Same B B') (fun H11 e11 => ⟨⟨_, rfl⟩, B7, U, _, _, R10.ex e11, by simp, by show 1 + 0 ≤ _; omega, smB⟩) (fun i σ' H' hi ⟨⟨z7, es⟩, B', U', sts, uns, R', hne, hln', smB'⟩ => ?_) fun σ' H' ⟨⟨z7, es⟩, B', U', sts, uns, R', hne, hln', smB'⟩ => ?_
    · subst es
      refine s_ifNotCall (vs := [.ref b, .ref s, .ref ka, .ref Dn, .ref Un]) (ea_cons (ev_var rfl) (ea_cons (ev_var rfl) (ea_cons (ev_var rfl) (ea_cons (ev_var rfl) (ea_cons (ev_var rfl) ea_nil))))) fun H11 e11 => ⟨ks, rows.length + i, B', b, s, L, U', ka, Dn, Un, sts, uns, rfl, R'.ex e11, hne, hk1, hk8, by omega, hln', fun B2' H2' U2 sts2 uns2 R2 hne2 hl2' st2 => ⟨true, rfl, iteF ⟨⟨_, rfl⟩, B2', U2, sts2, uns2, R2, hne2, hl2', smB'.trans st2.sB⟩⟩⟩
    · subst es
      have hn : rows.length + ((d : Int)).toNat ≤ 22 := by omega
      generalize rows.length + ((d : Int)).toNat = n at R' hln' hn
      rcases sts.eq_nil_or_concat with h0 | ⟨sts', st, h0⟩
      · exact absurd h0 hne
      rw [List.concat_eq_append] at h0
      subst h0
      rw [List.length_append, List.length_singleton] at hln'
      obtain ⟨dx1, k1, svs, uvs, hs, hk1', hL, hU, q1, q2⟩ := R'.ses.ex
      obtain ⟨svs', v, rfl, q3, sr⟩ := paired_snoc_inv q1
      refine q_asgMeth (ev_var rfl) hs rfl eax_nil fun vs H12 e12 evs => ?_
      subst evs
      have R12 := R'.ex e12
      refine ⟨s, n, ks, B', L, U', sts' ++ [st], uns, rfl, R12.ses, hk1, hk8, fun B3 H13 c Lc U2 st13 A13 nc nLc nU2 same13 => ?_⟩
      have R13 := R12.step st13 (by simp) (R12.bg.fr st13 (by simp)) (Nat.le_refl n)
      have far : ∀ {a : Addr}, H12 a = none → a ≠ s ∧ a ≠ L ∧ a ≠ U' ∧ a ≠ Dn ∧ a ≠ Un ∧ a ≠ b := fun h => by
        obtain ⟨dvs, uvs2, hD, hUL, _, _⟩ := R12.law.ex
        exact ⟨(ne_of_none (e12 _ _ hs) h).symm, (ne_of_none (e12 _ _ hL) h).symm, (ne_of_none (e12 _ _ hU) h).symm, (ne_of_none hD h).symm, (ne_of_none hUL h).symm, fun z => R12.bg.some (by rw [← z]; exact h)⟩
      obtain ⟨dvs, uvs2, hD, hUL, w1, w2⟩ := R13.law.ex
      obtain ⟨dvs', dv, rfl, w3, lr⟩ := paired_snoc_inv w1
      have ok : StOk ks n st := R13.ok st (by simp)
      obtain ⟨dxc, kc, svc, uvc, hc, hkc, _, _, _, _⟩ := A13.ex
      have hk13 : H13 ka = some (.lst (ks.map Kind.v)) := R13.ses.sm _ _ R13.hk
      have hs13 := st13.fr _ _ (by simp) (e12 _ _ hs)
      have hL13 := st13.fr _ _ (by simp) (e12 _ _ hL)
      have last : ∀ {σ : L2.St} {Hx : Hp}, Same H13 Hx → σ[5]? = some (some (.ref Dn)) → Hx Dn = some (.lst (dvs' ++ [dv])) → Ev (tOp (rIxL K) (tVar 5) (tUn (rU fun i => .int (-i)) (tC (.int 1)))) σ Hx dv := fun e h hx => ev_op (ev_var h) (ev_un ev_c ru_neg) (rv_ixL (SqL.of hx) (atI_last _ _))
      refine q_pass (et_orF (et_leaf (ev_op (ev_var rfl) (ev_var rfl) (rv_neSes (n := n) (st := st) hc (A13.sm _ _ hkc) (same13 _ (e12 _ _ hL)) hs13 (A13.sm _ _ (st13.sB _ _ hk1')) hL13 (sr.mono (st13.sB.trans A13.sm) (Nat.le_refl n)))) rfl) (et_notF (et_B (ev_call (vs := [.ref c, .ref ka, dv]) (ea_cons (ev_var rfl) (ea_cons (ev_var rfl) (ea_cons (last (Same.refl _) rfl hD) ea_nil))) fun H15 e15 Q kk E => ⟨c, ka, dv, n, ks, st, rfl, A13.top.mono e15, e15 _ _ hk13, lr.mono (R13.ses.sm.trans e15) (Nat.le_refl n), ok, hk8, by omega, kk⟩)))) fun H14 e14 => ?_
      refine q_dropMeth (ev_var rfl) (e14 _ _ hc) rfl (eax_v (v := nV 0) ev_c eax_nil) fun vs H15 e15 ⟨us, f1, f2⟩ => ?_
      subst f2 f1
      have e145 := e14.trans e15
      have A15 := A13.step ((Step.refl (M := []) A13.sm).ex e145) (by simp) (by simp) (by simp) (Nat.le_refl n)
      have R15 := R13.ex e145
      refine ⟨c, 0, n, ks, B3, Lc, U2, sts', st, uns, rfl, A15, ok, hk1, hk8, by omega, by omega, fun B4 H16 U3 st16 A16 nU3 => ?_⟩
      have farM : ∀ a ∈ [c, Lc], a ≠ s ∧ a ≠ L ∧ a ≠ U' ∧ a ≠ Dn ∧ a ≠ Un ∧ a ≠ b := fun a m => by
        rcases List.mem_cons.mp m with rfl | m
        · exact far nc
        · rw [List.mem_singleton.mp m]
          exact far nLc
      have R16 := R15.step st16 (fun a m => ⟨(farM a m).1, (farM a m).2.1, (farM a m).2.2.1, (farM a m).2.2.2.1, (farM a m).2.2.2.2.1⟩) (R15.bg.fr st16 fun m => (farM b m).2.2.2.2.2 rfl) (Nat.le_refl n)
      have hD16 := st16.fr _ _ (fun m => (farM Dn m).2.2.2.1 rfl) (e145 _ _ hD)
      have lr16 : LRep n B4 dv st := lr.mono st16.sB (Nat.le_refl n)
      have hk16 : H16 ka = some (.lst (ks.map Kind.v)) := R16.ses.sm _ _ R16.hk
      have lastD : ∀ {σ : L2.St} {Hx : Hp}, Same H16 Hx → σ[5]? = some (some (.ref Dn)) → Ev (tOp (rIxL K) (tVar 5) (tUn (rU fun i => .int (-i)) (tC (.int 1)))) σ Hx dv := fun e h => ev_op (ev_var h) (ev_un ev_c ru_neg) (rv_ixL (SqL.of (e _ _ hD16)) (atI_last _ _))
      refine q_pass (et_notF (et_B (ev_call (vs := [.ref s, .ref ka, dv]) (ea_cons (ev_var rfl) (ea_cons (ev_var rfl) (ea_cons (lastD (Same.refl _) rfl) ea_nil))) fun H17 e17 Q kk E => ⟨s, ka, dv, n, ks, st, rfl, R16.ses.top.mono e17, e17 _ _ hk16, lr16.mono (R16.ses.sm.trans e17) (Nat.le_refl n), ok, hk8, by omega, kk⟩))) fun H17 e17 => ?_
      have A17 := A16.step ((Step.refl (M := []) A16.sm).ex e17) (by simp) (by simp) (by simp) (Nat.le_succ n)
      have hk17 := e17 _ _ hk16
      refine s_ret (v := .bl true) (ev_is (ev_andV (a := true) (b := true) (ev_callA (eax_v (v := .ref c) (ev_var rfl) (eax_v (v := .ref ka) (ev_var rfl) (eax_x (B := fun v H => LRep (n + 1) H v (stClick ks st 0)) (ex_call (R := fun v H1 H2 => LRep n (ext B4 H1 H2) v (stClick ks st 0)) (vs := [.ref ka, dv, nV 0]) (ea_cons (ev_var rfl) (ea_cons (lastD e17 rfl) (ea_cons ev_c ea_nil))) fun H18 e18 Q kk E => ⟨ka, dv, 0, n, ks, B4, st, rfl, A17.sm.trans e18, R16.hk, lr16, ok, hk1, by omega, fun v' H' s h => kk v' H' s h⟩) (fun v H1 H2 H3 e1 e2 e3 ⟨G, g1, g2, h⟩ => h.mono ((ext_same (A17.sm.trans (e1.trans g1)) g2).trans e3) (Nat.le_succ n)) eax_nil))) fun vs H18 e18 ⟨u1, f1, u2, f2, u3, v3, f3, l3, f4⟩ => ?_)
        fun _ => ev_call (vs := [.ref ka, dv]) (ea_cons (ev_var rfl) (ea_cons (lastD e17 rfl) ea_nil)) fun H18 e18 Q kk E => ⟨ka, dv, n, ks, st, rfl, e18 _ _ hk17, lr16.mono (A17.sm.trans e18) (Nat.le_refl n), ok, hk1, hk8, by omega, kk⟩) rfl) fun H18 e18 => q H18 (off (smB'.trans (st13.sB.trans st16.sB)) (A17.sm.trans e18))
      subst f4 f3 f2 f1
      exact fun H19 e19 Q kk E => ⟨c, ka, v3, n + 1, ks, stClick ks st 0, rfl, A17.top.mono (e18.trans e19), e19 _ _ (e18 _ _ hk17), l3.mono e19 (Nat.le_refl _), ok.click hk1, hk8, by omega, kk⟩
end
end HC


set_option Elab.async false
set_option linter.all false
set_option maxRecDepth 100000
set_option maxHeartbeats 4000000
namespace HC
open PySem PySem.Spec PyProof.Rows L2 Evl
local macro_rules
  | `(tactic| walk_at "ev") => `(tactic| first
    | exact ev_c
    | exact ev_var rfl
    | exact ea_nil
    | exact et_yes
    | exact eo_none
    | exact rv_I0
    | exact rv_eqI
    | exact rv_neI
    | exact rv_eqS
    | exact rv_neS
    | exact rv_eqB
    | exact rv_neB
    | exact rv_isN
    | exact rv_notN
    | exact rv_leS
    | exact rv_ltS
    | exact ru_neg
    | assumption
    | (apply ea_cons <;> walk_at "ev")
    | (apply et_test <;> walk_at "ev")
    | (apply et_B <;> walk_at "ev")
    | (apply et_not <;> walk_at "ev")
    | (apply ev_op <;> walk_at "ev")
    | (apply ev_un <;> walk_at "ev")
    | (apply ev_isi_int (h := kit_int_int) <;> walk_at "ev")
    | (apply ev_isi_int (h := kit_int_bool) <;> walk_at "ev")
    | (apply ev_isi_str (h := kit_str_str) <;> walk_at "ev")
    | (apply ev_isi_lst (h := kit_list_list) <;> walk_at "ev")
    | (apply ev_isi_tup (h := kit_tuple_tuple) <;> walk_at "ev")
    | (apply rc_lenL ; assumption)
    | (apply rc_lenT ; assumption)
    | (apply rc_lenS ; assumption)
    | (apply ev_chain <;> first | walk_at "ev" | (intro _; walk_at "ev"))
    | (apply et_or <;> first | walk_at "ev" | (intro _; walk_at "ev"))
    | (apply et_and <;> first | walk_at "ev" | (intro _; walk_at "ev"))
    | (apply ev_orV <;> first | walk_at "ev" | (intro _; walk_at "ev"))
    | (apply ev_andV <;> first | walk_at "ev" | (intro _; walk_at "ev"))
    | (apply ev_notV <;> walk_at "ev")
    | (apply ev_cb <;> walk_at "ev")
    | (apply eo_some <;> walk_at "ev"))
local macro_rules
  | `(tactic| walk_at "dec") => `(tactic| first
    | assumption
    | exact dnI
    | exact dnS
    | decide +kernel
    | (with_reducible rfl)
    | (simp only [decide_eq_true_eq, Bool.and_eq_true, Bool.not_eq_true', decide_eq_false_iff_not, Bool.not_true, Bool.not_false, Bool.and_eq_false_iff, Bool.or_eq_false_iff, Bool.or_eq_true]; omega)
    | rfl)
local macro_rules
  | `(tactic| walk_at "dt") => `(tactic| first
    | assumption
    | exact et_yes
    | (apply et_orF <;> walk_at "dt")
    | (apply et_andT <;> walk_at "dt")
    | (apply et_notF; walk_at "dt")
    | (apply et_notT; walk_at "dt")
    | (apply et_chT <;> first | walk_at "ev" | walk_at "dec")
    | (apply et_leaf <;> first | walk_at "ev" | walk_at "dec")
    | (apply et_leafB <;> first | walk_at "ev" | walk_at "dec"))
local macro_rules
  | `(tactic| walk_at "pass") => `(tactic| (refine' q_pass ?zzh ?zzk; (case zzh => walk_at "dt")))
local macro_rules
  | `(tactic| walk_at "yes") => `(tactic| ((first | refine' q_yes ?zzh ?zzk | refine' s_yes ?zzh ?zzk); (case zzh => walk_at "dt")))
local macro_rules
  | `(tactic| walk_at "no") => `(tactic| ((first | refine' q_no ?zzh ?zzk | refine' s_no ?zzh ?zzk); (case zzh => walk_at "dt")))
local macro_rules
  | `(tactic| walk_at "ret") => `(tactic| (refine' s_ret (v := _) ?zzh ?zzk; (case zzh => walk_at "ev")))
local macro_rules
  | `(tactic| walk_at "set") => `(tactic| ((first | refine' q_asg (v := _) ?zzh ?zzk | refine' s_asg (v := _) ?zzh ?zzk); (case zzh => walk_at "ev")))
section
variable {P : Program} {w : World} {K : PySem.W.Frag} {mg : Str → Option Value} {base : Heap}
theorem s_ifNotCall2 {σ : L2.St} {H : Hp} {D : Ends} {tu tw : TS} {sp sp2 : Sp} {E E2 : XK} {t : TA} {vs : List V} (h : EvA t σ H vs) (k : ∀ H1, Ex H H1 → sp2 (vs ++ []) H1 (fun v H2 => sp ([v] ++ []) H2 (fun v H3 => ∃ b, v = .bl b ∧ if (!b) = true then tu D σ H3 else tw D σ H3) E) E2) :
    tIfS (tNot (tB (tCall sp [] E (tCons (tCall sp2 [] E2 t) tNil)))) tu tw D σ H := h H (Ex.refl H) _ fun H1 e => k H1 e
def sp_law (K : PySem.W.Frag) : Sp := fun vs H Q _ => ∃ (a : Addr) (ns : List Int), vs = [.ref a] ∧ SqL K H a (ns.map V.int) ∧ ∀ H', Q (.bl true) H'
/-! law: slots 0:_law_script 1:_law_cells 2:_law_k -/
theorem sc_law : FnScope ["_law_script", "_law_cells", "_law_k"] ["_law_script"] (defScope s_law) := ⟨rfl, rfl, rfl, by decide +kernel, rfl, by decide +kernel, by decide +kernel⟩
theorem ok_law (T : Tp K mg w) : FnOk P w K mg base CX0 10 (a_law K) (fdAt K (a_law K)) ["_law_script"] (sp_law K) := by
  refine T.f_law.ok sc_law (fun vs H Q E h => ?_) (fun cdv A outer s H vs Q E hr h => ?_)
  · obtain ⟨a, ns, rfl, hS, q⟩ := h
    rfl
  · obtain ⟨a, ns, rfl, hS, q⟩ := h
    refine ⟨_, PSs.nox (pss_cons (ps_set (i := 1) sc_law.nd rfl (Or.inl rfl) (pe_op op_cat (pe_slice (kSl (K := K) (r := rSlL) sl_list rfl) (pv 0) po_none (po_some pe_int)) (pe_op op_rep (pe_lst (pa_cons pe_int pa_nil)) (pe_callTy call_int1 rfl T.b_int (by decide +kernel) (pa_cons (pe_cmpR (kOp (K := K) (r := rEq0) (op_eq0 (units_of hr)) rfl) (pv 0) (pe_lst pa_nil) (nomark _)) pa_nil)))))
      (pss_cons (ps_for PassesOwn.never rfl (pi_range1 rfl T.b_range (pa_cons (pe_callB (kCR (K := K) (r := rLenQ) call_len_seq rfl) rfl T.b_len (by decide +kernel) (pa_cons (pv 1) pa_nil)) pa_nil)) (pg_name (i := 2) sc_law.nd rfl (Or.inl rfl)) (pss_one (ps_if (pt_not (pt_val (pe_call (ok_law_right (K := K) T) (hr.mono (by decide)) rfl T.g_law_right T.f_law_right.kp T.bn_law_right .nil pass0 (pa_cons (pe_call (ok_law_bag (K := K) T) (hr.mono (by decide)) rfl T.g_law_bag T.f_law_bag.kp T.bn_law_bag .nil pass0 (pa_cons (pe_ix (kIx (K := K) (r := rIxL) ix_list rfl) (pv 1) (pv 2) (fun _ _ => rfl)) (pa_cons (pv 2) pa_nil))) pa_nil)))) (pss_one (ps_ret pe_bl)) pss_nil)))
      (pss_one (ps_ret pe_bl)))), ?_⟩
    have hk : (if (ns.map V.int).isEmpty then 1 else 0 : Nat) ≤ 1 := by split <;> omega
    obtain ⟨ms, hms, hml⟩ : ∃ ms : List Int, cutV (ns.map V.int) none (some 4) ++ List.replicate (if (ns.map V.int).isEmpty then 1 else 0) (V.int 0) = ms.map V.int ∧ ms.length ≤ 5 := by
      refine ⟨ns.take 4 ++ List.replicate (if (ns.map V.int).isEmpty then 1 else 0) 0, ?_, ?_⟩
      · rw [show cutV (ns.map V.int) none (some 4) = (ns.map V.int).take 4 from cut_take _ 4, List.map_append, List.map_take, List.map_replicate]
      · rw [List.length_append, List.length_take, List.length_replicate]
        omega
    refine q_asgL (xs := ms.map V.int) ?_ fun cl H1 ncl e1 hcl => ?_
    · rw [← hms]
      refine el_catU (el_sl (ev_var rfl) eo_none (eo_some ev_c) hS) (el_rep1 (el_lst (vs := [.int 0]) (ea_cons ev_c ea_nil) (by show 1 ≤ 100000; omega)) (ev_is (ev_cb (ea_cons (ev_opL (ev_var rfl) el_nil fun p H2 hp e H3 e3 Q q => ⟨a, p, ns.map V.int, rfl, rfl, ex_l (e.trans e3) hS, SqL.of (e3 _ _ hp), q H3 (Ex.refl H3)⟩) ea_nil) fun H2 _ _ q => .inr ⟨_, rfl, q H2 (Ex.refl H2)⟩) (by split <;> rfl)) (by omega)) ?_
      have h := congrArg List.length hms
      rw [List.length_append, List.length_map] at h
      omega
    refine q_forR1 (n := (ms.length : Int)) (ea_cons (ev_cb (ea_cons (ev_var rfl) ea_nil) (rc_lenM hcl)) ea_nil) (by omega) (fun i σ' H' => (∃ z2, σ' = [some (.ref a), some (.ref cl), z2]) ∧ Same H1 H') (fun H2 e2 => ⟨⟨_, rfl⟩, e2⟩) (fun i σ' H' hi ⟨⟨z2, es⟩, s⟩ => ?_) fun σ' H' ⟨⟨z2, es⟩, s⟩ => s_ret ev_c fun H2 e2 => q H2
    subst es
    have hi' : i < ms.length := by omega
    refine s_ifNotCall2 (vs := [.int (ms[i]'hi'), nV i]) (ea_cons (ev_op (ev_var rfl) (ev_var rfl) (rv_ixL (SqL.of (s _ _ hcl)) (atI_nat (j := i) (by rw [List.getElem?_map, List.getElem?_eq_getElem hi'] <;> rfl)))) (ea_cons (ev_var rfl) ea_nil)) fun H2 e2 => ⟨_, i, rfl, by omega, fun b H3 nb e3 bag => ⟨b, rfl, bag, fun H4 but => ⟨true, rfl, iteF ⟨⟨_, rfl⟩, (s.trans e2).trans fun c o h => but c o (ne_of_none h nb) (e3 _ _ h)⟩⟩⟩⟩
end
end HC


set_option Elab.async false
set_option linter.all false
set_option maxRecDepth 100000
set_option maxHeartbeats 0
namespace HC
open PySem PySem.Spec PyProof.Rows L2
/-- the law's only parameter -/
theorem law_binds {K : PySem.W.Frag} {mg : Str → Option Value} {w : World} (T : Tp K mg w) (s : Shared) (v : Value) : BindsTo s (fdAt K (a_law K)) ⟨[v], []⟩ [("_law_script", v)] :=
  FunD.bindsA (ps := ["_law_script"]) T.f_law (fun _ _ _ _ _ _ us hl => match us, hl with | [_], _ => rfl) s [v] rfl
abbrev dLaw : DefRec := HandSHeadRun.topDef R.prog 85
abbrev qv : Program := PySem.W.view R.prog [85]
theorem law_name : dLaw.name = ("law" : Str) := by kernel_rfl
theorem law_most : PySem.Challenge.rw_headerclicks_k89_whole_sessions_and_text.most = some 63 := rfl
theorem law_nodef : dLaw.params.defaults = [] := by kernel_rfl
theorem walk : PySem.W.WalkO qv names (PySem.W.XL qv []) hk.says R.toRowW dLaw [] (fun f vs => PySem.call f vs) := by
  refine L2.walk_ofE (l := PySem.Challenge.rw_headerclicks_k89_whole_sessions_and_text) (n := 63) (k := 10) (x := "_law_script") (CX := L2.CX0) law_most (by decide) law_nodef ⟨rfl, by decide, by decide⟩ ?F (fun _ _ _ _ z => z)
  intro w mg fa h Y G hmg0
  obtain ⟨K, KX, c⟩ := Y
  have T : HC.Tp K mg w := ⟨h, KX, G, c⟩
  have hmg : mg ("law" : PySem.Str) = some (.ref fa) := by
    rw [← law_name]
    exact hmg0
  have ea : fa = HC.a_law K := by
    have z := hmg.symm.trans T.g_law
    injection z with z
    injection z with z
  subst ea
  exact ⟨K, HC.fdAt K (HC.a_law K), HC.sp_law K, KX, law_binds T, fun H a ns _ _ hS => ⟨a, ns, rfl, hS, fun _ => rfl⟩, fun base _ _ => HC.ok_law T⟩
end HC

set_option Elab.async false
set_option linter.all false
set_option maxRecDepth 100000
set_option maxHeartbeats 0
namespace HC
open PySem PySem.W PySem.Calls PyProof.Rows
theorem h_e : opening R.prog = plainProg R.prog.main.scope.names := by kernel_rfl
theorem h_f : ∀ s, fenceModules? R.prog s = some s := fun s => by kernel_rfl
theorem h_def : defOf qv R.name = some (dLaw, []) := by kernel_rfl
theorem h_p : R.prog.theDef R.name = some (dLaw.params, dLaw.body, dLaw.scope) := by kernel_rfl
theorem h_k : kwWritten? dLaw.params.kwonlyargs dLaw.params.kw_defaults = some [] := by kernel_rfl
end HC

set_option Elab.async false
set_option linter.all false
set_option maxRecDepth 100000
set_option maxHeartbeats 0
namespace HC
open PySem PySem.W PySem.Calls PyProof.Rows
/-! the looks at the text, one by one: together they want too much memory -/
theorem l_1 : sreFenced R.prog.main = true := by decide +kernel
theorem l_2 : ((moduleNames R.prog.main.body).isEmpty || lookedIntoSs (moduleNames R.prog.main.body) R.prog.main.body) = true := by decide +kernel
theorem l_3 : namesResolve R.prog = true := by decide +kernel
theorem l_4 : R.prog.boundNames.all (fun n => !worldNames.contains n) = true := by decide +kernel
theorem l_5a : (["vars", "dir", "locals"] : List Str).filter (readsOut R.prog R.prog.main.body) = [] := by decide +kernel
theorem l_5b : noRoadLSs { strict := !(importedModules R.prog.main.body).all cThrough.contains, foot := none, bare := [] } R.prog.main.body = true := by decide +kernel
theorem l_6 : (namesMeet R.prog R.prog.main.body fun _ n => attrL n) = true := by decide +kernel
theorem and_t {a b : Bool} (x : a = true) (y : b = true) : (a && b) = true := by rw [x, y]; rfl
theorem l_all : looksOpen R.prog = true := by
  unfold looksOpen
  rw [l_5a]
  exact and_t (and_t (and_t (and_t (and_t l_1 l_2) l_3) l_4) l_5b) l_6
theorem h_1 : R.wellSaid = true := by
  unfold OpenRow.wellSaid OpenRow.partSaid
  rw [l_all]
  decide +kernel
theorem h_wr : (!R.writes || R.records.isEmpty) = true := by rfl
theorem h_ok : (chainsOk qv && opensWell R.prog && (frees R.toRowW && R.within.isEmpty)) = true := by decide +kernel
theorem h_b : R.prog.bare := ⟨rfl, rfl, rfl, rfl, rfl, by decide +kernel⟩
theorem h_w : R.toRowW.promised := by w_witness2
end HC

set_option Elab.async false
set_option linter.all false
set_option maxRecDepth 100000
set_option maxHeartbeats 0
open PySem PySem.W PySem.Calls PyProof.Rows
theorem PySem.Challenge.cw_headerclicks_k89_whole_sessions_and_text_holds : PySem.Challenge.rw_headerclicks_k89_whole_sessions_and_text.Holds := by
  w_on; o_law
  exact HandSHeadRun.head_any (r := HC.R) (q := HC.qv) (H := HC.hk) (ob := HC.ob) (M := 6000) (loose := HC.names) (d := HC.dLaw) (kwd := []) HC.ob_eq HC.h_e HC.h_f HC.run HC.h_def HC.h_p HC.h_k HC.h_wr HC.h_1 HC.h_ok HC.h_b HC.h_w HC.walk

