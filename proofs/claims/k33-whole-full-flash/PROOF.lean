import PyProof.Rows.All
import Wide.All
import OpenK.AllK
import Wide.FinOn
import HandS.ForExc
import HandS.Dict
import HandS.More
import HandS.Defaults
import HandS.Head0
import HandS.Head1
import HandS.Head2
import HandS.HeadEnd
import HandS.HeadHook1
import HandS.HeadHook2
import HandS.HeadHook3
import HandS.HeadHook4
import HandS.Codes
import PySem.Challenge.RW_spindlegate_k33_whole_full_flash
import HandS.ForMost
import HandS.SetKeys
import HandS.DictTup
import HandS.DictComp
import HandS.DeepEq
import HandS.IsInst
import HandS.Flow
import PyProof.DictMoreH
import KE.KDictKeyed
import KE.KDictPairs
import KE.KDictCopyH
import HandS.TupSets
import KE.KDictSum
import KE.KDictList
import KE.KEqNest
import HandS.Base
import HandS.Walk
import HandS.SortRule
set_option Elab.async false
set_option linter.all false
set_option maxRecDepth 100000
namespace L2.Sg
open PySem PySem.Spec PyProof.Rows
def top (i : Nat) : Stmt := PySem.Challenge.pw_spindlegate_k33_whole_full_flash.main.body.getD i (.Pass ⟨0, 0, 0, 0⟩)
abbrev s_is_between : Stmt := top 12
abbrev s_next_page : Stmt := top 13
abbrev s_is_integer : Stmt := top 23
abbrev s_is_from : Stmt := top 24
abbrev s_are_fields : Stmt := top 27
abbrev s_is_record : Stmt := top 28
abbrev s_make_record : Stmt := top 29
abbrev s_answer_of : Stmt := top 30
abbrev s_space_effects : Stmt := top 31
abbrev s_effects : Stmt := top 33
abbrev s_live_records : Stmt := top 37
abbrev s_core : Stmt := top 38
abbrev s_shared_places : Stmt := top 39
abbrev s_need : Stmt := top 40
abbrev s_collect : Stmt := top 47
abbrev s_new_state : Stmt := top 56
abbrev s_with_entry : Stmt := top 57
abbrev s_with_mark : Stmt := top 58
abbrev s_apply_host_effect : Stmt := top 59
abbrev s_with_space : Stmt := top 60
abbrev s_with_snapshot : Stmt := top 62
abbrev s_apply_space_effect : Stmt := top 64
abbrev s_apply_effect : Stmt := top 65
abbrev s_apply_record : Stmt := top 66
abbrev s_fold : Stmt := top 67
abbrev s_law_cell : Stmt := top 74
abbrev s_law_digits : Stmt := top 75
abbrev s_law_answer : Stmt := top 76
abbrev s_law_without : Stmt := top 77
abbrev s_law_with : Stmt := top 78
abbrev s_law_start : Stmt := top 79
abbrev s_law_space : Stmt := top 81
abbrev s_law_after : Stmt := top 82
abbrev s_law_named : Stmt := top 86
abbrev s_law_added : Stmt := top 88
abbrev s_law_filled : Stmt := top 89
abbrev s_law_turn : Stmt := top 90
abbrev s_law : Stmt := top 91
abbrev s_Flash_init : Stmt := inClass (top 14) 0
abbrev s_Flash_check_block : Stmt := inClass (top 14) 1
abbrev s_Flash_check_page : Stmt := inClass (top 14) 2
abbrev s_Flash_read : Stmt := inClass (top 14) 3
abbrev s_Flash_operate : Stmt := inClass (top 14) 4
abbrev s_Flash_program : Stmt := inClass (top 14) 5
abbrev s_Flash_wear : Stmt := inClass (top 14) 8
abbrev s_Table_init : Stmt := inClass (top 36) 0
abbrev s_Table_is_hidden : Stmt := inClass (top 36) 1
abbrev s_Table_views : Stmt := inClass (top 36) 2
abbrev s_Table_last_index : Stmt := inClass (top 36) 3
abbrev s_Table_live_orders : Stmt := inClass (top 36) 4
abbrev s_Table_live : Stmt := inClass (top 36) 5
abbrev s_Table_is_shared : Stmt := inClass (top 36) 6
abbrev s_Table_shared : Stmt := inClass (top 36) 7
abbrev s_Log_init : Stmt := inClass (top 49) 0
abbrev s_Log_check_block : Stmt := inClass (top 49) 1
abbrev s_Log_state : Stmt := inClass (top 49) 2
abbrev s_Log_free_blocks : Stmt := inClass (top 49) 3
abbrev s_Log_room : Stmt := inClass (top 49) 6
abbrev s_Log_choose : Stmt := inClass (top 49) 7
abbrev s_Log_append : Stmt := inClass (top 49) 8
abbrev s_Log_records : Stmt := inClass (top 49) 10
abbrev s_Store_init : Stmt := inClass (top 72) 0
abbrev s_Store_next_order : Stmt := inClass (top 72) 1
abbrev s_Store_records : Stmt := inClass (top 72) 3
abbrev s_Store_limit : Stmt := inClass (top 72) 4
abbrev s_Store_need : Stmt := inClass (top 72) 5
abbrev s_Store_need_with : Stmt := inClass (top 72) 6
abbrev s_Store_fits : Stmt := inClass (top 72) 7
abbrev s_Store_add : Stmt := inClass (top 72) 8
abbrev s_Store_flush : Stmt := inClass (top 72) 9
def d_is_between : He.DefD := ⟨("is_between", none), "is_between", "is_between", defArgs s_is_between, defBody s_is_between, defScope s_is_between, [], []⟩
def d_next_page : He.DefD := ⟨("next_page", none), "next_page", "next_page", defArgs s_next_page, defBody s_next_page, defScope s_next_page, [], []⟩
def d_is_integer : He.DefD := ⟨("is_integer", none), "is_integer", "is_integer", defArgs s_is_integer, defBody s_is_integer, defScope s_is_integer, [], []⟩
def d_is_from : He.DefD := ⟨("is_from", none), "is_from", "is_from", defArgs s_is_from, defBody s_is_from, defScope s_is_from, [], []⟩
def d_are_fields : He.DefD := ⟨("are_fields", none), "are_fields", "are_fields", defArgs s_are_fields, defBody s_are_fields, defScope s_are_fields, [], []⟩
def d_is_record : He.DefD := ⟨("is_record", none), "is_record", "is_record", defArgs s_is_record, defBody s_is_record, defScope s_is_record, [], []⟩
def d_make_record : He.DefD := ⟨("make_record", none), "make_record", "make_record", defArgs s_make_record, defBody s_make_record, defScope s_make_record, [], []⟩
def d_answer_of : He.DefD := ⟨("answer_of", none), "answer_of", "answer_of", defArgs s_answer_of, defBody s_answer_of, defScope s_answer_of, [], []⟩
def d_space_effects : He.DefD := ⟨("space_effects", none), "space_effects", "space_effects", defArgs s_space_effects, defBody s_space_effects, defScope s_space_effects, [], []⟩
def d_effects : He.DefD := ⟨("effects", none), "effects", "effects", defArgs s_effects, defBody s_effects, defScope s_effects, [], []⟩
def d_live_records : He.DefD := ⟨("live_records", none), "live_records", "live_records", defArgs s_live_records, defBody s_live_records, defScope s_live_records, [], []⟩
def d_core : He.DefD := ⟨("core", none), "core", "core", defArgs s_core, defBody s_core, defScope s_core, [], []⟩
def d_shared_places : He.DefD := ⟨("shared_places", none), "shared_places", "shared_places", defArgs s_shared_places, defBody s_shared_places, defScope s_shared_places, [], []⟩
def d_need : He.DefD := ⟨("need", none), "need", "need", defArgs s_need, defBody s_need, defScope s_need, [], []⟩
def d_collect : He.DefD := ⟨("collect", none), "collect", "collect", defArgs s_collect, defBody s_collect, defScope s_collect, [], []⟩
def d_new_state : He.DefD := ⟨("new_state", none), "new_state", "new_state", defArgs s_new_state, defBody s_new_state, defScope s_new_state, [], []⟩
def d_with_entry : He.DefD := ⟨("with_entry", none), "with_entry", "with_entry", defArgs s_with_entry, defBody s_with_entry, defScope s_with_entry, [], []⟩
def d_with_mark : He.DefD := ⟨("with_mark", none), "with_mark", "with_mark", defArgs s_with_mark, defBody s_with_mark, defScope s_with_mark, [], []⟩
def d_apply_host_effect : He.DefD := ⟨("apply_host_effect", none), "apply_host_effect", "apply_host_effect", defArgs s_apply_host_effect, defBody s_apply_host_effect, defScope s_apply_host_effect, [], []⟩
def d_with_space : He.DefD := ⟨("with_space", none), "with_space", "with_space", defArgs s_with_space, defBody s_with_space, defScope s_with_space, [], []⟩
def d_with_snapshot : He.DefD := ⟨("with_snapshot", none), "with_snapshot", "with_snapshot", defArgs s_with_snapshot, defBody s_with_snapshot, defScope s_with_snapshot, [], []⟩
def d_apply_space_effect : He.DefD := ⟨("apply_space_effect", none), "apply_space_effect", "apply_space_effect", defArgs s_apply_space_effect, defBody s_apply_space_effect, defScope s_apply_space_effect, [], []⟩
def d_apply_effect : He.DefD := ⟨("apply_effect", none), "apply_effect", "apply_effect", defArgs s_apply_effect, defBody s_apply_effect, defScope s_apply_effect, [], []⟩
def d_apply_record : He.DefD := ⟨("apply_record", none), "apply_record", "apply_record", defArgs s_apply_record, defBody s_apply_record, defScope s_apply_record, [], []⟩
def d_fold : He.DefD := ⟨("fold", none), "fold", "fold", defArgs s_fold, defBody s_fold, defScope s_fold, [], []⟩
def d_law_cell : He.DefD := ⟨("_law_cell", none), "_law_cell", "_law_cell", defArgs s_law_cell, defBody s_law_cell, defScope s_law_cell, [], []⟩
def d_law_digits : He.DefD := ⟨("_law_digits", none), "_law_digits", "_law_digits", defArgs s_law_digits, defBody s_law_digits, defScope s_law_digits, [], []⟩
def d_law_answer : He.DefD := ⟨("_law_answer", none), "_law_answer", "_law_answer", defArgs s_law_answer, defBody s_law_answer, defScope s_law_answer, [], []⟩
def d_law_without : He.DefD := ⟨("_law_without", none), "_law_without", "_law_without", defArgs s_law_without, defBody s_law_without, defScope s_law_without, [], []⟩
def d_law_with : He.DefD := ⟨("_law_with", none), "_law_with", "_law_with", defArgs s_law_with, defBody s_law_with, defScope s_law_with, [], []⟩
def d_law_start : He.DefD := ⟨("_law_start", none), "_law_start", "_law_start", defArgs s_law_start, defBody s_law_start, defScope s_law_start, [], []⟩
def d_law_space : He.DefD := ⟨("_law_space", none), "_law_space", "_law_space", defArgs s_law_space, defBody s_law_space, defScope s_law_space, [], []⟩
def d_law_after : He.DefD := ⟨("_law_after", none), "_law_after", "_law_after", defArgs s_law_after, defBody s_law_after, defScope s_law_after, [], []⟩
def d_law_named : He.DefD := ⟨("_law_named", none), "_law_named", "_law_named", defArgs s_law_named, defBody s_law_named, defScope s_law_named, [], []⟩
def d_law_added : He.DefD := ⟨("_law_added", none), "_law_added", "_law_added", defArgs s_law_added, defBody s_law_added, defScope s_law_added, [], []⟩
def d_law_filled : He.DefD := ⟨("_law_filled", none), "_law_filled", "_law_filled", defArgs s_law_filled, defBody s_law_filled, defScope s_law_filled, [], []⟩
def d_law_turn : He.DefD := ⟨("_law_turn", none), "_law_turn", "_law_turn", defArgs s_law_turn, defBody s_law_turn, defScope s_law_turn, [], []⟩
def d_law : He.DefD := ⟨("law", none), "law", "law", defArgs s_law, defBody s_law, defScope s_law, [], []⟩
def d_Flash_init : He.DefD := ⟨("Flash", some "__init__"), "__init__", "Flash.__init__", defArgs s_Flash_init, defBody s_Flash_init, defScope s_Flash_init, [], []⟩
def d_Flash_check_block : He.DefD := ⟨("Flash", some "check_block"), "check_block", "Flash.check_block", defArgs s_Flash_check_block, defBody s_Flash_check_block, defScope s_Flash_check_block, [], []⟩
def d_Flash_check_page : He.DefD := ⟨("Flash", some "check_page"), "check_page", "Flash.check_page", defArgs s_Flash_check_page, defBody s_Flash_check_page, defScope s_Flash_check_page, [], []⟩
def d_Flash_read : He.DefD := ⟨("Flash", some "read"), "read", "Flash.read", defArgs s_Flash_read, defBody s_Flash_read, defScope s_Flash_read, [], []⟩
def d_Flash_operate : He.DefD := ⟨("Flash", some "operate"), "operate", "Flash.operate", defArgs s_Flash_operate, defBody s_Flash_operate, defScope s_Flash_operate, [], []⟩
def d_Flash_program : He.DefD := ⟨("Flash", some "program"), "program", "Flash.program", defArgs s_Flash_program, defBody s_Flash_program, defScope s_Flash_program, [], []⟩
def d_Flash_wear : He.DefD := ⟨("Flash", some "wear"), "wear", "Flash.wear", defArgs s_Flash_wear, defBody s_Flash_wear, defScope s_Flash_wear, [], []⟩
def d_Table_init : He.DefD := ⟨("Table", some "__init__"), "__init__", "Table.__init__", defArgs s_Table_init, defBody s_Table_init, defScope s_Table_init, [], []⟩
def d_Table_is_hidden : He.DefD := ⟨("Table", some "is_hidden"), "is_hidden", "Table.is_hidden", defArgs s_Table_is_hidden, defBody s_Table_is_hidden, defScope s_Table_is_hidden, [], []⟩
def d_Table_views : He.DefD := ⟨("Table", some "views"), "views", "Table.views", defArgs s_Table_views, defBody s_Table_views, defScope s_Table_views, [], []⟩
def d_Table_last_index : He.DefD := ⟨("Table", some "last_index"), "last_index", "Table.last_index", defArgs s_Table_last_index, defBody s_Table_last_index, defScope s_Table_last_index, [], []⟩
def d_Table_live_orders : He.DefD := ⟨("Table", some "live_orders"), "live_orders", "Table.live_orders", defArgs s_Table_live_orders, defBody s_Table_live_orders, defScope s_Table_live_orders, [], []⟩
def d_Table_live : He.DefD := ⟨("Table", some "live"), "live", "Table.live", defArgs s_Table_live, defBody s_Table_live, defScope s_Table_live, [], []⟩
def d_Table_is_shared : He.DefD := ⟨("Table", some "is_shared"), "is_shared", "Table.is_shared", defArgs s_Table_is_shared, defBody s_Table_is_shared, defScope s_Table_is_shared, [], []⟩
def d_Table_shared : He.DefD := ⟨("Table", some "shared"), "shared", "Table.shared", defArgs s_Table_shared, defBody s_Table_shared, defScope s_Table_shared, [], []⟩
def d_Log_init : He.DefD := ⟨("Log", some "__init__"), "__init__", "Log.__init__", defArgs s_Log_init, defBody s_Log_init, defScope s_Log_init, [], []⟩
def d_Log_check_block : He.DefD := ⟨("Log", some "check_block"), "check_block", "Log.check_block", defArgs s_Log_check_block, defBody s_Log_check_block, defScope s_Log_check_block, [], []⟩
def d_Log_state : He.DefD := ⟨("Log", some "state"), "state", "Log.state", defArgs s_Log_state, defBody s_Log_state, defScope s_Log_state, [], []⟩
def d_Log_free_blocks : He.DefD := ⟨("Log", some "free_blocks"), "free_blocks", "Log.free_blocks", defArgs s_Log_free_blocks, defBody s_Log_free_blocks, defScope s_Log_free_blocks, [], []⟩
def d_Log_room : He.DefD := ⟨("Log", some "room"), "room", "Log.room", defArgs s_Log_room, defBody s_Log_room, defScope s_Log_room, [], []⟩
def d_Log_choose : He.DefD := ⟨("Log", some "choose"), "choose", "Log.choose", defArgs s_Log_choose, defBody s_Log_choose, defScope s_Log_choose, [], []⟩
def d_Log_append : He.DefD := ⟨("Log", some "append"), "append", "Log.append", defArgs s_Log_append, defBody s_Log_append, defScope s_Log_append, [], []⟩
def d_Log_records : He.DefD := ⟨("Log", some "records"), "records", "Log.records", defArgs s_Log_records, defBody s_Log_records, defScope s_Log_records, [], []⟩
def d_Store_init : He.DefD := ⟨("Store", some "__init__"), "__init__", "Store.__init__", defArgs s_Store_init, defBody s_Store_init, defScope s_Store_init, [], []⟩
def d_Store_next_order : He.DefD := ⟨("Store", some "next_order"), "next_order", "Store.next_order", defArgs s_Store_next_order, defBody s_Store_next_order, defScope s_Store_next_order, [], []⟩
def d_Store_records : He.DefD := ⟨("Store", some "records"), "records", "Store.records", defArgs s_Store_records, defBody s_Store_records, defScope s_Store_records, [], []⟩
def d_Store_limit : He.DefD := ⟨("Store", some "limit"), "limit", "Store.limit", defArgs s_Store_limit, defBody s_Store_limit, defScope s_Store_limit, [], []⟩
def d_Store_need : He.DefD := ⟨("Store", some "need"), "need", "Store.need", defArgs s_Store_need, defBody s_Store_need, defScope s_Store_need, [], []⟩
def d_Store_need_with : He.DefD := ⟨("Store", some "need_with"), "need_with", "Store.need_with", defArgs s_Store_need_with, defBody s_Store_need_with, defScope s_Store_need_with, [], []⟩
def d_Store_fits : He.DefD := ⟨("Store", some "fits"), "fits", "Store.fits", defArgs s_Store_fits, defBody s_Store_fits, defScope s_Store_fits, [], []⟩
def d_Store_add : He.DefD := ⟨("Store", some "add"), "add", "Store.add", defArgs s_Store_add, defBody s_Store_add, defScope s_Store_add, [], []⟩
def d_Store_flush : He.DefD := ⟨("Store", some "flush"), "flush", "Store.flush", defArgs s_Store_flush, defBody s_Store_flush, defScope s_Store_flush, [], []⟩
def fn0 : List He.DefD := [d_is_between, d_next_page, d_is_integer, d_is_from, d_are_fields, d_is_record, d_make_record, d_answer_of, d_space_effects, d_effects, d_live_records, d_core, d_shared_places, d_need, d_collect, d_new_state, d_with_entry, d_with_mark, d_apply_host_effect, d_with_space, d_with_snapshot, d_apply_space_effect, d_apply_effect, d_apply_record]
def fn1 : List He.DefD := [d_fold, d_law_cell, d_law_digits, d_law_answer, d_law_without, d_law_with, d_law_start, d_law_space, d_law_after, d_law_named, d_law_added, d_law_filled, d_law_turn, d_law, d_Flash_init, d_Flash_check_block, d_Flash_check_page, d_Flash_read, d_Flash_operate, d_Flash_program, d_Flash_wear, d_Table_init, d_Table_is_hidden, d_Table_views]
def fn2 : List He.DefD := [d_Table_last_index, d_Table_live_orders, d_Table_live, d_Table_is_shared, d_Table_shared, d_Log_init, d_Log_check_block, d_Log_state, d_Log_free_blocks, d_Log_room, d_Log_choose, d_Log_append, d_Log_records, d_Store_init, d_Store_next_order, d_Store_records, d_Store_limit, d_Store_need, d_Store_need_with, d_Store_fits, d_Store_add, d_Store_flush]
def fnAll : List He.DefD := fn0 ++ fn1 ++ fn2
def fa0 : List He.Fa := [.glo "is_between", .glo "next_page", .glo "is_integer", .glo "is_from", .glo "are_fields", .glo "is_record", .glo "make_record", .glo "answer_of", .glo "space_effects", .glo "effects", .glo "live_records", .glo "core", .glo "shared_places", .glo "need", .glo "collect", .glo "new_state", .glo "with_entry", .glo "with_mark", .glo "apply_host_effect", .glo "with_space", .glo "with_snapshot", .glo "apply_space_effect", .glo "apply_effect", .glo "apply_record", .glo "fold", .glo "_law_cell", .glo "_law_digits", .glo "_law_answer", .glo "_law_without", .glo "_law_with"]
def fa1 : List He.Fa := [.glo "_law_start", .glo "_law_space", .glo "_law_after", .glo "_law_named", .glo "_law_added", .glo "_law_filled", .glo "_law_turn", .glo "law", .glo "need_index", .glo "Flash", .cls "Flash", .mkr "Flash", .meth "Flash" "__init__", .meth "Flash" "check_block", .meth "Flash" "check_page", .meth "Flash" "read", .meth "Flash" "operate", .meth "Flash" "program", .meth "Flash" "wear", .noat "Flash" "blocks", .noat "Flash" "held", .noat "Flash" "wears", .noat "Flash" "left", .noat "Flash" "power", .noat "Flash" "broken", .glo "Table", .cls "Table", .mkr "Table", .meth "Table" "__init__", .meth "Table" "is_hidden"]
def fa2 : List He.Fa := [.meth "Table" "views", .meth "Table" "last_index", .meth "Table" "live_orders", .meth "Table" "live", .meth "Table" "is_shared", .meth "Table" "shared", .noat "Table" "records", .noat "Table" "rows", .noat "Table" "oldest", .noat "Table" "snapshots", .glo "Log", .cls "Log", .mkr "Log", .meth "Log" "__init__", .meth "Log" "check_block", .meth "Log" "state", .meth "Log" "free_blocks", .meth "Log" "room", .meth "Log" "choose", .meth "Log" "append", .meth "Log" "records", .noat "Log" "flash", .noat "Log" "held", .noat "Log" "current", .glo "Store", .cls "Store", .mkr "Store", .meth "Store" "__init__", .meth "Store" "next_order", .meth "Store" "records"]
def fa3 : List He.Fa := [.meth "Store" "limit", .meth "Store" "need", .meth "Store" "need_with", .meth "Store" "fits", .meth "Store" "add", .meth "Store" "flush", .noat "Store" "flash", .noat "Store" "log", .noat "Store" "state", .noat "Store" "waiting", .int "PAGES" 8, .int "MIN_BLOCKS" 8, .int "MAX_BLOCKS" 24, .int "HOSTS" 4, .int "NAMESPACES" 8, .int "PLACES" 64, .int "HEAD" 5, .int "MOST_WAITING" 8, .int "SPARE" 9, .str "TORN" "torn", .free "len", .free "sorted", .free "isinstance", .free "range", .free "any", .free "dict", .free "list", .free "tuple", .free "int", .free "bool"]
def fa4 : List He.Fa := [.free "str", .glo "KINDS", .glo "COUNTS", .glo "HOST_TOPICS", .glo "NO_FENCE", .glo "NEVER_REFUSED"]
def faAll : List He.Fa := fa0 ++ fa1 ++ fa2 ++ fa3 ++ fa4
def loose0 : List PySem.Str := ["_wall", "SpindleError", "NotValid", "PowerOff", "BadFlash", "NoRoom", "PAGES", "MIN_BLOCKS", "MAX_BLOCKS", "TORN", "is_between", "next_page", "Flash", "KINDS", "COUNTS", "WAYS", "HOSTS", "NAMESPACES", "PLACES", "HEAD", "is_integer", "is_from", "is_way", "is_told", "are_fields", "is_record", "make_record", "answer_of", "space_effects", "fence_effects"]
def loose1 : List PySem.Str := ["effects", "HOST_TOPICS", "Table", "live_records", "core", "shared_places", "need", "need_index", "needed_in", "needed_records", "victim", "copied", "collect", "Log", "NO_FENCE", "with_key", "without_key", "with_holder", "new_state", "with_entry", "with_mark", "apply_host_effect", "with_space", "without_namespace", "with_snapshot", "with_registration", "apply_space_effect", "apply_effect", "apply_record", "fold"]
def loose2 : List PySem.Str := ["MOST_WAITING", "SPARE", "NEVER_REFUSED", "Store", "_law_cell", "_law_digits", "_law_answer", "_law_without", "_law_with", "_law_start", "_law_key", "_law_space", "_law_after", "_law_sure", "_law_told", "_law_step", "_law_named", "_law_record", "_law_added", "_law_filled", "_law_turn"]
def looseAll : List PySem.Str := loose0 ++ loose1 ++ loose2
def cKINDS : List He.Dv := [.str "mark", .str "make", .str "remove", .str "write", .str "trim", .str "snap", .str "drop", .str "register", .str "leave", .str "reserve", .str "release", .str "preempt"]
def cNEVER : List He.Dv := [.str "mark", .str "trim", .str "drop", .str "remove", .str "release", .str "leave", .str "preempt"]
def cTOPICS : List He.Dv := [.str "host", .str "told"]
def cCOUNTS : List (Str × He.Dv) := [("mark", .int 1), ("make", .int 2), ("remove", .int 1), ("write", .int 3), ("trim", .int 2), ("snap", .int 1), ("drop", .int 2), ("register", .int 1), ("leave", .int 2), ("reserve", .int 2), ("release", .int 1), ("preempt", .int 3)]
/-- NO_FENCE's first part -/
def noRegs (K : PySem.W.Frag) : Addr := match K.lookup (He.ga K "NO_FENCE") with
  | some ⟨_, _, .seq its _, _⟩ => (match its.toList with
    | (.ref a) :: _ => a
    | _ => 0)
  | _ => 0
def tupAtB (K : PySem.W.Frag) (a : Addr) (vs : List He.Dv) : Bool := match K.lookup a with
  | some ⟨.type c, _, .seq its _, _⟩ => decide (c = "tuple") && (decide (its.size ≤ sizeLine) && He.relAll (vs.map (He.Dv.v K)) its.toList)
  | _ => false
def exAll (K : PySem.W.Frag) : Bool := He.tupB K "KINDS" cKINDS && (He.tupB K "NEVER_REFUSED" cNEVER && (He.tupB K "HOST_TOPICS" cTOPICS && (He.tupB K "NO_FENCE" [.adr noRegs, .non] && (tupAtB K (noRegs K) [] && (He.valsB K (He.ga K "COUNTS") cCOUNTS && decide (He.ga K "need_index" = He.ga K "need"))))))
def tabs : List He.Tab := [((fun K => He.ga K "COUNTS"), cCOUNTS.map (·.1))]
def asL : List Addr := [3, 188, 187, 329, 328, 483, 482, 665, 664, 193, 194, 273, 489, 585, 488, 89, 88, 96, 95, 202, 201, 209, 208, 230, 229, 237, 236, 244, 243, 251, 250, 258, 257, 272, 271, 340, 339, 347, 346, 354, 353, 361, 360, 394, 393, 513, 512, 518, 517, 525, 524, 532, 531, 539, 538, 551, 550, 565, 564, 572, 571, 579, 578, 584, 583, 676, 675, 683, 682, 690, 689, 695, 694, 702, 701, 709, 708, 721, 720, 726] ++ [725, 750, 749, 764, 763, 771, 770, 778, 777, 785, 784, 108, 107, 115, 114, 122, 121, 129, 128, 136, 135, 143, 142, 164, 163, 285, 284, 292, 291, 299, 298, 304, 303, 311, 310, 316, 315, 321, 320, 326, 325, 406, 405, 413, 412, 420, 419, 425, 424, 444, 443, 449, 448, 456, 455, 468, 467, 599, 598, 606, 605, 620, 619, 627, 626, 634, 633, 641, 640, 648, 647, 655, 654, 662, 661]
abbrev R : PySem.W.OpenRow := PySem.W.OpenLaw.row PySem.Challenge.rw_spindlegate_k33_whole_full_flash
/-- what is looked at behind the top: the objects at these places -/
def obsL (g : Addr → Option Obj) : He.AlT × Bool := (He.obsT faAll fnAll tabs (He.frG g asL), exAll (He.frG g asL))
def hkL : PySem.W.Hook where
  α := He.AlT × Bool
  obs := fun s => obsL s.heap.get?
  val := fun w => (He.valT fnAll tabs w, true)
  says := fun w h => ∃ K : PySem.W.Frag, K.In h ∧ He.SaysT faAll fnAll tabs w K ∧ exAll K = true
  of := fun _ _ e => ⟨_, He.frG_in, congrArg Prod.fst e, congrArg Prod.snd e⟩
  keeps := fun _ _ _ ⟨K, hK, c⟩ k => ⟨K, hK.keeps k, c⟩
def ob (s : PySem.W.SharedT) : He.AlT × Bool := obsL (HandSHeadRun.getT s)
theorem ob_eq (s : PySem.W.SharedT) : ob s = hkL.obs s.abs := by
  have e : HandSHeadRun.getT s = s.abs.heap.get? := funext (HandSHeadRun.getT_eq s)
  show obsL (HandSHeadRun.getT s) = obsL s.abs.heap.get?
  rw [e]
end L2.Sg
set_option Elab.async false
set_option linter.all false
set_option maxRecDepth 100000
set_option maxHeartbeats 0
namespace L2.Sg
open PySem PySem.Spec PyProof.Rows
theorem run_f (w : World) : HandSHeadRun.RunEq R (PySem.W.view R.prog [91]) hkL ob 5500 looseAll (w.withFollow "special-get-raises" false) := by
  intro os
  kernel_rfl
theorem run_t (w : World) : HandSHeadRun.RunEq R (PySem.W.view R.prog [91]) hkL ob 5500 looseAll (w.withFollow "special-get-raises" true) := by
  intro os
  kernel_rfl
theorem run (w : World) : HandSHeadRun.RunEq R (PySem.W.view R.prog [91]) hkL ob 5500 looseAll w := PySem.W.byRow2 "special-get-raises" run_f run_t w
end L2.Sg
set_option Elab.async false
set_option linter.all false
set_option maxRecDepth 100000
set_option maxHeartbeats 2000000
namespace L2.Sg
open PySem PySem.Spec PyProof.Rows
/-! ### setdefault of a dict whose keys are tuples -/
def tSetdT (td ty tx : TE) : TE := fun σ H Q => td σ H fun x H1 => ∃ a, x = .ref a ∧ IsD H1 a ∧ ty σ H1 fun y H2 => tx σ H2 fun z H3 => ∃ (kvs : List (List Key × V)) (k : List Key) (b : Addr), H3 a = some (.dT kvs) ∧ y = .ref b ∧ H3 b = some (.tup (k.map kV)) ∧
  kvs.length < sizeLine ∧ (∀ v, valV kvs k = some v → Q v H3) ∧ (valV kvs k = none → Q z (upd H3 a (.dT (putK kvs k z))))
theorem setd_tup {X : Cx} {pins : List (Addr × Obj)} {σ : St} {H : Hp} {s : Shared} {a b : Addr} {r : Value} {d : V} {k : List Key} {A : Around} {E Q : Value → Shared → Prop} {kvs : List (List Key × V)}
    (hu : A.units + 1 < cLine) (I : Inv X pins σ H s) (ha : H a = some (.dT kvs)) (hb : H b = some (.tup (k.map kV))) (rd : RelV d r) (hl : kvs.length < sizeLine)
    (old : ∀ v, valV kvs k = some v → ∀ (w' : Value) (s' : Shared), Inv X pins σ H s' → RelV v w' → Q w' s')
    (new : valV kvs k = none → ∀ (w' : Value) (s' : Shared), Inv X pins σ (upd H a (.dT (putK kvs k d))) s' → RelV d w' → Q w' s') :
    wpAny (model X.prog X.w) A (call (.builtin "dict.setdefault") [.ref a, .ref b, r]) Q E s := by
  obtain ⟨hz, hm, xs, kt, hx⟩ := dt_of I.hok ha
  have hxs : xs.length ≤ sizeLine := by
    have := Paired.length kt
    omega
  have kv := kt.val k
  refine call_setdefault_heap (hsz := hxs) (tupleKind_room_in1 hu) (key_of I.hok hb) hm hx (fun p hp => ?_) fun hn h' hx' same => ?_
  · rw [hp] at kv
    cases q : valV kvs k with
    | none => rw [q] at kv; exact False.elim kv
    | some v =>
      rw [q] at kv
      exact old v q _ _ (I.tok _) kv
  · rw [hn] at kv
    cases q : valV kvs k with
    | some v => rw [q] at kv; exact False.elim kv
    | none =>
      obtain ⟨ob, es, ep, h1, h2, h3, h4, _, h5⟩ := hx'
      have hl2 : (putK kvs k d).length ≤ sizeLine := Nat.le_trans (length_putK kvs k d) (by omega)
      refine new q _ _ (d_write (t' := s.toks + (tupleKind (mixKind X.prog X.w)).draws k) I (by rw [ha]; exact True.intro) same ⟨ob, h1⟩ ⟨hl2, hm, _, (kt.put k hb rd).keeps fun c ys ec => ?_, ob, es, ep, h1, h2, h3, h4, h5⟩) rd
      rw [upd_ne (ne_of ec ha fun z => nomatch z), ec]
theorem pe_setdT {X : Cx} {o e f : Expr} {td ty tx : TE} {apos cpos : Pos} (hu : X.A.units + 1 < cLine) (ho : PE X o td) (he : PE X e ty) (hf : PE X f tx) (m : M2 X o "setdefault" apos e f cpos) :
    PE X (.Call (.Attribute o "setdefault" apos) [e, f] [] cpos) (tSetdT td ty tx) := by
  constructor
  intro pins s σ H Q I h
  refine wpAny_Call_method m.base m.few m.line PySem.F.plainAttrs_dict PySem.F.slot_dict_setdefault PySem.F.type_dict_setdefault (thn (ho.run pins s σ H _ I h) ?_)
  rintro u s1 ⟨x, H1, I1, rx, a, rfl, d, q1⟩
  cases rx
  have td := isD_at I1 d
  refine ⟨td.1, td.2.1, ?_⟩
  rw [m.trees]
  refine Calls.callWith_builtin rfl (Calls.evalArgs_plain (Calls.spliced_cons (thn (he.run pins s1 σ H1 _ I1 q1) ?_)))
  rintro iv s2 ⟨y, H2, I2, ry, q2⟩
  refine Calls.spliced_cons (thn (hf.run pins s2 σ H2 _ I2 q2) ?_)
  rintro fv s3 ⟨z, H3, I3, rz, kvs, k, b, ea, rfl, eb, hl, q3, q4⟩
  cases ry
  exact Calls.spliced_nil (setd_tup hu I3 ea eb rz hl (fun v hv w' s4 I4 r4 => ⟨v, H3, I4, r4, q3 v hv⟩) fun hn w' s4 I4 r4 => ⟨z, _, I4, r4, q4 hn⟩)
end L2.Sg
set_option Elab.async false
set_option linter.all false
set_option maxRecDepth 100000
set_option maxHeartbeats 2000000
namespace L2.Sg
open PySem PySem.Spec PyProof.Rows
/-! ### the pairs of a locked dict with tuple keys -/
/-- the i-th turn gives a new pair of the key's own tuple and the value -/
def ItiT (d : Addr) (o : Obj) (kvs : List (List Key × V)) : It :=
  ⟨fun i H => H d = some (.frz o (.dT kvs)) ∧ i < kvs.length,
   fun i H x H' => ∃ (T q : Addr) (k : List Key) (v : V), kvs[i]? = some (k, v) ∧ H q = some (.tup (k.map kV)) ∧ x = .ref T ∧ H T = none ∧ H' = upd H T (.tup [.ref q, v]),
   fun i H => H d = some (.frz o (.dT kvs)) ∧ kvs.length ≤ i⟩
theorem frz_pairs {X : Cx} {pins : List (Addr × Obj)} {σ : L2.St} {H : Hp} {s : Shared} {d : Addr} {o : Obj} {es : Array DictEntry} {ep : Nat} {kvs : List (List Key × V)} (I : Inv X pins σ H s) (h : H d = some (.frz o (.dT kvs))) (ho : o.data = .dict es ep) :
    (d == sysModules) = false ∧ DT.Raw s.heap d es ep ∧ es.size = kvs.length ∧
      ∀ (i : Nat) (k : List Key) (v : V) (hi : i < es.size), kvs[i]? = some (k, v) → ∃ q : Addr, es[i].key = .ref q ∧ H q = some (.tup (k.map kV)) ∧ RelV v es[i].val := by
  obtain ⟨h0, hz, hm, xs, kt, o2, es2, ep2, h1, h2, h3, h4, h5⟩ := I.hok d _ h
  rw [h0] at h1
  cases h1
  obtain ⟨rfl, rfl⟩ := dict_ep h3 ho
  have l1 : es.size = xs.length := size_of_entries h4
  have l2 : kvs.length = xs.length := Paired.length kt
  refine ⟨hm, ⟨o, h0, h2, h3⟩, by omega, fun i k v hi e => ?_⟩
  obtain ⟨b, hb, e1, e2, e3⟩ := paired_get kt e
  have q := entry_at h4 i
  rw [hb, Array.getElem?_eq_getElem hi] at q
  have q' : es[i] = entryOfKey (tupleKind (mixKind X.prog X.w)) b := Option.some.inj q
  exact ⟨b.2.1, by rw [q'] <;> rfl, e2, by rw [q']; exact e3⟩
theorem turn_pairsT {P : Program} {w : World} {K : PySem.W.Frag} {d : Addr} {o : Obj} {es : Array DictEntry} {ep : Nat} {kvs : List (List Key × V)} {elts : List Expr} {kk : Nat} {tpos : Pos} (it : Addr) (ho : o.data = .dict es ep) (hn : es.size = kvs.length) :
    Turn P w K (.Tuple elts kk tpos) (ItiT d o kvs) [it] it (fun i h => ∃ ok ov, IsItemIter h it d i es.size ep ok ov) where
  mem := List.mem_singleton.mpr rfl
  obj := by
    rintro i h ⟨ok, ov, e⟩ b hb
    obtain rfl := List.mem_singleton.mp hb
    exact ⟨_, e, fun _ z => by cases z⟩
  keep := by
    rintro i h h' ⟨ok, ov, e⟩ k
    exact ⟨ok, ov, k it (List.mem_singleton.mpr rfl) _ e⟩
  item := by
    rintro X rfl rfl rfl hc i pins s σ H E I hf st ⟨hd, hi⟩
    obtain ⟨hm, raw, hsz, ent⟩ := frz_pairs I hd ho
    have hi2 : i < es.size := by omega
    obtain ⟨p, hkv⟩ : ∃ p, kvs[i]? = some p := ⟨_, List.getElem?_eq_getElem hi⟩
    obtain ⟨k, v⟩ := p
    obtain ⟨q, eq, hq, rv⟩ := ent i k v hi2 hkv
    obtain ⟨ok, ov, he⟩ := st
    have hlt := Heap.lt_size he
    refine DT.nextI he raw hi2 fun h' out hT hs hk => ⟨_, rfl, ?_⟩
    refine wpAny_letOwnedTupleGo_items (s := { s with heap := h' }) out fun h2 he2 sb => ?_
    have hT2 := (sb.2 _ (Nat.ne_of_gt hlt)).trans hT
    have new : ObjOk X.prog X.w (upd H s.heap.objs.size (.tup [.ref q, v])) h2 s.heap.objs.size (.tup [.ref q, v]) :=
      ⟨by show 2 ≤ sizeLine; decide, [es[i].key, es[i].val], .cons eq (.cons rv .nil), _, hT2, rfl, _, rfl⟩
    refine ⟨.ref s.heap.objs.size, _, I.turnedNew (t' := s.toks) (ch := [it]) (fun b ob hb e => ?_) hf (Nat.le_refl _) new, rfl, ⟨_, q, k, v, hkv, hq, rfl, I.hok.fresh (Nat.le_refl _), rfl⟩, ⟨_, _, he2⟩, fun b hb => ?_⟩
    · have ne : b ≠ it := fun z => hb (List.mem_singleton.mpr z)
      exact (sb.2 b ne).trans (hk b ob ne e)
    · rw [List.mem_singleton.mp hb, upd_ne (Nat.ne_of_lt hlt)]
      exact (hf it (List.mem_singleton.mpr rfl)).1
  done := by
    rintro X rfl rfl rfl hc i pins s σ H E I hf st ⟨hd, hi⟩
    obtain ⟨f0, f1, f2, f3, f4, f5⟩ := hf it (List.mem_singleton.mpr rfl)
    obtain ⟨hm, raw, hsz, ent⟩ := frz_pairs I hd ho
    obtain ⟨ok, ov, he⟩ := st
    exact DT.endI (I.ok.hd hc) he raw (by omega) fun h' eb => ⟨rfl, I.turned (t' := s.toks) (fun b ob hb e => eb b ob hb e) f0 f1 f3 f4 f5⟩
  self := by
    rintro A i s Q E ⟨_, _, e⟩ h
    exact PySem.W.kcp_self e h
def iPairsT (td : TE) : TI := fun σ H R => td σ H fun x H1 => ∃ d o kvs, x = .ref d ∧ H1 d = some (.frz o (.dT kvs)) ∧ R (ItiT d o kvs) H1
theorem pi_pairsT {X : Cx} {e : Expr} {td : TE} {apos cpos : Pos} {elts : List Expr} {kk : Nat} {tpos : Pos} (he : PE X e td) (hbase : attributeBase e "items" X.env (eval e X.env) = eval e X.env := by rfl) (hline : (apos.endLine == cpos.line) = true := by rfl) :
    PI X (.Tuple elts kk tpos) (.Call (.Attribute e "items" apos) [] [] cpos) (iPairsT td) := by
  constructor
  intro pins s σ H R I h
  refine wpAny_Call_method (T := "dict") (id := "dict.items") hbase rfl hline F.plainAttrs_dict F.slot_dict_items F.type_dict_items (thn (he.run pins s σ H _ I h) ?_)
  rintro u s1 ⟨x, H1, I1, rx, d, o, kvs, rfl, hd, q⟩
  cases rx
  obtain ⟨hs, h0, hx, es, ep, hdt, hsz, _⟩ := I1.frzT hd
  obtain ⟨_, raw, _, _⟩ := frz_pairs I1 hd hdt
  refine ⟨raw.typeIs, fun b e => ?_, ?_⟩
  · cases e
    exact ⟨o, h0, hx.2.1⟩
  have I2 : Inv X pins σ H1 { s1 with heap := s1.heap.push { data := .fields #[.ref d], cls := .type "dict_items" } } := I1.kept (t' := s1.toks) fun b ob q => Heap.get?_push_of_some _ q
  have fin : wpAny (model X.prog X.w) X.A (pyIter (.ref s1.heap.objs.size)) (PIE X pins σ (.Tuple elts kk tpos) R) X.xe { s1 with heap := s1.heap.push { data := .fields #[.ref d], cls := .type "dict_items" } } :=
    DT.iterI ⟨_, Heap.get?_push_size _ rfl, rfl, rfl⟩ (raw.push _) (pi_one (tk := s1.toks) I2 _ (turn_pairsT _ hdt hsz) ⟨.none, .none, Heap.get?_push_size _ rfl⟩ q)
  show wpAny (model X.prog X.w) X.A (callWith cpos (.builtin "dict.items") [.ref d] [] []) _ X.xe s1
  exact method_meetsIn F.slot_dict_items F.entry_dict_items rfl (PySem.evalArgs_none ⟨rfl, raw.typeIs, F.args_dict_items_1 _, _, DT.meetsItems (es := es) (ep := ep) hs, ⟨raw, fin⟩⟩)
/-- a for over such pairs: the dict stays locked, an invariant by the turn -/
theorem for_pairsT {d : Addr} {o : Obj} {kvs : List (List Key × V)} {g : TG} {tb : TS} {D : Ends} {σ : L2.St} {H : Hp} (Pv : Nat → L2.St → Hp → Prop) (h0 : Pv 0 σ H) (hl : ∀ i σ H, i ≤ kvs.length → Pv i σ H → H d = some (.frz o (.dT kvs)))
    (hs : ∀ (i : Nat) (k : List Key) (v : V) (T q : Addr) (σ : L2.St) (H : Hp), kvs[i]? = some (k, v) → Pv i σ H → H q = some (.tup (k.map kV)) → H T = none → g (.ref T) σ (upd H T (.tup [.ref q, v])) fun σ2 H2 => tb { D with nx := Pv (i + 1), ct := Pv (i + 1), bk := D.nx } σ2 H2)
    (hd : ∀ σ H, Pv kvs.length σ H → D.nx σ H) :
    ∃ W : Nat → Nat → L2.St → Hp → Prop, (∃ m, W 0 m σ H) ∧ ∀ i m σ H, W i m σ H → ((ItiT d o kvs).stop i H ∧ D.nx σ H) ∨ ((ItiT d o kvs).go i H ∧ ∃ N : L2.St → Hp → Prop, (∀ σ' H', N σ' H' → ∃ m', m' < m ∧ W (i + 1) m' σ' H') ∧ ∀ x H', (ItiT d o kvs).yld i H x H' → g x σ H' fun σ2 H2 => tb { D with nx := N, ct := N, bk := D.nx } σ2 H2) := by
  refine ⟨fun i m σ H => m + i = kvs.length ∧ Pv i σ H, ⟨kvs.length, rfl, h0⟩, ?_⟩
  rintro i m σ H ⟨e, p⟩
  have q := hl i σ H (by omega) p
  cases m with
  | zero =>
    have e2 : i = kvs.length := by omega
    subst e2
    exact .inl ⟨⟨q, Nat.le_refl _⟩, hd σ H p⟩
  | succ m =>
    refine .inr ⟨⟨q, by omega⟩, Pv (i + 1), fun σ' H' p' => ⟨m, Nat.lt_succ_self m, by omega, p'⟩, ?_⟩
    rintro x H' ⟨T, c, k, v, h1, h2, rfl, h3, rfl⟩
    exact hs i k v T c σ H h1 p h2 h3
end L2.Sg
set_option Elab.async false
set_option linter.all false
set_option maxRecDepth 100000
set_option maxHeartbeats 2000000
namespace L2.Sg
open PySem PySem.Spec PyProof.Rows
/-! ### a dict comprehension whose keys are tuples -/
theorem tupleKind_room {prog : Program} {w : World} {K : Type} [DecidableEq K] {knd : PySem.KeyKind prog w K} {A : Around} (hu : A.units < cLine) : (tupleKind knd).room A := hu
theorem dictSet_tup {X : Cx} {pins : List (Addr × Obj)} {σ : L2.St} {H : Hp} {s : Shared} {D b : Addr} {r : Value} {v : V} {k : List Key} {E : Value → Shared → Prop} {Q : Unit → Shared → Prop} {kvs : List (List Key × V)}
    (hu : X.A.units + 1 < cLine) (I : Inv X pins σ H s) (hD : H D = some (.dT kvs)) (hb : H b = some (.tup (k.map kV))) (rv : RelV v r) (hl : kvs.length < sizeLine)
    (h : ∀ s', Inv X pins σ (upd H D (.dT (putK kvs k v))) s' → Q () s') : wpAny (model X.prog X.w) X.A (dictSet D (.ref b) r) Q E s := by
  obtain ⟨hz, hm, xs, kt, hx⟩ := dt_of I.hok hD
  have hxs : xs.length ≤ sizeLine := by
    have := Paired.length kt
    omega
  have hl2 : (putK kvs k v).length ≤ sizeLine := by
    have := length_putK kvs k v
    omega
  refine wpAny_dictSet_heap (hsz := hxs) (tupleKind_room (Nat.lt_of_succ_lt hu)) (key_of I.hok hb) hx fun h' hx' same => h _ ?_
  obtain ⟨ob, es, ep, h1, h2, h3, h4, _, h5⟩ := hx'
  refine d_write I (by rw [hD]; exact True.intro) same ⟨ob, h1⟩ ⟨hl2, hm, _, (kt.put k hb rv).keeps fun c ys ec => ?_, ob, es, ep, h1, h2, h3, h4, h5⟩
  rw [upd_ne (ne_of ec hD fun z => nomatch z), ec]
/-- one turn of such a comprehension, with what follows it -/
def DcTurn (J : It) (g : TG) (tt : TT) (tk tv : TE) (vs : List Nat) (σ : L2.St) (D : Addr) (i : Nat) (Nx : Hp → Prop) (H : Hp) : Prop :=
  ∀ x H', J.yld i H x H' → g x (wipe σ vs) H' fun σ2 H2 => wipe σ2 vs = wipe σ vs ∧ tt σ2 H2 fun b H3 =>
    if b = true then tk σ2 H3 fun y H4 => tv σ2 H4 fun z H5 => ∃ (kvs : List (List Key × V)) (k : List Key) (q : Addr), y = .ref q ∧ H5 q = some (.tup (k.map kV)) ∧ H5 D = some (.dT kvs) ∧ kvs.length < sizeLine ∧ Nx (upd H5 D (.dT (putK kvs k z))) else Nx H3
def tDcT (wi : TI) (g : TG) (tt : TT) (tk tv : TE) (vs : List Nat) : TE := fun σ H Q => wi σ H fun J H1 => ∀ D, H1 D = none → ∃ W : Nat → Nat → Hp → Prop, (∃ m, W 0 m (upd H1 D (.dT []))) ∧
  ∀ i m H, W i m H → (J.stop i H ∧ Q (.ref D) H) ∨ (J.go i H ∧ ∃ Nx : Hp → Prop, (∀ H', Nx H' → ∃ m', m' < m ∧ W (i + 1) m' H') ∧ DcTurn J g tt tk tv vs σ D i Nx H)
section
variable {X : Cx}
theorem dcT_core {pins : List (Addr × Obj)} {s : Shared} {σ : L2.St} {H : Hp} {Q : VK} {kx vx tg iter : Expr} {ifs : List Expr} {scope : Scope} {own : List (Str × Nat)} {pos posC : Pos} {wi : TI} {g : TG} {tt : TT} {tk tv : TE} {use : Option (Value → Sem Unit)} {Qf : Value → Shared → Prop}
    (hc : X.calm = true) (hu : X.A.units + 1 < cLine) (hN : X.N.Nodup) (I : Inv X pins σ H s) (hi : PI X tg iter wi) (ok : BlkOk X.N X.env.scope scope own)
    (hg : ∀ s H C cl fp, PG (X.blk s H scope (compEnvC scope cl C X.env) fp) tg g) (ht : ∀ s H C cl fp, PTs (X.blk s H scope (compEnvC scope cl C X.env) fp) ifs tt)
    (hk : ∀ s H C cl fp, PE (X.blk s H scope (compEnvC scope cl C X.env) fp) kx tk) (he : ∀ s H C cl fp, PE (X.blk s H scope (compEnvC scope cl C X.env) fp) vx tv)
    (hs : ∀ x, foldedSetIterable iter X.env x = pure x) (h : tDcT wi g tt tk tv (own.map (·.2)) σ H Q)
    (after : ∀ L C s' m H', Inv X pins σ H' s' → Q (.ref L) H' → s'.heap.Ns C m → FpOk X pins H' C → compPost (model X.prog X.w) X.A X.xe use Qf (.ref L) C (.ok .next) s') :
    wpAny (model X.prog X.w) X.A (comprehension (.DictComp kx vx [⟨tg, iter, ifs, 0⟩] scope pos) scope X.env posC newDict false (eval iter X.env) use) Qf X.xe s := by
  have hcl : ∀ y ∈ scope.names, y.2 = .free → ∃ c, X.env.cells.lookup y.1 = some c := by
    intro y hy e
    exact (ok.free y hy e).elim (fun k => I.ok.has _ (.inl k)) fun k => I.ok.has _ (.inr k)
  refine wpAny_comprehension_free (use := use) rfl hs (closure_ok hcl) ok.kind (fun y hy e => (ok.uniq y hy).trans (congrArg some e)) (thn (hi.run pins s σ H _ I h) fun xv s1 hx => thn hx ?_)
  rintro itv s2 ⟨it, fp, tn, J, H2, rfl, I2, T, st2, f2, q⟩
  refine wpAny_newObj_type ?_
  refine newEnv_comp ?_
  have hDn : H2 s2.heap.objs.size = none := I2.hok.fresh (Nat.le_refl _)
  obtain ⟨W, ⟨m0, w0⟩, turn⟩ := q s2.heap.objs.size hDn
  generalize hD : s2.heap.objs.size = D at *
  -- the heap with the new dict
  obtain ⟨s3, hs3⟩ : ∃ s3 : Shared, s3 = { s2 with heap := s2.heap.push { cls := .type "dict", data := .dict #[] } } := ⟨_, rfl⟩
  have e3 : s3.heap = s2.heap.push { cls := .type "dict", data := .dict #[] } := congrArg (·.heap) hs3
  obtain ⟨H3, hH3⟩ : ∃ H3 : Hp, H3 = upd H2 D (.dT []) := ⟨_, rfl⟩
  have I3 : Inv X pins σ H3 s3 := by
    rw [hs3, hH3]
    refine I2.laid (t' := s2.toks) (fun _ _ q => Heap.get?_push_of_some _ q) (Nat.le_of_eq hD) ?_
    rw [← hD]
    exact dt_empty s2.heap I2.big
  have f3 : ∀ b ∈ fp, FpOk X pins H3 b ∧ b < s3.heap.objs.size := by
    intro b hb
    rcases T.obj _ _ st2 b hb with ⟨o, e, _⟩
    have hlt := Heap.lt_size e
    refine ⟨⟨?_, (f2 b hb).2⟩, ?_⟩
    · rw [hH3, upd_ne (by rw [← hD]; exact Nat.ne_of_lt hlt)]
      exact (f2 b hb).1
    · rw [e3, Heap.size_push]
      exact Nat.lt_succ_of_lt hlt
  have I4 := block_start I3 ok hN fun b hb => f3 b hb
  obtain ⟨cl, ecl⟩ : ∃ cl, cl = cellsFrom (s3.heap.objs.size + 1) scope.names (cloFrom X.env.cells scope.names []) := ⟨_, rfl⟩
  rw [← ecl] at I4
  obtain ⟨ce, ece⟩ : ∃ ce, ce = compEnvC scope cl s3.heap.objs.size X.env := ⟨_, rfl⟩
  have pg := hg s3 H3 s3.heap.objs.size cl fp
  have pt := ht s3 H3 s3.heap.objs.size cl fp
  have pk := hk s3 H3 s3.heap.objs.size cl fp
  have pv := he s3 H3 s3.heap.objs.size cl fp
  rw [← ece] at I4 pg pt pk pv
  have eL : ce.locals = s3.heap.objs.size := by rw [ece] <;> rfl
  obtain ⟨s4, hs4⟩ : ∃ s4 : Shared, s4 = { s3 with heap := pushCells (s3.heap.push { cls := .type "dict", data := .dict #[] }) scope.names } := ⟨_, rfl⟩
  rw [← hs4] at I4
  have st3 : tn 0 s3.heap := T.keep _ _ _ st2 fun b _ o e => by rw [e3]; exact Heap.get?_push_of_some _ e
  have st4 : tn 0 s4.heap := T.keep _ _ _ st3 fun b _ o e => by rw [hs4]; exact pushCells_keeps _ _ _ _ (Heap.get?_push_of_some _ e)
  have fpAt : ∀ {σ' : L2.St} {H' : Hp} {s' : Shared}, Inv (X.blk s3 H3 scope ce fp) [] σ' H' s' → (∀ b ∈ fp, H' b = none) → ∀ b ∈ fp, FpOk (X.blk s3 H3 scope ce fp) [] H' b := by
    intro σ' H' s' I' hn b hb
    exact ⟨hn b hb, (I'.ok.exf b hb).1, I'.ok.exfs b hb, .inl hb, (I'.ok.exf b hb).2, fun p hp => (List.not_mem_nil hp).elim⟩
  have turns : codeAny (model X.prog X.w) X.A (.compLoop (.DictComp kx vx [⟨tg, iter, ifs, 0⟩] scope pos) 0 (.ref it) (.ref D) ce) (compPost (model X.prog X.w) X.A X.xe use Qf (.ref D) s3.heap.objs.size) s4 := by
    refine compLoop_anyD (fun n s' => ∃ i H', Inv (X.blk s3 H3 scope ce fp) [] (wipe σ (own.map (·.2))) H' s' ∧ tn i s'.heap ∧ (∀ b ∈ fp, H' b = none) ∧ W i n H') ?_ m0 ⟨0, H3, I4, st4, fun b hb => (f3 b hb).1.1, by rw [hH3]; exact w0⟩
    rintro n s5 ⟨i, Hi, I5, st5, n5, w5⟩
    rcases turn i n Hi w5 with ⟨stop, qq⟩ | ⟨go, Nx, hNx, step⟩
    · refine thnF (T.done (X.blk s3 H3 scope ce fp) rfl rfl rfl hc i [] s5 _ Hi (fun _ _ => False) I5 (fpAt I5 n5) st5 stop) ?_
      rintro r s6 ⟨rfl, I6⟩
      have I7 : Inv X pins σ Hi s6 := I3.call' (ch := fp) I6.os I6.base I6.hok I6.bare fun b hb => let z := (f3 b hb).1.2; ⟨z.2.2.1, z.1, z.2.2.2.1, z.2.2.2.2⟩
      obtain ⟨m, hn, _⟩ := I6.loc
      have hn2 : s6.heap.Ns s3.heap.objs.size m := eL ▸ hn
      have nC : Hi s3.heap.objs.size = none := eL ▸ I6.free
      exact after D s3.heap.objs.size s6 m Hi I7 qq hn2 (I3.fpOk (Nat.le_refl _) nC)
    · refine thnF (T.item (X.blk s3 H3 scope ce fp) rfl rfl rfl hc i [] s5 _ Hi (fun _ _ => False) I5 (fpAt I5 n5) st5 go) ?_
      rintro r s6 ⟨u, rfl, h6⟩
      refine thnF h6 ?_
      rintro _ s7 ⟨x, H7, I7, r7, y7, st7, n7⟩
      have I7p := I7.pinned (fpAt I7 n7) (T.obj _ _ st7)
      refine thnF (pg.run _ s7 _ H7 x u _ I7p r7 (step x H7 y7)) ?_
      rintro _ s8 ⟨σ8, H8, I8, hw8, q8⟩
      have fin : ∀ {s' : Shared} {H' : Hp}, Inv (X.blk s3 H3 scope ce fp) ([] ++ pinsAt fp s7.heap) σ8 H' s' → Nx H' → ∃ m, m < n ∧ ∃ i H', Inv (X.blk s3 H3 scope ce fp) [] (wipe σ (own.map (·.2))) H' s' ∧ tn i s'.heap ∧ (∀ b ∈ fp, H' b = none) ∧ W i m H' := by
        intro s' H' I' nx
        rcases hNx H' nx with ⟨m', hm, w'⟩
        have kept : ∀ b ∈ fp, ∀ o, s7.heap.get? b = some o → s'.heap.get? b = some o ∧ H' b = none := by
          intro b hb o e
          have z := I'.pin (b, o) (List.mem_append_right _ (List.mem_append_right _ (mem_pinsAt hb e)))
          exact ⟨z.1, z.2.1⟩
        refine ⟨m', hm, i + 1, H', (I'.unpinned (pins := [])).weak (by rw [← hw8, wipe_length]) (fun j v e => ?_), T.keep _ _ _ st7 fun b hb o e => (kept b hb o e).1, fun b hb => ?_, w'⟩
        · rw [← hw8] at e
          exact (wipe_some e).1
        · rcases T.obj _ _ st7 b hb with ⟨o, e, _⟩
          exact (kept b hb o e).2
      refine thnF (pt.run _ s8 σ8 H8 _ I8 q8) ?_
      rintro b s9 ⟨H9, I9, q9⟩
      cases b with
      | false => exact fin I9 q9
      | true =>
        refine thnF (pk.run _ s9 σ8 H9 _ I9 q9) ?_
        rintro z s10 ⟨yk, H10, I10, r10, q10⟩
        refine thnF (pv.run _ s10 σ8 H10 _ I10 q10) ?_
        rintro z2 s11 ⟨yv, H11, I11, r11, kvs, k, c, rfl, hc11, hD11, hz11, nx⟩
        cases r10
        exact dictSet_tup (X := X.blk s3 H3 scope ce fp) hu I11 hD11 hc11 r11 hz11 fun s12 I12 => fin I12 nx
  have goal := codeAny_compStart_dict turns (T.self X.A 0 _ _ _ st4 turns)
  subst hs4 ece ecl hs3
  exact goal
theorem pe_dcT {kx vx tg iter : Expr} {ifs : List Expr} {scope : Scope} {own : List (Str × Nat)} {pos : Pos} {wi : TI} {g : TG} {tt : TT} {tk tv : TE} (hc : X.calm = true) (hu : X.A.units + 1 < cLine) (hN : X.N.Nodup) (hi : PI X tg iter wi) (ok : BlkOk X.N X.env.scope scope own)
    (hg : ∀ s H C cl fp, PG (X.blk s H scope (compEnvC scope cl C X.env) fp) tg g) (ht : ∀ s H C cl fp, PTs (X.blk s H scope (compEnvC scope cl C X.env) fp) ifs tt)
    (hk : ∀ s H C cl fp, PE (X.blk s H scope (compEnvC scope cl C X.env) fp) kx tk) (he : ∀ s H C cl fp, PE (X.blk s H scope (compEnvC scope cl C X.env) fp) vx tv)
    (hs : ∀ x, foldedSetIterable iter X.env x = pure x := by intro _; rfl) : PE X (.DictComp kx vx [⟨tg, iter, ifs, 0⟩] scope pos) (tDcT wi g tt tk tv (own.map (·.2))) := by
  constructor
  intro pins s σ H Q I h
  rw [arm_eval_DictComp]
  refine dcT_core hc hu hN I hi ok hg ht hk he hs h fun L C s' m H' I' q ns fc => ⟨m, ns, fun _ sb => ⟨.ref L, H', ?_, rfl, q⟩⟩
  exact I'.turned (t' := s'.toks) (fun b _ hb e => (sb.2 b hb).trans e) fc.1 fc.2.1 fc.2.2.2.1 fc.2.2.2.2.1 fc.2.2.2.2.2
/-- over the keys of a locked dict with tuple keys -/
theorem dc_keysT {d : Addr} {o : Obj} {ks : List (List Key × V)} {g : TG} {tt : TT} {tk tv : TE} {vs : List Nat} {σ : L2.St} {H1 : Hp} {D : Addr} {Qd : Hp → Prop} (Pv : Nat → Hp → Prop) (h0 : Pv 0 (upd H1 D (.dT []))) (hl : ∀ i H, i ≤ ks.length → Pv i H → H d = some (.frz o (.dT ks)))
    (hs : ∀ (i : Nat) (k : List Key) (v : V) (q : Addr) (H : Hp), ks[i]? = some (k, v) → H q = some (.tup (k.map kV)) → Pv i H → g (.ref q) (wipe σ vs) H fun σ2 H2 => wipe σ2 vs = wipe σ vs ∧ tt σ2 H2 fun b H3 =>
      if b = true then tk σ2 H3 fun y H4 => tv σ2 H4 fun z H5 => ∃ (kvs : List (List Key × V)) (k : List Key) (q : Addr), y = .ref q ∧ H5 q = some (.tup (k.map kV)) ∧ H5 D = some (.dT kvs) ∧ kvs.length < sizeLine ∧ Pv (i + 1) (upd H5 D (.dT (putK kvs k z))) else Pv (i + 1) H3)
    (hd : ∀ H, Pv ks.length H → Qd H) : ∃ W : Nat → Nat → Hp → Prop, (∃ m, W 0 m (upd H1 D (.dT []))) ∧
      ∀ i m H, W i m H → ((Itkt d o ks).stop i H ∧ Qd H) ∨ ((Itkt d o ks).go i H ∧ ∃ Nx : Hp → Prop, (∀ H', Nx H' → ∃ m', m' < m ∧ W (i + 1) m' H') ∧ DcTurn (Itkt d o ks) g tt tk tv vs σ D i Nx H) := by
  refine ⟨fun i m H => m + i = ks.length ∧ Pv i H, ⟨ks.length, rfl, h0⟩, ?_⟩
  rintro i m H ⟨e, p⟩
  have q := hl i H (by omega) p
  cases m with
  | zero =>
    have e2 : i = ks.length := by omega
    subst e2
    exact .inl ⟨⟨q, Nat.le_refl _⟩, hd H p⟩
  | succ m =>
    refine .inr ⟨⟨q, by omega⟩, Pv (i + 1), fun H' p' => ⟨m, Nat.lt_succ_self m, by omega, p'⟩, ?_⟩
    rintro x H' ⟨rfl, k, v, c, h1, rfl, h2⟩
    exact hs i k v c H' h1 h2 p
end
end L2.Sg
set_option Elab.async false
set_option linter.all false
set_option maxRecDepth 100000
set_option maxHeartbeats 2000000
namespace L2.Sg
open PySem PySem.Spec PyProof.Rows
/-! ### dict(ps), ps a list of pairs whose first parts are tuples, all different -/
theorem pairs_rawT {X : Cx} {pins : List (Addr × Obj)} {σ : L2.St} {H : Hp} {s : Shared} (I : Inv X pins σ H s) {ps : List Addr} {kvs : List (List Key × V)} (h : Paired (fun p kv => ∃ q, SqT X.K H p [.ref q, kv.2] ∧ H q = some (.tup (kv.1.map kV))) ps kvs) :
    ∃ xs : List (List Key × Addr × Value), KT H kvs xs ∧ xs.length = ps.length ∧ xs.map (·.1) = kvs.map (·.1) ∧ (∀ x ∈ xs, (tupleKind (mixKind X.prog X.w)).is s.heap x.1 x.2.1) ∧
      ∀ (j : Nat) (p : Addr) (x : List Key × Addr × Value), ps[j]? = some p → xs[j]? = some x → IsTup s.heap p #[.ref x.2.1, x.2.2] := by
  induction h with
  | nil => exact ⟨[], .nil, rfl, rfl, fun x hx => (List.not_mem_nil hx).elim, fun j p x e => by simp at e⟩
  | @cons p kv ps kvs h t ih =>
    obtain ⟨q, h1, h2⟩ := h
    obtain ⟨xs, k1, k2, k3, k4, k5⟩ := ih
    obtain ⟨its, rv, ht, _⟩ := I.tuple h1
    obtain ⟨u, y, rfl, ru, ry⟩ := vals2 rv
    cases ru
    refine ⟨(kv.1, q, y) :: xs, .cons ⟨rfl, h2, ry⟩ k1, by simp [k2], by simp [k3], fun x hx => ?_, fun j p' x e1 e2 => ?_⟩
    · rcases List.mem_cons.mp hx with rfl | hx
      · exact key_of I.hok h2
      · exact k4 x hx
    · cases j with
      | zero =>
        cases e1
        cases e2
        exact ht
      | succ j => exact k5 j p' x (by simpa using e1) (by simpa using e2)
theorem call_dictPT {X : Cx} (hcalm : X.calm = true) (hu : X.A.units + 64 < cLine) : CallR X (.type "dict") (fun xs H Q => ∃ (a : Addr) (ps : List Addr) (kvs : List (List Key × V)), xs = [.ref a] ∧ SqL X.K H a (ps.map V.ref) ∧
    Paired (fun p kv => ∃ q, SqT X.K H p [.ref q, kv.2] ∧ H q = some (.tup (kv.1.map kV))) ps kvs ∧ (kvs.map (·.1)).Nodup ∧ ∀ p, H p = none → Q (.ref p) (upd H p (.dT kvs))) := by
  rintro pins s σ H xs us Q I r ⟨a, ps, kvs, rfl, hq, hp, hn, q⟩
  rcases vals1 r with ⟨u, rfl, rx⟩
  cases rx
  rcases I.list hq with ⟨its, rv, pl, hz⟩
  obtain rfl := refs_at rv
  rw [List.length_map] at hz
  obtain ⟨ys, kt, hl, hk, his, hpr⟩ := pairs_rawT I hp
  rcases pl with ⟨o, n, ho, hc, hd, hdat⟩
  have hlk : kvs.length = ys.length := Paired.length kt
  have P := PairArg.list (prog := X.prog) (w := X.w) a (ps.map Value.ref).toArray (fun j => ps.getD j 0) (ys.map fun x => (Value.ref x.2.1, x.2.2))
  refine call_dict_pairsH (knd := tupleKind (mixKind X.prog X.w)) (ps := ys) P (I.ok.hd hcalm) (show X.A.units + 1 + 1 < cLine by omega) ⟨⟨o, n, ho, hc, hd, hdat⟩, by simp [hl], fun j k v e => ?_⟩ ⟨by simp, fun i key v e => ?_⟩ (fun h' hk' x hx => ?_) (by simp [hl, hz]) fun h' tk hx' keep => ?_
  · rw [List.getElem?_map] at e
    rcases Option.map_eq_some_iff.mp e with ⟨x, hx, ex⟩
    obtain ⟨rfl, rfl⟩ := Prod.mk.inj ex
    have hj : j < ps.length := by
      have := (List.getElem?_eq_some_iff.mp hx).1
      omega
    have hpj : ps[j]? = some ps[j] := List.getElem?_eq_getElem hj
    have hg : ps.getD j 0 = ps[j] := by rw [List.getD_eq_getElem?_getD, hpj] <;> rfl
    refine ⟨by simp [hg, hj], .inl ?_⟩
    show IsTup s.heap (ps.getD j 0) _
    rw [hg]
    exact hpr j _ x hpj hx
  · have e' : (ys.map fun x => (Value.ref x.2.1, x.2.2))[i]? = some (key, v) := e
    rw [List.getElem?_map] at e'
    obtain ⟨x, hx, ex⟩ := Option.map_eq_some_iff.mp e'
    obtain ⟨rfl, rfl⟩ := Prod.mk.inj ex
    exact ⟨x.1, x.2.1, hx, rfl⟩
  · exact tupleKind_stays.stays (fun b ob vs m e _ => hk' b ob (Nat.ne_of_lt (Heap.lt_size e)) List.not_mem_nil e) (his x hx)
  · have hm : (s.heap.objs.size == sysModules) = false := by rw [beq_eq_false_iff_ne]; exact Nat.ne_of_gt I.big
    rw [storedAllH_nil_of_nodup ys (by rw [hk]; exact hn)] at hx'
    obtain ⟨ob, es, ep, h1, h2, h3, h4, _, h5⟩ := hx'
    have fr := I.hok.fresh (Nat.le_refl s.heap.objs.size)
    refine ⟨.ref s.heap.objs.size, upd H s.heap.objs.size (.dT kvs), I.laid (t' := tk) (fun b ob e => keep b ob List.not_mem_nil e) (Nat.le_refl _) ⟨by omega, hm, ys, kt.keeps fun c zs ec => ?_, ob, es, ep, h1, h2, h3, h4, h5⟩, rfl, q _ fr⟩
    rw [upd_ne (ne_of_none ec fr), ec]
end L2.Sg
set_option Elab.async false
set_option linter.all false
set_option maxRecDepth 100000
set_option maxHeartbeats 2000000
namespace L2.Sg
open PySem PySem.Spec PyProof.Rows
/-! ### sorted(d) of a dict whose keys are tuples of ints: a new list of the keys (which order: not told) -/
theorem call_sortedDT {X : Cx} (hcalm : X.calm = true) {d : Nat} {B : Int} (hd : 1 ≤ d) : CallR X (.builtin "sorted") (fun xs H Q => ∃ (a : Addr) (kvs : List (List Key × V)), xs = [.ref a] ∧ Rd H a (.dT kvs) ∧
    (∀ p ∈ kvs, ∃ ns : List Int, p.1 = ns.map Sum.inl ∧ ns.length = d ∧ TS.Bd B ns) ∧ kvs.length < 64 ∧
    ∀ (ys : List V) (p : Addr), ys.length = kvs.length → (∀ y ∈ ys, ∃ (q : Addr) (k : List Key) (v : V), y = .ref q ∧ (k, v) ∈ kvs ∧ H q = some (.tup (k.map kV))) → H p = none → Q (.ref p) (upd H p (.lst ys))) := by
  rintro pins s σ H xs us Q I r ⟨a, kvs, rfl, ha, hks, h64, q⟩
  rcases vals1 r with ⟨u, rfl, rx⟩
  cases rx
  obtain ⟨hz, lo, xs, kt, hx⟩ := dt_rd I.hok ha
  have hlx : kvs.length = xs.length := Paired.length kt
  obtain ⟨es, ep, raw, hsz, ent⟩ := hx.raw
  apply Calls.call_function_entry kind_sorted plain_sorted entry_sorted (args_sorted1 _)
  unfold Builtin.«sorted»; refine wpAny_bind (m := checkCount "sorted" 1 1 _) (wpAny_pure ?_)
  refine wpAny_bind (PySem.W.kdu_collect (A := X.A.in1) (KdlSrc.rawDict (es := es) (ep := ep) lo) (I.ok.hd hcalm) raw (by omega) fun h' tk acc hk hacc => ?_)
  have hal : acc.toList.length = kvs.length := by
    rw [Array.length_toList, hacc.1]
    omega
  -- each item is a key's own tuple
  have item : ∀ v ∈ acc.toList, ∃ (b : Addr) (k : List Key) (y : V), v = .ref b ∧ (k, y) ∈ kvs ∧ H b = some (.tup (k.map kV)) := by
    intro v hv
    obtain ⟨j, hj, ej⟩ := List.mem_iff_getElem.mp hv
    obtain ⟨hi, e1⟩ := hacc.2 j v (by rw [← Array.getElem?_toList, List.getElem?_eq_getElem hj, ej])
    obtain ⟨y, e2, e3, _, _⟩ := ent j hi
    obtain ⟨p, e4, e5, e6, _⟩ := DX.pget kt e2
    exact ⟨y.2.1, p.1, p.2, by rw [e1, e3], List.mem_of_getElem? e4, e6⟩
  have tup : ∀ v ∈ acc.toList, ∃ ns : List Int, TS.TupInts s.heap v ns ∧ ns.length = d ∧ TS.Bd B ns := by
    intro v hv
    obtain ⟨b, k, y, rfl, hm, hb⟩ := item v hv
    obtain ⟨ns, e1, e2, e3⟩ := hks _ hm
    have e1 : k = ns.map Sum.inl := e1
    refine ⟨ns, tupI_raw I (SqT.of (show H b = some (.tup (ns.map V.int)) from ?_)), e2, e3⟩
    rw [hb, e1, List.map_map]
    rfl
  have I1 : Inv X pins σ H { s with toks := tk, heap := h' } := I.kept hk
  refine wpAny_bind (wpAny_newList ?_ (show _ ≤ sizeLine by omega))
  have atL : (h'.push (seqObj "list" acc.toList.toArray 0)).get? h'.objs.size = some (seqObj "list" acc.toList.toArray 0) := Heap.get?_push_size _ rfl
  have ok : TS.TupsOk (h'.push (seqObj "list" acc.toList.toArray 0)) d B acc.toList := by
    intro v hv
    obtain ⟨ns, e1, e2⟩ := tup v hv
    exact ⟨ns, e1.keeps fun b o e _ => Heap.get?_push_of_some _ (hk b o e), e2⟩
  show wpAny _ _ _ _ _ { s with toks := tk, heap := h'.push (seqObj "list" acc.toList.toArray 0) }
  refine wpAny_bind (wpAny_holding (TS.call_sort_tups (s := { s with heap := h'.push (seqObj "list" acc.toList.toArray 0), toks := tk }) atL (by omega) hd ok fun out g1 _ => ?_))
  obtain ⟨c, hc⟩ := PyProof.Rows.sortedHeap_at (vs := acc.toList) (out := out) atL
  have refs : ∀ v ∈ out.toList, ∃ b, v = Value.ref b := fun v hv => by
    obtain ⟨b, _, _, e, _⟩ := item v (g1.mem_iff.mp hv)
    exact ⟨b, e⟩
  have hlen : (out.toList.map bkV).length = kvs.length := by rw [List.length_map, g1.length_eq, hal]
  have fr : H h'.objs.size = none := I1.hok.fresh (Nat.le_refl _)
  refine wpAny_pure ⟨_, rfl, .ref h'.objs.size, upd H h'.objs.size (.lst (out.toList.map bkV)), I1.laid (t' := tk) (fun b u e => ?_) (Nat.le_refl _) ⟨by omega, out.toList, c, bkV_vals refs, hc⟩, rfl, q _ _ hlen (fun y hy => ?_) fr⟩
  · have hlt := Heap.lt_size e
    rw [PyProof.Rows.sortedHeap_old (Nat.ne_of_lt hlt) (by rw [PyProof.Rows.size_push']; exact Nat.lt_succ_of_lt hlt)]
    exact (Heap.get?_push_of_some _ e)
  · obtain ⟨v, hv, rfl⟩ := List.mem_map.mp hy
    obtain ⟨b, k, y, rfl, hm, hb⟩ := item v (g1.mem_iff.mp hv)
    exact ⟨b, k, y, rfl, hm, hb⟩
end L2.Sg
set_option Elab.async false
set_option linter.all false
set_option maxRecDepth 100000
set_option maxHeartbeats 2000000
namespace L2.Sg
open PySem PySem.Spec PyProof.Rows
/-! ### == and != of nested tuples and dicts that are equal -/
section
variable {prog : Program} {w : World} {A : Around} {s : Shared} {E : Value → Shared → Prop}
/-- each pair of a is found in b, with an equal value -/
def Looked (prog : Program) (w : World) (A : Around) (s : Shared) (b : Addr) (es es' : Array DictEntry) : Prop :=
  ∀ (i : Nat) (hi : i < es.size), ∃ (j : Nat) (hj : j < es'.size), (∀ (E : Value → Shared → Prop) (Q : Option Nat → Shared → Prop), Q (some j) s → wpAny (model prog w) A (dictFind b es[i].key es[i].hash) Q E s) ∧ SeqAt.EqP prog w A s es[i].val es'[j].val true
theorem same_raw {nm : String} {a b : Addr} {es es' : Array DictEntry} {ep ep' : Nat} {Q : Bool → Shared → Prop} (ha : (a == sysModules) = false) (hb : (b == sysModules) = false) (ra : DT.Raw s.heap a es ep) (rb : DT.Raw s.heap b es' ep') (hsz : es.size = es'.size)
    (look : Looked prog w A s b es es') (h : Q true s) : wpAny (model prog w) A (Builtin.Dict.samePairs nm a b) Q E s := by
  obtain ⟨oa, h1, _, h2⟩ := ra
  obtain ⟨ob, h3, _, h4⟩ := rb
  unfold Builtin.Dict.samePairs
  unfold Builtin.Dict.showsAll
  rw [if_neg (ne_true_of_eq_false ha), if_neg (ne_true_of_eq_false hb)]
  refine wpAny_bind (wpAny_pure (wpAny_bind (wpAny_pure (wpAny_bind (wpAny_dictEntries h1 h2 ?_)))))
  refine wpAny_bind (wpAny_dictEntries h3 h4 ?_)
  rw [if_neg (by simp [hsz])]
  refine wpAny_bind (wpAny_dictEpoch h1 h2 (wpAny_bind ?_))
  rw [Std.Legacy.Range.forIn_eq_forIn_range']; simp only [Std.Legacy.Range.size, Nat.sub_zero, Nat.add_sub_cancel, Nat.div_one]
  refine wpAny_forIn_list _ (fun rest q s' => s' = s ∧ q = (none, ()) ∧ ∃ i, rest = List.range' i (es.size - i)) _ ?_ ?_ _ _ ⟨rfl, rfl, 0, rfl⟩
  · rintro x rest q s' ⟨rfl, rfl, i, hr⟩
    obtain ⟨m, hm⟩ : ∃ m, es.size - i = m + 1 := by
      cases k : es.size - i with
      | zero => rw [k] at hr; cases hr
      | succ m => exact ⟨m, rfl⟩
    rw [hm, List.range'_succ] at hr; injection hr with e1 e2
    subst e1 e2
    have xl : x < es.size := by omega
    obtain ⟨j, hj, find, eq⟩ := look x xl
    refine wpAny_bind (wpAny_dictEntries h1 h2 ?_)
    rw [Array.getElem?_eq_getElem xl]
    refine wpAny_bind (wpAny_holding (wpAny_bind (find _ _ ?_)))
    refine wpAny_bind (wpAny_dictEntries h3 h4 ?_)
    rw [Array.getElem?_eq_getElem hj]
    refine wpAny_holding (eq _ _ ?_)
    show wpAny _ _ (if (!true) = true then _ else _) _ _ _; rw [if_neg (by decide)]
    refine wpAny_bind (wpAny_dictEpoch h1 h2 ?_)
    rw [if_neg (by simp)]
    exact wpAny_pure ⟨rfl, rfl, x + 1, by rw [show es.size - (x + 1) = m by omega]⟩
  · rintro q s' ⟨rfl, rfl, _⟩
    exact wpAny_pure h
theorem rc_same {a b : Addr} {es es' : Array DictEntry} {ep ep' : Nat} {Q : Value → Shared → Prop} (ha : (a == sysModules) = false) (hb : (b == sysModules) = false) (ra : DT.Raw s.heap a es ep) (rb : DT.Raw s.heap b es' ep') (hsz : es.size = es'.size)
    (look : Looked prog w A.in1 s b es es') (hu : A.units < cLine) (h : Q (.bool true) s) : wpAny (model prog w) A (richCompare .Eq (.ref a) (.ref b)) Q E s := by
  refine wpAny_richCompare_same_room (op := .Eq) ra.typeIs rb.typeIs PySem.F.slot_dict_eq (wpAny_call_entry PySem.F.slot_dict_eq ra.typeIs PySem.F.entry_dict_eq ?_ (PySem.F.args_dict_eq_2 _ _)) hu
  show wpAny (model prog w) _ (Builtin.Dict.dictSlotArgs "__eq__" ⟨[.ref a, .ref b], []⟩ >>= _) _ _ s
  unfold Builtin.Dict.dictSlotArgs; refine wpAny_bind (wpAny_bind (wpAny_notOrdered_dict ra.typeIs (wpAny_pure ?_)))
  refine wpAny_bind (wpAny_isInstance (T := "dict") rb.typeIs PySem.F.sub_dict_dict ?_)
  simp only [Bool.false_eq_true, Bool.not_true, if_false]
  refine wpAny_bind (wpAny_pure (wpAny_bind (wpAny_pure (wpAny_bind (same_raw ha hb ra rb hsz look ?_)))))
  exact wpAny_pure ⟨_, rfl, fun x => (nomatch x), h⟩
theorem rc_differ {a b : Addr} {es es' : Array DictEntry} {ep ep' : Nat} {Q : Value → Shared → Prop} (ha : (a == sysModules) = false) (hb : (b == sysModules) = false) (ra : DT.Raw s.heap a es ep) (rb : DT.Raw s.heap b es' ep') (hsz : es.size = es'.size)
    (look : Looked prog w A.in1 s b es es') (hu : A.units < cLine) (h : Q (.bool false) s) : wpAny (model prog w) A (richCompare .NotEq (.ref a) (.ref b)) Q E s := by
  refine wpAny_richCompare_same_room (op := .NotEq) ra.typeIs rb.typeIs PySem.F.slot_dict_ne (wpAny_call_entry PySem.F.slot_dict_ne ra.typeIs PySem.F.entry_dict_ne ?_ (PySem.F.args_dict_ne_2 _ _)) hu
  show wpAny (model prog w) _ (Builtin.Dict.dictSlotArgs "__ne__" ⟨[.ref a, .ref b], []⟩ >>= _) _ _ s
  unfold Builtin.Dict.dictSlotArgs; refine wpAny_bind (wpAny_bind (wpAny_notOrdered_dict ra.typeIs (wpAny_pure ?_)))
  refine wpAny_bind (wpAny_isInstance (T := "dict") rb.typeIs PySem.F.sub_dict_dict ?_)
  simp only [Bool.false_eq_true, Bool.not_true, if_false]
  refine wpAny_bind (wpAny_pure (wpAny_bind (wpAny_pure (wpAny_bind (same_raw ha hb ra rb hsz look ?_)))))
  exact wpAny_pure ⟨_, rfl, fun x => (nomatch x), h⟩
end
end L2.Sg
set_option Elab.async false
set_option linter.all false
set_option maxRecDepth 100000
set_option maxHeartbeats 2000000
namespace L2.Sg
open PySem PySem.Spec PyProof.Rows
section
variable {prog : Program} {w : World} {s : Shared} {A : Around}
/-- dicts with int and text keys -/
theorem looked_K {b : Addr} {ob : Obj} {es es' : Array DictEntry} {ep' : Nat} {va vb : List (Key × Value)} (ka : KeysOf (mixKind prog w) es) (pa : Pairs (mixKind prog w) es.toList va) (h1 : s.heap.get? b = some ob) (h2 : ob.data = .dict es' ep')
    (kb : KeysOf (mixKind prog w) es') (pb : Pairs (mixKind prog w) es'.toList vb) (hit : ∀ p ∈ va, ∃ u, valueAt vb p.1 = some u ∧ SeqAt.EqP prog w A s p.2 u true) : Looked prog w A s b es es' := by
  intro i hi
  have hla : va.length = es.size := by rw [← pa.length, Array.length_toList]
  obtain ⟨k, v, hkv⟩ : ∃ k v, va[i] = (k, v) := ⟨_, _, rfl⟩
  obtain ⟨hkey, hval⟩ := pa.get? (i := i) (e := es[i]) (k := k) (v := v) (by rw [Array.getElem?_toList]; exact Array.getElem?_eq_getElem hi) (by rw [List.getElem?_eq_getElem (by omega), hkv])
  obtain ⟨k', hk', hh⟩ := ka es[i] (Array.getElem_mem hi)
  obtain rfl : k' = k := (mixKind prog w).inj _ _ _ hk' hkey
  obtain ⟨u, hu, eq⟩ := hit (k', v) (by rw [← hkv]; exact List.getElem_mem _)
  have hfind : findBy (mixKind prog w).is es' k' = valueAt vb k' := by
    rw [← pb.find k']
    clear pb h2 kb
    obtain ⟨l⟩ := es'
    simp [findBy]
  rw [findBy_of_findIdx?, hu] at hfind
  cases hj : es'.findIdx? fun e => (mixKind prog w).is k' e.key with
  | none => rw [hj] at hfind; cases hfind
  | some j =>
    obtain ⟨hjl, _, _⟩ := Array.findIdx?_eq_some_iff_getElem.mp hj
    rw [hj] at hfind
    have e : es'[j].val = u := by simpa [Array.getElem?_eq_getElem hjl] using hfind
    refine ⟨j, hjl, fun E Q q => ?_, by rw [e, hval]; exact eq⟩
    rw [hh]
    exact wpAny_dictFind_of hk' h1 h2 kb (by rw [hj]; exact q)
/-- dicts with tuple keys -/
theorem looked_T {b : Addr} {ob : Obj} {es es' : Array DictEntry} {ep' : Nat} {xs ys : List (List Key × Addr × Value)} (ha : es.toList = xs.map (entryOfKey (tupleKind (mixKind prog w)))) (is : ∀ x ∈ xs, (tupleKind (mixKind prog w)).is s.heap x.1 x.2.1)
    (h1 : s.heap.get? b = some ob) (h2 : ob.data = .dict es' ep') (hb : es'.toList = ys.map (entryOfKey (tupleKind (mixKind prog w)))) (is' : ∀ x ∈ ys, (tupleKind (mixKind prog w)).is s.heap x.1 x.2.1) (nd : (ys.map (·.1)).Nodup) (hu : A.units < cLine)
    (hit : ∀ x ∈ xs, ∃ p, atKey ys x.1 = some p ∧ SeqAt.EqP prog w A s x.2.2 p.2 true) : Looked prog w A s b es es' := by
  intro i hi
  have hl : es.size = xs.length := size_of_entries ha
  have hx : xs[i]? = some xs[i] := List.getElem?_eq_getElem (by omega)
  have q := entry_at ha i
  rw [hx, Array.getElem?_eq_getElem hi] at q
  have q' : es[i] = entryOfKey (tupleKind (mixKind prog w)) xs[i] := Option.some.inj q
  obtain ⟨p, hp, eq⟩ := hit xs[i] (List.getElem_mem _)
  obtain ⟨j, hj⟩ : ∃ j, ys[j]? = some (xs[i].1, p) := by
    unfold atKey at hp
    obtain ⟨y, hy, ey⟩ := Option.map_eq_some_iff.mp hp
    have m := List.mem_of_find?_eq_some hy
    have e : y.1 = xs[i].1 := by
      have z := List.find?_some hy
      simpa using z
    obtain ⟨j, hj⟩ := List.mem_iff_getElem?.mp m
    exact ⟨j, by rw [hj, ← e, ← ey]⟩
  have hjl : j < es'.size := by
    have := size_of_entries hb
    have := (List.getElem?_eq_some_iff.mp hj).1
    omega
  have r := entry_at hb j
  rw [hj, Array.getElem?_eq_getElem hjl] at r
  have r' : es'[j] = entryOfKey (tupleKind (mixKind prog w)) (xs[i].1, p) := Option.some.inj r
  refine ⟨j, hjl, fun E Q qq => ?_, by rw [q', r']; exact eq⟩
  rw [q']
  show wpAny (model prog w) A (dictFind b (.ref xs[i].2.1) ((tupleKind (mixKind prog w)).hash xs[i].1)) Q E s
  refine wpAny_dictFind_heap (a := xs[i].2.1) (k := xs[i].1) (tupleKind_room hu) (is _ (List.getElem_mem _)) h1 h2 hb is' nd (fun z => absurd hj (z j p)) fun j' p' e' => ?_
  have e1 : (ys.map (·.1))[j']? = (ys.map (·.1))[j]? := by
    rw [List.getElem?_map, List.getElem?_map, e', hj] <;> rfl
  have l1 : j' < (ys.map (·.1)).length := by
    rw [List.length_map]
    exact (List.getElem?_eq_some_iff.mp e').1
  obtain rfl : j' = j := (List.getElem?_inj l1 nd).mp e1
  exact qq
end
/-- equal, of nesting below n: flat values, one object, tuples of equal parts, dicts of equal values -/
def EqD (K : PySem.W.Frag) (H : Hp) : Nat → V → V → Prop
  | 0 => fun _ _ => False
  | n + 1 => fun x y => (x = y ∧ flatB x = true) ∨ (∃ a, x = .ref a ∧ y = .ref a) ∨
      (∃ a b xs ys, x = .ref a ∧ y = .ref b ∧ SqT K H a xs ∧ SqT K H b ys ∧ Paired (EqD K H n) xs ys) ∨
      (∃ a b ks ls, x = .ref a ∧ y = .ref b ∧ H a = some (.dK ks) ∧ H b = some (.dK ls) ∧ ks.length = ls.length ∧ ∀ p ∈ ks, ∃ u, valV ls p.1 = some u ∧ EqD K H n p.2 u) ∨
      ∃ a b ks ls, x = .ref a ∧ y = .ref b ∧ H a = some (.dT ks) ∧ H b = some (.dT ls) ∧ ks.length = ls.length ∧ ∀ p ∈ ks, ∃ u, valV ls p.1 = some u ∧ EqD K H n p.2 u
section
variable {X : Cx} {pins : List (Addr × Obj)} {s : Shared} {σ : L2.St} {H : Hp}
/-- two dicts whose values are equal, key by key -/
theorem looked_HK (I : Inv X pins σ H s) {A : Around} {F : V → V → Prop} (ih : ∀ x y v u, F x y → RelV x v → RelV y u → SeqAt.EqP X.prog X.w A s v u true) {a b : Addr} {ks ls : List (Key × V)} (ha : H a = some (.dK ks)) (hb : H b = some (.dK ls)) (hl : ks.length = ls.length) (hp : ∀ p ∈ ks, ∃ u, valV ls p.1 = some u ∧ F p.2 u) :
    (a == sysModules) = false ∧ (b == sysModules) = false ∧ ∃ es ep es' ep', DT.Raw s.heap a es ep ∧ DT.Raw s.heap b es' ep' ∧ es.size = es'.size ∧ Looked X.prog X.w A s b es es' := by
  obtain ⟨_, ya, va, ra, oa, es, ep, a1, a2, a3, a4, a5, a6⟩ := dk_of I.hok ha
  obtain ⟨_, yb, vb, rb, ob, es', ep', b1, b2, b3, b4, b5, b6⟩ := dk_of I.hok hb
  have l1 : va.length = es.size := by rw [← a5.length, Array.length_toList]
  have l2 : vb.length = es'.size := by rw [← b5.length, Array.length_toList]
  refine ⟨ya, yb, es, ep, es', ep', ⟨oa, a1, a2, a3⟩, ⟨ob, b1, b2, b3⟩, by rw [← l1, ← l2, ← ra.length, ← rb.length]; exact hl, looked_K a4 a5 b1 b3 b4 b5 fun q hq => ?_⟩
  obtain ⟨i, hi⟩ := List.mem_iff_getElem?.mp hq
  obtain ⟨p, hpi, e1, e2⟩ := DX.pget ra hi
  obtain ⟨u, hu, f⟩ := hp p (List.mem_of_getElem? hpi)
  have rr : RelO (some u) (valueAt vb p.1) := hu ▸ rb.val p.1
  rcases rr.some_of with ⟨y, hy, ry⟩
  exact ⟨y, by rw [← e1]; exact hy, ih _ _ _ _ f e2 ry⟩
theorem looked_HT (I : Inv X pins σ H s) {A : Around} {F : V → V → Prop} (hu : A.units < cLine) (ih : ∀ x y v u, F x y → RelV x v → RelV y u → SeqAt.EqP X.prog X.w A s v u true) {a b : Addr} {ks ls : List (List Key × V)} (ha : H a = some (.dT ks)) (hb : H b = some (.dT ls)) (hl : ks.length = ls.length) (hp : ∀ p ∈ ks, ∃ u, valV ls p.1 = some u ∧ F p.2 u) :
    (a == sysModules) = false ∧ (b == sysModules) = false ∧ ∃ es ep es' ep', DT.Raw s.heap a es ep ∧ DT.Raw s.heap b es' ep' ∧ es.size = es'.size ∧ Looked X.prog X.w A s b es es' := by
  obtain ⟨_, ya, xs, ka, oa, es, ep, a1, a2, a3, a4, a5, a6⟩ := dt_of I.hok ha
  obtain ⟨_, yb, ys, kb, ob, es', ep', b1, b2, b3, b4, b5, b6⟩ := dt_of I.hok hb
  have l1 : es.size = xs.length := size_of_entries a4
  have l2 : es'.size = ys.length := size_of_entries b4
  have l3 : ks.length = xs.length := Paired.length ka
  have l4 : ls.length = ys.length := Paired.length kb
  refine ⟨ya, yb, es, ep, es', ep', ⟨oa, a1, a2, a3⟩, ⟨ob, b1, b2, b3⟩, by omega, looked_T a4 a5 b1 b3 b4 b5 b6 hu fun q hq => ?_⟩
  obtain ⟨i, hi⟩ := List.mem_iff_getElem?.mp hq
  obtain ⟨p, hpi, e1, _, e2⟩ := DX.pget ka hi
  obtain ⟨u, hv, f⟩ := hp p (List.mem_of_getElem? hpi)
  have rr : RelO (some u) ((atKey ys p.1).map (·.2)) := hv ▸ kb.val p.1
  rcases rr.some_of with ⟨y, hy, ry⟩
  obtain ⟨z, hz, ez⟩ := Option.map_eq_some_iff.mp hy
  exact ⟨z, by rw [← e1]; exact hz, by rw [ez]; exact ih _ _ _ _ f e2 ry⟩
theorem paired_at {P : Program} {w : World} {A : Around} {F : V → V → Prop} (ih : ∀ x y v u, F x y → RelV x v → RelV y u → SeqAt.EqP P w A s v u true) : ∀ {xs ys : List V} {us ws : List Value}, Paired F xs ys → Vals xs us → Vals ys ws →
    us.length = ws.length ∧ ∀ j (h1 : j < us.length) (h2 : j < ws.length), SeqAt.EqP P w A s us[j] ws[j] true
  | _, _, _, _, .nil, .nil, .nil => ⟨rfl, fun j h1 _ => absurd h1 (Nat.not_lt_zero j)⟩
  | _, _, _, _, .cons f t, .cons r1 t1, .cons r2 t2 => by
    obtain ⟨l, k⟩ := paired_at ih t t1 t2
    refine ⟨by simp [l], fun j h1 h2 => ?_⟩
    cases j with
    | zero => exact ih _ _ _ _ f r1 r2
    | succ j => exact k j (Nat.lt_of_succ_lt_succ h1) (Nat.lt_of_succ_lt_succ h2)
theorem eqD_run (I : Inv X pins σ H s) : ∀ (n : Nat) (A : Around), A.units + n < cLine → ∀ (x y : V) (v u : Value), EqD X.K H n x y → RelV x v → RelV y u → SeqAt.EqP X.prog X.w A s v u true
  | 0, _, _, _, _, _, _, h, _, _ => False.elim h
  | n + 1, A, hu, x, y, v, u, he, rx, ry => by
    have ih := eqD_run I n A.in1 (by show A.units + 1 + n < cLine; omega)
    have h0 : A.units < cLine := by omega
    rcases he with ⟨rfl, f⟩ | ⟨a, rfl, rfl⟩ | ⟨a, b, xs, ys, rfl, rfl, ta, tb, hp⟩ | ⟨a, b, ks, ls, rfl, rfl, ha, hb, hl, hp⟩ | ⟨a, b, ks, ls, rfl, rfl, ha, hb, hl, hp⟩
    · exact SeqAt.EqAt.eqP (eqAt_same rx ry f)
    · cases rx; cases ry
      exact (SeqAt.EqAt.same _).eqP
    all_goals
      cases rx
      cases ry
      by_cases hab : a = b
      · subst hab
        exact (SeqAt.EqAt.same _).eqP
      refine SeqAt.eqP_refs hab fun E Q q => ?_
    · obtain ⟨us, r1, p1, _⟩ := I.tuple ta
      obtain ⟨ws, r2, p2, _⟩ := I.tuple tb
      obtain ⟨l, k⟩ := paired_at ih hp r1 r2
      refine SeqAt.rcIn_tuples (e := fun _ => true) (show s.heap.IsTuple a us.toArray from p1) (show s.heap.IsTuple b ws.toArray from p2) h0 (fun j h1 h2 => ?_) ?_
      · have z := k j (by simpa using h1) (by simpa using h2)
        show SeqAt.EqP X.prog X.w A.in1 s _ _ true
        simpa using z
      · have e : ((List.range (min us.toArray.size ws.toArray.size)).all (fun _ => true) && us.toArray.size == ws.toArray.size) = true := by simp [l]
        rw [e]
        exact q
    · obtain ⟨ya, yb, es, ep, es', ep', ra, rb, hs, lk⟩ := looked_HK I ih ha hb hl hp
      exact rc_same ya yb ra rb hs lk h0 q
    · obtain ⟨ya, yb, es, ep, es', ep', ra, rb, hs, lk⟩ := looked_HT I (A := A.in1) (by show A.units + 1 < cLine; omega) ih ha hb hl hp
      exact rc_same ya yb ra rb hs lk h0 q
end
section
variable {X : Cx}
/-- d == e, d != e: two dicts with text and int keys, equal down to the ground -/
def rEqD (K : PySem.W.Frag) (ans : Bool) : R2 := fun x y H Q => ∃ a b ks ls, x = .ref a ∧ y = .ref b ∧ H a = some (.dK ks) ∧ H b = some (.dK ls) ∧ ks.length = ls.length ∧ (∀ p ∈ ks, ∃ u, valV ls p.1 = some u ∧ EqD K H 20 p.2 u) ∧ Q (.bl ans) H
theorem op_eqDict (hu : X.A.units + 64 < cLine) : OpR X (compareOp .Eq) (rEqD X.K true) := by
  rintro pins s σ H x y v u Q I rx ry ⟨a, b, ks, ls, rfl, rfl, ha, hb, hl, hp, q⟩
  cases rx
  cases ry
  obtain ⟨ya, yb, es, ep, es', ep', ra, rb, hs, lk⟩ := looked_HK I (eqD_run I 20 X.A.in1 (by show X.A.units + 1 + 20 < cLine; omega)) ha hb hl hp
  exact rc_same ya yb ra rb hs lk (by omega) ⟨.bl true, H, I, rfl, q⟩
theorem op_neDict (hu : X.A.units + 64 < cLine) : OpR X (compareOp .NotEq) (rEqD X.K false) := by
  rintro pins s σ H x y v u Q I rx ry ⟨a, b, ks, ls, rfl, rfl, ha, hb, hl, hp, q⟩
  cases rx
  cases ry
  obtain ⟨ya, yb, es, ep, es', ep', ra, rb, hs, lk⟩ := looked_HK I (eqD_run I 20 X.A.in1 (by show X.A.units + 1 + 20 < cLine; omega)) ha hb hl hp
  exact rc_differ ya yb ra rb hs lk (by omega) ⟨.bl false, H, I, rfl, q⟩
end
end L2.Sg
set_option Elab.async false
set_option linter.all false
set_option maxRecDepth 100000
set_option maxHeartbeats 2000000
namespace L2.Sg
open PySem PySem.Spec PyProof.Rows
section
variable {X : Cx}
theorem sw_trueD {kx vx : Expr} {gs : List Comprehension} {scope : Scope} {pos py : Pos} {y : Str} {l : Nat} {env : Env} (hk : env.scope.kind = .function) (hy : env.scope.names.lookup y = some .local) (hl : (py.line == pos.line) = true)
    (ha : (scope.names.any fun (n, k) => n == y && (k == .local || k == .cell)) = false) : swapsWith (.DictComp kx vx gs scope pos) (some (.Name y py)) l env = pure true := by
  have kY : env.kindOf y = some .local := hy
  have bk : env.blockKind = .function := by
    unfold Env.blockKind
    rw [hk]
    rfl
  unfold swapsWith
  simp only [bk, kY, ha, hl, Expr.pos]
  rfl
/-- the end of such an assignment: the local gets the new dict, and the block's own cells are dropped -/
theorem put_new {pins : List (Addr × Obj)} {σ : L2.St} {D : Ends} {i : Nat} {y : Str} {py : Pos} {L C : Addr} {s' : Shared} {m : Str → Option Value} {H' : Hp} (hN : X.N.Nodup) (hy : X.N[i]? = some y) (hyl : X.env.scope.names.lookup y = some .local)
    (I' : Inv X pins σ H' s') (hn : s'.heap.Ns C m) (fc : FpOk X pins H' C) (q : gName i (.ref L) σ H' D.nx) : compPost (model X.prog X.w) X.A X.xe (some (assign (.Name y py) X.env)) (fun _ s' => SP X pins D .next s') (.ref L) C (.ok .next) s' := by
  show wpAny (model X.prog X.w) X.A (assign (.Name y py) X.env (.ref L)) _ _ s'
  refine wpAny_assign_Name (store_ok2 I' hN hy (.inl hyl) (show RelV (V.ref L) (Value.ref L) from rfl) ?_ (.inr hyl))
  rintro s2 I2 ⟨a, sb, ha⟩
  have ne : C ≠ a := ha.elim (fun z => z ▸ fc.2.1) fun z e => fc.2.2.2.2.1 y a z e.symm
  refine ⟨m, hn.sameBut sb ne, fun _ sb3 => ⟨_, H', ?_, q⟩⟩
  exact I2.turned (t' := s2.toks) (fun b _ hb e => (sb3.2 b hb).trans e) fc.1 fc.2.1 fc.2.2.2.1 fc.2.2.2.2.1 fc.2.2.2.2.2
theorem ps_setDc {i : Nat} {y : Str} {py : Pos} {kx vx tg iter : Expr} {ifs : List Expr} {scope : Scope} {own : List (Str × Nat)} {pos spos : Pos} {wi : TI} {g : TG} {tt : TT} {tk tv : TE} (hc : X.calm = true) (hN : X.N.Nodup) (hy : X.N[i]? = some y) (hyl : X.env.scope.names.lookup y = some .local)
    (hsw : swapsWith (.DictComp kx vx [⟨tg, iter, ifs, 0⟩] scope pos) (some (.Name y py)) spos.line X.env = pure true) (hi : PI X tg iter wi) (ok : BlkOk X.N X.env.scope scope own)
    (hg : ∀ s H C cl fp, PG (X.blk s H scope (compEnvC scope cl C X.env) fp) tg g) (ht : ∀ s H C cl fp, PTs (X.blk s H scope (compEnvC scope cl C X.env) fp) ifs tt)
    (hk : ∀ s H C cl fp, PE (X.blk s H scope (compEnvC scope cl C X.env) fp) kx tk) (he : ∀ s H C cl fp, PE (X.blk s H scope (compEnvC scope cl C X.env) fp) vx tv) (hs : ∀ x, foldedSetIterable iter X.env x = pure x := by intro _; rfl) :
    PS X (.Assign [.Name y py] (.DictComp kx vx [⟨tg, iter, ifs, 0⟩] scope pos) spos) (tAsg (tDc wi g tt tk tv (own.map (·.2))) (gName i)) := by
  constructor
  intro pins s σ H D I h; rw [exec_Assign_Name_used _ _ _ _ hsw]
  refine wpAny_bind ?_
  refine wpAny_standAt (wpAny_bind ?_)
  show wpAny _ X.A (do let _ ← comprehension (.DictComp kx vx [⟨tg, iter, ifs, 0⟩] scope pos) scope X.env (firstIterPos [⟨tg, iter, ifs, 0⟩] pos) newDict false (eval iter X.env) (some (assign (.Name y py) X.env))) _ _ s
  have h : tDc wi g tt tk tv (own.map (·.2)) σ H (fun x H1 => gName i x σ H1 D.nx) := h
  refine wpAny_bind (thn (dc_core (Qf := fun _ s' => SP X pins D .next s') hc hN I hi ok hg ht hk he hs h fun L C s' m H' I' q hn f => put_new hN hy hyl I' hn f q) fun _ s' hq => wpAny_pure (wpAny_pure hq))
theorem ps_setDcT {i : Nat} {y : Str} {py : Pos} {kx vx tg iter : Expr} {ifs : List Expr} {scope : Scope} {own : List (Str × Nat)} {pos spos : Pos} {wi : TI} {g : TG} {tt : TT} {tk tv : TE} (hc : X.calm = true) (hu : X.A.units + 1 < cLine) (hN : X.N.Nodup) (hy : X.N[i]? = some y) (hyl : X.env.scope.names.lookup y = some .local)
    (hsw : swapsWith (.DictComp kx vx [⟨tg, iter, ifs, 0⟩] scope pos) (some (.Name y py)) spos.line X.env = pure true) (hi : PI X tg iter wi) (ok : BlkOk X.N X.env.scope scope own)
    (hg : ∀ s H C cl fp, PG (X.blk s H scope (compEnvC scope cl C X.env) fp) tg g) (ht : ∀ s H C cl fp, PTs (X.blk s H scope (compEnvC scope cl C X.env) fp) ifs tt)
    (hk : ∀ s H C cl fp, PE (X.blk s H scope (compEnvC scope cl C X.env) fp) kx tk) (he : ∀ s H C cl fp, PE (X.blk s H scope (compEnvC scope cl C X.env) fp) vx tv) (hs : ∀ x, foldedSetIterable iter X.env x = pure x := by intro _; rfl) :
    PS X (.Assign [.Name y py] (.DictComp kx vx [⟨tg, iter, ifs, 0⟩] scope pos) spos) (tAsg (tDcT wi g tt tk tv (own.map (·.2))) (gName i)) := by
  constructor
  intro pins s σ H D I h; rw [exec_Assign_Name_used _ _ _ _ hsw]
  refine wpAny_bind ?_
  refine wpAny_standAt (wpAny_bind ?_)
  show wpAny _ X.A (do let _ ← comprehension (.DictComp kx vx [⟨tg, iter, ifs, 0⟩] scope pos) scope X.env (firstIterPos [⟨tg, iter, ifs, 0⟩] pos) newDict false (eval iter X.env) (some (assign (.Name y py) X.env))) _ _ s
  have h : tDcT wi g tt tk tv (own.map (·.2)) σ H (fun x H1 => gName i x σ H1 D.nx) := h
  refine wpAny_bind (thn (dcT_core (Qf := fun _ s' => SP X pins D .next s') hc hu hN I hi ok hg ht hk he hs h fun L C s' m H' I' q hn f => put_new hN hy hyl I' hn f q) fun _ s' hq => wpAny_pure (wpAny_pure hq))
end
end L2.Sg
set_option Elab.async false
set_option linter.all false
set_option maxRecDepth 100000
set_option maxHeartbeats 4000000
namespace L2.Sg
open PySem PySem.Spec PyProof.Rows
open C8 (Cal Met Mak pe_c pe_mt pe_mt0 pe_mk tCut pss_cut)
/-! ### what the top has left, and the three forms of a def -/
structure Tx (w : World) (K : PySem.W.Frag) (mg : Str → Option Value) : Prop where
  h : ∃ h : Heap, K.In h ∧ h.Ns mainGlobals mg
  c : He.SaysT faAll fnAll tabs w K
  ex : exAll K = true
section
variable {P : Program} {w : World} {K : PySem.W.Frag} {base : Heap} {mg : Str → Option Value}
theorem Tx.f (T : Tx w K mg) (i : Nat) {f : He.Fa} (h : faAll[i]? = some f := by rfl) : f.ok K = true := T.c.d.fact i h
theorem Tx.d (T : Tx w K mg) (i : Nat) {d : He.DefD} (h : fnAll[i]? = some d := by rfl) : ∃ fd, FunD K d.name d.qual d.params d.body d.scope (d.dvs K) (d.kws K) (He.fAd K d.at_) fd := T.c.d.def_ i h
theorem Tx.glo (T : Tx w K mg) {x : Str} (c : (He.Fa.glo x).ok K = true) : ∃ u, mg x = some u ∧ RelV (.ref (He.ga K x)) u := let ⟨_, X, G⟩ := T.h; ⟨_, He.glo_ok X G c, rfl⟩
theorem Tx.int (T : Tx w K mg) {x : Str} {i : Int} (c : (He.Fa.int x i).ok K = true) : ∃ u, mg x = some u ∧ RelV (.int i) u := by
  obtain ⟨_, X, G⟩ := T.h
  obtain ⟨t, e⟩ := He.int_ok X G c
  exact ⟨_, e, t, rfl⟩
theorem Tx.str (T : Tx w K mg) {x z : Str} (c : (He.Fa.str x z).ok K = true) : ∃ u, mg x = some u ∧ RelV (.str z) u := by
  obtain ⟨_, X, G⟩ := T.h
  obtain ⟨t, e⟩ := He.str_ok X G c
  exact ⟨_, e, t, rfl⟩
theorem Tx.free (T : Tx w K mg) {x : Str} (c : (He.Fa.free x).ok K = true) : mg x = none := let ⟨_, X, G⟩ := T.h; He.free_ok X G c
/-- the arguments bind, one by one -/
abbrev BindOk (x qual : Str) (st : Stmt) (ps : List Str) : Prop := ∀ (kV doc pm : Value) (an : Option Addr) (cdv ct : Value) (us : List Value), us.length = ps.length → bindArgs (PySem.W.fnOf x qual (defArgs st) (defBody st) (defScope st) .none kV doc pm an cdv ct) ⟨us, []⟩ = pure (ps.zip us)
abbrev LenOk (sp : Sp) (ps : List Str) : Prop := ∀ vs H Q E, sp vs H Q E → vs.length = ps.length
/-- the body keeps the promise -/
abbrev Bod (P : Program) (w : World) (K : PySem.W.Frag) (mg : Str → Option Value) (base : Heap) (st : Stmt) (qual : Str) (f : Addr) (N : List Str) (k : Nat) (sp : Sp) : Prop :=
  ∀ (cdv : Value) (A : Around) (outer : List Env) (s : Shared) (H : Hp) (vs : List V) (Q : VK) (E : XK), Room k (A.deeper (envOfC qual (defScope st) s.heap.objs.size f cdv)) → sp vs H Q E →
    ∃ t, PSs (cxOf CX0 P w K mg base N qual (defScope st) f cdv A outer s H E).nox (defBody st) t ∧ t { nx := fun _ H' => Q .non H', rt := Q } (start N vs) H
theorem fnok_of {x qual : Str} {st : Stmt} {f : Addr} {fd : FuncData} {N ps : List Str} {k : Nat} {sp : Sp} (F : FunD K x qual (defArgs st) (defBody st) (defScope st) [] [] f fd) (S : FnScope N ps (defScope st)) (len : LenOk sp ps) (hb : Bod P w K mg base st qual f N k sp) :
    FnOk P w K mg base CX0 (k + 1) f fd ps sp :=
  F.ok S len fun cdv A outer s H vs Q E hr h => let ⟨t, a, b⟩ := hb cdv A outer s H vs Q E hr h; ⟨t, a.nox, b⟩
theorem cal_of {x : Str} {st : Stmt} {N ps : List Str} {k : Nat} {sp : Sp} (F : ∃ fd, FunD K x x (defArgs st) (defBody st) (defScope st) [] [] (He.fAd K (x, none)) fd) (g : (He.Fa.glo x).ok K = true) (S : FnScope N ps (defScope st)) (bd : BindOk x x st ps) (len : LenOk sp ps)
    (hb : Bod P w K mg base st x (He.fAd K (x, none)) N k sp) (X : ∃ h : Heap, K.In h ∧ h.Ns mainGlobals mg) : Cal P w K mg base (k + 1) x sp [] := by
  obtain ⟨fd, F⟩ := F
  obtain ⟨_, X, G⟩ := X
  exact ⟨He.ga K x, fd, ps, [], fnok_of F S len hb, He.glo_ok X G g, F.kp, F.bindsN bd, .nil⟩
theorem met_of {C m qual : Str} {st : Stmt} {N ps : List Str} {k : Nat} {sp : Sp} (F : ∃ fd, FunD K m qual (defArgs st) (defBody st) (defScope st) [] [] (He.fAd K (C, some m)) fd) (c : (He.Fa.cls C).ok K = true) (g : (He.Fa.meth C m).ok K = true) (S : FnScope N ps (defScope st)) (bd : BindOk m qual st ps) (len : LenOk sp ps)
    (hb : Bod P w K mg base st qual (He.fAd K (C, some m)) N k sp) : Met P w K mg base (k + 1) (He.ga K C) m sp [] := by
  obtain ⟨fd, F⟩ := F
  exact ⟨He.ma K (He.ga K C) m, fd, ps, [], He.cls_ok c, He.meth_ok g, fnok_of F S len hb, F.bindsN bd, .nil⟩
theorem mak_of {C qual : Str} {st : Stmt} {N ps : List Str} {k : Nat} {sp : Sp} (F : ∃ fd, FunD K "__init__" qual (defArgs st) (defBody st) (defScope st) [] [] (He.fAd K (C, some "__init__")) fd) (g : (He.Fa.glo C).ok K = true) (c : (He.Fa.mkr C).ok K = true) (S : FnScope N ps (defScope st)) (bd : BindOk "__init__" qual st ps) (len : LenOk sp ps)
    (hb : Bod P w K mg base st qual (He.fAd K (C, some "__init__")) N k sp) (X : ∃ h : Heap, K.In h ∧ h.Ns mainGlobals mg) : Mak P w K mg base (k + 1) C (He.ga K C) sp [] := by
  obtain ⟨fd, F⟩ := F
  obtain ⟨_, X, G⟩ := X
  exact ⟨He.ma K (He.ga K C) "__init__", fd, ps, [], He.mkr_ok c, fnok_of F S len hb, He.glo_ok X G g, F.bindsN bd, .nil⟩
theorem K_is_between (T : Tx w K mg) {N ps : List Str} {k : Nat} {sp : Sp} (S : FnScope N ps (defScope s_is_between)) (bd : BindOk "is_between" "is_between" s_is_between ps) (len : LenOk sp ps) (hb : Bod P w K mg base s_is_between "is_between" (He.fAd K ("is_between", none)) N k sp) : Cal P w K mg base (k + 1) "is_between" sp [] := cal_of (st := s_is_between) (T.d 0 (d := d_is_between)) (T.f 0 (f := .glo "is_between")) S bd len hb T.h
theorem K_next_page (T : Tx w K mg) {N ps : List Str} {k : Nat} {sp : Sp} (S : FnScope N ps (defScope s_next_page)) (bd : BindOk "next_page" "next_page" s_next_page ps) (len : LenOk sp ps) (hb : Bod P w K mg base s_next_page "next_page" (He.fAd K ("next_page", none)) N k sp) : Cal P w K mg base (k + 1) "next_page" sp [] := cal_of (st := s_next_page) (T.d 1 (d := d_next_page)) (T.f 1 (f := .glo "next_page")) S bd len hb T.h
theorem K_is_integer (T : Tx w K mg) {N ps : List Str} {k : Nat} {sp : Sp} (S : FnScope N ps (defScope s_is_integer)) (bd : BindOk "is_integer" "is_integer" s_is_integer ps) (len : LenOk sp ps) (hb : Bod P w K mg base s_is_integer "is_integer" (He.fAd K ("is_integer", none)) N k sp) : Cal P w K mg base (k + 1) "is_integer" sp [] := cal_of (st := s_is_integer) (T.d 2 (d := d_is_integer)) (T.f 2 (f := .glo "is_integer")) S bd len hb T.h
theorem K_is_from (T : Tx w K mg) {N ps : List Str} {k : Nat} {sp : Sp} (S : FnScope N ps (defScope s_is_from)) (bd : BindOk "is_from" "is_from" s_is_from ps) (len : LenOk sp ps) (hb : Bod P w K mg base s_is_from "is_from" (He.fAd K ("is_from", none)) N k sp) : Cal P w K mg base (k + 1) "is_from" sp [] := cal_of (st := s_is_from) (T.d 3 (d := d_is_from)) (T.f 3 (f := .glo "is_from")) S bd len hb T.h
theorem K_are_fields (T : Tx w K mg) {N ps : List Str} {k : Nat} {sp : Sp} (S : FnScope N ps (defScope s_are_fields)) (bd : BindOk "are_fields" "are_fields" s_are_fields ps) (len : LenOk sp ps) (hb : Bod P w K mg base s_are_fields "are_fields" (He.fAd K ("are_fields", none)) N k sp) : Cal P w K mg base (k + 1) "are_fields" sp [] := cal_of (st := s_are_fields) (T.d 4 (d := d_are_fields)) (T.f 4 (f := .glo "are_fields")) S bd len hb T.h
theorem K_is_record (T : Tx w K mg) {N ps : List Str} {k : Nat} {sp : Sp} (S : FnScope N ps (defScope s_is_record)) (bd : BindOk "is_record" "is_record" s_is_record ps) (len : LenOk sp ps) (hb : Bod P w K mg base s_is_record "is_record" (He.fAd K ("is_record", none)) N k sp) : Cal P w K mg base (k + 1) "is_record" sp [] := cal_of (st := s_is_record) (T.d 5 (d := d_is_record)) (T.f 5 (f := .glo "is_record")) S bd len hb T.h
theorem K_make_record (T : Tx w K mg) {N ps : List Str} {k : Nat} {sp : Sp} (S : FnScope N ps (defScope s_make_record)) (bd : BindOk "make_record" "make_record" s_make_record ps) (len : LenOk sp ps) (hb : Bod P w K mg base s_make_record "make_record" (He.fAd K ("make_record", none)) N k sp) : Cal P w K mg base (k + 1) "make_record" sp [] := cal_of (st := s_make_record) (T.d 6 (d := d_make_record)) (T.f 6 (f := .glo "make_record")) S bd len hb T.h
theorem K_answer_of (T : Tx w K mg) {N ps : List Str} {k : Nat} {sp : Sp} (S : FnScope N ps (defScope s_answer_of)) (bd : BindOk "answer_of" "answer_of" s_answer_of ps) (len : LenOk sp ps) (hb : Bod P w K mg base s_answer_of "answer_of" (He.fAd K ("answer_of", none)) N k sp) : Cal P w K mg base (k + 1) "answer_of" sp [] := cal_of (st := s_answer_of) (T.d 7 (d := d_answer_of)) (T.f 7 (f := .glo "answer_of")) S bd len hb T.h
theorem K_space_effects (T : Tx w K mg) {N ps : List Str} {k : Nat} {sp : Sp} (S : FnScope N ps (defScope s_space_effects)) (bd : BindOk "space_effects" "space_effects" s_space_effects ps) (len : LenOk sp ps) (hb : Bod P w K mg base s_space_effects "space_effects" (He.fAd K ("space_effects", none)) N k sp) : Cal P w K mg base (k + 1) "space_effects" sp [] := cal_of (st := s_space_effects) (T.d 8 (d := d_space_effects)) (T.f 8 (f := .glo "space_effects")) S bd len hb T.h
theorem K_effects (T : Tx w K mg) {N ps : List Str} {k : Nat} {sp : Sp} (S : FnScope N ps (defScope s_effects)) (bd : BindOk "effects" "effects" s_effects ps) (len : LenOk sp ps) (hb : Bod P w K mg base s_effects "effects" (He.fAd K ("effects", none)) N k sp) : Cal P w K mg base (k + 1) "effects" sp [] := cal_of (st := s_effects) (T.d 9 (d := d_effects)) (T.f 9 (f := .glo "effects")) S bd len hb T.h
theorem K_live_records (T : Tx w K mg) {N ps : List Str} {k : Nat} {sp : Sp} (S : FnScope N ps (defScope s_live_records)) (bd : BindOk "live_records" "live_records" s_live_records ps) (len : LenOk sp ps) (hb : Bod P w K mg base s_live_records "live_records" (He.fAd K ("live_records", none)) N k sp) : Cal P w K mg base (k + 1) "live_records" sp [] := cal_of (st := s_live_records) (T.d 10 (d := d_live_records)) (T.f 10 (f := .glo "live_records")) S bd len hb T.h
theorem K_core (T : Tx w K mg) {N ps : List Str} {k : Nat} {sp : Sp} (S : FnScope N ps (defScope s_core)) (bd : BindOk "core" "core" s_core ps) (len : LenOk sp ps) (hb : Bod P w K mg base s_core "core" (He.fAd K ("core", none)) N k sp) : Cal P w K mg base (k + 1) "core" sp [] := cal_of (st := s_core) (T.d 11 (d := d_core)) (T.f 11 (f := .glo "core")) S bd len hb T.h
theorem K_shared_places (T : Tx w K mg) {N ps : List Str} {k : Nat} {sp : Sp} (S : FnScope N ps (defScope s_shared_places)) (bd : BindOk "shared_places" "shared_places" s_shared_places ps) (len : LenOk sp ps) (hb : Bod P w K mg base s_shared_places "shared_places" (He.fAd K ("shared_places", none)) N k sp) : Cal P w K mg base (k + 1) "shared_places" sp [] := cal_of (st := s_shared_places) (T.d 12 (d := d_shared_places)) (T.f 12 (f := .glo "shared_places")) S bd len hb T.h
theorem K_need (T : Tx w K mg) {N ps : List Str} {k : Nat} {sp : Sp} (S : FnScope N ps (defScope s_need)) (bd : BindOk "need" "need" s_need ps) (len : LenOk sp ps) (hb : Bod P w K mg base s_need "need" (He.fAd K ("need", none)) N k sp) : Cal P w K mg base (k + 1) "need" sp [] := cal_of (st := s_need) (T.d 13 (d := d_need)) (T.f 13 (f := .glo "need")) S bd len hb T.h
theorem K_collect (T : Tx w K mg) {N ps : List Str} {k : Nat} {sp : Sp} (S : FnScope N ps (defScope s_collect)) (bd : BindOk "collect" "collect" s_collect ps) (len : LenOk sp ps) (hb : Bod P w K mg base s_collect "collect" (He.fAd K ("collect", none)) N k sp) : Cal P w K mg base (k + 1) "collect" sp [] := cal_of (st := s_collect) (T.d 14 (d := d_collect)) (T.f 14 (f := .glo "collect")) S bd len hb T.h
theorem K_new_state (T : Tx w K mg) {N ps : List Str} {k : Nat} {sp : Sp} (S : FnScope N ps (defScope s_new_state)) (bd : BindOk "new_state" "new_state" s_new_state ps) (len : LenOk sp ps) (hb : Bod P w K mg base s_new_state "new_state" (He.fAd K ("new_state", none)) N k sp) : Cal P w K mg base (k + 1) "new_state" sp [] := cal_of (st := s_new_state) (T.d 15 (d := d_new_state)) (T.f 15 (f := .glo "new_state")) S bd len hb T.h
theorem K_with_entry (T : Tx w K mg) {N ps : List Str} {k : Nat} {sp : Sp} (S : FnScope N ps (defScope s_with_entry)) (bd : BindOk "with_entry" "with_entry" s_with_entry ps) (len : LenOk sp ps) (hb : Bod P w K mg base s_with_entry "with_entry" (He.fAd K ("with_entry", none)) N k sp) : Cal P w K mg base (k + 1) "with_entry" sp [] := cal_of (st := s_with_entry) (T.d 16 (d := d_with_entry)) (T.f 16 (f := .glo "with_entry")) S bd len hb T.h
theorem K_with_mark (T : Tx w K mg) {N ps : List Str} {k : Nat} {sp : Sp} (S : FnScope N ps (defScope s_with_mark)) (bd : BindOk "with_mark" "with_mark" s_with_mark ps) (len : LenOk sp ps) (hb : Bod P w K mg base s_with_mark "with_mark" (He.fAd K ("with_mark", none)) N k sp) : Cal P w K mg base (k + 1) "with_mark" sp [] := cal_of (st := s_with_mark) (T.d 17 (d := d_with_mark)) (T.f 17 (f := .glo "with_mark")) S bd len hb T.h
theorem K_apply_host_effect (T : Tx w K mg) {N ps : List Str} {k : Nat} {sp : Sp} (S : FnScope N ps (defScope s_apply_host_effect)) (bd : BindOk "apply_host_effect" "apply_host_effect" s_apply_host_effect ps) (len : LenOk sp ps) (hb : Bod P w K mg base s_apply_host_effect "apply_host_effect" (He.fAd K ("apply_host_effect", none)) N k sp) : Cal P w K mg base (k + 1) "apply_host_effect" sp [] := cal_of (st := s_apply_host_effect) (T.d 18 (d := d_apply_host_effect)) (T.f 18 (f := .glo "apply_host_effect")) S bd len hb T.h
theorem K_with_space (T : Tx w K mg) {N ps : List Str} {k : Nat} {sp : Sp} (S : FnScope N ps (defScope s_with_space)) (bd : BindOk "with_space" "with_space" s_with_space ps) (len : LenOk sp ps) (hb : Bod P w K mg base s_with_space "with_space" (He.fAd K ("with_space", none)) N k sp) : Cal P w K mg base (k + 1) "with_space" sp [] := cal_of (st := s_with_space) (T.d 19 (d := d_with_space)) (T.f 19 (f := .glo "with_space")) S bd len hb T.h
theorem K_with_snapshot (T : Tx w K mg) {N ps : List Str} {k : Nat} {sp : Sp} (S : FnScope N ps (defScope s_with_snapshot)) (bd : BindOk "with_snapshot" "with_snapshot" s_with_snapshot ps) (len : LenOk sp ps) (hb : Bod P w K mg base s_with_snapshot "with_snapshot" (He.fAd K ("with_snapshot", none)) N k sp) : Cal P w K mg base (k + 1) "with_snapshot" sp [] := cal_of (st := s_with_snapshot) (T.d 20 (d := d_with_snapshot)) (T.f 20 (f := .glo "with_snapshot")) S bd len hb T.h
theorem K_apply_space_effect (T : Tx w K mg) {N ps : List Str} {k : Nat} {sp : Sp} (S : FnScope N ps (defScope s_apply_space_effect)) (bd : BindOk "apply_space_effect" "apply_space_effect" s_apply_space_effect ps) (len : LenOk sp ps) (hb : Bod P w K mg base s_apply_space_effect "apply_space_effect" (He.fAd K ("apply_space_effect", none)) N k sp) : Cal P w K mg base (k + 1) "apply_space_effect" sp [] := cal_of (st := s_apply_space_effect) (T.d 21 (d := d_apply_space_effect)) (T.f 21 (f := .glo "apply_space_effect")) S bd len hb T.h
theorem K_apply_effect (T : Tx w K mg) {N ps : List Str} {k : Nat} {sp : Sp} (S : FnScope N ps (defScope s_apply_effect)) (bd : BindOk "apply_effect" "apply_effect" s_apply_effect ps) (len : LenOk sp ps) (hb : Bod P w K mg base s_apply_effect "apply_effect" (He.fAd K ("apply_effect", none)) N k sp) : Cal P w K mg base (k + 1) "apply_effect" sp [] := cal_of (st := s_apply_effect) (T.d 22 (d := d_apply_effect)) (T.f 22 (f := .glo "apply_effect")) S bd len hb T.h
theorem K_apply_record (T : Tx w K mg) {N ps : List Str} {k : Nat} {sp : Sp} (S : FnScope N ps (defScope s_apply_record)) (bd : BindOk "apply_record" "apply_record" s_apply_record ps) (len : LenOk sp ps) (hb : Bod P w K mg base s_apply_record "apply_record" (He.fAd K ("apply_record", none)) N k sp) : Cal P w K mg base (k + 1) "apply_record" sp [] := cal_of (st := s_apply_record) (T.d 23 (d := d_apply_record)) (T.f 23 (f := .glo "apply_record")) S bd len hb T.h
theorem K_fold (T : Tx w K mg) {N ps : List Str} {k : Nat} {sp : Sp} (S : FnScope N ps (defScope s_fold)) (bd : BindOk "fold" "fold" s_fold ps) (len : LenOk sp ps) (hb : Bod P w K mg base s_fold "fold" (He.fAd K ("fold", none)) N k sp) : Cal P w K mg base (k + 1) "fold" sp [] := cal_of (st := s_fold) (T.d 24 (d := d_fold)) (T.f 24 (f := .glo "fold")) S bd len hb T.h
theorem K_law_cell (T : Tx w K mg) {N ps : List Str} {k : Nat} {sp : Sp} (S : FnScope N ps (defScope s_law_cell)) (bd : BindOk "_law_cell" "_law_cell" s_law_cell ps) (len : LenOk sp ps) (hb : Bod P w K mg base s_law_cell "_law_cell" (He.fAd K ("_law_cell", none)) N k sp) : Cal P w K mg base (k + 1) "_law_cell" sp [] := cal_of (st := s_law_cell) (T.d 25 (d := d_law_cell)) (T.f 25 (f := .glo "_law_cell")) S bd len hb T.h
theorem K_law_digits (T : Tx w K mg) {N ps : List Str} {k : Nat} {sp : Sp} (S : FnScope N ps (defScope s_law_digits)) (bd : BindOk "_law_digits" "_law_digits" s_law_digits ps) (len : LenOk sp ps) (hb : Bod P w K mg base s_law_digits "_law_digits" (He.fAd K ("_law_digits", none)) N k sp) : Cal P w K mg base (k + 1) "_law_digits" sp [] := cal_of (st := s_law_digits) (T.d 26 (d := d_law_digits)) (T.f 26 (f := .glo "_law_digits")) S bd len hb T.h
theorem K_law_answer (T : Tx w K mg) {N ps : List Str} {k : Nat} {sp : Sp} (S : FnScope N ps (defScope s_law_answer)) (bd : BindOk "_law_answer" "_law_answer" s_law_answer ps) (len : LenOk sp ps) (hb : Bod P w K mg base s_law_answer "_law_answer" (He.fAd K ("_law_answer", none)) N k sp) : Cal P w K mg base (k + 1) "_law_answer" sp [] := cal_of (st := s_law_answer) (T.d 27 (d := d_law_answer)) (T.f 27 (f := .glo "_law_answer")) S bd len hb T.h
theorem K_law_without (T : Tx w K mg) {N ps : List Str} {k : Nat} {sp : Sp} (S : FnScope N ps (defScope s_law_without)) (bd : BindOk "_law_without" "_law_without" s_law_without ps) (len : LenOk sp ps) (hb : Bod P w K mg base s_law_without "_law_without" (He.fAd K ("_law_without", none)) N k sp) : Cal P w K mg base (k + 1) "_law_without" sp [] := cal_of (st := s_law_without) (T.d 28 (d := d_law_without)) (T.f 28 (f := .glo "_law_without")) S bd len hb T.h
theorem K_law_with (T : Tx w K mg) {N ps : List Str} {k : Nat} {sp : Sp} (S : FnScope N ps (defScope s_law_with)) (bd : BindOk "_law_with" "_law_with" s_law_with ps) (len : LenOk sp ps) (hb : Bod P w K mg base s_law_with "_law_with" (He.fAd K ("_law_with", none)) N k sp) : Cal P w K mg base (k + 1) "_law_with" sp [] := cal_of (st := s_law_with) (T.d 29 (d := d_law_with)) (T.f 29 (f := .glo "_law_with")) S bd len hb T.h
theorem K_law_start (T : Tx w K mg) {N ps : List Str} {k : Nat} {sp : Sp} (S : FnScope N ps (defScope s_law_start)) (bd : BindOk "_law_start" "_law_start" s_law_start ps) (len : LenOk sp ps) (hb : Bod P w K mg base s_law_start "_law_start" (He.fAd K ("_law_start", none)) N k sp) : Cal P w K mg base (k + 1) "_law_start" sp [] := cal_of (st := s_law_start) (T.d 30 (d := d_law_start)) (T.f 30 (f := .glo "_law_start")) S bd len hb T.h
theorem K_law_space (T : Tx w K mg) {N ps : List Str} {k : Nat} {sp : Sp} (S : FnScope N ps (defScope s_law_space)) (bd : BindOk "_law_space" "_law_space" s_law_space ps) (len : LenOk sp ps) (hb : Bod P w K mg base s_law_space "_law_space" (He.fAd K ("_law_space", none)) N k sp) : Cal P w K mg base (k + 1) "_law_space" sp [] := cal_of (st := s_law_space) (T.d 31 (d := d_law_space)) (T.f 31 (f := .glo "_law_space")) S bd len hb T.h
theorem K_law_after (T : Tx w K mg) {N ps : List Str} {k : Nat} {sp : Sp} (S : FnScope N ps (defScope s_law_after)) (bd : BindOk "_law_after" "_law_after" s_law_after ps) (len : LenOk sp ps) (hb : Bod P w K mg base s_law_after "_law_after" (He.fAd K ("_law_after", none)) N k sp) : Cal P w K mg base (k + 1) "_law_after" sp [] := cal_of (st := s_law_after) (T.d 32 (d := d_law_after)) (T.f 32 (f := .glo "_law_after")) S bd len hb T.h
theorem K_law_named (T : Tx w K mg) {N ps : List Str} {k : Nat} {sp : Sp} (S : FnScope N ps (defScope s_law_named)) (bd : BindOk "_law_named" "_law_named" s_law_named ps) (len : LenOk sp ps) (hb : Bod P w K mg base s_law_named "_law_named" (He.fAd K ("_law_named", none)) N k sp) : Cal P w K mg base (k + 1) "_law_named" sp [] := cal_of (st := s_law_named) (T.d 33 (d := d_law_named)) (T.f 33 (f := .glo "_law_named")) S bd len hb T.h
theorem K_law_added (T : Tx w K mg) {N ps : List Str} {k : Nat} {sp : Sp} (S : FnScope N ps (defScope s_law_added)) (bd : BindOk "_law_added" "_law_added" s_law_added ps) (len : LenOk sp ps) (hb : Bod P w K mg base s_law_added "_law_added" (He.fAd K ("_law_added", none)) N k sp) : Cal P w K mg base (k + 1) "_law_added" sp [] := cal_of (st := s_law_added) (T.d 34 (d := d_law_added)) (T.f 34 (f := .glo "_law_added")) S bd len hb T.h
theorem K_law_filled (T : Tx w K mg) {N ps : List Str} {k : Nat} {sp : Sp} (S : FnScope N ps (defScope s_law_filled)) (bd : BindOk "_law_filled" "_law_filled" s_law_filled ps) (len : LenOk sp ps) (hb : Bod P w K mg base s_law_filled "_law_filled" (He.fAd K ("_law_filled", none)) N k sp) : Cal P w K mg base (k + 1) "_law_filled" sp [] := cal_of (st := s_law_filled) (T.d 35 (d := d_law_filled)) (T.f 35 (f := .glo "_law_filled")) S bd len hb T.h
theorem K_law_turn (T : Tx w K mg) {N ps : List Str} {k : Nat} {sp : Sp} (S : FnScope N ps (defScope s_law_turn)) (bd : BindOk "_law_turn" "_law_turn" s_law_turn ps) (len : LenOk sp ps) (hb : Bod P w K mg base s_law_turn "_law_turn" (He.fAd K ("_law_turn", none)) N k sp) : Cal P w K mg base (k + 1) "_law_turn" sp [] := cal_of (st := s_law_turn) (T.d 36 (d := d_law_turn)) (T.f 36 (f := .glo "_law_turn")) S bd len hb T.h
theorem K_law (T : Tx w K mg) {N ps : List Str} {k : Nat} {sp : Sp} (S : FnScope N ps (defScope s_law)) (bd : BindOk "law" "law" s_law ps) (len : LenOk sp ps) (hb : Bod P w K mg base s_law "law" (He.fAd K ("law", none)) N k sp) : Cal P w K mg base (k + 1) "law" sp [] := cal_of (st := s_law) (T.d 37 (d := d_law)) (T.f 37 (f := .glo "law")) S bd len hb T.h
theorem K_Flash_init (T : Tx w K mg) {N ps : List Str} {k : Nat} {sp : Sp} (S : FnScope N ps (defScope s_Flash_init)) (bd : BindOk "__init__" "Flash.__init__" s_Flash_init ps) (len : LenOk sp ps) (hb : Bod P w K mg base s_Flash_init "Flash.__init__" (He.fAd K ("Flash", some "__init__")) N k sp) : Mak P w K mg base (k + 1) "Flash" (He.ga K "Flash") sp [] := mak_of (qual := "Flash.__init__") (st := s_Flash_init) (T.d 38 (d := d_Flash_init)) (T.f 39 (f := .glo "Flash")) (T.f 41 (f := .mkr "Flash")) S bd len hb T.h
theorem K_Flash_check_block (T : Tx w K mg) {N ps : List Str} {k : Nat} {sp : Sp} (S : FnScope N ps (defScope s_Flash_check_block)) (bd : BindOk "check_block" "Flash.check_block" s_Flash_check_block ps) (len : LenOk sp ps) (hb : Bod P w K mg base s_Flash_check_block "Flash.check_block" (He.fAd K ("Flash", some "check_block")) N k sp) : Met P w K mg base (k + 1) (He.ga K "Flash") "check_block" sp [] := met_of (qual := "Flash.check_block") (st := s_Flash_check_block) (T.d 39 (d := d_Flash_check_block)) (T.f 40 (f := .cls "Flash")) (T.f 43 (f := .meth "Flash" "check_block")) S bd len hb
theorem K_Flash_check_page (T : Tx w K mg) {N ps : List Str} {k : Nat} {sp : Sp} (S : FnScope N ps (defScope s_Flash_check_page)) (bd : BindOk "check_page" "Flash.check_page" s_Flash_check_page ps) (len : LenOk sp ps) (hb : Bod P w K mg base s_Flash_check_page "Flash.check_page" (He.fAd K ("Flash", some "check_page")) N k sp) : Met P w K mg base (k + 1) (He.ga K "Flash") "check_page" sp [] := met_of (qual := "Flash.check_page") (st := s_Flash_check_page) (T.d 40 (d := d_Flash_check_page)) (T.f 40 (f := .cls "Flash")) (T.f 44 (f := .meth "Flash" "check_page")) S bd len hb
theorem K_Flash_read (T : Tx w K mg) {N ps : List Str} {k : Nat} {sp : Sp} (S : FnScope N ps (defScope s_Flash_read)) (bd : BindOk "read" "Flash.read" s_Flash_read ps) (len : LenOk sp ps) (hb : Bod P w K mg base s_Flash_read "Flash.read" (He.fAd K ("Flash", some "read")) N k sp) : Met P w K mg base (k + 1) (He.ga K "Flash") "read" sp [] := met_of (qual := "Flash.read") (st := s_Flash_read) (T.d 41 (d := d_Flash_read)) (T.f 40 (f := .cls "Flash")) (T.f 45 (f := .meth "Flash" "read")) S bd len hb
theorem K_Flash_operate (T : Tx w K mg) {N ps : List Str} {k : Nat} {sp : Sp} (S : FnScope N ps (defScope s_Flash_operate)) (bd : BindOk "operate" "Flash.operate" s_Flash_operate ps) (len : LenOk sp ps) (hb : Bod P w K mg base s_Flash_operate "Flash.operate" (He.fAd K ("Flash", some "operate")) N k sp) : Met P w K mg base (k + 1) (He.ga K "Flash") "operate" sp [] := met_of (qual := "Flash.operate") (st := s_Flash_operate) (T.d 42 (d := d_Flash_operate)) (T.f 40 (f := .cls "Flash")) (T.f 46 (f := .meth "Flash" "operate")) S bd len hb
theorem K_Flash_program (T : Tx w K mg) {N ps : List Str} {k : Nat} {sp : Sp} (S : FnScope N ps (defScope s_Flash_program)) (bd : BindOk "program" "Flash.program" s_Flash_program ps) (len : LenOk sp ps) (hb : Bod P w K mg base s_Flash_program "Flash.program" (He.fAd K ("Flash", some "program")) N k sp) : Met P w K mg base (k + 1) (He.ga K "Flash") "program" sp [] := met_of (qual := "Flash.program") (st := s_Flash_program) (T.d 43 (d := d_Flash_program)) (T.f 40 (f := .cls "Flash")) (T.f 47 (f := .meth "Flash" "program")) S bd len hb
theorem K_Flash_wear (T : Tx w K mg) {N ps : List Str} {k : Nat} {sp : Sp} (S : FnScope N ps (defScope s_Flash_wear)) (bd : BindOk "wear" "Flash.wear" s_Flash_wear ps) (len : LenOk sp ps) (hb : Bod P w K mg base s_Flash_wear "Flash.wear" (He.fAd K ("Flash", some "wear")) N k sp) : Met P w K mg base (k + 1) (He.ga K "Flash") "wear" sp [] := met_of (qual := "Flash.wear") (st := s_Flash_wear) (T.d 44 (d := d_Flash_wear)) (T.f 40 (f := .cls "Flash")) (T.f 48 (f := .meth "Flash" "wear")) S bd len hb
theorem K_Table_init (T : Tx w K mg) {N ps : List Str} {k : Nat} {sp : Sp} (S : FnScope N ps (defScope s_Table_init)) (bd : BindOk "__init__" "Table.__init__" s_Table_init ps) (len : LenOk sp ps) (hb : Bod P w K mg base s_Table_init "Table.__init__" (He.fAd K ("Table", some "__init__")) N k sp) : Mak P w K mg base (k + 1) "Table" (He.ga K "Table") sp [] := mak_of (qual := "Table.__init__") (st := s_Table_init) (T.d 45 (d := d_Table_init)) (T.f 55 (f := .glo "Table")) (T.f 57 (f := .mkr "Table")) S bd len hb T.h
theorem K_Table_is_hidden (T : Tx w K mg) {N ps : List Str} {k : Nat} {sp : Sp} (S : FnScope N ps (defScope s_Table_is_hidden)) (bd : BindOk "is_hidden" "Table.is_hidden" s_Table_is_hidden ps) (len : LenOk sp ps) (hb : Bod P w K mg base s_Table_is_hidden "Table.is_hidden" (He.fAd K ("Table", some "is_hidden")) N k sp) : Met P w K mg base (k + 1) (He.ga K "Table") "is_hidden" sp [] := met_of (qual := "Table.is_hidden") (st := s_Table_is_hidden) (T.d 46 (d := d_Table_is_hidden)) (T.f 56 (f := .cls "Table")) (T.f 59 (f := .meth "Table" "is_hidden")) S bd len hb
theorem K_Table_views (T : Tx w K mg) {N ps : List Str} {k : Nat} {sp : Sp} (S : FnScope N ps (defScope s_Table_views)) (bd : BindOk "views" "Table.views" s_Table_views ps) (len : LenOk sp ps) (hb : Bod P w K mg base s_Table_views "Table.views" (He.fAd K ("Table", some "views")) N k sp) : Met P w K mg base (k + 1) (He.ga K "Table") "views" sp [] := met_of (qual := "Table.views") (st := s_Table_views) (T.d 47 (d := d_Table_views)) (T.f 56 (f := .cls "Table")) (T.f 60 (f := .meth "Table" "views")) S bd len hb
theorem K_Table_last_index (T : Tx w K mg) {N ps : List Str} {k : Nat} {sp : Sp} (S : FnScope N ps (defScope s_Table_last_index)) (bd : BindOk "last_index" "Table.last_index" s_Table_last_index ps) (len : LenOk sp ps) (hb : Bod P w K mg base s_Table_last_index "Table.last_index" (He.fAd K ("Table", some "last_index")) N k sp) : Met P w K mg base (k + 1) (He.ga K "Table") "last_index" sp [] := met_of (qual := "Table.last_index") (st := s_Table_last_index) (T.d 48 (d := d_Table_last_index)) (T.f 56 (f := .cls "Table")) (T.f 61 (f := .meth "Table" "last_index")) S bd len hb
theorem K_Table_live_orders (T : Tx w K mg) {N ps : List Str} {k : Nat} {sp : Sp} (S : FnScope N ps (defScope s_Table_live_orders)) (bd : BindOk "live_orders" "Table.live_orders" s_Table_live_orders ps) (len : LenOk sp ps) (hb : Bod P w K mg base s_Table_live_orders "Table.live_orders" (He.fAd K ("Table", some "live_orders")) N k sp) : Met P w K mg base (k + 1) (He.ga K "Table") "live_orders" sp [] := met_of (qual := "Table.live_orders") (st := s_Table_live_orders) (T.d 49 (d := d_Table_live_orders)) (T.f 56 (f := .cls "Table")) (T.f 62 (f := .meth "Table" "live_orders")) S bd len hb
theorem K_Table_live (T : Tx w K mg) {N ps : List Str} {k : Nat} {sp : Sp} (S : FnScope N ps (defScope s_Table_live)) (bd : BindOk "live" "Table.live" s_Table_live ps) (len : LenOk sp ps) (hb : Bod P w K mg base s_Table_live "Table.live" (He.fAd K ("Table", some "live")) N k sp) : Met P w K mg base (k + 1) (He.ga K "Table") "live" sp [] := met_of (qual := "Table.live") (st := s_Table_live) (T.d 50 (d := d_Table_live)) (T.f 56 (f := .cls "Table")) (T.f 63 (f := .meth "Table" "live")) S bd len hb
theorem K_Table_is_shared (T : Tx w K mg) {N ps : List Str} {k : Nat} {sp : Sp} (S : FnScope N ps (defScope s_Table_is_shared)) (bd : BindOk "is_shared" "Table.is_shared" s_Table_is_shared ps) (len : LenOk sp ps) (hb : Bod P w K mg base s_Table_is_shared "Table.is_shared" (He.fAd K ("Table", some "is_shared")) N k sp) : Met P w K mg base (k + 1) (He.ga K "Table") "is_shared" sp [] := met_of (qual := "Table.is_shared") (st := s_Table_is_shared) (T.d 51 (d := d_Table_is_shared)) (T.f 56 (f := .cls "Table")) (T.f 64 (f := .meth "Table" "is_shared")) S bd len hb
theorem K_Table_shared (T : Tx w K mg) {N ps : List Str} {k : Nat} {sp : Sp} (S : FnScope N ps (defScope s_Table_shared)) (bd : BindOk "shared" "Table.shared" s_Table_shared ps) (len : LenOk sp ps) (hb : Bod P w K mg base s_Table_shared "Table.shared" (He.fAd K ("Table", some "shared")) N k sp) : Met P w K mg base (k + 1) (He.ga K "Table") "shared" sp [] := met_of (qual := "Table.shared") (st := s_Table_shared) (T.d 52 (d := d_Table_shared)) (T.f 56 (f := .cls "Table")) (T.f 65 (f := .meth "Table" "shared")) S bd len hb
theorem K_Log_init (T : Tx w K mg) {N ps : List Str} {k : Nat} {sp : Sp} (S : FnScope N ps (defScope s_Log_init)) (bd : BindOk "__init__" "Log.__init__" s_Log_init ps) (len : LenOk sp ps) (hb : Bod P w K mg base s_Log_init "Log.__init__" (He.fAd K ("Log", some "__init__")) N k sp) : Mak P w K mg base (k + 1) "Log" (He.ga K "Log") sp [] := mak_of (qual := "Log.__init__") (st := s_Log_init) (T.d 53 (d := d_Log_init)) (T.f 70 (f := .glo "Log")) (T.f 72 (f := .mkr "Log")) S bd len hb T.h
theorem K_Log_check_block (T : Tx w K mg) {N ps : List Str} {k : Nat} {sp : Sp} (S : FnScope N ps (defScope s_Log_check_block)) (bd : BindOk "check_block" "Log.check_block" s_Log_check_block ps) (len : LenOk sp ps) (hb : Bod P w K mg base s_Log_check_block "Log.check_block" (He.fAd K ("Log", some "check_block")) N k sp) : Met P w K mg base (k + 1) (He.ga K "Log") "check_block" sp [] := met_of (qual := "Log.check_block") (st := s_Log_check_block) (T.d 54 (d := d_Log_check_block)) (T.f 71 (f := .cls "Log")) (T.f 74 (f := .meth "Log" "check_block")) S bd len hb
theorem K_Log_state (T : Tx w K mg) {N ps : List Str} {k : Nat} {sp : Sp} (S : FnScope N ps (defScope s_Log_state)) (bd : BindOk "state" "Log.state" s_Log_state ps) (len : LenOk sp ps) (hb : Bod P w K mg base s_Log_state "Log.state" (He.fAd K ("Log", some "state")) N k sp) : Met P w K mg base (k + 1) (He.ga K "Log") "state" sp [] := met_of (qual := "Log.state") (st := s_Log_state) (T.d 55 (d := d_Log_state)) (T.f 71 (f := .cls "Log")) (T.f 75 (f := .meth "Log" "state")) S bd len hb
theorem K_Log_free_blocks (T : Tx w K mg) {N ps : List Str} {k : Nat} {sp : Sp} (S : FnScope N ps (defScope s_Log_free_blocks)) (bd : BindOk "free_blocks" "Log.free_blocks" s_Log_free_blocks ps) (len : LenOk sp ps) (hb : Bod P w K mg base s_Log_free_blocks "Log.free_blocks" (He.fAd K ("Log", some "free_blocks")) N k sp) : Met P w K mg base (k + 1) (He.ga K "Log") "free_blocks" sp [] := met_of (qual := "Log.free_blocks") (st := s_Log_free_blocks) (T.d 56 (d := d_Log_free_blocks)) (T.f 71 (f := .cls "Log")) (T.f 76 (f := .meth "Log" "free_blocks")) S bd len hb
theorem K_Log_room (T : Tx w K mg) {N ps : List Str} {k : Nat} {sp : Sp} (S : FnScope N ps (defScope s_Log_room)) (bd : BindOk "room" "Log.room" s_Log_room ps) (len : LenOk sp ps) (hb : Bod P w K mg base s_Log_room "Log.room" (He.fAd K ("Log", some "room")) N k sp) : Met P w K mg base (k + 1) (He.ga K "Log") "room" sp [] := met_of (qual := "Log.room") (st := s_Log_room) (T.d 57 (d := d_Log_room)) (T.f 71 (f := .cls "Log")) (T.f 77 (f := .meth "Log" "room")) S bd len hb
theorem K_Log_choose (T : Tx w K mg) {N ps : List Str} {k : Nat} {sp : Sp} (S : FnScope N ps (defScope s_Log_choose)) (bd : BindOk "choose" "Log.choose" s_Log_choose ps) (len : LenOk sp ps) (hb : Bod P w K mg base s_Log_choose "Log.choose" (He.fAd K ("Log", some "choose")) N k sp) : Met P w K mg base (k + 1) (He.ga K "Log") "choose" sp [] := met_of (qual := "Log.choose") (st := s_Log_choose) (T.d 58 (d := d_Log_choose)) (T.f 71 (f := .cls "Log")) (T.f 78 (f := .meth "Log" "choose")) S bd len hb
theorem K_Log_append (T : Tx w K mg) {N ps : List Str} {k : Nat} {sp : Sp} (S : FnScope N ps (defScope s_Log_append)) (bd : BindOk "append" "Log.append" s_Log_append ps) (len : LenOk sp ps) (hb : Bod P w K mg base s_Log_append "Log.append" (He.fAd K ("Log", some "append")) N k sp) : Met P w K mg base (k + 1) (He.ga K "Log") "append" sp [] := met_of (qual := "Log.append") (st := s_Log_append) (T.d 59 (d := d_Log_append)) (T.f 71 (f := .cls "Log")) (T.f 79 (f := .meth "Log" "append")) S bd len hb
theorem K_Log_records (T : Tx w K mg) {N ps : List Str} {k : Nat} {sp : Sp} (S : FnScope N ps (defScope s_Log_records)) (bd : BindOk "records" "Log.records" s_Log_records ps) (len : LenOk sp ps) (hb : Bod P w K mg base s_Log_records "Log.records" (He.fAd K ("Log", some "records")) N k sp) : Met P w K mg base (k + 1) (He.ga K "Log") "records" sp [] := met_of (qual := "Log.records") (st := s_Log_records) (T.d 60 (d := d_Log_records)) (T.f 71 (f := .cls "Log")) (T.f 80 (f := .meth "Log" "records")) S bd len hb
theorem K_Store_init (T : Tx w K mg) {N ps : List Str} {k : Nat} {sp : Sp} (S : FnScope N ps (defScope s_Store_init)) (bd : BindOk "__init__" "Store.__init__" s_Store_init ps) (len : LenOk sp ps) (hb : Bod P w K mg base s_Store_init "Store.__init__" (He.fAd K ("Store", some "__init__")) N k sp) : Mak P w K mg base (k + 1) "Store" (He.ga K "Store") sp [] := mak_of (qual := "Store.__init__") (st := s_Store_init) (T.d 61 (d := d_Store_init)) (T.f 84 (f := .glo "Store")) (T.f 86 (f := .mkr "Store")) S bd len hb T.h
theorem K_Store_next_order (T : Tx w K mg) {N ps : List Str} {k : Nat} {sp : Sp} (S : FnScope N ps (defScope s_Store_next_order)) (bd : BindOk "next_order" "Store.next_order" s_Store_next_order ps) (len : LenOk sp ps) (hb : Bod P w K mg base s_Store_next_order "Store.next_order" (He.fAd K ("Store", some "next_order")) N k sp) : Met P w K mg base (k + 1) (He.ga K "Store") "next_order" sp [] := met_of (qual := "Store.next_order") (st := s_Store_next_order) (T.d 62 (d := d_Store_next_order)) (T.f 85 (f := .cls "Store")) (T.f 88 (f := .meth "Store" "next_order")) S bd len hb
theorem K_Store_records (T : Tx w K mg) {N ps : List Str} {k : Nat} {sp : Sp} (S : FnScope N ps (defScope s_Store_records)) (bd : BindOk "records" "Store.records" s_Store_records ps) (len : LenOk sp ps) (hb : Bod P w K mg base s_Store_records "Store.records" (He.fAd K ("Store", some "records")) N k sp) : Met P w K mg base (k + 1) (He.ga K "Store") "records" sp [] := met_of (qual := "Store.records") (st := s_Store_records) (T.d 63 (d := d_Store_records)) (T.f 85 (f := .cls "Store")) (T.f 89 (f := .meth "Store" "records")) S bd len hb
theorem K_Store_limit (T : Tx w K mg) {N ps : List Str} {k : Nat} {sp : Sp} (S : FnScope N ps (defScope s_Store_limit)) (bd : BindOk "limit" "Store.limit" s_Store_limit ps) (len : LenOk sp ps) (hb : Bod P w K mg base s_Store_limit "Store.limit" (He.fAd K ("Store", some "limit")) N k sp) : Met P w K mg base (k + 1) (He.ga K "Store") "limit" sp [] := met_of (qual := "Store.limit") (st := s_Store_limit) (T.d 64 (d := d_Store_limit)) (T.f 85 (f := .cls "Store")) (T.f 90 (f := .meth "Store" "limit")) S bd len hb
theorem K_Store_need (T : Tx w K mg) {N ps : List Str} {k : Nat} {sp : Sp} (S : FnScope N ps (defScope s_Store_need)) (bd : BindOk "need" "Store.need" s_Store_need ps) (len : LenOk sp ps) (hb : Bod P w K mg base s_Store_need "Store.need" (He.fAd K ("Store", some "need")) N k sp) : Met P w K mg base (k + 1) (He.ga K "Store") "need" sp [] := met_of (qual := "Store.need") (st := s_Store_need) (T.d 65 (d := d_Store_need)) (T.f 85 (f := .cls "Store")) (T.f 91 (f := .meth "Store" "need")) S bd len hb
theorem K_Store_need_with (T : Tx w K mg) {N ps : List Str} {k : Nat} {sp : Sp} (S : FnScope N ps (defScope s_Store_need_with)) (bd : BindOk "need_with" "Store.need_with" s_Store_need_with ps) (len : LenOk sp ps) (hb : Bod P w K mg base s_Store_need_with "Store.need_with" (He.fAd K ("Store", some "need_with")) N k sp) : Met P w K mg base (k + 1) (He.ga K "Store") "need_with" sp [] := met_of (qual := "Store.need_with") (st := s_Store_need_with) (T.d 66 (d := d_Store_need_with)) (T.f 85 (f := .cls "Store")) (T.f 92 (f := .meth "Store" "need_with")) S bd len hb
theorem K_Store_fits (T : Tx w K mg) {N ps : List Str} {k : Nat} {sp : Sp} (S : FnScope N ps (defScope s_Store_fits)) (bd : BindOk "fits" "Store.fits" s_Store_fits ps) (len : LenOk sp ps) (hb : Bod P w K mg base s_Store_fits "Store.fits" (He.fAd K ("Store", some "fits")) N k sp) : Met P w K mg base (k + 1) (He.ga K "Store") "fits" sp [] := met_of (qual := "Store.fits") (st := s_Store_fits) (T.d 67 (d := d_Store_fits)) (T.f 85 (f := .cls "Store")) (T.f 93 (f := .meth "Store" "fits")) S bd len hb
theorem K_Store_add (T : Tx w K mg) {N ps : List Str} {k : Nat} {sp : Sp} (S : FnScope N ps (defScope s_Store_add)) (bd : BindOk "add" "Store.add" s_Store_add ps) (len : LenOk sp ps) (hb : Bod P w K mg base s_Store_add "Store.add" (He.fAd K ("Store", some "add")) N k sp) : Met P w K mg base (k + 1) (He.ga K "Store") "add" sp [] := met_of (qual := "Store.add") (st := s_Store_add) (T.d 68 (d := d_Store_add)) (T.f 85 (f := .cls "Store")) (T.f 94 (f := .meth "Store" "add")) S bd len hb
theorem K_Store_flush (T : Tx w K mg) {N ps : List Str} {k : Nat} {sp : Sp} (S : FnScope N ps (defScope s_Store_flush)) (bd : BindOk "flush" "Store.flush" s_Store_flush ps) (len : LenOk sp ps) (hb : Bod P w K mg base s_Store_flush "Store.flush" (He.fAd K ("Store", some "flush")) N k sp) : Met P w K mg base (k + 1) (He.ga K "Store") "flush" sp [] := met_of (qual := "Store.flush") (st := s_Store_flush) (T.d 69 (d := d_Store_flush)) (T.f 85 (f := .cls "Store")) (T.f 95 (f := .meth "Store" "flush")) S bd len hb
theorem cls_Flash (T : Tx w K mg) : Cls K (He.ga K "Flash") := He.cls_ok (T.f 40 (f := .cls "Flash"))
theorem at_Flash_blocks (T : Tx w K mg) : NoAttr K (He.ga K "Flash") "blocks" := He.noat_ok (T.f 49 (f := .noat "Flash" "blocks"))
theorem at_Flash_held (T : Tx w K mg) : NoAttr K (He.ga K "Flash") "held" := He.noat_ok (T.f 50 (f := .noat "Flash" "held"))
theorem at_Flash_wears (T : Tx w K mg) : NoAttr K (He.ga K "Flash") "wears" := He.noat_ok (T.f 51 (f := .noat "Flash" "wears"))
theorem at_Flash_left (T : Tx w K mg) : NoAttr K (He.ga K "Flash") "left" := He.noat_ok (T.f 52 (f := .noat "Flash" "left"))
theorem at_Flash_power (T : Tx w K mg) : NoAttr K (He.ga K "Flash") "power" := He.noat_ok (T.f 53 (f := .noat "Flash" "power"))
theorem at_Flash_broken (T : Tx w K mg) : NoAttr K (He.ga K "Flash") "broken" := He.noat_ok (T.f 54 (f := .noat "Flash" "broken"))
theorem cls_Table (T : Tx w K mg) : Cls K (He.ga K "Table") := He.cls_ok (T.f 56 (f := .cls "Table"))
theorem at_Table_records (T : Tx w K mg) : NoAttr K (He.ga K "Table") "records" := He.noat_ok (T.f 66 (f := .noat "Table" "records"))
theorem at_Table_rows (T : Tx w K mg) : NoAttr K (He.ga K "Table") "rows" := He.noat_ok (T.f 67 (f := .noat "Table" "rows"))
theorem at_Table_oldest (T : Tx w K mg) : NoAttr K (He.ga K "Table") "oldest" := He.noat_ok (T.f 68 (f := .noat "Table" "oldest"))
theorem at_Table_snapshots (T : Tx w K mg) : NoAttr K (He.ga K "Table") "snapshots" := He.noat_ok (T.f 69 (f := .noat "Table" "snapshots"))
theorem cls_Log (T : Tx w K mg) : Cls K (He.ga K "Log") := He.cls_ok (T.f 71 (f := .cls "Log"))
theorem at_Log_flash (T : Tx w K mg) : NoAttr K (He.ga K "Log") "flash" := He.noat_ok (T.f 81 (f := .noat "Log" "flash"))
theorem at_Log_held (T : Tx w K mg) : NoAttr K (He.ga K "Log") "held" := He.noat_ok (T.f 82 (f := .noat "Log" "held"))
theorem at_Log_current (T : Tx w K mg) : NoAttr K (He.ga K "Log") "current" := He.noat_ok (T.f 83 (f := .noat "Log" "current"))
theorem cls_Store (T : Tx w K mg) : Cls K (He.ga K "Store") := He.cls_ok (T.f 85 (f := .cls "Store"))
theorem at_Store_flash (T : Tx w K mg) : NoAttr K (He.ga K "Store") "flash" := He.noat_ok (T.f 96 (f := .noat "Store" "flash"))
theorem at_Store_log (T : Tx w K mg) : NoAttr K (He.ga K "Store") "log" := He.noat_ok (T.f 97 (f := .noat "Store" "log"))
theorem at_Store_state (T : Tx w K mg) : NoAttr K (He.ga K "Store") "state" := He.noat_ok (T.f 98 (f := .noat "Store" "state"))
theorem at_Store_waiting (T : Tx w K mg) : NoAttr K (He.ga K "Store") "waiting" := He.noat_ok (T.f 99 (f := .noat "Store" "waiting"))
theorem i_PAGES (T : Tx w K mg) : ∃ u, mg "PAGES" = some u ∧ RelV (.int 8) u := T.int (T.f 100 (f := .int "PAGES" 8))
theorem i_MIN_BLOCKS (T : Tx w K mg) : ∃ u, mg "MIN_BLOCKS" = some u ∧ RelV (.int 8) u := T.int (T.f 101 (f := .int "MIN_BLOCKS" 8))
theorem i_MAX_BLOCKS (T : Tx w K mg) : ∃ u, mg "MAX_BLOCKS" = some u ∧ RelV (.int 24) u := T.int (T.f 102 (f := .int "MAX_BLOCKS" 24))
theorem i_HOSTS (T : Tx w K mg) : ∃ u, mg "HOSTS" = some u ∧ RelV (.int 4) u := T.int (T.f 103 (f := .int "HOSTS" 4))
theorem i_NAMESPACES (T : Tx w K mg) : ∃ u, mg "NAMESPACES" = some u ∧ RelV (.int 8) u := T.int (T.f 104 (f := .int "NAMESPACES" 8))
theorem i_PLACES (T : Tx w K mg) : ∃ u, mg "PLACES" = some u ∧ RelV (.int 64) u := T.int (T.f 105 (f := .int "PLACES" 64))
theorem i_HEAD (T : Tx w K mg) : ∃ u, mg "HEAD" = some u ∧ RelV (.int 5) u := T.int (T.f 106 (f := .int "HEAD" 5))
theorem i_MOST_WAITING (T : Tx w K mg) : ∃ u, mg "MOST_WAITING" = some u ∧ RelV (.int 8) u := T.int (T.f 107 (f := .int "MOST_WAITING" 8))
theorem i_SPARE (T : Tx w K mg) : ∃ u, mg "SPARE" = some u ∧ RelV (.int 9) u := T.int (T.f 108 (f := .int "SPARE" 9))
theorem i_TORN (T : Tx w K mg) : ∃ u, mg "TORN" = some u ∧ RelV (.str "torn") u := T.str (T.f 109 (f := .str "TORN" "torn"))
theorem b_len (T : Tx w K mg) : mg "len" = none := T.free (T.f 110 (f := .free "len"))
theorem b_sorted (T : Tx w K mg) : mg "sorted" = none := T.free (T.f 111 (f := .free "sorted"))
theorem b_isinstance (T : Tx w K mg) : mg "isinstance" = none := T.free (T.f 112 (f := .free "isinstance"))
theorem b_range (T : Tx w K mg) : mg "range" = none := T.free (T.f 113 (f := .free "range"))
theorem b_any (T : Tx w K mg) : mg "any" = none := T.free (T.f 114 (f := .free "any"))
theorem b_dict (T : Tx w K mg) : mg "dict" = none := T.free (T.f 115 (f := .free "dict"))
theorem b_list (T : Tx w K mg) : mg "list" = none := T.free (T.f 116 (f := .free "list"))
theorem b_tuple (T : Tx w K mg) : mg "tuple" = none := T.free (T.f 117 (f := .free "tuple"))
theorem b_int (T : Tx w K mg) : mg "int" = none := T.free (T.f 118 (f := .free "int"))
theorem b_bool (T : Tx w K mg) : mg "bool" = none := T.free (T.f 119 (f := .free "bool"))
theorem b_str (T : Tx w K mg) : mg "str" = none := T.free (T.f 120 (f := .free "str"))
theorem g_KINDS (T : Tx w K mg) : ∃ u, mg "KINDS" = some u ∧ RelV (.ref (He.ga K "KINDS")) u := T.glo (T.f 121 (f := .glo "KINDS"))
theorem g_COUNTS (T : Tx w K mg) : ∃ u, mg "COUNTS" = some u ∧ RelV (.ref (He.ga K "COUNTS")) u := T.glo (T.f 122 (f := .glo "COUNTS"))
theorem g_HOST_TOPICS (T : Tx w K mg) : ∃ u, mg "HOST_TOPICS" = some u ∧ RelV (.ref (He.ga K "HOST_TOPICS")) u := T.glo (T.f 123 (f := .glo "HOST_TOPICS"))
theorem g_NO_FENCE (T : Tx w K mg) : ∃ u, mg "NO_FENCE" = some u ∧ RelV (.ref (He.ga K "NO_FENCE")) u := T.glo (T.f 124 (f := .glo "NO_FENCE"))
theorem g_NEVER_REFUSED (T : Tx w K mg) : ∃ u, mg "NEVER_REFUSED" = some u ∧ RelV (.ref (He.ga K "NEVER_REFUSED")) u := T.glo (T.f 125 (f := .glo "NEVER_REFUSED"))
theorem g_need_index (T : Tx w K mg) : ∃ u, mg "need_index" = some u ∧ RelV (.ref (He.ga K "need_index")) u := T.glo (T.f 38 (f := .glo "need_index"))
end
end L2.Sg
set_option Elab.async false
set_option linter.all false
set_option maxRecDepth 100000
namespace L2.Sg
open PySem
/-! ### records, as data -/
inductive Op where
  | make
  | write (p v : Int)
  | trim (p : Int)
  | snap
  | drop (n : Int)
  deriving DecidableEq
structure Rec where
  ord : Int
  host : Int
  ctr : Int
  op : Op
  deriving DecidableEq
def Op.kind : Op → Str
  | .make => "make"
  | .write _ _ => "write"
  | .trim _ => "trim"
  | .snap => "snap"
  | .drop _ => "drop"
def Op.flds : Op → List V
  | .make => [.int 5, .int 64]
  | .write p v => [.int 5, .int p, .int v]
  | .trim p => [.int 5, .int p]
  | .snap => [.int 5]
  | .drop n => [.int 5, .int n]
def Rec.vals (r : Rec) : List V := [.int r.ord, .str r.op.kind, .int r.host, .int 1, .int r.ctr] ++ r.op.flds
def Op.ok (o : Op) (ord : Int) : Prop := match o with
  | .make => True
  | .write p _ => 0 ≤ p ∧ p < 64
  | .trim p => 0 ≤ p ∧ p < 64
  | .snap => True
  | .drop n => 1 ≤ n ∧ n < ord
structure Rec.ok (r : Rec) : Prop where
  ord : 1 ≤ r.ord
  host : 0 ≤ r.host ∧ r.host < 4
  ctr : 1 ≤ r.ctr
  op : r.op.ok r.ord
/-! ### topics and rows -/
inductive Tp where
  | host (h : Int)
  | space
  | place (p : Int)
  | snap (n : Int)
  deriving DecidableEq
def Tp.key : Tp → List Key
  | .host h => [.inr "host", .inl h]
  | .space => [.inr "space", .inl 5]
  | .place p => [.inr "place", .inl 5, .inl p]
  | .snap n => [.inr "snap", .inl 5, .inl n]
def Tp.word : Tp → Str
  | .host _ => "host"
  | .space => "space"
  | .place _ => "place"
  | .snap _ => "snap"
def Rec.top (r : Rec) : Tp := match r.op with
  | .make => .space
  | .write p _ => .place p
  | .trim p => .place p
  | .snap => .snap r.ord
  | .drop n => .snap n
def Rec.val (r : Rec) : V := match r.op with
  | .make => .int 64
  | .write _ v => .int v
  | .trim _ => .non
  | .snap => .int r.ord
  | .drop _ => .non
def Rec.has (r : Rec) : Bool := match r.op with
  | .trim _ => false
  | .drop _ => false
  | _ => true
abbrev Rows := List (Int × Bool)
abbrev Tb := List (Tp × Rows)
def addRow (T : Tb) (k : Tp) (o : Int) (b : Bool) : Tb :=
  if T.any (fun t => decide (t.1 = k)) then T.map fun t => if t.1 = k then (t.1, t.2 ++ [(o, b)]) else t else T ++ [(k, [(o, b)])]
def addRec (T : Tb) (r : Rec) : Tb := addRow (addRow T (.host r.host) r.ord true) r.top r.ord r.has
def tabOf (rs : List Rec) : Tb := rs.foldl addRec []
def lastHas (rows : Rows) : Bool := match rows.getLast? with
  | some r => r.2
  | none => false
def snapIf (t : Tp × Rows) : Option Int := match t.1 with
  | .snap n => if lastHas t.2 = true then some n else none
  | _ => none
def snapsOf (T : Tb) : List Int := T.filterMap snapIf
/-! ### what is live -/
def lastIx (rows : Rows) : Option Int → Int
  | none => (rows.length : Int) - 1
  | some v => ((rows.filter fun r => decide (r.1 < v)).length : Int) - 1
def firstHas (rows : Rows) : Bool := match rows with
  | r :: _ => r.2
  | [] => false
def rowOrd (rows : Rows) (i : Nat) : Int := (rows.getD i (0, false)).1
def liveView (rows : Rows) (v : Option Int) : List Int :=
  if 0 < lastIx rows v ∨ (lastIx rows v = 0 ∧ firstHas rows = true) then [rowOrd rows (lastIx rows v).toNat] else []
def viewsOf (sn : List Int) : Tp → List (Option Int)
  | .place _ => none :: sn.map some
  | _ => [none]
def lastOrd (rows : Rows) : Int := rowOrd rows (rows.length - 1)
def liveOrds (sn : List Int) (t : Tp × Rows) : List Int := match t.1 with
  | .host _ => [lastOrd t.2]
  | k => (viewsOf sn k).flatMap (liveView t.2)
def liveB (T : Tb) (r : Rec) : Bool := T.any fun t => (liveOrds (snapsOf T) t).contains r.ord
def liveN (rs : List Rec) : List Rec := rs.filter (liveB (tabOf rs))
def coreIt : Nat → List Rec → List Rec
  | 0, l => l
  | n + 1, l => if (liveN l).length < l.length then coreIt n (liveN l) else l
def coreN (rs : List Rec) : List Rec := coreIt (rs.length + 1) (liveN rs)
def sharedB (sn : List Int) (t : Tp × Rows) : Bool := match t.1 with
  | .place _ => lastHas t.2 && sn.any fun n => decide (lastOrd t.2 < n)
  | _ => false
def sharedN (rs : List Rec) : Nat := ((tabOf rs).filter (sharedB (snapsOf (tabOf rs)))).length
def needN (rs : List Rec) : Nat := (coreN rs).length + sharedN rs
/-! ### the state -/
structure Sta where
  order : Int
  cells : Option (List (Int × Int))
  snaps : List (Int × List (Int × Int))
  marks : List (Int × Int × Option Int)
def sta0 : Sta := ⟨0, none, [], []⟩
def outE {α : Type} (l : List (Int × α)) (k : Int) : List (Int × α) := l.filter fun p => decide (p.1 ≠ k)
def withE {α : Type} (l : List (Int × α)) (k : Int) (v : α) : List (Int × α) := outE l k ++ [(k, v)]
def Rec.ans (r : Rec) : Option Int := match r.op with
  | .snap => some r.ord
  | _ => none
def Sta.op (S : Sta) (ord : Int) : Op → Sta
  | .make => { S with cells := some [] }
  | .write p v => { S with cells := S.cells.map fun cs => withE cs p v }
  | .trim p => { S with cells := S.cells.map fun cs => outE cs p }
  | .snap => { S with snaps := withE S.snaps ord (S.cells.getD []) }
  | .drop n => { S with snaps := outE S.snaps n }
def Sta.app (S : Sta) (r : Rec) : Sta := { (S.op r.ord r.op) with order := r.ord, marks := withE S.marks r.host (r.ctr, r.ans) }
def foldS (rs : List Rec) : Sta := rs.foldl Sta.app sta0
end L2.Sg
set_option Elab.async false
set_option linter.all false
set_option maxRecDepth 100000
set_option maxHeartbeats 4000000
namespace L2.Sg
open PySem PySem.Spec PyProof.Rows
/-! ### what stays: tuples, dicts (this program changes no dict that it has handed out), locked things -/
def isDat : HO → Bool
  | .tup _ => true
  | .dK _ => true
  | .dT _ => true
  | .frz _ _ => true
  | _ => false
def Imm (H H' : Hp) : Prop := ∀ b o, H b = some o → isDat o = true → H' b = some o
theorem Imm.refl (H : Hp) : Imm H H := fun _ _ e _ => e
theorem Imm.trans {H H1 H2 : Hp} (a : Imm H H1) (b : Imm H1 H2) : Imm H H2 := fun c o e d => b c o (a c o e d) d
theorem same_imm {H H' : Hp} (s : Same H H') : Imm H H' := fun b o e _ => s b o e
theorem Imm.tup {H H' : Hp} (k : Imm H H') {a : Addr} {xs : List V} (e : H a = some (.tup xs)) : H' a = some (.tup xs) := k a _ e rfl
theorem Imm.dK {H H' : Hp} (k : Imm H H') {a : Addr} {xs : List (Key × V)} (e : H a = some (.dK xs)) : H' a = some (.dK xs) := k a _ e rfl
theorem Imm.dT {H H' : Hp} (k : Imm H H') {a : Addr} {xs : List (List Key × V)} (e : H a = some (.dT xs)) : H' a = some (.dT xs) := k a _ e rfl
theorem Imm.sqT {K : PySem.W.Frag} {H H' : Hp} (k : Imm H H') {a : Addr} {xs : List V} (h : SqT K H a xs) : SqT K H' a xs := by
  rcases h with (h | ⟨o, h⟩) | h
  · exact .inl (.inl (k _ _ h rfl))
  · exact .inl (.inr ⟨o, k _ _ h rfl⟩)
  · exact .inr h
theorem same_sqT {K : PySem.W.Frag} {H H' : Hp} (s : Same H H') {a : Addr} {xs : List V} (h : SqT K H a xs) : SqT K H' a xs := (same_imm s).sqT h
/-- a new thing -/
theorem same_upd {H : Hp} {a : Addr} {o : HO} (n : H a = none) : Same H (upd H a o) := fun b u e => by rw [upd_ne (ne_of_none e n)]; exact e
theorem same_upd' {H H' : Hp} {a : Addr} {o : HO} (s : Same H H') (n : H' a = none) : Same H (upd H' a o) := s.trans (same_upd n)
theorem upd_old {H : Hp} {a b : Addr} {o u : HO} (e : H b = some u) (n : H a = none) : upd H a o b = some u := same_upd n b u e
theorem mapP {α β : Type} {F G : α → β → Prop} {xs : List α} {ys : List β} (h : Paired F xs ys) (f : ∀ a b, F a b → G a b) : Paired G xs ys := Paired.mapP h f
theorem paired_filter {α β : Type} {F : α → β → Prop} {p : α → Bool} {q : β → Bool} (hpq : ∀ a b, F a b → p a = q b) : ∀ {xs : List α} {ys : List β}, Paired F xs ys → Paired F (xs.filter p) (ys.filter q)
  | _, _, .nil => .nil
  | _, _, .cons (a := a) (b := b) h t => by
    have e := hpq a b h
    cases r : q b with
    | true => rw [List.filter_cons_of_pos (by rw [e, r]), List.filter_cons_of_pos r]; exact .cons h (paired_filter hpq t)
    | false => rw [List.filter_cons_of_neg (by rw [e, r]; exact Bool.false_ne_true), List.filter_cons_of_neg (by rw [r]; exact Bool.false_ne_true)]; exact paired_filter hpq t
theorem paired_app {α β : Type} {F : α → β → Prop} : ∀ {xs xs' : List α} {ys ys' : List β}, Paired F xs ys → Paired F xs' ys' → Paired F (xs ++ xs') (ys ++ ys')
  | _, _, _, _, .nil, s => s
  | _, _, _, _, .cons h t, s => .cons h (paired_app t s)
theorem paired_two {α β : Type} {F : α → β → Prop} {xs : List α} {ys : List β} (h : Paired F xs ys) {i : Nat} {x : α} {y : β} (e1 : xs[i]? = some x) (e2 : ys[i]? = some y) : F x y := by
  obtain ⟨z, hz, f⟩ := L2.paired_get h e1
  rw [e2] at hz
  cases hz
  exact f
theorem paired_take {α β : Type} {F : α → β → Prop} : ∀ {xs : List α} {ys : List β} (n : Nat), Paired F xs ys → Paired F (xs.take n) (ys.take n)
  | _, _, 0, _ => .nil
  | _, _, _ + 1, .nil => .nil
  | _, _, n + 1, .cons h t => .cons h (paired_take n t)
theorem paired_drop {α β : Type} {F : α → β → Prop} : ∀ {xs : List α} {ys : List β} (n : Nat), Paired F xs ys → Paired F (xs.drop n) (ys.drop n)
  | _, _, 0, r => r
  | _, _, _ + 1, .nil => .nil
  | _, _, n + 1, .cons _ t => paired_drop n t
/-! ### records on the heap -/
abbrev RecAt (H : Hp) (a : Addr) (r : Rec) : Prop := H a = some (.tup r.vals)
def RecsAt (H : Hp) (as : List Addr) (rs : List Rec) : Prop := Paired (fun a r => RecAt H a r) as rs
theorem RecsAt.keep {H H' : Hp} {as : List Addr} {rs : List Rec} (h : RecsAt H as rs) (k : Imm H H') : RecsAt H' as rs := mapP h fun _ _ e => k.tup e
/-- a list of records at l -/
def RecL (H : Hp) (l : Addr) (rs : List Rec) : Prop := ∃ as : List Addr, H l = some (.lst (as.map V.ref)) ∧ RecsAt H as rs
theorem RecL.keep {H H' : Hp} {l : Addr} {rs : List Rec} (h : RecL H l rs) (s : Same H H') : RecL H' l rs := let ⟨as, a, b⟩ := h; ⟨as, s _ _ a, b.keep (same_imm s)⟩
/-! ### the state on the heap -/
def optV : Option Int → V
  | some i => .int i
  | none => .non
abbrev AnsAt (H : Hp) (a : Addr) (an : Option Int) : Prop := H a = some (.tup [.str "ok", optV an])
def cellKV (cs : List (Int × Int)) : List (Key × V) := cs.map fun p => (Sum.inl p.1, V.int p.2)
def FenceAt (K : PySem.W.Frag) (H : Hp) (f : Addr) : Prop := ∃ e, SqT K H f [.ref e, .non] ∧ SqT K H e []
def SpaceAt (K : PySem.W.Frag) (H : Hp) (q : Addr) (cs : List (Int × Int)) : Prop := ∃ c f, H q = some (.tup [.int 64, .ref c, .ref f]) ∧ H c = some (.dK (cellKV cs)) ∧ FenceAt K H f
def SpacesAt (K : PySem.W.Frag) (H : Hp) (a : Addr) (sp : Option (List (Int × Int))) : Prop := match sp with
  | none => H a = some (.dK [])
  | some cs => ∃ q, H a = some (.dK [(Sum.inl 5, .ref q)]) ∧ SpaceAt K H q cs
def SnapsAt (H : Hp) (a : Addr) (sn : List (Int × List (Int × Int))) : Prop := ∃ kvs, H a = some (.dT kvs) ∧ Paired (fun (kv : List Key × V) s => kv.1 = [Sum.inl 5, Sum.inl s.1] ∧ ∃ c, kv.2 = .ref c ∧ H c = some (.dK (cellKV s.2))) kvs sn
def MarkAt (H : Hp) (q : Addr) (m : Int × Option Int) : Prop := ∃ n, H q = some (.tup [.int 1, .int m.1, .ref n, .non]) ∧ AnsAt H n m.2
def MarksAt (H : Hp) (a : Addr) (ms : List (Int × Int × Option Int)) : Prop := ∃ kvs, H a = some (.dK kvs) ∧ Paired (fun (kv : Key × V) m => kv.1 = Sum.inl m.1 ∧ ∃ q, kv.2 = .ref q ∧ MarkAt H q m.2) kvs ms
structure StaAt (K : PySem.W.Frag) (H : Hp) (a : Addr) (S : Sta) : Prop where
  ex : ∃ (kvs : List (Key × V)) (ds dn dm : Addr), H a = some (.dK kvs) ∧ kvs.length = 4 ∧ (kvs.map (·.1)).Nodup ∧ valV kvs (.inr "order") = some (.int S.order) ∧ valV kvs (.inr "spaces") = some (.ref ds) ∧ valV kvs (.inr "snaps") = some (.ref dn) ∧ valV kvs (.inr "marks") = some (.ref dm) ∧
    SpacesAt K H ds S.cells ∧ SnapsAt H dn S.snaps ∧ MarksAt H dm S.marks
section
variable {K : PySem.W.Frag} {H H' : Hp} (k : Imm H H')
include k
theorem FenceAt.keep {f : Addr} (h : FenceAt K H f) : FenceAt K H' f := let ⟨e, a, b⟩ := h; ⟨e, k.sqT a, k.sqT b⟩
theorem SpaceAt.keep {q : Addr} {cs : List (Int × Int)} (h : SpaceAt K H q cs) : SpaceAt K H' q cs := let ⟨c, f, a, b, d⟩ := h; ⟨c, f, k.tup a, k.dK b, FenceAt.keep k d⟩
theorem SpacesAt.keep {a : Addr} {sp : Option (List (Int × Int))} (h : SpacesAt K H a sp) : SpacesAt K H' a sp := by
  cases sp with
  | none => exact k.dK h
  | some cs => obtain ⟨q, a, b⟩ := h; exact ⟨q, k.dK a, SpaceAt.keep k b⟩
theorem SnapsAt.keep {a : Addr} {sn : List (Int × List (Int × Int))} (h : SnapsAt H a sn) : SnapsAt H' a sn := let ⟨kvs, a, b⟩ := h; ⟨kvs, k.dT a, mapP b fun _ _ ⟨e, c, e1, e2⟩ => ⟨e, c, e1, k.dK e2⟩⟩
theorem MarkAt.keep {q : Addr} {m : Int × Option Int} (h : MarkAt H q m) : MarkAt H' q m := let ⟨n, a, b⟩ := h; ⟨n, k.tup a, k.tup b⟩
theorem MarksAt.keep {a : Addr} {ms : List (Int × Int × Option Int)} (h : MarksAt H a ms) : MarksAt H' a ms := let ⟨kvs, a, b⟩ := h; ⟨kvs, k.dK a, mapP b fun _ _ ⟨e, q, e1, e2⟩ => ⟨e, q, e1, MarkAt.keep k e2⟩⟩
theorem StaAt.keep {a : Addr} {S : Sta} (h : StaAt K H a S) : StaAt K H' a S := by
  obtain ⟨kvs, ds, dn, dm, e1, e2, e0, e3, e4, e5, e6, e7, e8, e9⟩ := h
  exact ⟨kvs, ds, dn, dm, k.dK e1, e2, e0, e3, e4, e5, e6, SpacesAt.keep k e7, SnapsAt.keep k e8, MarksAt.keep k e9⟩
end
end L2.Sg
set_option Elab.async false
set_option linter.all false
set_option maxRecDepth 100000
set_option maxHeartbeats 4000000
namespace L2.Sg
open PySem PySem.Spec PyProof.Rows
open C8 (Cal Met Mak pe_c pe_mt pe_mt0 pe_mk tCut pss_cut)
local macro_rules | `(tactic| walk_at "len") => `(tactic| (intro vs H Q E h; first | (obtain ⟨e, _⟩ := h; subst e; rfl) | (obtain ⟨_, e, _⟩ := h; subst e; rfl) | (obtain ⟨_, _, e, _⟩ := h; subst e; rfl) | (obtain ⟨_, _, _, e, _⟩ := h; subst e; rfl) | (obtain ⟨_, _, _, _, e, _⟩ := h; subst e; rfl) | (obtain ⟨_, _, _, _, _, e, _⟩ := h; subst e; rfl) | (obtain ⟨_, _, _, _, _, _, e, _⟩ := h; subst e; rfl) | (obtain ⟨_, _, _, _, _, _, _, e, _⟩ := h; subst e; rfl) | (obtain ⟨_, _, _, _, _, _, _, _, e, _⟩ := h; subst e; rfl) | (obtain ⟨_, _, _, _, _, _, _, _, _, e, _⟩ := h; subst e; rfl) | (obtain ⟨_, _, _, _, _, _, _, _, _, _, e, _⟩ := h; subst e; rfl) | (obtain ⟨_, _, _, _, _, _, _, _, _, _, _, e, _⟩ := h; subst e; rfl) | (obtain ⟨_, _, _, _, _, _, _, _, _, _, _, _, e, _⟩ := h; subst e; rfl) | (obtain ⟨_, _, _, _, _, _, _, _, _, _, _, _, _, e, _⟩ := h; subst e; rfl) | (obtain ⟨_, _, _, _, _, _, _, _, _, _, _, _, _, _, e, _⟩ := h; subst e; rfl) | (obtain ⟨_, _, _, _, _, _, _, _, _, _, _, _, _, _, _, e, _⟩ := h; subst e; rfl)))
local macro_rules | `(tactic| walk_at "ns") => `(tactic| (try dsimp only [Op.kind, Tp.word, Rec.top]); decide +kernel)
section
variable {P : Program} {w : World} {K : PySem.W.Frag} {base : Heap} {mg : Str → Option Value}
/-! ### flash.py: is_between, next_page -/
def sp_is_between : Sp := fun vs H Q _ => ∃ i l h : Int, vs = [.int i, .int l, .int h] ∧ Q (.bl (decide (l ≤ i) && decide (i ≤ h))) H
theorem sc_is_between : FnScope ["value", "low", "high"] ["value", "low", "high"] (defScope s_is_between) := C8.fnScope_by (by decide +kernel)
theorem c_is_between (T : Tx w K mg) : Cal P w K mg base 1 "is_between" sp_is_between [] := by
  refine K_is_between T sc_is_between (fun _ _ _ _ _ _ us hl => match us, hl with | [_, _, _], _ => rfl) (by walk_at "len") (fun cdv A outer s H vs Q E hr h => ?_)
  have nd := sc_is_between.nd
  have hu := hu_of hr
  refine ⟨_, (pss_cons (ps_if (PW.pt (pw_or (pt_not (pt_val (pe_callB call_isi (by rfl) (b_isinstance T) boot_isinstance (pa_cons (pv 0) (pa_cons (pe_bltn (v := .ty "int") (by rfl) (b_int T) boot_int rfl) pa_nil))))) (pw_or1 (pt_val (pe_callB call_isi (by rfl) (b_isinstance T) boot_isinstance (pa_cons (pv 0) (pa_cons (pe_bltn (v := .ty "bool") (by rfl) (b_bool T) boot_bool rfl) pa_nil))))))) (pss_one (ps_ret pe_bl)) pss_nil)
      (pss_one (ps_ret (pe_chain op_le op_le (pv 1) (pv 0) (pv 2))))), ?_⟩
  obtain ⟨i, l, hh, rfl, q⟩ := h
  refine ⟨_, rfl, .int i, .ty "int", .type "int", .type "int", true, rfl, .ty _, .base (.int i), kit_ty (by decide +kernel), true, rfl, ?_⟩
  refine iteF ⟨_, rfl, .int i, .ty "bool", .type "int", .type "bool", false, rfl, .ty _, .base (.int i), kit_ty (by decide +kernel), false, rfl, ?_⟩
  refine iteF ⟨_, rfl, _, rfl, _, _, rfl, rfl, _, rfl, ?_⟩
  by_cases c : l ≤ i
  · rw [decide_eq_true c] at q ⊢
    exact iteT ⟨_, rfl, _, _, rfl, rfl, q⟩
  · rw [decide_eq_false c] at q ⊢
    exact iteF q
/-- a block's pages: the records at cs, then erased pages -/
def pgs (cs : List Addr) : List V := cs.map V.ref ++ List.replicate (8 - cs.length) .non
theorem pgs_len {cs : List Addr} (h : cs.length ≤ 8) : (pgs cs).length = 8 := by simp [pgs]; omega
theorem pgs_at {cs : List Addr} {i : Nat} (h : i < cs.length) : (pgs cs)[i]? = some (.ref cs[i]) := by
  unfold pgs
  rw [List.getElem?_append_left (by simpa using h)]
  simp [h]
theorem pgs_non {cs : List Addr} {i : Nat} (h : cs.length ≤ i) (h8 : i < 8) : (pgs cs)[i]? = some .non := by
  unfold pgs
  rw [List.getElem?_append_right (by simpa using h), List.getElem?_replicate, if_pos (by simp; omega)]
def sp_next_page (K : PySem.W.Frag) : Sp := fun vs H Q _ => ∃ (a : Addr) (cs : List Addr), vs = [.ref a] ∧ SqL K H a (pgs cs) ∧ cs.length ≤ 8 ∧ Q (.int cs.length) H
theorem sc_next_page : FnScope ["pages", "last", "page"] ["pages"] (defScope s_next_page) := C8.fnScope_by (by decide +kernel)
theorem c_next_page (T : Tx w K mg) : Cal P w K mg base 1 "next_page" (sp_next_page K) [] := by
  refine K_next_page T sc_next_page (fun _ _ _ _ _ _ us hl => match us, hl with | [_], _ => rfl) (by walk_at "len") (fun cdv A outer s H vs Q E hr h => ?_)
  have nd := sc_next_page.nd
  have hu := hu_of hr
  refine ⟨_, (pss_cons (ps_set (i := 1) nd rfl (Or.inl rfl) pe_int)
      (pss_cons (ps_for PassesOwn.never rfl (pi_range1 rfl (b_range T) (pa_cons (C8.pe_gc (by rfl) (i_PAGES T)) pa_nil)) (pg_name (i := 2) nd rfl (Or.inl rfl)) (pss_one (ps_if (pt_cmp (pc_notN (pe_ix ix_list (pv 0) (pv 2) (fun _ _ => rfl)))) (pss_one (ps_set (i := 1) nd rfl (Or.inl rfl) (pe_op op_add (pv 2) pe_int))) pss_nil)))
      (pss_one (ps_ret (pv 1))))), ?_⟩
  obtain ⟨a, cs, rfl, hS, h8, q⟩ := h
  refine ⟨8, rfl, by decide, by decide, for_range (n := 8) (fun i σ H2 => H2 = H ∧ ∃ v, σ = [some (.ref a), some (.int ((min i cs.length : Nat) : Int)), v]) ⟨rfl, none, rfl⟩ ?_ ?_⟩
  · rintro i σ H2 hi ⟨rfl, v, rfl⟩
    by_cases c : i < cs.length
    · refine ⟨_, rfl, _, rfl, a, _, _, _, rfl, rfl, hS, at_of (j := i) (by omega) (pgs_at c), _, rfl, ?_⟩
      refine iteT ⟨_, rfl, _, _, rfl, rfl, ?_⟩
      refine ⟨rfl, some (.int (0 + (i : Int))), ?_⟩
      have e : (0 + (i : Int)) + 1 = ((min (i + 1) cs.length : Nat) : Int) := by omega
      show [some (V.ref a), some (V.int ((0 + (i : Int)) + 1)), some (V.int (0 + (i : Int)))] = _
      rw [e]
    · refine ⟨_, rfl, _, rfl, a, _, _, _, rfl, rfl, hS, at_of (j := i) (by omega) (pgs_non (by omega) hi), _, rfl, ?_⟩
      refine iteF ⟨rfl, some (.int (0 + (i : Int))), ?_⟩
      rw [show min (i + 1) cs.length = min i cs.length by omega]
      all_goals rfl
  · rintro σ H2 ⟨rfl, v, rfl⟩
    refine ⟨_, rfl, ?_⟩
    rw [show min 8 cs.length = cs.length by omega]
    exact q
end
end L2.Sg
set_option Elab.async false
set_option linter.all false
set_option maxRecDepth 100000
set_option maxHeartbeats 4000000
namespace L2.Sg
open PySem PySem.Spec PyProof.Rows
open C8 (Cal Met Mak pe_c pe_mt pe_mt0 pe_mk tCut pss_cut)
local macro_rules | `(tactic| walk_at "len") => `(tactic| (intro vs H Q E h; first | (obtain ⟨e, _⟩ := h; subst e; rfl) | (obtain ⟨_, e, _⟩ := h; subst e; rfl) | (obtain ⟨_, _, e, _⟩ := h; subst e; rfl) | (obtain ⟨_, _, _, e, _⟩ := h; subst e; rfl) | (obtain ⟨_, _, _, _, e, _⟩ := h; subst e; rfl) | (obtain ⟨_, _, _, _, _, e, _⟩ := h; subst e; rfl) | (obtain ⟨_, _, _, _, _, _, e, _⟩ := h; subst e; rfl) | (obtain ⟨_, _, _, _, _, _, _, e, _⟩ := h; subst e; rfl) | (obtain ⟨_, _, _, _, _, _, _, _, e, _⟩ := h; subst e; rfl) | (obtain ⟨_, _, _, _, _, _, _, _, _, e, _⟩ := h; subst e; rfl) | (obtain ⟨_, _, _, _, _, _, _, _, _, _, e, _⟩ := h; subst e; rfl) | (obtain ⟨_, _, _, _, _, _, _, _, _, _, _, e, _⟩ := h; subst e; rfl) | (obtain ⟨_, _, _, _, _, _, _, _, _, _, _, _, e, _⟩ := h; subst e; rfl) | (obtain ⟨_, _, _, _, _, _, _, _, _, _, _, _, _, e, _⟩ := h; subst e; rfl) | (obtain ⟨_, _, _, _, _, _, _, _, _, _, _, _, _, _, e, _⟩ := h; subst e; rfl) | (obtain ⟨_, _, _, _, _, _, _, _, _, _, _, _, _, _, _, e, _⟩ := h; subst e; rfl)))
local macro_rules | `(tactic| walk_at "ns") => `(tactic| (try dsimp only [Op.kind, Tp.word, Rec.top]); decide +kernel)
theorem eqS_F {a b : Str} {A B : Prop} (h : ¬ a = b) (q : B) : if decide (V.str a = V.str b) = true then A else B := by
  rw [decide_eq_false fun e => h (V.str.inj e)]
  exact iteF q
theorem eqS_T {a b : Str} {A B : Prop} (h : a = b) (q : A) : if decide (V.str a = V.str b) = true then A else B := by
  rw [decide_eq_true (congrArg V.str h)]
  exact iteT q
theorem notS_F {a b : Str} {A B : Prop} (h : a = b) (q : B) : if (!decide (V.str a = V.str b)) = true then A else B := by
  rw [decide_eq_true (congrArg V.str h)]
  exact iteF q
theorem notS_T {a b : Str} {A B : Prop} (h : ¬ a = b) (q : A) : if (!decide (V.str a = V.str b)) = true then A else B := by
  rw [decide_eq_false fun e => h (V.str.inj e)]
  exact iteT q
theorem ite_of {c : Prop} [Decidable c] {A B : Prop} (h : c) (q : A) : if decide c = true then A else B := by
  rw [decide_eq_true h]
  exact iteT q
theorem ite_no {c : Prop} [Decidable c] {A B : Prop} (h : ¬ c) (q : B) : if decide c = true then A else B := by
  rw [decide_eq_false h]
  exact iteF q
theorem ite_b {b : Bool} {A B : Prop} (h : b = false) (q : B) : if b = true then A else B := by
  rw [h]
  exact iteF q
theorem ite_t {b : Bool} {A B : Prop} (h : b = true) (q : A) : if b = true then A else B := by
  rw [h]
  exact iteT q
section
variable {P : Program} {w : World} {K : PySem.W.Frag} {base : Heap} {mg : Str → Option Value}
/-! ### the module's tables -/
theorem k_KINDS (T : Tx w K mg) (H : Hp) : SqT K H (He.ga K "KINDS") (cKINDS.map (He.Dv.v K)) := He.tupB_ok (He.ba T.ex).1 H
theorem k_NEVER (T : Tx w K mg) (H : Hp) : SqT K H (He.ga K "NEVER_REFUSED") (cNEVER.map (He.Dv.v K)) := He.tupB_ok (He.ba (He.ba T.ex).2).1 H
theorem k_TOPICS (T : Tx w K mg) (H : Hp) : SqT K H (He.ga K "HOST_TOPICS") (cTOPICS.map (He.Dv.v K)) := He.tupB_ok (He.ba (He.ba (He.ba T.ex).2).2).1 H
theorem tupAt_ok {a : Addr} {vs : List He.Dv} (h : tupAtB K a vs = true) (H : Hp) : SqT K H a (vs.map (He.Dv.v K)) := by
  unfold tupAtB at h
  split at h
  · rename_i c od its n sl q
    obtain ⟨h1, h2⟩ := He.ba h
    obtain ⟨h3, h4⟩ := He.ba h2
    exact .inr ⟨_, its, n, q, congrArg Value.type (of_decide_eq_true h1), rfl, of_decide_eq_true h3, He.relAll_ok h4⟩
  · cases h
theorem k_FENCE (T : Tx w K mg) (H : Hp) : FenceAt K H (He.ga K "NO_FENCE") :=
  ⟨noRegs K, He.tupB_ok (vs := [.adr noRegs, .non]) (He.ba (He.ba (He.ba (He.ba T.ex).2).2).2).1 H, tupAt_ok (vs := []) (He.ba (He.ba (He.ba (He.ba (He.ba T.ex).2).2).2).2).1 H⟩
def opCount : Op → Int
  | .make => 2
  | .write _ _ => 3
  | .trim _ => 2
  | .snap => 1
  | .drop _ => 2
theorem k_COUNTS (T : Tx w K mg) (o : Op) : KDct K w (He.ga K "COUNTS") o.kind (.int (opCount o)) := by
  obtain ⟨es, n, D⟩ := T.c.tab 0
  have hv := (He.ba (He.ba (He.ba (He.ba (He.ba (He.ba T.ex).2).2).2).2).2).1
  have at_ : ∀ (i : Nat) (q : Str × He.Dv), cCOUNTS[i]? = some q → ∃ u, PySem.W.nsIn K (He.ga K "COUNTS") q.1 = some (some u) ∧ RelV (q.2.v K) u := fun i q e => He.valsB_ok hv (List.mem_of_getElem? e)
  cases o with
  | make => obtain ⟨u, a, b⟩ := at_ 1 _ rfl; exact ⟨es, n, u, D.at_, D.lit, a, b⟩
  | write p v => obtain ⟨u, a, b⟩ := at_ 3 _ rfl; exact ⟨es, n, u, D.at_, D.lit, a, b⟩
  | trim p => obtain ⟨u, a, b⟩ := at_ 4 _ rfl; exact ⟨es, n, u, D.at_, D.lit, a, b⟩
  | snap => obtain ⟨u, a, b⟩ := at_ 5 _ rfl; exact ⟨es, n, u, D.at_, D.lit, a, b⟩
  | drop m => obtain ⟨u, a, b⟩ := at_ 6 _ rfl; exact ⟨es, n, u, D.at_, D.lit, a, b⟩
theorem op_len (o : Op) : (o.flds.length : Int) = opCount o := by cases o <;> rfl
theorem k_need (T : Tx w K mg) : He.ga K "need_index" = He.ga K "need" := of_decide_eq_true (He.ba (He.ba (He.ba (He.ba (He.ba (He.ba T.ex).2).2).2).2).2).2
theorem no_mark (o : Op) : ¬ o.kind = "mark" := by cases o <;> walk_at "ns"
/-! ### records.py -/
def sp_is_integer : Sp := fun vs H Q _ => ∃ i : Int, vs = [.int i] ∧ Q (.bl true) H
theorem sc_is_integer : FnScope ["value"] ["value"] (defScope s_is_integer) := C8.fnScope_by (by decide +kernel)
theorem c_is_integer (T : Tx w K mg) : Cal P w K mg base 1 "is_integer" sp_is_integer [] := by
  refine K_is_integer T sc_is_integer (fun _ _ _ _ _ _ us hl => match us, hl with | [_], _ => rfl) (by walk_at "len") (fun cdv A outer s H vs Q E hr h => ?_)
  have nd := sc_is_integer.nd
  have hu := hu_of hr
  refine ⟨_, (pss_one (ps_ret (pe_and (pe_callB call_isi (by rfl) (b_isinstance T) boot_isinstance (pa_cons (pv 0) (pa_cons (pe_bltn (v := .ty "int") (by rfl) (b_int T) boot_int rfl) pa_nil))) (pe_one (pe_not (pe_callB call_isi (by rfl) (b_isinstance T) boot_isinstance (pa_cons (pv 0) (pa_cons (pe_bltn (v := .ty "bool") (by rfl) (b_bool T) boot_bool rfl) pa_nil)))))))), ?_⟩
  obtain ⟨i, rfl, q⟩ := h
  refine ⟨_, rfl, .int i, .ty "int", .type "int", .type "int", true, rfl, .ty _, .base (.int i), kit_ty (by decide +kernel), true, rfl, ?_⟩
  exact iteT ⟨_, rfl, .int i, .ty "bool", .type "int", .type "bool", false, rfl, .ty _, .base (.int i), kit_ty (by decide +kernel), false, rfl, q⟩
def sp_is_from : Sp := fun vs H Q _ => ∃ i l h : Int, vs = [.int i, .int l, .int h] ∧ Q (.bl (decide (l ≤ i) && decide (i < h))) H
theorem sc_is_from : FnScope ["value", "low", "high"] ["value", "low", "high"] (defScope s_is_from) := C8.fnScope_by (by decide +kernel)
theorem c_is_from (T : Tx w K mg) : Cal P w K mg base 2 "is_from" sp_is_from [] := by
  refine K_is_from T sc_is_from (fun _ _ _ _ _ _ us hl => match us, hl with | [_, _, _], _ => rfl) (by walk_at "len") (fun cdv A outer s H vs Q E hr h => ?_)
  have nd := sc_is_from.nd
  have hu := hu_of hr
  refine ⟨_, (pss_one (ps_ret (pe_and (C8.pe_c (c_is_integer T) hr (by decide) (by rfl) (pa_cons (pv 0) pa_nil)) (pe_one (pe_chain op_le op_lt (pv 1) (pv 0) (pv 2)))))), ?_⟩
  obtain ⟨i, l, hh, rfl, q⟩ := h
  refine ⟨_, rfl, i, rfl, true, rfl, iteT ⟨_, rfl, _, rfl, _, _, rfl, rfl, _, rfl, ?_⟩⟩
  by_cases c : l ≤ i
  · rw [decide_eq_true c] at q ⊢
    exact iteT ⟨_, rfl, _, _, rfl, rfl, q⟩
  · rw [decide_eq_false c] at q ⊢
    exact iteF q
def sp_are_fields (K : PySem.W.Frag) : Sp := fun vs H Q _ => ∃ (ord : Int) (o : Op) (fa : Addr), vs = [.int ord, .str o.kind, .ref fa] ∧ SqT K H fa o.flds ∧ o.ok ord ∧ Q (.bl true) H
theorem sc_are_fields : FnScope ["order", "kind", "fields"] ["order", "kind", "fields"] (defScope s_are_fields) := C8.fnScope_by (by decide +kernel)
theorem c_are_fields (T : Tx w K mg) : Cal P w K mg base 3 "are_fields" (sp_are_fields K) [] := by
  refine K_are_fields T sc_are_fields (fun _ _ _ _ _ _ us hl => match us, hl with | [_, _, _], _ => rfl) (by walk_at "len") (fun cdv A outer s H vs Q E hr h => ?_)
  have nd := sc_are_fields.nd
  have hu := hu_of hr
  refine ⟨_, (pss_cons (ps_if (pt_cmpR op_ne (pe_callB (call_len) (by rfl) (b_len T) PySem.boot_len (pa_cons (pv 2) pa_nil)) (pe_ix ix_kdict (C8.pe_gc (by rfl) (g_COUNTS T)) (pv 1) (fun _ _ => rfl)) (nomark _)) (pss_one (ps_ret pe_bl)) pss_nil)
      (pss_cons (ps_if (pt_cmpR op_eq (pv 1) pe_str (nomark _)) (pss_one ps_never) pss_nil)
      (pss_cons (ps_if (pt_not (pt_val (C8.pe_c (c_is_from T) hr (by decide) (by rfl) (pa_cons (pe_ix ix_tup (pv 2) pe_int (fun _ _ => rfl)) (pa_cons pe_int (pa_cons (pe_op op_add (C8.pe_gc (by rfl) (i_NAMESPACES T)) pe_int) pa_nil)))))) (pss_one (ps_ret pe_bl)) pss_nil)
      (pss_cons (ps_if (pt_cmpR op_eq (pv 1) pe_str (nomark _)) (pss_one (ps_ret (C8.pe_c (c_is_from T) hr (by decide) (by rfl) (pa_cons (pe_ix ix_tup (pv 2) pe_int (fun _ _ => rfl)) (pa_cons pe_int (pa_cons (pe_op op_add (C8.pe_gc (by rfl) (i_PLACES T)) pe_int) pa_nil)))))) pss_nil)
      (pss_cons (ps_if (pt_cmpR op_eq (pv 1) pe_str (nomark _)) (pss_one (ps_ret (pe_and (C8.pe_c (c_is_from T) hr (by decide) (by rfl) (pa_cons (pe_ix ix_tup (pv 2) pe_int (fun _ _ => rfl)) (pa_cons pe_int (pa_cons (C8.pe_gc (by rfl) (i_PLACES T)) pa_nil)))) (pe_one (C8.pe_c (c_is_integer T) hr (by decide) (by rfl) (pa_cons (pe_ix ix_tup (pv 2) pe_int (fun _ _ => rfl)) pa_nil)))))) pss_nil)
      (pss_cons (ps_if (pt_cmpR op_eq (pv 1) pe_str (nomark _)) (pss_one (ps_ret (C8.pe_c (c_is_from T) hr (by decide) (by rfl) (pa_cons (pe_ix ix_tup (pv 2) pe_int (fun _ _ => rfl)) (pa_cons pe_int (pa_cons (C8.pe_gc (by rfl) (i_PLACES T)) pa_nil)))))) pss_nil)
      (pss_cons (ps_if (pt_cmpR op_eq (pv 1) pe_str (nomark _)) (pss_one (ps_ret (C8.pe_c (c_is_from T) hr (by decide) (by rfl) (pa_cons (pe_ix ix_tup (pv 2) pe_int (fun _ _ => rfl)) (pa_cons pe_int (pa_cons (pv 0) pa_nil)))))) pss_nil)
      (pss_cons (ps_if (pt_cmpR op_eq (pv 1) pe_str (nomark _)) (pss_one ps_never) pss_nil)
      (pss_cons (ps_if (pt_cmpR op_eq (pv 1) pe_str (nomark _)) (pss_one ps_never) pss_nil)
      (pss_cons (ps_if (pt_cmpR op_eq (pv 1) pe_str (nomark _)) (pss_one ps_never) pss_nil)
      (pss_one (ps_ret pe_bl)))))))))))), ?_⟩
  obtain ⟨ord, o, fa, rfl, hS, ok, q⟩ := h
  refine ⟨_, rfl, _, o.flds.length, rfl, .inr ⟨_, hS, rfl⟩, _, rfl, _, o.kind, _, rfl, rfl, k_COUNTS T o, rfl, _, rfl, ?_⟩
  refine ite_b (by rw [op_len]; simp) ?_
  refine ⟨_, rfl, rfl, _, rfl, eqS_F (no_mark o) ?_⟩
  have f0 : o.flds[0]? = some (.int 5) := by cases o <;> rfl
  refine ⟨_, rfl, fa, _, 0, _, rfl, rfl, hS, at_of (j := 0) rfl f0, _, _, rfl, rfl, 5, 1, 8 + 1, rfl, true, rfl, ?_⟩
  refine iteF ?_
  have num : ∀ (j : Nat) (p l u : Int), o.flds[j]? = some (.int p) → l ≤ p → p < u → (decide (l ≤ p) && decide (p < u)) = true := fun j p l u _ h1 h2 => by rw [decide_eq_true h1, decide_eq_true h2] <;> rfl
  cases o with
  | make =>
    refine ⟨_, rfl, rfl, _, rfl, eqS_T rfl ?_⟩
    exact ⟨_, rfl, fa, _, 1, _, rfl, rfl, hS, at_of (j := 1) rfl rfl, _, _, rfl, rfl, 64, 1, 64 + 1, rfl, q⟩
  | write p v =>
    obtain ⟨o1, o2⟩ := ok
    refine ⟨_, rfl, rfl, _, rfl, eqS_F (by walk_at "ns") ?_⟩
    refine ⟨_, rfl, rfl, _, rfl, eqS_T rfl ?_⟩
    refine ⟨_, rfl, fa, _, 1, _, rfl, rfl, hS, at_of (j := 1) rfl rfl, p, 0, 64, rfl, true, by rw [num 1 p 0 64 rfl o1 o2], ?_⟩
    refine iteT ⟨_, rfl, fa, _, 2, _, rfl, rfl, hS, at_of (j := 2) rfl rfl, v, rfl, q⟩
  | trim p =>
    obtain ⟨o1, o2⟩ := ok
    refine ⟨_, rfl, rfl, _, rfl, eqS_F (by walk_at "ns") ?_⟩
    refine ⟨_, rfl, rfl, _, rfl, eqS_F (by walk_at "ns") ?_⟩
    refine ⟨_, rfl, rfl, _, rfl, eqS_T rfl ?_⟩
    refine ⟨_, rfl, fa, _, 1, _, rfl, rfl, hS, at_of (j := 1) rfl rfl, p, 0, 64, rfl, ?_⟩
    rw [num 1 p 0 64 rfl o1 o2]
    exact q
  | snap =>
    refine ⟨_, rfl, rfl, _, rfl, eqS_F (by walk_at "ns") ?_⟩
    refine ⟨_, rfl, rfl, _, rfl, eqS_F (by walk_at "ns") ?_⟩
    refine ⟨_, rfl, rfl, _, rfl, eqS_F (by walk_at "ns") ?_⟩
    refine ⟨_, rfl, rfl, _, rfl, eqS_F (by walk_at "ns") ?_⟩
    refine ⟨_, rfl, rfl, _, rfl, eqS_F (by walk_at "ns") ?_⟩
    refine ⟨_, rfl, rfl, _, rfl, eqS_F (by walk_at "ns") ?_⟩
    refine ⟨_, rfl, rfl, _, rfl, eqS_F (by walk_at "ns") ?_⟩
    exact q
  | drop n =>
    obtain ⟨o1, o2⟩ := ok
    refine ⟨_, rfl, rfl, _, rfl, eqS_F (by walk_at "ns") ?_⟩
    refine ⟨_, rfl, rfl, _, rfl, eqS_F (by walk_at "ns") ?_⟩
    refine ⟨_, rfl, rfl, _, rfl, eqS_F (by walk_at "ns") ?_⟩
    refine ⟨_, rfl, rfl, _, rfl, eqS_T rfl ?_⟩
    refine ⟨_, rfl, fa, _, 1, _, rfl, rfl, hS, at_of (j := 1) rfl rfl, _, rfl, n, 1, ord, rfl, ?_⟩
    rw [num 1 n 1 ord rfl o1 o2]
    exact q
end
end L2.Sg
set_option Elab.async false
set_option linter.all false
set_option maxRecDepth 100000
set_option maxHeartbeats 4000000
namespace L2.Sg
open PySem PySem.Spec PyProof.Rows
open C8 (Cal Met Mak pe_c pe_mt pe_mt0 pe_mk tCut pss_cut)
local macro_rules | `(tactic| walk_at "len") => `(tactic| (intro vs H Q E h; first | (obtain ⟨e, _⟩ := h; subst e; rfl) | (obtain ⟨_, e, _⟩ := h; subst e; rfl) | (obtain ⟨_, _, e, _⟩ := h; subst e; rfl) | (obtain ⟨_, _, _, e, _⟩ := h; subst e; rfl) | (obtain ⟨_, _, _, _, e, _⟩ := h; subst e; rfl) | (obtain ⟨_, _, _, _, _, e, _⟩ := h; subst e; rfl) | (obtain ⟨_, _, _, _, _, _, e, _⟩ := h; subst e; rfl) | (obtain ⟨_, _, _, _, _, _, _, e, _⟩ := h; subst e; rfl) | (obtain ⟨_, _, _, _, _, _, _, _, e, _⟩ := h; subst e; rfl) | (obtain ⟨_, _, _, _, _, _, _, _, _, e, _⟩ := h; subst e; rfl) | (obtain ⟨_, _, _, _, _, _, _, _, _, _, e, _⟩ := h; subst e; rfl) | (obtain ⟨_, _, _, _, _, _, _, _, _, _, _, e, _⟩ := h; subst e; rfl) | (obtain ⟨_, _, _, _, _, _, _, _, _, _, _, _, e, _⟩ := h; subst e; rfl) | (obtain ⟨_, _, _, _, _, _, _, _, _, _, _, _, _, e, _⟩ := h; subst e; rfl) | (obtain ⟨_, _, _, _, _, _, _, _, _, _, _, _, _, _, e, _⟩ := h; subst e; rfl) | (obtain ⟨_, _, _, _, _, _, _, _, _, _, _, _, _, _, _, e, _⟩ := h; subst e; rfl)))
local macro_rules | `(tactic| walk_at "ns") => `(tactic| (try dsimp only [Op.kind, Tp.word, Rec.top]); decide +kernel)
theorem cut_head (r : Rec) : cutV r.vals none (some 5) = [.int r.ord, .str r.op.kind, .int r.host, .int 1, .int r.ctr] := by
  obtain ⟨a, b, c, o⟩ := r
  cases o <;> rfl
theorem cut_tail (r : Rec) : cutV r.vals (some 5) none = r.op.flds := by
  obtain ⟨a, b, c, o⟩ := r
  cases o <;> rfl
theorem cut_two (r : Rec) : cutV r.vals none (some 2) = [.int r.ord, .str r.op.kind] := by
  obtain ⟨a, b, c, o⟩ := r
  cases o <;> rfl
theorem cut_mid (r : Rec) : cutV r.vals (some 1) (some 5) = [.str r.op.kind, .int r.host, .int 1, .int r.ctr] := by
  obtain ⟨a, b, c, o⟩ := r
  cases o <;> rfl
theorem vals_len (r : Rec) : 6 ≤ r.vals.length ∧ r.vals.length ≤ 8 := by
  obtain ⟨a, b, c, o⟩ := r
  cases o <;> simp [Rec.vals, Op.flds]
theorem vals_at (r : Rec) : r.vals[0]? = some (.int r.ord) ∧ r.vals[1]? = some (.str r.op.kind) ∧ r.vals[2]? = some (.int r.host) ∧ r.vals[5]? = some (.int 5) := by
  obtain ⟨a, b, c, o⟩ := r
  cases o <;> exact ⟨rfl, rfl, rfl, rfl⟩
theorem kind_flat (r : Rec) : flatV (.str r.op.kind) = true := rfl
theorem in_KINDS {K : PySem.W.Frag} (o : Op) : inV (.str o.kind) (cKINDS.map (He.Dv.v K)) = true := by
  cases o <;> rfl
theorem kinds_flat {K : PySem.W.Frag} : (cKINDS.map (He.Dv.v K)).all flatV = true := rfl
section
variable {P : Program} {w : World} {K : PySem.W.Frag} {base : Heap} {mg : Str → Option Value}
def sp_is_record : Sp := fun vs H Q _ => ∃ (a : Addr) (r : Rec), vs = [.ref a] ∧ RecAt H a r ∧ r.ok ∧ ∀ H', Same H H' → Q (.bl true) H'
theorem sc_is_record : FnScope ["value", "order", "kind", "host", "session", "counter"] ["value"] (defScope s_is_record) := C8.fnScope_by (by decide +kernel)
theorem c_is_record (T : Tx w K mg) : Cal P w K mg base 4 "is_record" sp_is_record [] := by
  refine K_is_record T sc_is_record (fun _ _ _ _ _ _ us hl => match us, hl with | [_], _ => rfl) (by walk_at "len") (fun cdv A outer s H vs Q E hr h => ?_)
  have nd := sc_is_record.nd
  have hu := hu_of hr
  refine ⟨_, (pss_cons (ps_if (PW.pt (pw_or (pt_not (pt_val (pe_callB call_isi (by rfl) (b_isinstance T) boot_isinstance (pa_cons (pv 0) (pa_cons (pe_bltn (v := .ty "tuple") (by rfl) (b_tuple T) boot_tuple rfl) pa_nil))))) (pw_or1 (pt_cmpR op_lt (pe_callB (call_len) (by rfl) (b_len T) PySem.boot_len (pa_cons (pv 0) pa_nil)) (C8.pe_gc (by rfl) (i_HEAD T)) (nomark _))))) (pss_one (ps_ret pe_bl)) pss_nil)
      (pss_cons (ps_asg (pe_slice sl_tup (pv 0) po_none (po_some (C8.pe_gc (by rfl) (i_HEAD T)))) (pg_tup rfl (pgs_cons (pg_name (i := 1) nd rfl (Or.inl rfl)) (pgs_cons (pg_name (i := 2) nd rfl (Or.inl rfl)) (pgs_cons (pg_name (i := 3) nd rfl (Or.inl rfl)) (pgs_cons (pg_name (i := 4) nd rfl (Or.inl rfl)) (pgs_cons (pg_name (i := 5) nd rfl (Or.inl rfl)) pgs_nil)))))))
      (pss_cons (ps_if (PW.pt (pw_or (pt_not (pt_val (C8.pe_c (c_is_integer T) hr (by decide) (by rfl) (pa_cons (pv 1) pa_nil)))) (pw_or (pt_cmpR op_lt (pv 1) pe_int (nomark _)) (pw_or (pt_not (pt_val (pe_callB call_isi (by rfl) (b_isinstance T) boot_isinstance (pa_cons (pv 2) (pa_cons (pe_bltn (v := .ty "str") (by rfl) (b_str T) boot_str rfl) pa_nil))))) (pw_or1 (pt_cmpR op_notIn_seq (pv 2) (C8.pe_gc (by rfl) (g_KINDS T)) (by rfl))))))) (pss_one (ps_ret pe_bl)) pss_nil)
      (pss_cons (ps_if (PW.pt (pw_or (pt_not (pt_val (C8.pe_c (c_is_from T) hr (by decide) (by rfl) (pa_cons (pv 3) (pa_cons pe_int (pa_cons (C8.pe_gc (by rfl) (i_HOSTS T)) pa_nil)))))) (pw_or (pt_not (pt_val (C8.pe_c (c_is_integer T) hr (by decide) (by rfl) (pa_cons (pv 4) pa_nil)))) (pw_or (pt_cmpR op_lt (pv 4) pe_int (nomark _)) (pw_or1 (pt_not (pt_val (C8.pe_c (c_is_integer T) hr (by decide) (by rfl) (pa_cons (pv 5) pa_nil))))))))) (pss_one (ps_ret pe_bl)) pss_nil)
      (pss_cons (ps_if (PW.pt (pw_or (pt_cmpR op_lt (pv 5) pe_int (nomark _)) (pw_or1 (pt_cmpR op_ne (pe_cmpR op_eq (pv 5) pe_int (nomark _)) (pe_cmpR op_eq (pv 2) pe_str (nomark _)) (nomark _))))) (pss_one (ps_ret pe_bl)) pss_nil)
      (pss_one (ps_ret (C8.pe_c (c_are_fields T) hr (by decide) (by rfl) (pa_cons (pv 1) (pa_cons (pv 2) (pa_cons (pe_slice sl_tup (pv 0) (po_some (C8.pe_gc (by rfl) (i_HEAD T))) po_none) pa_nil))))))))))), ?_⟩
  obtain ⟨a, r, rfl, hR, ok, q⟩ := h
  obtain ⟨l6, l8⟩ := vals_len r
  refine ⟨_, rfl, .ref a, .ty "tuple", .type "tuple", .type "tuple", true, rfl, .ty _, .base (.tup hR), kit_ty (by decide +kernel), true, rfl, ?_⟩
  refine iteF ⟨_, rfl, _, r.vals.length, rfl, .inr ⟨_, SqT.of hR, rfl⟩, _, _, rfl, rfl, _, rfl, ?_⟩
  refine ite_no (by omega) ?_
  refine ⟨_, rfl, 5, rfl, a, r.vals, rfl, SqT.of hR, fun z => ?_, fun p hp => ?_⟩
  · have z2 := z.2
    rw [show (some 5 : Option Int) = some ((5 : Nat) : Int) from rfl, HT.sIx_nat] at z2
    omega
  rw [cut_head r]
  have s1 : Same H (upd H p (.tup [.int r.ord, .str r.op.kind, .int r.host, .int 1, .int r.ctr])) := same_upd hp
  refine ⟨p, _, rfl, SqT.of upd_same, rfl, _, _, rfl, _, _, rfl, _, _, rfl, _, _, rfl, _, _, rfl, rfl, ?_⟩
  obtain ⟨o1, ⟨o2, o3⟩, o4, o5⟩ := ok
  refine ⟨_, rfl, _, rfl, true, rfl, iteF ⟨_, rfl, _, _, rfl, rfl, _, rfl, ite_no (by omega) ?_⟩⟩
  refine ⟨_, rfl, .str r.op.kind, .ty "str", .type "str", .type "str", true, rfl, .ty _, .base (.str _), kit_ty (by decide +kernel), true, rfl, ?_⟩
  refine iteF ⟨_, rfl, _, _, rfl, .inr (k_KINDS T _), rfl, kinds_flat, _, rfl, ?_⟩
  refine ite_b (by rw [if_pos rfl, in_KINDS] <;> rfl) ?_
  refine ⟨_, rfl, _, 0, 4, rfl, true, by rw [decide_eq_true o2, decide_eq_true o3] <;> rfl, iteF ?_⟩
  refine ⟨_, rfl, _, rfl, true, rfl, iteF ⟨_, rfl, _, _, rfl, rfl, _, rfl, ite_no (by omega) ?_⟩⟩
  refine ⟨_, rfl, _, rfl, true, rfl, iteF ?_⟩
  refine ⟨_, rfl, _, _, rfl, rfl, _, rfl, ite_no (by omega) ?_⟩
  refine ⟨_, rfl, rfl, _, rfl, rfl, rfl, _, rfl, ?_⟩
  refine ite_b ?_ ?_
  · rw [decide_eq_false (show ¬ V.int r.ctr = V.int 0 from fun e => by have := V.int.inj e; omega), decide_eq_false (show ¬ V.str r.op.kind = V.str "mark" from fun e => no_mark _ (V.str.inj e))]
    rfl
  refine ⟨_, rfl, _, rfl, _, rfl, 5, rfl, a, r.vals, rfl, SqT.of (s1 a _ hR), fun z => ?_, fun p2 hp2 => ?_⟩
  · have z1 := z.1
    rw [show (some 5 : Option Int) = some ((5 : Nat) : Int) from rfl, HT.sIx_nat] at z1
    omega
  rw [cut_tail r]
  exact ⟨r.ord, r.op, p2, rfl, SqT.of upd_same, o5, q _ (same_upd' s1 hp2)⟩
/-- a def that makes something, changes nothing -/
abbrev Mk1 (H : Hp) (Q : VK) (P : Addr → Hp → Prop) : Prop := ∀ (p : Addr) (H' : Hp), Same H H' → H p = none → P p H' → Q (.ref p) H'
def sp_make_record : Sp := fun vs H Q _ => ∃ (r : Rec) (fa : Addr), vs = [.int r.ord, .str r.op.kind, .int r.host, .int 1, .int r.ctr, .ref fa] ∧ H fa = some (.tup r.op.flds) ∧ r.ok ∧ Mk1 H Q fun p H' => RecAt H' p r
theorem sc_make_record : FnScope ["order", "kind", "host", "session", "counter", "fields", "record"] ["order", "kind", "host", "session", "counter", "fields"] (defScope s_make_record) := C8.fnScope_by (by decide +kernel)
theorem c_make_record (T : Tx w K mg) : Cal P w K mg base 5 "make_record" sp_make_record [] := by
  refine K_make_record T sc_make_record (fun _ _ _ _ _ _ us hl => match us, hl with | [_, _, _, _, _, _], _ => rfl) (by walk_at "len") (fun cdv A outer s H vs Q E hr h => ?_)
  have nd := sc_make_record.nd
  have hu := hu_of hr
  refine ⟨_, (pss_cons (ps_set (i := 6) nd rfl (Or.inl rfl) (pe_op op_catT (pe_tup (pa_cons (pv 0) (pa_cons (pv 1) (pa_cons (pv 2) (pa_cons (pv 3) (pa_cons (pv 4) pa_nil)))))) (pe_callTy (call_tupleT) (by rfl) (b_tuple T) boot_tuple (pa_cons (pv 5) pa_nil))))
      (pss_cons (ps_if (pt_not (pt_val (C8.pe_c (c_is_record T) hr (by decide) (by rfl) (pa_cons (pv 6) pa_nil)))) (pss_one ps_never) pss_nil)
      (pss_one (ps_ret (pv 6))))), ?_⟩
  obtain ⟨r, fa, rfl, hf, ok, q⟩ := h
  refine ⟨_, rfl, _, rfl, _, rfl, _, rfl, _, rfl, by show 5 ≤ sizeLine; decide, fun t ht => ?_⟩
  have hf1 := upd_old (o := .tup [.int r.ord, .str r.op.kind, .int r.host, .int 1, .int r.ctr]) hf ht
  have fl : r.op.flds.length ≤ 3 := by cases r.op <;> simp [Op.flds]
  have fne : r.op.flds ≠ [] := by cases r.op <;> simp [Op.flds]
  refine ⟨_, rfl, fa, _, rfl, SqT.of hf1, t, fa, _, _, rfl, rfl, SqT.of upd_same, SqT.of hf1, by simp, ?_, fun z => absurd z fne, fun _ p hp => ?_⟩
  · have : (8 : Nat) ≤ sizeLine := by decide
    show 5 + _ ≤ sizeLine
    omega
  have s1 : Same H (upd H t (.tup [.int r.ord, .str r.op.kind, .int r.host, .int 1, .int r.ctr])) := same_upd ht
  refine ⟨_, rfl, p, r, rfl, upd_same, ok, fun H' s2 => ⟨true, rfl, iteF ⟨_, rfl, ?_⟩⟩⟩
  exact q p H' ((same_upd' s1 hp).trans s2) (s1.free hp) (s2 _ _ upd_same)
def sp_answer_of : Sp := fun vs H Q _ => ∃ (a : Addr) (r : Rec), vs = [.ref a] ∧ RecAt H a r ∧ Mk1 H Q fun p H' => AnsAt H' p r.ans
theorem sc_answer_of : FnScope ["record"] ["record"] (defScope s_answer_of) := C8.fnScope_by (by decide +kernel)
theorem c_answer_of (T : Tx w K mg) : Cal P w K mg base 1 "answer_of" sp_answer_of [] := by
  refine K_answer_of T sc_answer_of (fun _ _ _ _ _ _ us hl => match us, hl with | [_], _ => rfl) (by walk_at "len") (fun cdv A outer s H vs Q E hr h => ?_)
  have nd := sc_answer_of.nd
  have hu := hu_of hr
  refine ⟨_, (pss_cons (ps_if (pt_cmpR op_eq (pe_ix ix_tup (pv 0) pe_int (fun _ _ => rfl)) pe_str (nomark _)) (pss_one ps_never) pss_nil)
      (pss_cons (ps_if (PW.pt (pw_or (pt_cmpR op_eq (pe_ix ix_tup (pv 0) pe_int (fun _ _ => rfl)) pe_str (nomark _)) (pw_or1 (pt_cmpR op_eq (pe_ix ix_tup (pv 0) pe_int (fun _ _ => rfl)) pe_str (nomark _))))) (pss_one (ps_ret (pe_tup (pa_cons pe_str (pa_cons (pe_ix ix_tup (pv 0) pe_int (fun _ _ => rfl)) pa_nil))))) pss_nil)
      (pss_one (ps_ret (pe_tup (pa_cons pe_str (pa_cons pe_non pa_nil))))))), ?_⟩
  obtain ⟨a, r, rfl, hR, q⟩ := h
  obtain ⟨v0, v1, _, _⟩ := vals_at r
  refine ⟨_, rfl, a, _, 1, _, rfl, rfl, SqT.of hR, at_of (j := 1) rfl v1, rfl, _, rfl, eqS_F (no_mark _) ?_⟩
  refine ⟨_, rfl, a, _, 1, _, rfl, rfl, SqT.of hR, at_of (j := 1) rfl v1, rfl, _, rfl, ?_⟩
  by_cases c : r.op = .snap
  · have e : r.ans = some r.ord := by unfold Rec.ans; rw [c]
    rw [e] at q
    refine eqS_T (by rw [c] <;> rfl) (iteT ?_)
    refine ⟨_, rfl, a, _, 0, _, rfl, rfl, SqT.of hR, at_of (j := 0) rfl v0, by show 2 ≤ sizeLine; decide, fun p hp => ?_⟩
    exact q p _ (same_upd hp) hp upd_same
  · have e : r.ans = none := by
      unfold Rec.ans
      cases o : r.op <;> first | rfl | exact absurd o c
    rw [e] at q
    refine eqS_F (fun z => ?_) ?_
    · cases o : r.op <;> first | exact c o | (rw [o] at z; exact absurd z (by walk_at "ns"))
    refine ⟨_, rfl, a, _, 1, _, rfl, rfl, SqT.of hR, at_of (j := 1) rfl v1, rfl, _, rfl, ?_⟩
    refine eqS_F (fun z => ?_) ?_
    · cases o : r.op <;> (rw [o] at z; exact absurd z (by walk_at "ns"))
    refine ⟨(by decide : 2 ≤ sizeLine), fun p hp => ?_⟩
    exact q p _ (same_upd hp) hp upd_same
end
end L2.Sg
set_option Elab.async false
set_option linter.all false
set_option maxRecDepth 100000
set_option maxHeartbeats 4000000
namespace L2.Sg
open PySem PySem.Spec PyProof.Rows
open C8 (Cal Met Mak pe_c pe_mt pe_mt0 pe_mk tCut pss_cut)
local macro_rules | `(tactic| walk_at "len") => `(tactic| (intro vs H Q E h; first | (obtain ⟨e, _⟩ := h; subst e; rfl) | (obtain ⟨_, e, _⟩ := h; subst e; rfl) | (obtain ⟨_, _, e, _⟩ := h; subst e; rfl) | (obtain ⟨_, _, _, e, _⟩ := h; subst e; rfl) | (obtain ⟨_, _, _, _, e, _⟩ := h; subst e; rfl) | (obtain ⟨_, _, _, _, _, e, _⟩ := h; subst e; rfl) | (obtain ⟨_, _, _, _, _, _, e, _⟩ := h; subst e; rfl) | (obtain ⟨_, _, _, _, _, _, _, e, _⟩ := h; subst e; rfl) | (obtain ⟨_, _, _, _, _, _, _, _, e, _⟩ := h; subst e; rfl) | (obtain ⟨_, _, _, _, _, _, _, _, _, e, _⟩ := h; subst e; rfl) | (obtain ⟨_, _, _, _, _, _, _, _, _, _, e, _⟩ := h; subst e; rfl) | (obtain ⟨_, _, _, _, _, _, _, _, _, _, _, e, _⟩ := h; subst e; rfl) | (obtain ⟨_, _, _, _, _, _, _, _, _, _, _, _, e, _⟩ := h; subst e; rfl) | (obtain ⟨_, _, _, _, _, _, _, _, _, _, _, _, _, e, _⟩ := h; subst e; rfl) | (obtain ⟨_, _, _, _, _, _, _, _, _, _, _, _, _, _, e, _⟩ := h; subst e; rfl) | (obtain ⟨_, _, _, _, _, _, _, _, _, _, _, _, _, _, _, e, _⟩ := h; subst e; rfl)))
local macro_rules | `(tactic| walk_at "ns") => `(tactic| (try dsimp only [Op.kind, Tp.word, Rec.top]); decide +kernel)
/-- a pair of a topic and its value at p -/
def EffAt (H : Hp) (p : Addr) (t : Tp) (v : V) : Prop := ∃ q, H p = some (.tup [.ref q, v]) ∧ H q = some (.tup (t.key.map kV))
theorem EffAt.keep {H H' : Hp} {p : Addr} {t : Tp} {v : V} (h : EffAt H p t v) (k : Imm H H') : EffAt H' p t v := let ⟨q, a, b⟩ := h; ⟨q, k.tup a, k.tup b⟩
section
variable {P : Program} {w : World} {K : PySem.W.Frag} {base : Heap} {mg : Str → Option Value}
def sp_space_effects : Sp := fun vs H Q _ => ∃ (a : Addr) (r : Rec), vs = [.ref a] ∧ RecAt H a r ∧ Mk1 H Q fun l H' => ∃ p, H' l = some (.lst [.ref p]) ∧ EffAt H' p r.top r.val
theorem sc_space_effects : FnScope ["record", "order", "kind", "namespace"] ["record"] (defScope s_space_effects) := C8.fnScope_by (by decide +kernel)
theorem c_space_effects (T : Tx w K mg) : Cal P w K mg base 1 "space_effects" sp_space_effects [] := by
  refine K_space_effects T sc_space_effects (fun _ _ _ _ _ _ us hl => match us, hl with | [_], _ => rfl) (by walk_at "len") (fun cdv A outer s H vs Q E hr h => ?_)
  have nd := sc_space_effects.nd
  have hu := hu_of hr
  refine ⟨_, (pss_cons (ps_asg (pe_slice sl_tup (pv 0) po_none (po_some pe_int)) (pg_tup rfl (pgs_cons (pg_name (i := 1) nd rfl (Or.inl rfl)) (pgs_cons (pg_name (i := 2) nd rfl (Or.inl rfl)) pgs_nil))))
      (pss_cons (ps_set (i := 3) nd rfl (Or.inl rfl) (pe_ix ix_tup (pv 0) pe_int (fun _ _ => rfl)))
      (pss_cons (ps_if (pt_cmpR op_eq (pv 2) pe_str (nomark _)) (pss_one (ps_ret (pe_lst (pa_cons (pe_tup (pa_cons (pe_tup (pa_cons pe_str (pa_cons (pv 3) pa_nil))) (pa_cons (pe_ix ix_tup (pv 0) pe_int (fun _ _ => rfl)) pa_nil))) pa_nil)))) pss_nil)
      (pss_cons (ps_if (pt_cmpR op_eq (pv 2) pe_str (nomark _)) (pss_one ps_never) pss_nil)
      (pss_cons (ps_if (pt_cmpR op_eq (pv 2) pe_str (nomark _)) (pss_one (ps_ret (pe_lst (pa_cons (pe_tup (pa_cons (pe_tup (pa_cons pe_str (pa_cons (pv 3) (pa_cons (pe_ix ix_tup (pv 0) pe_int (fun _ _ => rfl)) pa_nil)))) (pa_cons (pe_ix ix_tup (pv 0) pe_int (fun _ _ => rfl)) pa_nil))) pa_nil)))) pss_nil)
      (pss_cons (ps_if (pt_cmpR op_eq (pv 2) pe_str (nomark _)) (pss_one (ps_ret (pe_lst (pa_cons (pe_tup (pa_cons (pe_tup (pa_cons pe_str (pa_cons (pv 3) (pa_cons (pe_ix ix_tup (pv 0) pe_int (fun _ _ => rfl)) pa_nil)))) (pa_cons pe_non pa_nil))) pa_nil)))) pss_nil)
      (pss_cons (ps_if (pt_cmpR op_eq (pv 2) pe_str (nomark _)) (pss_one (ps_ret (pe_lst (pa_cons (pe_tup (pa_cons (pe_tup (pa_cons pe_str (pa_cons (pv 3) (pa_cons (pv 1) pa_nil)))) (pa_cons (pv 1) pa_nil))) pa_nil)))) pss_nil)
      (pss_one (ps_ret (pe_lst (pa_cons (pe_tup (pa_cons (pe_tup (pa_cons pe_str (pa_cons (pv 3) (pa_cons (pe_ix ix_tup (pv 0) pe_int (fun _ _ => rfl)) pa_nil)))) (pa_cons pe_non pa_nil))) pa_nil))))))))))), ?_⟩
  obtain ⟨a, r, rfl, hR, q⟩ := h
  obtain ⟨l6, l8⟩ := vals_len r
  refine ⟨_, rfl, 2, rfl, a, r.vals, rfl, SqT.of hR, fun z => ?_, fun p hp => ?_⟩
  · have z2 := z.2
    rw [show (some 2 : Option Int) = some ((2 : Nat) : Int) from rfl, HT.sIx_nat] at z2
    omega
  rw [cut_two r]
  obtain ⟨v0, v1, _, v5⟩ := vals_at r
  have hR1 := upd_old (o := .tup [.int r.ord, .str r.op.kind]) hR hp
  refine ⟨p, _, rfl, SqT.of upd_same, rfl, _, _, rfl, _, _, rfl, rfl, ?_⟩
  refine ⟨_, rfl, a, _, 5, _, rfl, rfl, SqT.of hR1, at_of (j := 5) rfl v5, ?_⟩
  -- the end of each way: the list of one pair
  have fin : ∀ (ks : List V) (v : V) (t c l : Addr) (H0 : Hp), Same H H0 → H0 t = none → (upd H0 t (.tup ks)) c = none → (upd (upd H0 t (.tup ks)) c (.tup [.ref t, v])) l = none → ks = r.top.key.map kV → v = r.val → Q (.ref l) (upd (upd (upd H0 t (.tup ks)) c (.tup [.ref t, v])) l (.lst [.ref c])) := by
    intro ks v t c l H0 s0 h1 h2 h3 e1 e2
    subst e1 e2
    have s := same_upd' (same_upd' (same_upd' s0 h1) h2) h3 (o := .lst [.ref c])
    refine q l _ s ((same_upd' (same_upd' s0 h1) h2).free h3) ⟨c, upd_same, t, ?_, ?_⟩
    · exact upd_old upd_same h3
    · exact upd_old (upd_old upd_same h2) h3
  have sz2 : 2 ≤ sizeLine := by decide
  have sz3 : 3 ≤ sizeLine := by decide
  have sz1 : 1 ≤ sizeLine := by decide
  have s1 : Same H (upd H p (.tup [.int r.ord, .str r.op.kind])) := same_upd hp
  obtain ⟨ord, host, ctr, op⟩ := r
  cases op with
  | make =>
    refine ⟨_, rfl, rfl, _, rfl, eqS_T rfl ?_⟩
    refine ⟨_, rfl, sz2, fun t ht => ?_⟩
    refine ⟨_, rfl, a, _, 6, _, rfl, rfl, SqT.of (upd_old hR1 ht), at_of (j := 6) rfl rfl, sz2, fun c hc => ⟨sz1, fun l hl => ?_⟩⟩
    exact fin _ _ t c l _ s1 ht hc hl rfl rfl
  | write p' v' =>
    refine ⟨_, rfl, rfl, _, rfl, eqS_F (by walk_at "ns") ⟨_, rfl, rfl, _, rfl, eqS_F (by walk_at "ns") ⟨_, rfl, rfl, _, rfl, eqS_T rfl ?_⟩⟩⟩
    refine ⟨_, rfl, _, rfl, a, _, 6, _, rfl, rfl, SqT.of hR1, at_of (j := 6) rfl rfl, sz3, fun t ht => ?_⟩
    refine ⟨_, rfl, a, _, 7, _, rfl, rfl, SqT.of (upd_old hR1 ht), at_of (j := 7) rfl rfl, sz2, fun c hc => ⟨sz1, fun l hl => ?_⟩⟩
    exact fin _ _ t c l _ s1 ht hc hl rfl rfl
  | trim p' =>
    refine ⟨_, rfl, rfl, _, rfl, eqS_F (by walk_at "ns") ⟨_, rfl, rfl, _, rfl, eqS_F (by walk_at "ns") ⟨_, rfl, rfl, _, rfl, eqS_F (by walk_at "ns") ⟨_, rfl, rfl, _, rfl, eqS_T rfl ?_⟩⟩⟩⟩
    refine ⟨_, rfl, _, rfl, a, _, 6, _, rfl, rfl, SqT.of hR1, at_of (j := 6) rfl rfl, sz3, fun t ht => ⟨sz2, fun c hc => ⟨sz1, fun l hl => ?_⟩⟩⟩
    exact fin _ _ t c l _ s1 ht hc hl rfl rfl
  | snap =>
    refine ⟨_, rfl, rfl, _, rfl, eqS_F (by walk_at "ns") ⟨_, rfl, rfl, _, rfl, eqS_F (by walk_at "ns") ⟨_, rfl, rfl, _, rfl, eqS_F (by walk_at "ns") ⟨_, rfl, rfl, _, rfl, eqS_F (by walk_at "ns") ⟨_, rfl, rfl, _, rfl, eqS_T rfl ?_⟩⟩⟩⟩⟩
    refine ⟨_, rfl, _, rfl, sz3, fun t ht => ⟨_, rfl, sz2, fun c hc => ⟨sz1, fun l hl => ?_⟩⟩⟩
    exact fin _ _ t c l _ s1 ht hc hl rfl rfl
  | drop n' =>
    refine ⟨_, rfl, rfl, _, rfl, eqS_F (by walk_at "ns") ⟨_, rfl, rfl, _, rfl, eqS_F (by walk_at "ns") ⟨_, rfl, rfl, _, rfl, eqS_F (by walk_at "ns") ⟨_, rfl, rfl, _, rfl, eqS_F (by walk_at "ns") ⟨_, rfl, rfl, _, rfl, eqS_F (by walk_at "ns") ?_⟩⟩⟩⟩⟩
    refine ⟨_, rfl, _, rfl, a, _, 6, _, rfl, rfl, SqT.of hR1, at_of (j := 6) rfl rfl, sz3, fun t ht => ⟨sz2, fun c hc => ⟨sz1, fun l hl => ?_⟩⟩⟩
    exact fin _ _ t c l _ s1 ht hc hl rfl rfl
def sp_effects : Sp := fun vs H Q _ => ∃ (a : Addr) (r : Rec), vs = [.ref a] ∧ RecAt H a r ∧ Mk1 H Q fun l H' => ∃ p1 p2 hv n, H' l = some (.lst [.ref p1, .ref p2]) ∧ EffAt H' p1 (.host r.host) (.ref hv) ∧ H' hv = some (.tup [.int 1, .int r.ctr, .ref n]) ∧ AnsAt H' n r.ans ∧ EffAt H' p2 r.top r.val
theorem no_fence {K : PySem.W.Frag} (o : Op) : inV (.str o.kind) ([.str "register", .str "leave", .str "reserve", .str "release", .str "preempt"] : List V) = false := by
  cases o <;> rfl
theorem sc_effects : FnScope ["record", "kind", "host", "session", "counter", "found"] ["record"] (defScope s_effects) := C8.fnScope_by (by decide +kernel)
theorem c_effects (T : Tx w K mg) : Cal P w K mg base 2 "effects" sp_effects [] := by
  refine K_effects T sc_effects (fun _ _ _ _ _ _ us hl => match us, hl with | [_], _ => rfl) (by walk_at "len") (fun cdv A outer s H vs Q E hr h => ?_)
  have nd := sc_effects.nd
  have hu := hu_of hr
  refine ⟨_, (pss_cons (ps_asg (pe_slice sl_tup (pv 0) (po_some pe_int) (po_some (C8.pe_gc (by rfl) (i_HEAD T)))) (pg_tup rfl (pgs_cons (pg_name (i := 1) nd rfl (Or.inl rfl)) (pgs_cons (pg_name (i := 2) nd rfl (Or.inl rfl)) (pgs_cons (pg_name (i := 3) nd rfl (Or.inl rfl)) (pgs_cons (pg_name (i := 4) nd rfl (Or.inl rfl)) pgs_nil))))))
      (pss_cons (ps_set (i := 5) nd rfl (Or.inl rfl) (pe_lst (pa_cons (pe_tup (pa_cons (pe_tup (pa_cons pe_str (pa_cons (pv 2) pa_nil))) (pa_cons (pe_tup (pa_cons (pv 3) (pa_cons (pv 4) (pa_cons (C8.pe_c (c_answer_of T) hr (by decide) (by rfl) (pa_cons (pv 0) pa_nil)) pa_nil)))) pa_nil))) pa_nil)))
      (pss_cons (ps_if (pt_cmpR op_eq (pv 1) pe_str (nomark _)) (pss_one ps_never) pss_nil)
      (pss_cons (ps_if (pt_cmpR op_in_seq (pv 1) (pe_tup (pa_cons pe_str (pa_cons pe_str (pa_cons pe_str (pa_cons pe_str (pa_cons pe_str pa_nil)))))) (by rfl)) (pss_one ps_never) pss_nil)
      (pss_one (ps_ret (pe_op op_cat (pv 5) (C8.pe_c (c_space_effects T) hr (by decide) (by rfl) (pa_cons (pv 0) pa_nil))))))))), ?_⟩
  obtain ⟨a, r, rfl, hR, q⟩ := h
  obtain ⟨l6, l8⟩ := vals_len r
  refine ⟨_, rfl, 1, rfl, 5, rfl, a, r.vals, rfl, SqT.of hR, fun z => ?_, fun p hp => ?_⟩
  · have z1 := z.1
    rw [show (some 1 : Option Int) = some ((1 : Nat) : Int) from rfl, HT.sIx_nat] at z1
    omega
  rw [cut_mid r]
  obtain ⟨v0, v1, v2, v5⟩ := vals_at r
  have hR1 := upd_old (o := .tup [.str r.op.kind, .int r.host, .int 1, .int r.ctr]) hR hp
  have s1 : Same H (upd H p (.tup [.str r.op.kind, .int r.host, .int 1, .int r.ctr])) := same_upd hp
  have sz2 : 2 ≤ sizeLine := by decide
  refine ⟨p, _, rfl, SqT.of upd_same, rfl, _, _, rfl, _, _, rfl, _, _, rfl, _, _, rfl, rfl, ?_⟩
  -- found = [(('host', host), (session, counter, answer_of(record)))]
  refine ⟨_, rfl, sz2, fun t ht => ⟨_, rfl, _, rfl, _, rfl, a, r, rfl, upd_old hR1 ht, fun n H2 s2 fn hn => ?_⟩⟩
  have s12 := (same_upd' s1 ht (o := .tup [.str "host", .int r.host])).trans s2
  refine ⟨by show 3 ≤ sizeLine; decide, fun hv hhv => ⟨sz2, fun p1 hp1 => ⟨by show 1 ≤ sizeLine; decide, fun l0 hl0 => ?_⟩⟩⟩
  refine ⟨_, rfl, rfl, _, rfl, eqS_F (no_mark _) ?_⟩
  have s3 := same_upd' (same_upd' (same_upd' s12 hhv (o := .tup [.int 1, .int r.ctr, .ref n])) hp1 (o := .tup [.ref t, .ref hv])) hl0 (o := .lst [.ref p1])
  refine ⟨_, rfl, by show 5 ≤ sizeLine; decide, fun m hm => ⟨m, _, rfl, .inr (SqT.of upd_same), rfl, rfl, _, rfl, ite_b (by rw [if_neg Bool.false_ne_true, no_fence (K := K)]) ?_⟩⟩
  have s4 := same_upd' s3 hm (o := .tup [.str "register", .str "leave", .str "reserve", .str "release", .str "preempt"])
  have hl0' := upd_old (o := .tup [.str "register", .str "leave", .str "reserve", .str "release", .str "preempt"]) (upd_same (H := upd (upd H2 hv (.tup [.int 1, .int r.ctr, .ref n])) p1 (.tup [.ref t, .ref hv])) (a := l0) (o := .lst [.ref p1])) hm
  refine ⟨_, rfl, _, rfl, a, r, rfl, s4 _ _ hR, fun l2 H5 s5 f5 ⟨p2, e2, ef⟩ => ?_⟩
  refine ⟨l0, l2, _, _, rfl, rfl, s5 _ _ hl0', e2, by show 2 ≤ sizeLine; decide, fun l hl => ?_⟩
  have s6 := same_upd (H := H5) hl (o := .lst ([.ref p1] ++ [.ref p2]))
  have up : ∀ {b : Addr} {o : HO}, (upd (upd H2 hv (.tup [.int 1, .int r.ctr, .ref n])) p1 (.tup [.ref t, .ref hv])) b = some o → (upd H5 l (.lst ([.ref p1] ++ [.ref p2]))) b = some o := fun e => s6 _ _ (s5 _ _ (upd_old (upd_old e hl0) hm))
  refine q l _ ((s4.trans s5).trans s6) ((s4.trans s5).free hl) ⟨p1, p2, hv, n, upd_same, ⟨t, up upd_same, up (upd_old (upd_old (s2 _ _ upd_same) hhv) hp1)⟩, up (upd_old upd_same hp1), up (upd_old (upd_old hn hhv) hp1), ef.keep (same_imm s6)⟩
end
end L2.Sg
set_option Elab.async false
set_option linter.all false
set_option maxRecDepth 100000
set_option maxHeartbeats 4000000
namespace L2.Sg
open PySem PySem.Spec PyProof.Rows
open C8 (Cal Met Mak pe_c pe_mt pe_mt0 pe_mk tCut pss_cut)
local macro_rules | `(tactic| walk_at "len") => `(tactic| (intro vs H Q E h; first | (obtain ⟨e, _⟩ := h; subst e; rfl) | (obtain ⟨_, e, _⟩ := h; subst e; rfl) | (obtain ⟨_, _, e, _⟩ := h; subst e; rfl) | (obtain ⟨_, _, _, e, _⟩ := h; subst e; rfl) | (obtain ⟨_, _, _, _, e, _⟩ := h; subst e; rfl) | (obtain ⟨_, _, _, _, _, e, _⟩ := h; subst e; rfl) | (obtain ⟨_, _, _, _, _, _, e, _⟩ := h; subst e; rfl) | (obtain ⟨_, _, _, _, _, _, _, e, _⟩ := h; subst e; rfl) | (obtain ⟨_, _, _, _, _, _, _, _, e, _⟩ := h; subst e; rfl) | (obtain ⟨_, _, _, _, _, _, _, _, _, e, _⟩ := h; subst e; rfl) | (obtain ⟨_, _, _, _, _, _, _, _, _, _, e, _⟩ := h; subst e; rfl) | (obtain ⟨_, _, _, _, _, _, _, _, _, _, _, e, _⟩ := h; subst e; rfl) | (obtain ⟨_, _, _, _, _, _, _, _, _, _, _, _, e, _⟩ := h; subst e; rfl) | (obtain ⟨_, _, _, _, _, _, _, _, _, _, _, _, _, e, _⟩ := h; subst e; rfl) | (obtain ⟨_, _, _, _, _, _, _, _, _, _, _, _, _, _, e, _⟩ := h; subst e; rfl) | (obtain ⟨_, _, _, _, _, _, _, _, _, _, _, _, _, _, _, e, _⟩ := h; subst e; rfl)))
local macro_rules | `(tactic| walk_at "ns") => `(tactic| (try dsimp only [Op.kind, Tp.word, Rec.top]); decide +kernel)
/-! ### the rows of a table on the heap -/
theorem Tp.key_inj {t u : Tp} (h : t.key = u.key) : t = u := by
  have hs : (("host" : Str) = "space") = False := eq_false (by decide +kernel)
  have hp : (("host" : Str) = "place") = False := eq_false (by decide +kernel)
  have hn : (("host" : Str) = "snap") = False := eq_false (by decide +kernel)
  have ps : (("place" : Str) = "snap") = False := eq_false (by decide +kernel)
  have sp : (("snap" : Str) = "place") = False := eq_false (by decide +kernel)
  have sh : (("space" : Str) = "host") = False := eq_false (by decide +kernel)
  cases t <;> cases u <;> simp [Tp.key, hs, hp, hn, ps, sp, sh] at h ⊢ <;> exact h
/-- one row: a pair of an order and a value that is something or not -/
def RowP (H : Hp) (p : Addr) (row : Int × Bool) : Prop := ∃ v, H p = some (.tup [.int row.1, v]) ∧ decide (v = .non) = !row.2
def RowsL (H : Hp) (l : Addr) (rows : Rows) : Prop := ∃ ps : List Addr, H l = some (.lst (ps.map V.ref)) ∧ Paired (RowP H) ps rows
theorem RowP.keep {H H' : Hp} {p : Addr} {row : Int × Bool} (h : RowP H p row) (k : Imm H H') : RowP H' p row := let ⟨v, a, b⟩ := h; ⟨v, k.tup a, b⟩
theorem RowsL.keep {H H' : Hp} {l : Addr} {rows : Rows} (h : RowsL H l rows) (k : Imm H H') (kl : ∀ o, H l = some o → H' l = some o) : RowsL H' l rows := let ⟨ps, a, b⟩ := h; ⟨ps, kl _ a, mapP b fun _ _ r => r.keep k⟩
abbrev Trip := Tp × Addr × Rows
def kvOf (x : Trip) : List Key × V := (x.1.key, .ref x.2.1)
def tOf (x : Trip) : Tp × Rows := (x.1, x.2.2)
structure TabAt (H : Hp) (L : List Trip) : Prop where
  rows : ∀ x ∈ L, RowsL H x.2.1 x.2.2
  keys : (L.map (·.1)).Nodup
  adr : (L.map (·.2.1)).Nodup
theorem val_trip (t : Tp) : ∀ L : List Trip, valV (L.map kvOf) t.key = (L.find? fun x => decide (x.1 = t)).map fun x => V.ref x.2.1
  | [] => rfl
  | x :: L => by
    by_cases e : x.1 = t
    · rw [List.map_cons, valV_pos (p := kvOf x) (show x.1.key = t.key by rw [e]), List.find?_cons_of_pos (by simp [e])]
      rfl
    · rw [List.map_cons, valV_neg (p := kvOf x) (show ¬ x.1.key = t.key from fun z => e (Tp.key_inj z)), List.find?_cons_of_neg (by simp [e])]
      exact val_trip t L
def goneK : List Key := [Sum.inr "gone", Sum.inl 5]
theorem val_gone (L : List Trip) : valV (L.map kvOf) goneK = none := by
  induction L with
  | nil => rfl
  | cons x L ih =>
    rw [List.map_cons, valV_neg (p := kvOf x) (fun z => ?_)]
    · exact ih
    · have z : x.1.key = goneK := z
      generalize x.1 = t at z
      cases t with
      | host h =>
        have z1 := (List.cons.inj z).1
        exact absurd (Sum.inr.inj z1) (by decide +kernel)
      | space =>
        have z1 := (List.cons.inj z).1
        exact absurd (Sum.inr.inj z1) (by decide +kernel)
      | place p => exact absurd (congrArg List.length z) (by show ¬ 3 = 2; decide)
      | snap p => exact absurd (congrArg List.length z) (by show ¬ 3 = 2; decide)
def addTrip (L : List Trip) (k : Tp) (o : Int) (b : Bool) (l0 : Addr) : List Trip :=
  if L.any (fun x => decide (x.1 = k)) then L.map fun x => if x.1 = k then (x.1, x.2.1, x.2.2 ++ [(o, b)]) else x else L ++ [(k, l0, [(o, b)])]
theorem addTrip_t (L : List Trip) (k : Tp) (o : Int) (b : Bool) (l0 : Addr) : (addTrip L k o b l0).map tOf = addRow (L.map tOf) k o b := by
  have e : (L.map tOf).any (fun t => decide (t.1 = k)) = L.any fun x => decide (x.1 = k) := by rw [List.any_map] <;> rfl
  unfold addTrip addRow
  rw [e]
  split
  · rw [List.map_map, List.map_map]
    refine List.map_congr_left fun x _ => ?_
    show tOf (if x.1 = k then _ else x) = if (tOf x).1 = k then _ else tOf x
    by_cases c : x.1 = k
    · rw [if_pos c, if_pos (show (tOf x).1 = k from c)] <;> rfl
    · rw [if_neg c, if_neg (show ¬ (tOf x).1 = k from c)]
  · rw [List.map_append] <;> rfl
theorem nodup_inj {α β : Type} {f : α → β} : ∀ {l : List α}, (l.map f).Nodup → ∀ {x y : α}, x ∈ l → y ∈ l → f x = f y → x = y
  | [], _, x, _, hx, _, _ => (List.not_mem_nil hx).elim
  | a :: l, h, x, y, hx, hy, e => by
    rw [List.map_cons, List.nodup_cons] at h
    rcases List.mem_cons.mp hx with ex | hx2
    · rcases List.mem_cons.mp hy with ey | hy2
      · rw [ex, ey]
      · exact absurd (List.mem_map.mpr ⟨y, hy2, by rw [← e, ex]⟩) h.1
    · rcases List.mem_cons.mp hy with ey | hy2
      · exact absurd (List.mem_map.mpr ⟨x, hx2, by rw [e, ey]⟩) h.1
      · exact nodup_inj h.2 hx2 hy2 e
/-- a row more at a topic that is there: its list at l has grown by p -/
theorem TabAt.old {H H' : Hp} {L : List Trip} (T : TabAt H L) {x : Trip} {o : Int} {b : Bool} {l0 p : Addr} {ps : List Addr} (hx : x ∈ L) (hl : H x.2.1 = some (.lst (ps.map V.ref))) (hl' : H' x.2.1 = some (.lst (ps.map V.ref ++ [.ref p]))) (hp : RowP H' p (o, b))
    (k : ∀ c u, H c = some u → c ≠ x.2.1 → H' c = some u) : TabAt H' (addTrip L x.1 o b l0) ∧ (addTrip L x.1 o b l0).map kvOf = L.map kvOf := by
  have im : Imm H H' := fun c u e d => k c u e (fun z => by rw [z, hl] at e; cases e; cases d)
  have any : L.any (fun y => decide (y.1 = x.1)) = true := List.any_eq_true.mpr ⟨x, hx, by simp⟩
  have ea : addTrip L x.1 o b l0 = L.map fun y => if y.1 = x.1 then (y.1, y.2.1, y.2.2 ++ [(o, b)]) else y := by unfold addTrip; rw [if_pos any]
  have e1 : ∀ y : Trip, (if y.1 = x.1 then (y.1, y.2.1, y.2.2 ++ [(o, b)]) else y : Trip).1 = y.1 := fun y => by split <;> rfl
  have e2 : ∀ y : Trip, (if y.1 = x.1 then (y.1, y.2.1, y.2.2 ++ [(o, b)]) else y : Trip).2.1 = y.2.1 := fun y => by split <;> rfl
  rw [ea]
  refine ⟨⟨fun z hz => ?_, ?_, ?_⟩, ?_⟩
  · obtain ⟨y, hy, rfl⟩ := List.mem_map.mp hz
    by_cases c : y.1 = x.1
    · obtain rfl := nodup_inj T.keys hy hx c
      rw [if_pos rfl]
      obtain ⟨ps', a, r⟩ := T.rows y hy
      rw [hl] at a
      injection a with a
      injection a with a
      have ep : ps = ps' := (List.map_inj_right fun _ _ e => V.ref.inj e).mp a
      subst ep
      exact ⟨ps ++ [p], by rw [List.map_append]; exact hl', Paired.snoc (mapP r fun _ _ r => r.keep im) hp⟩
    · rw [if_neg c]
      have ne : y.2.1 ≠ x.2.1 := fun e => c (congrArg (·.1) (nodup_inj T.adr hy hx e))
      exact (T.rows y hy).keep im fun u e => k _ u e ne
  · have q : (L.map fun y : Trip => (if y.1 = x.1 then (y.1, y.2.1, y.2.2 ++ [(o, b)]) else y : Trip)).map (fun y => y.1) = L.map fun y => y.1 := by
      rw [List.map_map]
      exact List.map_congr_left fun y _ => e1 y
    rw [q]
    exact T.keys
  · have q : (L.map fun y : Trip => (if y.1 = x.1 then (y.1, y.2.1, y.2.2 ++ [(o, b)]) else y : Trip)).map (fun y => y.2.1) = L.map fun y => y.2.1 := by
      rw [List.map_map]
      exact List.map_congr_left fun y _ => e2 y
    rw [q]
    exact T.adr
  · rw [List.map_map]
    refine List.map_congr_left fun y _ => ?_
    show kvOf _ = kvOf y
    unfold kvOf
    rw [e1, e2]
/-- a row at a new topic -/
theorem TabAt.new {H H' : Hp} {L : List Trip} (T : TabAt H L) {t : Tp} {o : Int} {b : Bool} {l0 p : Addr} (hn : (L.find? fun x => decide (x.1 = t)) = none) (fr : H l0 = none) (hl' : H' l0 = some (.lst [.ref p])) (hp : RowP H' p (o, b))
    (im : Imm H H') (k : ∀ x ∈ L, ∀ u, H x.2.1 = some u → H' x.2.1 = some u) : TabAt H' (addTrip L t o b l0) ∧ (addTrip L t o b l0).map kvOf = L.map kvOf ++ [(t.key, .ref l0)] := by
  have nm : ∀ x ∈ L, ¬ x.1 = t := fun x hx e => by
    have := List.find?_eq_none.mp hn x hx
    simp [e] at this
  have any : ¬ L.any (fun y => decide (y.1 = t)) = true := fun z => by
    obtain ⟨x, hx, e⟩ := List.any_eq_true.mp z
    exact nm x hx (of_decide_eq_true e)
  have ea : addTrip L t o b l0 = L ++ [(t, l0, [(o, b)])] := by unfold addTrip; rw [if_neg any]
  rw [ea]
  refine ⟨⟨fun z hz => ?_, ?_, ?_⟩, by rw [List.map_append] <;> rfl⟩
  · rcases List.mem_append.mp hz with hz | hz
    · exact (T.rows z hz).keep im (k z hz)
    · obtain rfl := List.mem_singleton.mp hz
      exact ⟨[p], hl', .cons hp .nil⟩
  · rw [List.map_append, List.nodup_append]
    refine ⟨T.keys, by simp, fun c hc d hd e => ?_⟩
    obtain ⟨x, hx, rfl⟩ := List.mem_map.mp hc
    simp at hd
    exact nm x hx (e.trans hd)
  · rw [List.map_append, List.nodup_append]
    refine ⟨T.adr, by simp, fun c hc d hd e => ?_⟩
    obtain ⟨x, hx, rfl⟩ := List.mem_map.mp hc
    simp at hd
    obtain ⟨ps, a, _⟩ := T.rows x hx
    rw [e, hd, fr] at a
    cases a
theorem TabAt.keep {H H' : Hp} {L : List Trip} (T : TabAt H L) (im : Imm H H') (k : ∀ x ∈ L, ∀ u, H x.2.1 = some u → H' x.2.1 = some u) : TabAt H' L := ⟨fun x hx => (T.rows x hx).keep im (k x hx), T.keys, T.adr⟩
theorem TabAt.same {H H' : Hp} {L : List Trip} (T : TabAt H L) (s : Same H H') : TabAt H' L := T.keep (same_imm s) fun _ _ u e => s _ u e
/-- all lists of rows have something -/
theorem addRow_ne {T : Tb} (h : ∀ t ∈ T, t.2 ≠ []) (k : Tp) (o : Int) (b : Bool) : ∀ t ∈ addRow T k o b, t.2 ≠ [] := by
  intro t ht
  unfold addRow at ht
  split at ht
  · obtain ⟨u, hu, rfl⟩ := List.mem_map.mp ht
    split
    · simp
    · exact h u hu
  · rcases List.mem_append.mp ht with ht | ht
    · exact h t ht
    · obtain rfl := List.mem_singleton.mp ht
      simp
theorem tabOf_ne (rs : List Rec) : ∀ t ∈ tabOf rs, t.2 ≠ [] := by
  have go : ∀ (rs : List Rec) (T : Tb), (∀ t ∈ T, t.2 ≠ []) → ∀ t ∈ rs.foldl addRec T, t.2 ≠ [] := by
    intro rs
    induction rs with
    | nil => intro T h; exact h
    | cons r rs ih => intro T h; exact ih _ (addRow_ne (addRow_ne h _ _ _) _ _ _)
  exact go rs [] fun t h => (List.not_mem_nil h).elim
theorem tabOf_snoc (rs : List Rec) (r : Rec) : tabOf (rs ++ [r]) = addRec (tabOf rs) r := by unfold tabOf; rw [List.foldl_append] <;> rfl
/-- what the snapshots' dict holds -/
def SnapD (H : Hp) (ds : Addr) (sn : List Int) : Prop := (sn = [] ∧ H ds = some (.dK [])) ∨ (sn ≠ [] ∧ ∃ sl, H ds = some (.dK [(.inl 5, .ref sl)]) ∧ H sl = some (.lst (sn.map V.int)))
theorem SnapD.same {H H' : Hp} {ds : Addr} {sn : List Int} (h : SnapD H ds sn) (s : Same H H') : SnapD H' ds sn := by
  rcases h with ⟨a, b⟩ | ⟨a, sl, b, c⟩
  · exact .inl ⟨a, s _ _ b⟩
  · exact .inr ⟨a, sl, s _ _ b, s _ _ c⟩
def tbF (a b c d : Addr) : List (Str × V) := [("records", V.ref a), ("rows", V.ref b), ("oldest", V.ref c), ("snapshots", V.ref d)]
/-- a Table of these records at p -/
structure TblAt (K : PySem.W.Frag) (H : Hp) (p : Addr) (as : List Addr) (rs : List Rec) (dr : Addr) (L : List Trip) : Prop where
  ex : ∃ dx lr do_ ds, H p = some (.ins (He.ga K "Table") dx (tbF lr dr do_ ds)) ∧ H lr = some (.lst (as.map V.ref)) ∧ SnapD H ds (snapsOf (tabOf rs))
  recs : RecsAt H as rs
  rows : Rd H dr (.dT (L.map kvOf))
  tab : TabAt H L
  eq : L.map tOf = tabOf rs
theorem rd_same {H H' : Hp} {a : Addr} {u : HO} (s : Same H H') (h : Rd H a u) : Rd H' a u := h.elim (fun e => .inl (s _ _ e)) fun ⟨o, e⟩ => .inr ⟨o, s _ _ e⟩
theorem TblAt.same {K : PySem.W.Frag} {H H' : Hp} {p dr : Addr} {as : List Addr} {rs : List Rec} {L : List Trip} (h : TblAt K H p as rs dr L) (s : Same H H') : TblAt K H' p as rs dr L := by
  obtain ⟨dx, lr, do_, ds, e1, e2, e3⟩ := h.ex
  exact ⟨⟨dx, lr, do_, ds, s _ _ e1, s _ _ e2, e3.same s⟩, h.recs.keep (same_imm s), rd_same s h.rows, h.tab.same s, h.eq⟩
section
variable {P : Program} {w : World} {K : PySem.W.Frag} {base : Heap} {mg : Str → Option Value}
end
end L2.Sg
set_option Elab.async false
set_option linter.all false
set_option maxRecDepth 100000
set_option maxHeartbeats 4000000
namespace L2.Sg
open PySem PySem.Spec PyProof.Rows
open C8 (Cal Met Mak pe_c pe_mt pe_mt0 pe_mk tCut pss_cut)
local macro_rules | `(tactic| walk_at "len") => `(tactic| (intro vs H Q E h; first | (obtain ⟨e, _⟩ := h; subst e; rfl) | (obtain ⟨_, e, _⟩ := h; subst e; rfl) | (obtain ⟨_, _, e, _⟩ := h; subst e; rfl) | (obtain ⟨_, _, _, e, _⟩ := h; subst e; rfl) | (obtain ⟨_, _, _, _, e, _⟩ := h; subst e; rfl) | (obtain ⟨_, _, _, _, _, e, _⟩ := h; subst e; rfl) | (obtain ⟨_, _, _, _, _, _, e, _⟩ := h; subst e; rfl) | (obtain ⟨_, _, _, _, _, _, _, e, _⟩ := h; subst e; rfl) | (obtain ⟨_, _, _, _, _, _, _, _, e, _⟩ := h; subst e; rfl) | (obtain ⟨_, _, _, _, _, _, _, _, _, e, _⟩ := h; subst e; rfl) | (obtain ⟨_, _, _, _, _, _, _, _, _, _, e, _⟩ := h; subst e; rfl) | (obtain ⟨_, _, _, _, _, _, _, _, _, _, _, e, _⟩ := h; subst e; rfl) | (obtain ⟨_, _, _, _, _, _, _, _, _, _, _, _, e, _⟩ := h; subst e; rfl) | (obtain ⟨_, _, _, _, _, _, _, _, _, _, _, _, _, e, _⟩ := h; subst e; rfl) | (obtain ⟨_, _, _, _, _, _, _, _, _, _, _, _, _, _, e, _⟩ := h; subst e; rfl) | (obtain ⟨_, _, _, _, _, _, _, _, _, _, _, _, _, _, _, e, _⟩ := h; subst e; rfl)))
local macro_rules | `(tactic| walk_at "ns") => `(tactic| (try dsimp only [Op.kind, Tp.word, Rec.top]); decide +kernel)
theorem key_word (t : Tp) : (t.key.map kV)[0]? = some (.str t.word) := by cases t <;> rfl
theorem flat_topics {K : PySem.W.Frag} : (cTOPICS.map (He.Dv.v K)).all flatV = true := rfl
theorem in_topics {K : PySem.W.Frag} (t : Tp) : inV (.str t.word) (cTOPICS.map (He.Dv.v K)) = (match t with | .host _ => true | _ => false) := by cases t <;> rfl
theorem key_five (t : Tp) (h : ∀ i, t ≠ .host i) : (t.key.map kV)[1]? = some (.int 5) := by
  cases t with
  | host i => exact absurd rfl (h i)
  | _ => rfl
section
variable {P : Program} {w : World} {K : PySem.W.Frag} {base : Heap} {mg : Str → Option Value}
def sp_is_hidden (K : PySem.W.Frag) : Sp := fun vs H Q _ => ∃ (p q dr : Addr) (L : List Trip) (t : Tp) (o : Int) (vw : V), vs = [.ref p, .ref q, .int o, vw] ∧ (∃ dx fs, H p = some (.ins (He.ga K "Table") dx fs) ∧ fs.lookup ("rows" : Str) = some (.ref dr)) ∧
  Rd H dr (.dT (L.map kvOf)) ∧ H q = some (.tup (t.key.map kV)) ∧ ∀ H', Same H H' → Q (.bl false) H'
theorem sc_Table_is_hidden : FnScope ["self", "topic", "order", "view", "gone", "_"] ["self", "topic", "order", "view"] (defScope s_Table_is_hidden) := C8.fnScope_by (by decide +kernel)
theorem c_Table_is_hidden (T : Tx w K mg) : Met P w K mg base 1 (He.ga K "Table") "is_hidden" (sp_is_hidden K) [] := by
  refine K_Table_is_hidden T sc_Table_is_hidden (fun _ _ _ _ _ _ us hl => match us, hl with | [_, _, _, _], _ => rfl) (by walk_at "len") (fun cdv A outer s H vs Q E hr h => ?_)
  have nd := sc_Table_is_hidden.nd
  have hu := hu_of hr
  refine ⟨_, (pss_cons (ps_if (pt_cmpR op_in_seq (pe_ix ix_tup (pv 1) pe_int (fun _ _ => rfl)) (C8.pe_gc (by rfl) (g_HOST_TOPICS T)) (by rfl)) (pss_one (ps_ret pe_bl)) pss_nil)
      (pss_cons (ps_for PassesOwn.never rfl (pi_list (pe_dget2 hu (pe_fld (pv 0) rfl) (pe_tup (pa_cons pe_str (pa_cons (pe_ix ix_tup (pv 1) pe_int (fun _ _ => rfl)) pa_nil))) (pe_lst pa_nil) ⟨rfl, rfl, rfl, rfl⟩)) (pg_tup rfl (pgs_cons (pg_name (i := 4) nd rfl (Or.inl rfl)) (pgs_cons (pg_name (i := 5) nd rfl (Or.inl rfl)) pgs_nil))) pss_never)
      (pss_one (ps_ret pe_bl)))), ?_⟩
  obtain ⟨p, q, dr, L, t, o, vw, rfl, ⟨dx, fs, hp, hf⟩, hr0, hq, k⟩ := h
  refine ⟨_, rfl, q, _, 0, _, rfl, rfl, SqT.of hq, at_of (j := 0) rfl (key_word t), _, _, rfl, .inr (k_TOPICS T _), rfl, flat_topics, _, rfl, ?_⟩
  rw [if_neg Bool.false_ne_true, in_topics]
  by_cases c : ∃ i, t = .host i
  · obtain ⟨i, rfl⟩ := c
    exact iteT (k H (Same.refl H))
  have c' : ∀ i, t ≠ .host i := fun i e => c ⟨i, e⟩
  refine ite_b (by cases t <;> first | rfl | exact absurd rfl (c' _)) ?_
  refine ⟨_, rfl, p, _, dx, fs, _, rfl, hp, cls_Table T, at_Table_rows T, hf, dr, rfl, .inr ⟨_, hr0⟩, ?_⟩
  refine ⟨_, rfl, q, _, 1, _, rfl, rfl, SqT.of hq, at_of (j := 1) rfl (key_five t c'), by show 2 ≤ sizeLine; decide, fun g hg => ⟨by show 0 ≤ sizeLine; decide, fun l hl => ?_⟩⟩
  have s := same_upd' (same_upd hg (o := .tup [.str "gone", .int 5])) hl (o := .lst [])
  refine ⟨none, .inr ⟨L.map kvOf, goneK, g, rd_same s hr0, rfl, upd_old upd_same hl, (val_gone L).symm⟩, l, rfl, ⟨[], SqL.of upd_same⟩, ?_⟩
  refine for_list (K := K) (a := l) (xs := []) (fun i σ H' => H' = upd (upd H g (.tup [.str "gone", .int 5])) l (.lst [])) rfl (fun i σ H' _ e => by rw [e]; exact SqL.of upd_same) (fun i x σ H' e _ => by simp at e) (fun σ H' e => ?_)
  rw [e]
  exact k _ s
end
end L2.Sg
set_option Elab.async false
set_option linter.all false
set_option maxRecDepth 100000
set_option maxHeartbeats 4000000
namespace L2.Sg
open PySem PySem.Spec PyProof.Rows
open C8 (Cal Met Mak pe_c pe_mt pe_mt0 pe_mk tCut pss_cut)
local macro_rules | `(tactic| walk_at "len") => `(tactic| (intro vs H Q E h; first | (obtain ⟨e, _⟩ := h; subst e; rfl) | (obtain ⟨_, e, _⟩ := h; subst e; rfl) | (obtain ⟨_, _, e, _⟩ := h; subst e; rfl) | (obtain ⟨_, _, _, e, _⟩ := h; subst e; rfl) | (obtain ⟨_, _, _, _, e, _⟩ := h; subst e; rfl) | (obtain ⟨_, _, _, _, _, e, _⟩ := h; subst e; rfl) | (obtain ⟨_, _, _, _, _, _, e, _⟩ := h; subst e; rfl) | (obtain ⟨_, _, _, _, _, _, _, e, _⟩ := h; subst e; rfl) | (obtain ⟨_, _, _, _, _, _, _, _, e, _⟩ := h; subst e; rfl) | (obtain ⟨_, _, _, _, _, _, _, _, _, e, _⟩ := h; subst e; rfl) | (obtain ⟨_, _, _, _, _, _, _, _, _, _, e, _⟩ := h; subst e; rfl) | (obtain ⟨_, _, _, _, _, _, _, _, _, _, _, e, _⟩ := h; subst e; rfl) | (obtain ⟨_, _, _, _, _, _, _, _, _, _, _, _, e, _⟩ := h; subst e; rfl) | (obtain ⟨_, _, _, _, _, _, _, _, _, _, _, _, _, e, _⟩ := h; subst e; rfl) | (obtain ⟨_, _, _, _, _, _, _, _, _, _, _, _, _, _, e, _⟩ := h; subst e; rfl) | (obtain ⟨_, _, _, _, _, _, _, _, _, _, _, _, _, _, _, e, _⟩ := h; subst e; rfl)))
local macro_rules | `(tactic| walk_at "ns") => `(tactic| (try dsimp only [Op.kind, Tp.word, Rec.top]); decide +kernel)
/-! ### rules within a comprehension's block: the written part by its name -/
theorem ix_tupK {X : Cx} {K : PySem.W.Frag} (h : X.K = K) : IxR X (rIxT K) := h ▸ ix_tup
theorem ix_listK {X : Cx} {K : PySem.W.Frag} (h : X.K = K) : IxR X (rIxL K) := h ▸ ix_list
theorem pe_fldK {X : Cx} {K : PySem.W.Frag} {e : Expr} {ta : TE} {f : Str} {pos : Pos} (h : X.K = K) (he : PE X e ta) (hb : attributeBase e f X.env (eval e X.env) = eval e X.env) : PE X (.Attribute e f pos) (tFld K ta f) := h ▸ pe_fld he hb
/-! ### lists by their orders -/
theorem val_none {κ : Type} [DecidableEq κ] {kvs : List (κ × V)} {k : κ} (h : ∀ p ∈ kvs, p.1 ≠ k) : valV kvs k = none := by
  unfold valV
  rw [List.find?_eq_none.mpr fun p hp => by simp [h p hp]]
  rfl
theorem val_mem {κ : Type} [DecidableEq κ] : ∀ {kvs : List (κ × V)} {k : κ} {v : V}, (kvs.map (·.1)).Nodup → (k, v) ∈ kvs → valV kvs k = some v
  | [], _, _, _, h => (List.not_mem_nil h).elim
  | p :: r, k, v, nd, h => by
    rw [List.map_cons, List.nodup_cons] at nd
    rcases List.mem_cons.mp h with rfl | h2
    · exact valV_pos rfl
    · rw [valV_neg fun e => nd.1 (List.mem_map.mpr ⟨_, h2, e.symm⟩)]
      exact val_mem nd.2 h2
abbrev Asc (rs : List Rec) : Prop := rs.Pairwise fun a b => a.ord < b.ord
theorem yesT {σ : L2.St} {H : Hp} {A B : Hp → Prop} (h : A H) : tYes σ H fun b H3 => if b = true then A H3 else B H3 := by
  show (if true = true then A H else B H)
  exact iteT h
def ordKV (as : List Addr) (rs : List Rec) : List (Key × V) := List.zipWith (fun a r => (Sum.inl r.ord, V.ref a)) as rs
theorem ordKV_at {as : List Addr} {rs : List Rec} {i : Nat} {a : Addr} {r : Rec} (ha : as[i]? = some a) (hr : rs[i]? = some r) : (ordKV as rs)[i]? = some (Sum.inl r.ord, V.ref a) := by
  unfold ordKV
  rw [List.getElem?_zipWith, ha, hr]
theorem ordKV_keys : ∀ {as : List Addr} {rs : List Rec}, as.length = rs.length → (ordKV as rs).map (·.1) = (rs.map (·.ord)).map Sum.inl
  | [], [], _ => rfl
  | a :: as, r :: rs, h => by
    show Sum.inl r.ord :: (ordKV as rs).map (·.1) = _
    rw [ordKV_keys (by simpa using h)] <;> rfl
  | [], _ :: _, h => by simp at h
  | _ :: _, [], h => by simp at h
theorem Asc.ords {rs : List Rec} (h : Asc rs) : (rs.map (·.ord)).Pairwise (· < ·) := List.pairwise_map.mpr h
theorem Asc.nodup {rs : List Rec} (h : Asc rs) : (rs.map (·.ord)).Nodup := h.ords.imp fun e => Int.ne_of_lt e
theorem ordKV_nodup {as : List Addr} {rs : List Rec} (hl : as.length = rs.length) (h : Asc rs) : ((ordKV as rs).map (·.1)).Nodup := by
  rw [ordKV_keys hl]
  exact List.Pairwise.map _ (fun a b e z => e (Sum.inl.inj z)) h.nodup
theorem ordKV_put {as : List Addr} {rs : List Rec} (hl : as.length = rs.length) (h : Asc rs) {i : Nat} {a : Addr} {r : Rec} (ha : as[i]? = some a) (hr : rs[i]? = some r) : putK ((ordKV as rs).take i) (Sum.inl r.ord) (V.ref a) = (ordKV as rs).take (i + 1) := by
  have e := ordKV_at ha hr
  rw [List.take_add_one, e]
  refine putK_new _ (val_none fun p hp z => ?_)
  have nd := ordKV_nodup hl h
  obtain ⟨j, hj⟩ := List.mem_iff_getElem?.mp hp
  have jl : j < i := by
    have := (List.getElem?_eq_some_iff.mp hj).1
    rw [List.length_take] at this
    omega
  rw [List.getElem?_take, if_pos jl] at hj
  have e1 : ((ordKV as rs).map (·.1))[j]? = some p.1 := by rw [List.getElem?_map, hj] <;> rfl
  have e2 : ((ordKV as rs).map (·.1))[i]? = some (Sum.inl r.ord) := by rw [List.getElem?_map, e] <;> rfl
  have l1 := (List.getElem?_eq_some_iff.mp e1).1
  have := (List.getElem?_inj l1 nd).mp (e1.trans ((congrArg some z).trans e2.symm))
  omega
/-- a dict comprehension over a list that stays -/
theorem dc_list {K : PySem.W.Frag} {a : Addr} {xs : List V} {g : TG} {tt : TT} {tk tv : TE} {vs : List Nat} {σ : L2.St} {H1 : Hp} {D : Addr} {Qd : Hp → Prop} (Pv : Nat → Hp → Prop) (h0 : Pv 0 (upd H1 D (.dK []))) (hl : ∀ i H, i ≤ xs.length → Pv i H → SqL K H a xs)
    (hs : ∀ (i : Nat) (x : V) (H : Hp), xs[i]? = some x → Pv i H → g x (wipe σ vs) H fun σ2 H2 => wipe σ2 vs = wipe σ vs ∧ tt σ2 H2 fun b H3 => if b = true then tk σ2 H3 fun y H4 => tv σ2 H4 fun z H5 => ∃ kvs k, y = kV k ∧ H5 D = some (.dK kvs) ∧ kvs.length < sizeLine ∧ Pv (i + 1) (upd H5 D (.dK (putK kvs k z))) else Pv (i + 1) H3) (hd : ∀ H, Pv xs.length H → Qd H) :
    ∃ W : Nat → Nat → Hp → Prop, (∃ m, W 0 m (upd H1 D (.dK []))) ∧ ∀ i m H, W i m H → ((Itl K a).stop i H ∧ Qd H) ∨ ((Itl K a).go i H ∧ ∃ Nx : Hp → Prop, (∀ H', Nx H' → ∃ m', m' < m ∧ W (i + 1) m' H') ∧ ∀ x H', (Itl K a).yld i H x H' → g x (wipe σ vs) H' fun σ2 H2 => wipe σ2 vs = wipe σ vs ∧ tt σ2 H2 fun b H3 => if b = true then tk σ2 H3 fun y H4 => tv σ2 H4 fun z H5 => ∃ kvs k, y = kV k ∧ H5 D = some (.dK kvs) ∧ kvs.length < sizeLine ∧ Nx (upd H5 D (.dK (putK kvs k z))) else Nx H3) := by
  refine ⟨fun i m H => m + i = xs.length ∧ Pv i H, ⟨xs.length, rfl, h0⟩, ?_⟩
  rintro i m H ⟨e, p⟩
  have q := hl i H (by omega) p
  cases m with
  | zero =>
    obtain rfl : i = xs.length := by omega
    exact Or.inl ⟨⟨xs, q, Nat.le_refl _⟩, hd H p⟩
  | succ m =>
    have hi : i < xs.length := by omega
    refine .inr ⟨⟨xs, xs[i], q, List.getElem?_eq_getElem hi⟩, Pv (i + 1), fun H' p' => ⟨m, Nat.lt_succ_self m, by omega, p'⟩, ?_⟩
    rintro x H' ⟨rfl, y⟩
    exact hs i x H' (y xs q) p
theorem refs_i {as : List Addr} {i : Nat} {x : V} (h : (as.map V.ref)[i]? = some x) : ∃ a, as[i]? = some a ∧ x = .ref a := by
  rw [List.getElem?_map] at h
  obtain ⟨a, h1, h2⟩ := Option.map_eq_some_iff.mp h
  exact ⟨a, h1, h2.symm⟩
theorem ints_i {ns : List Int} {i : Nat} {x : V} (h : (ns.map V.int)[i]? = some x) : ∃ n, ns[i]? = some n ∧ x = .int n := by
  rw [List.getElem?_map] at h
  obtain ⟨a, h1, h2⟩ := Option.map_eq_some_iff.mp h
  exact ⟨a, h1, h2.symm⟩
theorem line64 {n : Nat} (h : n ≤ 1000) : n ≤ sizeLine := Nat.le_of_lt (small1000 h)
section
variable {P : Program} {w : World} {K : PySem.W.Frag} {base : Heap} {mg : Str → Option Value}
end
end L2.Sg
set_option Elab.async false
set_option linter.all false
set_option maxRecDepth 100000
set_option maxHeartbeats 4000000
namespace L2.Sg
open PySem PySem.Spec PyProof.Rows
open C8 (Cal Met Mak pe_c pe_mt pe_mt0 pe_mk tCut pss_cut)
local macro_rules | `(tactic| walk_at "len") => `(tactic| (intro vs H Q E h; first | (obtain ⟨e, _⟩ := h; subst e; rfl) | (obtain ⟨_, e, _⟩ := h; subst e; rfl) | (obtain ⟨_, _, e, _⟩ := h; subst e; rfl) | (obtain ⟨_, _, _, e, _⟩ := h; subst e; rfl) | (obtain ⟨_, _, _, _, e, _⟩ := h; subst e; rfl) | (obtain ⟨_, _, _, _, _, e, _⟩ := h; subst e; rfl) | (obtain ⟨_, _, _, _, _, _, e, _⟩ := h; subst e; rfl) | (obtain ⟨_, _, _, _, _, _, _, e, _⟩ := h; subst e; rfl) | (obtain ⟨_, _, _, _, _, _, _, _, e, _⟩ := h; subst e; rfl) | (obtain ⟨_, _, _, _, _, _, _, _, _, e, _⟩ := h; subst e; rfl) | (obtain ⟨_, _, _, _, _, _, _, _, _, _, e, _⟩ := h; subst e; rfl) | (obtain ⟨_, _, _, _, _, _, _, _, _, _, _, e, _⟩ := h; subst e; rfl) | (obtain ⟨_, _, _, _, _, _, _, _, _, _, _, _, e, _⟩ := h; subst e; rfl) | (obtain ⟨_, _, _, _, _, _, _, _, _, _, _, _, _, e, _⟩ := h; subst e; rfl) | (obtain ⟨_, _, _, _, _, _, _, _, _, _, _, _, _, _, e, _⟩ := h; subst e; rfl) | (obtain ⟨_, _, _, _, _, _, _, _, _, _, _, _, _, _, _, e, _⟩ := h; subst e; rfl)))
local macro_rules | `(tactic| walk_at "ns") => `(tactic| (try dsimp only [Op.kind, Tp.word, Rec.top]); decide +kernel)
/-- the rows as they are laid, S: what stays -/
structure TbI (S : Addr → Prop) (B H : Hp) (L : List Trip) (dr do_ : Addr) (T : Tb) (n : Nat) : Prop where
  tab : TabAt H L
  dr : H dr = some (.dT (L.map kvOf))
  old : ∃ ob, H do_ = some (.dK ob) ∧ (ob = [] ∨ ∃ v, ob = [(Sum.inl 5, v)])
  kp : ∀ b, S b → H b = B b
  nw : ∀ x ∈ L, ¬ S x.2.1
  eq : L.map tOf = T
  len : T.length ≤ n
  lens : ∀ t ∈ T, t.2.length ≤ n
def StayS (S : Addr → Prop) (B : Hp) (dr do_ : Addr) : Prop := ∀ b, S b → B b ≠ none ∧ b ≠ dr ∧ b ≠ do_
theorem addRow_len {T : Tb} {n : Nat} (h : T.length ≤ n) (k : Tp) (o : Int) (b : Bool) : (addRow T k o b).length ≤ n + 1 := by
  unfold addRow
  split
  · rw [List.length_map]; omega
  · rw [List.length_append]; show T.length + 1 ≤ n + 1; omega
theorem addRow_lens {T : Tb} {n : Nat} (h : ∀ t ∈ T, t.2.length ≤ n) (k : Tp) (o : Int) (b : Bool) : ∀ t ∈ addRow T k o b, t.2.length ≤ n + 1 := by
  intro t ht
  unfold addRow at ht
  split at ht
  · obtain ⟨u, hu, rfl⟩ := List.mem_map.mp ht
    have := h u hu
    split
    · show (u.2 ++ _).length ≤ _
      rw [List.length_append]; show u.2.length + 1 ≤ _; omega
    · omega
  · rcases List.mem_append.mp ht with ht | ht
    · have := h t ht; omega
    · obtain rfl := List.mem_singleton.mp ht
      show 1 ≤ n + 1
      omega
theorem TbI.row {S : Addr → Prop} {B H H3 : Hp} {L : List Trip} {dr do_ n0 : Addr} {T : Tb} {n : Nat} (hS : StayS S B dr do_) (hne : dr ≠ do_) (I : TbI S B H L dr do_ T n) {t : Tp} {o : Int} {v y : V} {b : Bool} (hv : decide (v = .non) = !b) (hn0 : H n0 = none)
    (h : (valV (L.map kvOf) t.key = some y ∧ H3 = upd H n0 (.lst [])) ∨ (valV (L.map kvOf) t.key = none ∧ y = .ref n0 ∧ H3 = upd (upd H n0 (.lst [])) dr (.dT (putK (L.map kvOf) t.key (.ref n0))))) :
    ∃ (l : Addr) (ps : List V), y = .ref l ∧ H3 l = some (.lst ps) ∧ ps.length ≤ n ∧ (∀ a xs, H a = some (.tup xs) → H3 a = some (.tup xs)) ∧
      ∀ c, H3 c = none → ∃ L', TbI S B (upd (upd H3 c (.tup [.int o, v])) l (.lst (ps ++ [.ref c]))) L' dr do_ (addRow T t o b) (n + 1) := by
  have kpn : ∀ {H' : Hp} {a : Addr}, (∀ b, S b → H' b = B b) → H' a = none → ¬ S a := fun k e s => (hS _ s).1 ((k _ s).symm.trans e)
  obtain ⟨ob, hob, cob⟩ := I.old
  have e0 := addTrip_t L t o b n0
  rw [I.eq] at e0
  rcases h with ⟨hy, rfl⟩ | ⟨hy, rfl, rfl⟩
  · rw [val_trip] at hy
    obtain ⟨x, hx, rfl⟩ := Option.map_eq_some_iff.mp hy
    have hm := List.mem_of_find?_eq_some hx
    obtain rfl : x.1 = t := of_decide_eq_true (List.find?_some (p := fun x : Trip => decide (x.1 = t)) hx)
    obtain ⟨ps, hl, pr⟩ := I.tab.rows x hm
    refine ⟨x.2.1, ps.map V.ref, rfl, upd_old hl hn0, ?_, fun a xs e => upd_old e hn0, fun c hc => ⟨addTrip L x.1 o b n0, ?_⟩⟩
    · rw [List.length_map, Paired.length pr]
      exact I.lens (tOf x) (I.eq ▸ List.mem_map_of_mem hm)
    have k1 : ∀ a u, H a = some u → a ≠ x.2.1 → (upd (upd (upd H n0 (.lst [])) c (.tup [.int o, v])) x.2.1 (.lst (ps.map V.ref ++ [.ref c]))) a = some u := fun a u e z => by
      rw [upd_ne z]
      exact upd_old (upd_old e hn0) hc
    obtain ⟨t1, t2⟩ := TabAt.old (o := o) (b := b) (l0 := n0) (p := c) I.tab hm hl (H' := upd (upd (upd H n0 (.lst [])) c (.tup [.int o, v])) x.2.1 (.lst (ps.map V.ref ++ [.ref c]))) upd_same
      ⟨v, by rw [upd_ne (ne_of_none (upd_old hl hn0) hc).symm]; exact upd_same, hv⟩ k1
    refine ⟨t1, ?_, ⟨ob, k1 _ _ hob (ne_of hob hl fun z => nomatch z), cob⟩, fun a s => ?_, fun z hz => ?_, e0, addRow_len I.len _ _ _, addRow_lens I.lens _ _ _⟩
    · rw [t2]; exact k1 _ _ I.dr (ne_of I.dr hl fun z => nomatch z)
    · have e1 := I.kp a s
      cases e2 : H a with
      | none => exact absurd (e1.symm.trans e2) (hS a s).1
      | some u => rw [k1 a u e2 (fun z => I.nw x hm (z ▸ s)), ← e1, e2]
    · have q : z.2.1 ∈ L.map fun y => y.2.1 := by
        have r : (addTrip L x.1 o b n0).map (fun y => y.2.1) = L.map fun y => y.2.1 := by
          have := congrArg (List.map fun kv : List Key × V => kv.2) t2
          rw [List.map_map, List.map_map] at this
          have f : ∀ l : List Trip, List.map ((fun kv : List Key × V => kv.2) ∘ kvOf) l = (l.map fun y => y.2.1).map V.ref := fun l => by rw [List.map_map] <;> rfl
          rw [f, f] at this
          exact (List.map_inj_right fun _ _ e => V.ref.inj e).mp this
        rw [← r]
        exact List.mem_map.mpr ⟨z, hz, rfl⟩
      obtain ⟨w, hw, e⟩ := List.mem_map.mp q
      rw [← e]
      exact I.nw w hw
  · have hf : (L.find? fun x => decide (x.1 = t)) = none := by
      rw [val_trip] at hy
      exact Option.map_eq_none_iff.mp hy
    have d1 : n0 ≠ dr := (ne_of_none I.dr hn0).symm
    rw [putK_new _ hy]
    have l3 : (upd (upd H n0 (.lst [])) dr (.dT (L.map kvOf ++ [(t.key, .ref n0)]))) n0 = some (.lst []) := by rw [upd_ne d1]; exact upd_same
    have k0 : ∀ a u, H a = some u → a ≠ dr → (upd (upd H n0 (.lst [])) dr (.dT (L.map kvOf ++ [(t.key, .ref n0)]))) a = some u := fun a u e z => by rw [upd_ne z]; exact upd_old e hn0
    refine ⟨n0, [], rfl, l3, Nat.zero_le _, fun a xs e => k0 a _ e (ne_of e I.dr fun z => nomatch z), fun c hc => ⟨addTrip L t o b n0, ?_⟩⟩
    have k1 : ∀ a u, H a = some u → a ≠ dr → (upd (upd (upd (upd H n0 (.lst [])) dr (.dT (L.map kvOf ++ [(t.key, .ref n0)]))) c (.tup [.int o, v])) n0 (.lst ([] ++ [.ref c]))) a = some u := fun a u e z => by
      rw [upd_ne (ne_of_none e hn0)]
      exact upd_old (k0 a u e z) hc
    have kr : ∀ x ∈ L, ∀ u, H x.2.1 = some u → (upd (upd (upd (upd H n0 (.lst [])) dr (.dT (L.map kvOf ++ [(t.key, .ref n0)]))) c (.tup [.int o, v])) n0 (.lst ([] ++ [.ref c]))) x.2.1 = some u := fun x hx u e => by
      obtain ⟨ps, hl, _⟩ := I.tab.rows x hx
      exact k1 _ u e (ne_of hl I.dr fun z => nomatch z)
    have rw1 : ∀ x ∈ L, RowsL (upd (upd (upd (upd H n0 (.lst [])) dr (.dT (L.map kvOf ++ [(t.key, .ref n0)]))) c (.tup [.int o, v])) n0 (.lst ([] ++ [.ref c]))) x.2.1 x.2.2 := fun x hx => by
      obtain ⟨ps, hl, pr⟩ := I.tab.rows x hx
      refine ⟨ps, kr x hx _ hl, mapP pr ?_⟩
      rintro a r ⟨v', e1, e2⟩
      exact ⟨v', k1 _ _ e1 (ne_of e1 I.dr fun z => nomatch z), e2⟩
    have tb : TabAt (upd (upd (upd (upd H n0 (.lst [])) dr (.dT (L.map kvOf ++ [(t.key, .ref n0)]))) c (.tup [.int o, v])) n0 (.lst ([] ++ [.ref c]))) L := ⟨rw1, I.tab.keys, I.tab.adr⟩
    have nL : ∀ x ∈ L, ¬ x.2.1 = n0 := fun x hx e => by
      obtain ⟨ps, hl, _⟩ := I.tab.rows x hx
      rw [e, hn0] at hl
      cases hl
    have nm : ∀ x ∈ L, ¬ x.1 = t := fun x hx e => by
      have := List.find?_eq_none.mp hf x hx
      simp [e] at this
    have ea : addTrip L t o b n0 = L ++ [(t, n0, [(o, b)])] := by
      unfold addTrip
      rw [if_neg]
      intro z
      obtain ⟨x, hx, e⟩ := List.any_eq_true.mp z
      exact nm x hx (of_decide_eq_true e)
    refine ⟨⟨fun z hz => ?_, ?_, ?_⟩, ?_, ⟨ob, k1 _ _ hob hne.symm, cob⟩, fun a s => ?_, fun z hz => ?_, e0, addRow_len I.len _ _ _, addRow_lens I.lens _ _ _⟩
    · rw [ea] at hz
      rcases List.mem_append.mp hz with hz | hz
      · exact rw1 z hz
      · obtain rfl := List.mem_singleton.mp hz
        exact ⟨[c], upd_same, .cons ⟨v, by rw [upd_ne (ne_of_none l3 hc).symm]; exact upd_same, hv⟩ .nil⟩
    · rw [ea, List.map_append, List.nodup_append]
      refine ⟨I.tab.keys, by simp, fun c hc d hd e => ?_⟩
      obtain ⟨x, hx, rfl⟩ := List.mem_map.mp hc
      simp at hd
      exact nm x hx (e.trans hd)
    · rw [ea, List.map_append, List.nodup_append]
      refine ⟨I.tab.adr, by simp, fun c hc d hd e => ?_⟩
      obtain ⟨x, hx, rfl⟩ := List.mem_map.mp hc
      simp at hd
      exact nL x hx (e.trans hd)
    · rw [ea, List.map_append, upd_ne d1.symm, upd_ne (fun e => by rw [← e, upd_same] at hc; cases hc), upd_same] <;> rfl
    · have e1 := I.kp a s
      cases e2 : H a with
      | none => exact absurd (e1.symm.trans e2) (hS a s).1
      | some u => rw [k1 a u e2 (hS a s).2.1, ← e1, e2]
    · rw [ea] at hz
      rcases List.mem_append.mp hz with hz | hz
      · exact I.nw z hz
      · obtain rfl := List.mem_singleton.mp hz
        exact kpn I.kp hn0
/-- the oldest order of the namespace is kept -/
theorem TbI.aged {S : Addr → Prop} {B H : Hp} {L : List Trip} {dr do_ : Addr} {T : Tb} {n : Nat} (hS : StayS S B dr do_) (hne : dr ≠ do_) (I : TbI S B H L dr do_ T n) (v : V) : TbI S B (upd H do_ (.dK [(Sum.inl 5, v)])) L dr do_ T n := by
  obtain ⟨ob, hob, cob⟩ := I.old
  refine ⟨⟨fun x hx => ?_, I.tab.keys, I.tab.adr⟩, by rw [upd_ne hne]; exact I.dr, ⟨_, upd_same, .inr ⟨v, rfl⟩⟩, fun b s => by rw [upd_ne (hS b s).2.2]; exact I.kp b s, I.nw, I.eq, I.len, I.lens⟩
  obtain ⟨ps, hl, pr⟩ := I.tab.rows x hx
  refine ⟨ps, by rw [upd_ne (ne_of hl hob fun z => nomatch z)]; exact hl, mapP pr ?_⟩
  rintro a r ⟨v', e1, e2⟩
  exact ⟨v', by rw [upd_ne (ne_of e1 hob fun z => nomatch z)]; exact e1, e2⟩
/-- what is new stands aside -/
theorem TbI.more {S : Addr → Prop} {B H H' : Hp} {L : List Trip} {dr do_ : Addr} {T : Tb} {n : Nat} (hS : StayS S B dr do_) (I : TbI S B H L dr do_ T n) (s : Same H H') : TbI S B H' L dr do_ T n := by
  obtain ⟨ob, hob, cob⟩ := I.old
  refine ⟨I.tab.same s, s _ _ I.dr, ⟨ob, s _ _ hob, cob⟩, fun b sb => ?_, I.nw, I.eq, I.len, I.lens⟩
  have e1 := I.kp b sb
  cases e2 : H b with
  | none => exact absurd (e1.symm.trans e2) (hS b sb).1
  | some u => rw [s b u e2, ← e1, e2]
theorem setd_both {kvs : List (List Key × V)} {k : List Key} {z : V} {H3 : Hp} {a : Addr} {Q : V → Hp → Prop} (h : ∀ y H', (valV kvs k = some y ∧ H' = H3) ∨ (valV kvs k = none ∧ y = z ∧ H' = upd H3 a (.dT (putK kvs k z))) → Q y H') :
    (∀ v, valV kvs k = some v → Q v H3) ∧ (valV kvs k = none → Q z (upd H3 a (.dT (putK kvs k z)))) := ⟨fun v e => h _ _ (.inl ⟨e, rfl⟩), fun e => h _ _ (.inr ⟨e, rfl, rfl⟩)⟩
theorem in_topicsN {K : PySem.W.Frag} (t : Tp) : (!inV (.str t.word) (cTOPICS.map (He.Dv.v K))) = (match t with | .host _ => false | _ => true) := by cases t <;> rfl
theorem RowsL.last {H : Hp} {l : Addr} {rows : Rows} (h : RowsL H l rows) (ne : rows ≠ []) : ∃ (ps : List V) (pl : Addr) (v : V), H l = some (.lst ps) ∧ atI ps (-1) = some (.ref pl) ∧ H pl = some (.tup [.int (lastOrd rows), v]) ∧ decide (v = .non) = !lastHas rows ∧ ps.length = rows.length := by
  obtain ⟨ps, hl, pr⟩ := h
  have hlen := Paired.length pr
  have lp : 0 < rows.length := List.length_pos_iff.mpr ne
  have e1 : rows[rows.length - 1]? = some (rows[rows.length - 1]'(by omega)) := List.getElem?_eq_getElem _
  have e2 : ps[rows.length - 1]? = some (ps[rows.length - 1]'(by omega)) := List.getElem?_eq_getElem _
  obtain ⟨v, a, b⟩ := paired_two pr e2 e1
  refine ⟨ps.map V.ref, ps[rows.length - 1]'(by omega), v, hl, ?_, ?_, ?_, by rw [List.length_map, hlen]⟩
  · have pne : ps ≠ [] := fun e => by rw [e] at hlen; simp at hlen; omega
    have q : ps.map V.ref = (ps.dropLast.map V.ref) ++ [V.ref (ps[rows.length - 1]'(by omega))] := by
      conv => lhs; rw [← List.dropLast_concat_getLast pne]
      rw [List.map_append, List.getLast_eq_getElem]
      simp [hlen]
    rw [q]
    exact atI_last _ _
  · unfold lastOrd rowOrd
    rw [List.getD_eq_getElem?_getD, e1]
    exact a
  · unfold lastHas
    rw [List.getLast?_eq_getElem?, e1]
    exact b
theorem TabAt.lt {H H' : Hp} {L : List Trip} (T : TabAt H L) (h1 : ∀ b xs, H b = some (.lst xs) → H' b = some (.lst xs)) (h2 : ∀ b xs, H b = some (.tup xs) → H' b = some (.tup xs)) : TabAt H' L := by
  refine ⟨fun x hx => ?_, T.keys, T.adr⟩
  obtain ⟨ps, hl, pr⟩ := T.rows x hx
  refine ⟨ps, h1 _ _ hl, mapP pr ?_⟩
  rintro a r ⟨v, a1, a2⟩
  exact ⟨v, h2 _ _ a1, a2⟩
theorem word_snap (t : Tp) : decide (V.str t.word = V.str "snap") = (match t with | .snap _ => true | _ => false) := by
  cases t with
  | snap n => exact decide_eq_true rfl
  | host h => exact decide_eq_false fun e => absurd (show ("host" : Str) = "snap" from V.str.inj e) (by decide +kernel)
  | space => exact decide_eq_false fun e => absurd (show ("space" : Str) = "snap" from V.str.inj e) (by decide +kernel)
  | place p => exact decide_eq_false fun e => absurd (show ("place" : Str) = "snap" from V.str.inj e) (by decide +kernel)
theorem snaps_take {T : Tb} {i : Nat} {t : Tp × Rows} (h : T[i]? = some t) : snapsOf (T.take (i + 1)) = snapsOf (T.take i) ++ (snapIf t).toList := by
  unfold snapsOf
  rw [List.take_add_one, h, List.filterMap_append]
  cases e : snapIf t <;> simp [e]
section
variable {P : Program} {w : World} {K : PySem.W.Frag} {base : Heap} {mg : Str → Option Value}
end
end L2.Sg
set_option Elab.async false
set_option linter.all false
set_option maxRecDepth 100000
set_option maxHeartbeats 4000000
namespace L2.Sg
open PySem PySem.Spec PyProof.Rows
open C8 (Cal Met Mak pe_c pe_mt pe_mt0 pe_mk tCut pss_cut)
local macro_rules | `(tactic| walk_at "len") => `(tactic| (intro vs H Q E h; first | (obtain ⟨e, _⟩ := h; subst e; rfl) | (obtain ⟨_, e, _⟩ := h; subst e; rfl) | (obtain ⟨_, _, e, _⟩ := h; subst e; rfl) | (obtain ⟨_, _, _, e, _⟩ := h; subst e; rfl) | (obtain ⟨_, _, _, _, e, _⟩ := h; subst e; rfl) | (obtain ⟨_, _, _, _, _, e, _⟩ := h; subst e; rfl) | (obtain ⟨_, _, _, _, _, _, e, _⟩ := h; subst e; rfl) | (obtain ⟨_, _, _, _, _, _, _, e, _⟩ := h; subst e; rfl) | (obtain ⟨_, _, _, _, _, _, _, _, e, _⟩ := h; subst e; rfl) | (obtain ⟨_, _, _, _, _, _, _, _, _, e, _⟩ := h; subst e; rfl) | (obtain ⟨_, _, _, _, _, _, _, _, _, _, e, _⟩ := h; subst e; rfl) | (obtain ⟨_, _, _, _, _, _, _, _, _, _, _, e, _⟩ := h; subst e; rfl) | (obtain ⟨_, _, _, _, _, _, _, _, _, _, _, _, e, _⟩ := h; subst e; rfl) | (obtain ⟨_, _, _, _, _, _, _, _, _, _, _, _, _, e, _⟩ := h; subst e; rfl) | (obtain ⟨_, _, _, _, _, _, _, _, _, _, _, _, _, _, e, _⟩ := h; subst e; rfl) | (obtain ⟨_, _, _, _, _, _, _, _, _, _, _, _, _, _, _, e, _⟩ := h; subst e; rfl)))
local macro_rules | `(tactic| walk_at "ns") => `(tactic| (try dsimp only [Op.kind, Tp.word, Rec.top]); decide +kernel)
section
variable {P : Program} {w : World} {K : PySem.W.Frag} {base : Heap} {mg : Str → Option Value}
def sp_Table_init (K : PySem.W.Frag) : Sp := fun vs H Q _ => ∃ (p dx l : Addr) (rs : List Rec), vs = [.ref p, .ref l] ∧ H p = some (.ins (He.ga K "Table") dx []) ∧ RecL H l rs ∧ Asc rs ∧ rs.length < 64 ∧
  ∀ (H' : Hp) (as : List Addr) (dr : Addr) (L : List Trip), TblAt K H' p as rs dr L → H' dr = some (.dT (L.map kvOf)) → (∀ b o, H b = some o → b ≠ p → H' b = some o) → Q .non H'
theorem sc_Table_init : FnScope ["self", "records", "ordered", "record", "order", "topic", "value", "rows"] ["self", "records"] (defScope s_Table_init) := C8.fnScope_by (by decide +kernel)
theorem c_Table_init (T : Tx w K mg) : Mak P w K mg base 3 "Table" (He.ga K "Table") (sp_Table_init K) [] := by
  refine K_Table_init T sc_Table_init (fun _ _ _ _ _ _ us hl => match us, hl with | [_, _], _ => rfl) (by walk_at "len") (fun cdv A outer s H vs Q E hr h => ?_)
  have nd := sc_Table_init.nd
  have hu := hu_of hr
  refine ⟨_, (pss_cons (ps_set (i := 2) nd rfl (Or.inr rfl) (pe_dc (own := [("record", 3)]) rfl nd (pi_list (pv 1)) (blkOk_by (N := (["self", "records", "ordered", "record", "order", "topic", "value", "rows"] : List Str)) (sc := (defScope s_Table_init)) (by decide +kernel)) (fun _ _ _ _ _ => (pg_name (i := 3) nd rfl (Or.inl rfl))) (fun _ _ _ _ _ => pts_nil) (fun _ _ _ _ _ => (pe_ix (ix_tupK (K := K) rfl) (pv 3) pe_int (fun _ _ => rfl))) (fun _ _ _ _ _ => (pv 3))))
      (pss_cons (ps_fld (pv 0) (pe_lc (own := [("order", 4)]) rfl nd (pi_list (pe_callB (call_sortedDI rfl) (by rfl) (b_sorted T) (by decide +kernel) (pa_cons (pv 2) pa_nil))) (blkOk_by (N := (["self", "records", "ordered", "record", "order", "topic", "value", "rows"] : List Str)) (sc := (defScope s_Table_init)) (by decide +kernel)) (fun _ _ _ _ _ => (pg_name (i := 4) nd rfl (Or.inl rfl))) (fun _ _ _ _ _ => pts_nil) (fun _ _ _ _ _ => (pe_dget hu (pv 2) (pv 4) (fun _ _ => rfl)))) rfl)
      (pss_cons (ps_fld (pv 0) pe_dnewT rfl)
      (pss_cons (ps_fld (pv 0) pe_dnewK rfl)
      (pss_cons (ps_for PassesOwn.never rfl (pi_list (pe_fld (pv 0) rfl)) (pg_name (i := 3) nd rfl (Or.inl rfl)) (pss_one (ps_for PassesOwn.never rfl (pi_list (C8.pe_c (c_effects T) hr (by decide) (by rfl) (pa_cons (pv 3) pa_nil))) (pg_tup rfl (pgs_cons (pg_name (i := 5) nd rfl (Or.inl rfl)) (pgs_cons (pg_name (i := 6) nd rfl (Or.inl rfl)) pgs_nil))) (pss_cons (ps_expr (pe_bm PySem.F.plainAttrs_list PySem.F.slot_list_append PySem.F.type_list_append mt_append (pe_setdT hu (pe_fld (pv 0) rfl) (pv 5) (pe_lst pa_nil) ⟨rfl, rfl, rfl, rfl⟩) (pa_cons (pe_tup (pa_cons (pe_ix ix_tup (pv 3) pe_int (fun _ _ => rfl)) (pa_cons (pv 6) pa_nil))) pa_nil)))
      (pss_one (ps_if (pt_cmpR op_notIn_seq (pe_ix ix_tup (pv 5) pe_int (fun _ _ => rfl)) (C8.pe_gc (by rfl) (g_HOST_TOPICS T)) (by rfl)) (pss_one (ps_expr (pe_dsetd (pe_fld (pv 0) rfl) (pe_ix ix_tup (pv 5) pe_int (fun _ _ => rfl)) (pe_ix ix_tup (pv 3) pe_int (fun _ _ => rfl)) ⟨rfl, rfl, rfl, rfl⟩))) pss_nil))))))
      (pss_cons (ps_fld (pv 0) pe_dnewK rfl)
      (pss_one (ps_lock (ps_for PassesOwn.never rfl (pi_pairsT (pe_fld (pv 0) rfl)) (pg_tup rfl (pgs_cons (pg_name (i := 5) nd rfl (Or.inl rfl)) (pgs_cons (pg_name (i := 7) nd rfl (Or.inl rfl)) pgs_nil))) (pss_one (ps_if (PW.pt (pw_and (pt_cmpR op_eq (pe_ix ix_tup (pv 5) pe_int (fun _ _ => rfl)) pe_str (nomark _)) (pw_and (pt_cmp (pc_notN (pe_ix ix_tup (pe_ix ix_list (pv 7) (pe_un un_neg pe_int) (fun _ _ => rfl)) pe_int (fun _ _ => rfl)))) (pw_and1 (pt_not (pt_val (C8.pe_mt (c_Table_is_hidden T) hr (by decide) (pv 0) (pa_cons (pv 5) (pa_cons (pe_ix ix_tup (pe_ix ix_list (pv 7) (pe_un un_neg pe_int) (fun _ _ => rfl)) pe_int (fun _ _ => rfl)) (pa_cons pe_non pa_nil)))))))))) (pss_one (ps_expr (pe_bm PySem.F.plainAttrs_list PySem.F.slot_list_append PySem.F.type_list_append mt_append (pe_dsetd (pe_fld (pv 0) rfl) (pe_ix ix_tup (pv 5) pe_int (fun _ _ => rfl)) (pe_lst pa_nil) ⟨rfl, rfl, rfl, rfl⟩) (pa_cons (pe_ix ix_tup (pv 5) pe_int (fun _ _ => rfl)) pa_nil)))) pss_nil))))))))))), ?_⟩
  obtain ⟨p, dx, l, rs, rfl, hp, ⟨as, hl, hrs⟩, asc, h64, k⟩ := h
  have hlen : as.length = rs.length := Paired.length hrs
  -- ordered = {record[0]: record for record in records}
  refine ⟨_, rfl, l, rfl, ⟨_, SqL.of hl⟩, fun D hD => dc_list (K := K) (a := l) (xs := as.map V.ref) (fun i H' => H' = upd H D (.dK ((ordKV as rs).take i))) rfl (fun i H' _ e => by rw [e]; exact SqL.of (upd_old hl hD)) ?_ ?_⟩
  · rintro i x H' hx rfl
    obtain ⟨a, ha, rfl⟩ := refs_i hx
    obtain ⟨r, hr, hR⟩ := L2.paired_get hrs ha
    obtain ⟨v0, _⟩ := vals_at r
    refine ⟨rfl, yesT ?_⟩
    refine ⟨_, rfl, a, _, 0, _, rfl, rfl, SqT.of (upd_old hR hD), at_of (j := 0) rfl v0, _, rfl, (ordKV as rs).take i, Sum.inl r.ord, rfl, upd_same, ?_, ?_⟩
    · have : ((ordKV as rs).take i).length ≤ (ordKV as rs).length := by rw [List.length_take]; exact Nat.min_le_right _ _
      have : (ordKV as rs).length ≤ 64 := by unfold ordKV; rw [List.length_zipWith]; omega
      exact small1000 (by omega)
    · rw [upd_upd, ordKV_put hlen asc ha hr]
  rintro H' rfl
  rw [List.length_map, hlen, List.take_of_length_le (by unfold ordKV; rw [List.length_zipWith]; omega)]
  -- self.records = [ordered[order] for order in sorted(ordered)]
  have hlO : (ordKV as rs).length = rs.length := by unfold ordKV; rw [List.length_zipWith]; omega
  refine ⟨_, rfl, D, ordKV as rs, rs.map (·.ord), rfl, .inl upd_same, ordKV_keys hlen, by rw [List.length_map]; exact h64, fun ys c perm srt hc => ?_⟩
  obtain rfl : ys = rs.map (·.ord) := List.Perm.eq_of_pairwise (fun a b _ _ h1 h2 => Int.le_antisymm h1 h2) srt (asc.ords.imp fun e => Int.le_of_lt e) perm
  refine ⟨c, rfl, ⟨_, SqL.of upd_same⟩, fun D2 hD2 => lc_list (K := K) (a := c) (xs := (rs.map (·.ord)).map V.int) (fun i H' => H' = upd (upd (upd H D (.dK (ordKV as rs))) c (.lst ((rs.map (·.ord)).map V.int))) D2 (.lst ((as.take i).map V.ref))) rfl (fun i H' _ e => by rw [e]; exact SqL.of (upd_old upd_same hD2)) ?_ ?_⟩
  · rintro i x H' hx rfl
    obtain ⟨n, hn, rfl⟩ := ints_i hx
    rw [List.getElem?_map] at hn
    obtain ⟨r, hr, rfl⟩ := Option.map_eq_some_iff.mp hn
    have hil : i < as.length := by rw [hlen]; exact (List.getElem?_eq_some_iff.mp hr).1
    have ha : as[i]? = some as[i] := List.getElem?_eq_getElem hil
    refine ⟨rfl, yesT ?_⟩
    refine ⟨_, rfl, _, rfl, D, .ref as[i], rfl, ?_, _, upd_same, ?_, ?_⟩
    · rw [← val_mem (ordKV_nodup hlen asc) (List.mem_of_getElem? (ordKV_at ha hr))]
      exact DGet.k (k := .inl r.ord) (upd_old (upd_old upd_same hc) hD2)
    · rw [List.length_map, List.length_take]; exact small1000 (by omega)
    · rw [upd_upd, List.take_add_one, ha, List.map_append] <;> rfl
  rintro H' rfl
  rw [List.length_map, List.length_map, ← hlen, List.take_length]
  have hp3 : (upd (upd (upd H D (.dK (ordKV as rs))) c (.lst ((rs.map (·.ord)).map V.int))) D2 (.lst (as.map V.ref))) p = some (.ins (He.ga K "Table") dx []) := upd_old (upd_old (upd_old hp hD) hc) hD2
  have hR3 : RecsAt (upd (upd (upd H D (.dK (ordKV as rs))) c (.lst ((rs.map (·.ord)).map V.int))) D2 (.lst (as.map V.ref))) as rs := RecsAt.keep hrs (same_imm (same_upd' (same_upd' (same_upd hD) hc) hD2))
  have hl3 : (upd (upd (upd H D (.dK (ordKV as rs))) c (.lst ((rs.map (·.ord)).map V.int))) D2 (.lst (as.map V.ref))) D2 = some (.lst (as.map V.ref)) := upd_same
  have s3 : Same H (upd (upd (upd H D (.dK (ordKV as rs))) c (.lst ((rs.map (·.ord)).map V.int))) D2 (.lst (as.map V.ref))) := same_upd' (same_upd' (same_upd hD) hc) hD2
  have n1 : p ≠ D2 := ne_of_none (upd_old (upd_old hp hD) hc) hD2
  revert hp3 hR3 hl3 s3
  generalize (upd (upd (upd H D (.dK (ordKV as rs))) c (.lst ((rs.map (·.ord)).map V.int))) D2 (.lst (as.map V.ref))) = H3
  intro hp3 hR3 hl3 s3
  refine ⟨_, rfl, p, _, dx, [], rfl, hp3, cls_Table T, at_Table_records T, by decide, ?_⟩
  refine fun dr hdr => ⟨_, rfl, p, _, dx, _, rfl, upd_old upd_same hdr, cls_Table T, at_Table_rows T, by show 1 < 1000; decide, ?_⟩
  refine fun do_ hdo => ⟨_, rfl, p, _, dx, _, rfl, upd_old upd_same hdo, cls_Table T, at_Table_oldest T, by show 2 < 1000; decide, ?_⟩
  have ndp : dr ≠ p := (ne_of_none upd_same hdr).symm
  have nop : do_ ≠ p := (ne_of_none upd_same hdo).symm
  have hBp := upd_same (H := upd (upd (upd (upd H3 p (.ins (He.ga K "Table") dx (putF "records" (V.ref D2) []))) dr (.dT [])) p (.ins (He.ga K "Table") dx (putF "rows" (V.ref dr) (putF "records" (V.ref D2) [])))) do_ (.dK [])) (a := p) (o := .ins (He.ga K "Table") dx (putF "oldest" (V.ref do_) (putF "rows" (V.ref dr) (putF "records" (V.ref D2) []))))
  have hdr0 : (upd (upd (upd H3 p (.ins (He.ga K "Table") dx (putF "records" (V.ref D2) []))) dr (.dT [])) p (.ins (He.ga K "Table") dx (putF "rows" (V.ref dr) (putF "records" (V.ref D2) [])))) dr = some (.dT []) := by rw [upd_ne ndp]; exact upd_same
  have hne : dr ≠ do_ := ne_of_none hdr0 hdo
  have hBdr : (upd (upd (upd (upd (upd H3 p (.ins (He.ga K "Table") dx (putF "records" (V.ref D2) []))) dr (.dT [])) p (.ins (He.ga K "Table") dx (putF "rows" (V.ref dr) (putF "records" (V.ref D2) [])))) do_ (.dK [])) p (.ins (He.ga K "Table") dx (putF "oldest" (V.ref do_) (putF "rows" (V.ref dr) (putF "records" (V.ref D2) []))))) dr = some (.dT []) := by
    rw [upd_ne ndp]; exact upd_old hdr0 hdo
  have hBdo : (upd (upd (upd (upd (upd H3 p (.ins (He.ga K "Table") dx (putF "records" (V.ref D2) []))) dr (.dT [])) p (.ins (He.ga K "Table") dx (putF "rows" (V.ref dr) (putF "records" (V.ref D2) [])))) do_ (.dK [])) p (.ins (He.ga K "Table") dx (putF "oldest" (V.ref do_) (putF "rows" (V.ref dr) (putF "records" (V.ref D2) []))))) do_ = some (.dK []) := by
    rw [upd_ne nop]; exact upd_same
  have hBf : ∀ b o, H3 b = some o → b ≠ p → (upd (upd (upd (upd (upd H3 p (.ins (He.ga K "Table") dx (putF "records" (V.ref D2) []))) dr (.dT [])) p (.ins (He.ga K "Table") dx (putF "rows" (V.ref dr) (putF "records" (V.ref D2) [])))) do_ (.dK [])) p (.ins (He.ga K "Table") dx (putF "oldest" (V.ref do_) (putF "rows" (V.ref dr) (putF "records" (V.ref D2) []))))) b = some o := fun b o e z => by
    have a1 := upd_old (o := .dT []) (by rw [upd_ne z]; exact e : (upd H3 p (.ins (He.ga K "Table") dx (putF "records" (V.ref D2) []))) b = some o) hdr
    have a2 : (upd (upd (upd H3 p (.ins (He.ga K "Table") dx (putF "records" (V.ref D2) []))) dr (.dT [])) p (.ins (He.ga K "Table") dx (putF "rows" (V.ref dr) (putF "records" (V.ref D2) [])))) b = some o := by rw [upd_ne z]; exact a1
    rw [upd_ne z]
    exact upd_old a2 hdo
  revert hBp hBdr hBdo hBf
  generalize (upd (upd (upd (upd (upd H3 p (.ins (He.ga K "Table") dx (putF "records" (V.ref D2) []))) dr (.dT [])) p (.ins (He.ga K "Table") dx (putF "rows" (V.ref dr) (putF "records" (V.ref D2) [])))) do_ (.dK [])) p (.ins (He.ga K "Table") dx (putF "oldest" (V.ref do_) (putF "rows" (V.ref dr) (putF "records" (V.ref D2) []))))) = B
  intro hBp hBdr hBdo hBf
  have hBl : B D2 = some (.lst (as.map V.ref)) := hBf _ _ hl3 n1.symm
  have hBr : RecsAt B as rs := mapP hR3 fun a r e => hBf _ _ e (ne_of e hp3 fun z => nomatch z)
  have S0 : StayS (fun b => B b ≠ none ∧ b ≠ dr ∧ b ≠ do_) B dr do_ := fun b s => s
  have st {H' : Hp} {L : List Trip} {T : Tb} {n : Nat} (I : TbI (fun b => B b ≠ none ∧ b ≠ dr ∧ b ≠ do_) B H' L dr do_ T n) {b : Addr} {o : HO} (e : B b = some o) (z1 : b ≠ dr) (z2 : b ≠ do_) : H' b = some o := (I.kp b ⟨by rw [e]; exact Option.some_ne_none _, z1, z2⟩).trans e
  have tupS {H' : Hp} {L : List Trip} {T : Tb} {n : Nat} (I : TbI (fun b => B b ≠ none ∧ b ≠ dr ∧ b ≠ do_) B H' L dr do_ T n) {b : Addr} {xs : List V} (e : B b = some (.tup xs)) : H' b = some (.tup xs) := st I e (ne_of e hBdr fun z => nomatch z) (ne_of e hBdo fun z => nomatch z)
  have lstS {H' : Hp} {L : List Trip} {T : Tb} {n : Nat} (I : TbI (fun b => B b ≠ none ∧ b ≠ dr ∧ b ≠ do_) B H' L dr do_ T n) : H' D2 = some (.lst (as.map V.ref)) := st I hBl (ne_of hBl hBdr fun z => nomatch z) (ne_of hBl hBdo fun z => nomatch z)
  have insS {H' : Hp} {L : List Trip} {T : Tb} {n : Nat} (I : TbI (fun b => B b ≠ none ∧ b ≠ dr ∧ b ≠ do_) B H' L dr do_ T n) := st I hBp (ne_of hBp hBdr fun z => nomatch z) (ne_of hBp hBdo fun z => nomatch z)
  refine ⟨_, rfl, p, _, dx, _, _, rfl, hBp, cls_Table T, at_Table_records T, rfl, D2, rfl, ⟨_, SqL.of hBl⟩, ?_⟩
  refine for_list (K := K) (a := D2) (xs := as.map V.ref) (fun i σ H' => ∃ L v3 v5 v6, σ = [some (.ref p), some (.ref l), some (.ref D), v3, none, v5, v6, none] ∧ TbI (fun b => B b ≠ none ∧ b ≠ dr ∧ b ≠ do_) B H' L dr do_ (tabOf (rs.take i)) (2 * i)) ?_ ?_ ?_ ?_
  · exact ⟨[], none, none, none, rfl, ⟨⟨fun x h => (List.not_mem_nil h).elim, .nil, .nil⟩, hBdr, ⟨[], hBdo, .inl rfl⟩, fun _ _ => rfl, fun x h => (List.not_mem_nil h).elim, rfl, Nat.le_refl _, fun x h => (List.not_mem_nil h).elim⟩⟩
  · rintro i σ H' _ ⟨L, _, _, _, _, I⟩
    exact SqL.of (lstS I)
  · rintro i x σ H' hx ⟨L, v3, v5, v6, rfl, I⟩
    obtain ⟨a, ha, rfl⟩ := refs_i hx
    obtain ⟨r, hr, hR⟩ := L2.paired_get hBr ha
    refine ⟨_, rfl, a, r, rfl, tupS I hR, fun l0 E1 sE fE ⟨p1, p2, hv, n, el0, ef1, _, _, ef2⟩ => ⟨l0, rfl, ⟨_, SqL.of el0⟩, ?_⟩⟩
    have I1 := I.more S0 sE
    have hR1 := tupS I1 hR
    obtain ⟨v0, _⟩ := vals_at r
    have sz2 : 2 ≤ sizeLine := by decide
    have l0L : ∀ x ∈ L, l0 ≠ x.2.1 := fun x hx z => by
      obtain ⟨ps, hl, _⟩ := I.tab.rows x hx
      rw [← z, fE] at hl
      cases hl
    have nS {b : Addr} {o : HO} (e : E1 b = some o) (d : ∀ kvs, o ≠ .dT kvs) (d2 : ∀ kvs, o ≠ .dK kvs) (d3 : ∀ x ∈ L, b ≠ x.2.1) : E1 b ≠ none ∧ b ≠ dr ∧ b ≠ do_ ∧ ∀ x ∈ L, b ≠ x.2.1 := by
      obtain ⟨ob, hob, _⟩ := I1.old
      exact ⟨by rw [e]; exact Option.some_ne_none _, ne_of e I1.dr (d _), ne_of e hob (d2 _), d3⟩
    have nT {b : Addr} {xs : List V} (e : E1 b = some (.tup xs)) : E1 b ≠ none ∧ b ≠ dr ∧ b ≠ do_ ∧ ∀ x ∈ L, b ≠ x.2.1 := nS e (fun _ z => nomatch z) (fun _ z => nomatch z) fun x hx => by
      obtain ⟨ps, hl, _⟩ := I1.tab.rows x hx
      exact ne_of e hl fun z => nomatch z
    have S1 : StayS (fun b => E1 b ≠ none ∧ b ≠ dr ∧ b ≠ do_ ∧ ∀ x ∈ L, b ≠ x.2.1) E1 dr do_ := fun b s => ⟨s.1, s.2.1, s.2.2.1⟩
    refine for_list (K := K) (a := l0) (xs := [.ref p1, .ref p2]) (fun j σ H' => ∃ L' v5 v6, σ = [some (.ref p), some (.ref l), some (.ref D), some (.ref a), none, v5, v6, none] ∧
      TbI (fun b => E1 b ≠ none ∧ b ≠ dr ∧ b ≠ do_ ∧ ∀ x ∈ L, b ≠ x.2.1) E1 H' L' dr do_ (([(Tp.host r.host, true), (r.top, r.has)].take j).foldl (fun T e => addRow T e.1 r.ord e.2) (tabOf (rs.take i))) (2 * i + j)) ?_ ?_ ?_ ?_
    · exact ⟨L, v5, v6, rfl, I1.tab, I1.dr, I1.old, fun _ _ => rfl, fun x hx s => s.2.2.2 x hx rfl, I1.eq, I1.len, I1.lens⟩
    · rintro j σ H' _ ⟨L', _, _, _, J⟩
      exact SqL.of ((J.kp l0 (nS el0 (fun _ z => nomatch z) (fun _ z => nomatch z) l0L)).trans el0)
    · rintro j x σ H' hx ⟨L', v5, v6, rfl, J⟩
      obtain ⟨pj, t, v, b, rfl, ef, hv, ej⟩ : ∃ pj t v b, x = .ref pj ∧ EffAt E1 pj t v ∧ decide (v = .non) = !b ∧ ([(Tp.host r.host, true), (r.top, r.has)] : List (Tp × Bool))[j]? = some (t, b) := by
        match j, hx with
        | 0, hx => exact ⟨p1, _, _, true, (Option.some.inj hx).symm, ef1, rfl, rfl⟩
        | 1, hx => exact ⟨p2, _, _, r.has, (Option.some.inj hx).symm, ef2, by obtain ⟨_, _, _, o⟩ := r; cases o <;> rfl, rfl⟩
      obtain ⟨q, hpj, hq⟩ := ef
      have kJ {b : Addr} {xs : List V} (e : E1 b = some (.tup xs)) : H' b = some (.tup xs) := (J.kp b (nT e)).trans e
      refine ⟨pj, _, rfl, SqT.of (kJ hpj), rfl, _, _, rfl, _, _, rfl, rfl, ?_⟩
      have insJ {H' : Hp} {L' : List Trip} {T : Tb} {n : Nat} (J : TbI (fun b => E1 b ≠ none ∧ b ≠ dr ∧ b ≠ do_ ∧ ∀ x ∈ L, b ≠ x.2.1) E1 H' L' dr do_ T n) := (J.kp p (nS (insS I1) (fun _ z => nomatch z) (fun _ z => nomatch z) fun x hx => by
        obtain ⟨ps, hl, _⟩ := I1.tab.rows x hx
        exact ne_of (insS I1) hl fun z => nomatch z)).trans (insS I1)
      have Ln : L'.length ≤ 2 * i + j := by have := J.len; rw [← J.eq, List.length_map] at this; exact this
      have il : i < rs.length := by
        have := (List.getElem?_eq_some_iff.mp ha).1
        omega
      have j2 : j < 2 := by
        have := (List.getElem?_eq_some_iff.mp hx).1
        exact this
      refine ⟨_, rfl, p, _, dx, _, _, rfl, insJ J, cls_Table T, at_Table_rows T, rfl, dr, rfl, .inr ⟨_, .inl J.dr⟩, _, rfl, by decide, fun n0 hn0 => ?_⟩
      refine ⟨L'.map kvOf, t.key, q, upd_old J.dr hn0, rfl, upd_old (kJ hq) hn0, small1000 (by rw [List.length_map]; omega), fun y hy => ?_, fun hy => ?_⟩
      all_goals first | obtain ⟨l1, ps, e1, hl1, hps, kt, row⟩ := TbI.row S1 hne J (o := r.ord) hv hn0 (.inl ⟨hy, rfl⟩) | obtain ⟨l1, ps, e1, hl1, hps, kt, row⟩ := TbI.row S1 hne J (o := r.ord) hv hn0 (.inr ⟨hy, rfl, rfl⟩)
      all_goals cases e1
      all_goals (
        refine ⟨.inl ⟨rfl, _, SqL.of hl1⟩, ?_⟩
        refine ⟨_, rfl, a, _, 0, _, rfl, rfl, SqT.of (kt _ _ (kJ hR1)), at_of (j := 0) rfl v0, _, rfl, sz2, fun c1 hc1 => ?_⟩
        refine ⟨_, ps, .ref c1, rfl, rfl, upd_old hl1 hc1, small1000 (by omega), ?_⟩
        obtain ⟨L2, J2⟩ := row c1 hc1
        generalize (upd (upd _ c1 (.tup [.int r.ord, v])) _ (.lst (ps ++ [.ref c1]))) = G4 at J2 ⊢
        have J2 : TbI (fun b => E1 b ≠ none ∧ b ≠ dr ∧ b ≠ do_ ∧ ∀ x ∈ L, b ≠ x.2.1) E1 G4 L2 dr do_ _ _ := J2
        have e3 : (([(Tp.host r.host, true), (r.top, r.has)].take (j + 1)).foldl (fun T e => addRow T e.1 r.ord e.2) (tabOf (rs.take i))) = addRow (([(Tp.host r.host, true), (r.top, r.has)].take j).foldl (fun T e => addRow T e.1 r.ord e.2) (tabOf (rs.take i))) t r.ord b := by
          rw [List.take_add_one, ej, List.foldl_append] <;> rfl
        have k2 {b : Addr} {xs : List V} (e : E1 b = some (.tup xs)) : G4 b = some (.tup xs) := (J2.kp b (nT e)).trans e
        have J3 := e3 ▸ J2
        refine ⟨_, rfl, q, _, 0, _, rfl, rfl, SqT.of (k2 hq), at_of (j := 0) rfl (key_word t), _, _, rfl, .inr (k_TOPICS T _), rfl, flat_topics, _, rfl, ?_⟩
        rw [if_pos rfl, in_topicsN]
        by_cases cc : ∃ i, t = .host i
        · obtain ⟨i', rfl⟩ := cc
          exact iteF ⟨L2, _, _, rfl, J3⟩
        have c' : ∀ i, t ≠ .host i := fun i e => cc ⟨i, e⟩
        refine ite_t (by cases t <;> first | rfl | exact absurd rfl (c' _)) ?_
        obtain ⟨ob, hob, cob⟩ := J2.old
        refine ⟨_, rfl, p, _, dx, _, _, rfl, insJ J2, cls_Table T, at_Table_oldest T, rfl, do_, rfl, .inl ⟨_, .inl hob⟩, _, rfl, q, _, 1, _, rfl, rfl, SqT.of (k2 hq), at_of (j := 1) rfl (key_five t c'), _, rfl, a, _, 0, _, rfl, rfl, SqT.of (k2 hR1), at_of (j := 0) rfl v0, ob, .inl 5, hob, rfl, ?_, fun v' hv' => ⟨L2, _, _, rfl, J3⟩, fun hn' => ?_⟩
        · rcases cob with rfl | ⟨_, rfl⟩ <;> exact small1000 (by simp)
        · rcases cob with rfl | ⟨_, rfl⟩
          · exact ⟨L2, _, _, rfl, J3.aged S1 hne _⟩
          · exact absurd hn' (by rw [valV_pos rfl]; exact Option.some_ne_none _))
    · rintro σ H' ⟨L', v5, v6, rfl, J⟩
      have ea : rs[i]? = some r := hr
      have ed : tabOf (rs.take (i + 1)) = ([(Tp.host r.host, true), (r.top, r.has)].take 2).foldl (fun T e => addRow T e.1 r.ord e.2) (tabOf (rs.take i)) := by
        rw [List.take_add_one, ea]
        exact tabOf_snoc _ _
      have sS : ∀ b, (B b ≠ none ∧ b ≠ dr ∧ b ≠ do_) → (E1 b ≠ none ∧ b ≠ dr ∧ b ≠ do_ ∧ ∀ x ∈ L, b ≠ x.2.1) := fun b s => ⟨by rw [I1.kp b s]; exact s.1, s.2.1, s.2.2, fun x hx z => I.nw x hx (z ▸ s)⟩
      exact ⟨L', _, _, _, rfl, J.tab, J.dr, J.old, fun b s => (J.kp b (sS b s)).trans (I1.kp b s), fun x hx s => J.nw x hx (sS _ s), J.eq.trans ed.symm, ed ▸ J.len, ed ▸ J.lens⟩
  rintro σ H' ⟨L, v3, v5, v6, rfl, I⟩
  rw [List.length_map, hlen, List.take_length] at I
  refine fun ds hds => ⟨_, rfl, p, _, dx, _, rfl, upd_old (insS I) hds, cls_Table T, at_Table_snapshots T, by show 3 < 1000; decide, ?_⟩
  have dsp : ds ≠ p := (ne_of_none (insS I) hds).symm
  have dsr : ds ≠ dr := (ne_of_none I.dr hds).symm
  refine ⟨dr, .dT (L.map kvOf), by rw [upd_ne ndp]; exact upd_old I.dr hds, trivial, fun od => ?_⟩
  have hGp : (upd (upd (upd H' ds (.dK [])) p (.ins (He.ga K "Table") dx (tbF D2 dr do_ ds))) dr (.frz od (.dT (L.map kvOf)))) p = some (.ins (He.ga K "Table") dx (tbF D2 dr do_ ds)) := by rw [upd_ne ndp.symm]; exact upd_same
  have hGd : (upd (upd (upd H' ds (.dK [])) p (.ins (He.ga K "Table") dx (tbF D2 dr do_ ds))) dr (.frz od (.dT (L.map kvOf)))) ds = some (.dK []) := by rw [upd_ne dsr, upd_ne dsp]; exact upd_same
  have hGr : (upd (upd (upd H' ds (.dK [])) p (.ins (He.ga K "Table") dx (tbF D2 dr do_ ds))) dr (.frz od (.dT (L.map kvOf)))) dr = some (.frz od (.dT (L.map kvOf))) := upd_same
  have hGf : ∀ b o, H' b = some o → b ≠ p → b ≠ dr → (upd (upd (upd H' ds (.dK [])) p (.ins (He.ga K "Table") dx (tbF D2 dr do_ ds))) dr (.frz od (.dT (L.map kvOf)))) b = some o := fun b o e z1 z2 => by
    rw [upd_ne z2, upd_ne z1]
    exact upd_old e hds
  show tFor _ _ _ _ _ (upd (upd (upd H' ds (.dK [])) p (.ins (He.ga K "Table") dx (tbF D2 dr do_ ds))) dr (.frz od (.dT (L.map kvOf))))
  revert hGp hGd hGr hGf
  generalize (upd (upd (upd H' ds (.dK [])) p (.ins (He.ga K "Table") dx (tbF D2 dr do_ ds))) dr (.frz od (.dT (L.map kvOf)))) = G0
  intro hGp hGd hGr hGf
  have tG : TabAt G0 L := I.tab.lt (fun b xs e => hGf b _ e (ne_of e (insS I) fun z => nomatch z) (ne_of e I.dr fun z => nomatch z)) (fun b xs e => hGf b _ e (ne_of e (insS I) fun z => nomatch z) (ne_of e I.dr fun z => nomatch z))
  refine ⟨_, rfl, p, _, dx, _, _, rfl, hGp, cls_Table T, at_Table_rows T, rfl, dr, od, L.map kvOf, rfl, hGr, ?_⟩
  refine for_pairsT (fun i σ H2 => ∃ v3 v5 v6 v7, σ = [some (.ref p), some (.ref l), some (.ref D), v3, none, v5, v6, v7] ∧ (∀ b o, G0 b = some o → b ≠ ds → H2 b = some o) ∧
    ((snapsOf ((tabOf rs).take i) = [] ∧ H2 ds = some (.dK [])) ∨ (snapsOf ((tabOf rs).take i) ≠ [] ∧ ∃ sl, H2 ds = some (.dK [(.inl 5, .ref sl)]) ∧ H2 sl = some (.lst ((snapsOf ((tabOf rs).take i)).map V.int)) ∧ G0 sl = none))) ?_ ?_ ?_ ?_
  · exact ⟨v3, v5, v6, none, rfl, fun b o e _ => e, .inl ⟨rfl, hGd⟩⟩
  · rintro i σ H2 _ ⟨_, _, _, _, _, fr, _⟩
    exact fr _ _ hGr dsr.symm
  · rintro i kk vv t0 q σ H2 hi ⟨w3, w5, w6, w7, rfl, fr, sn⟩ hq ht0
    rw [List.getElem?_map] at hi
    obtain ⟨x, hx, ex⟩ := Option.map_eq_some_iff.mp hi
    obtain rfl : x.1.key = kk := congrArg (·.1) ex
    obtain rfl : V.ref x.2.1 = vv := congrArg (·.2) ex
    have hxm := List.mem_of_getElem? hx
    have hT : (tabOf rs)[i]? = some (tOf x) := by rw [← I.eq, List.getElem?_map, hx] <;> rfl
    have hxne : x.2.2 ≠ [] := tabOf_ne rs (tOf x) (List.mem_of_getElem? hT)
    have tn : ∀ b o, G0 b = some o → b ≠ ds → (upd H2 t0 (.tup [.ref q, .ref x.2.1])) b = some o := fun b o e z => upd_old (fr b o e z) ht0
    have tab2 : TabAt (upd H2 t0 (.tup [.ref q, .ref x.2.1])) L := tG.lt (fun b xs e => tn b _ e (ne_of e hGd fun z => nomatch z)) (fun b xs e => tn b _ e (ne_of e hGd fun z => nomatch z))
    have hq2 := upd_old (o := .tup [.ref q, .ref x.2.1]) hq ht0
    obtain ⟨ps, pl, v, hl, hat, hpl, hv, _⟩ := (tab2.rows x hxm).last hxne
    refine ⟨t0, _, rfl, SqT.of upd_same, rfl, _, _, rfl, _, _, rfl, rfl, ?_⟩
    refine ⟨_, rfl, q, _, 0, _, rfl, rfl, SqT.of hq2, at_of (j := 0) rfl (key_word x.1), rfl, _, rfl, ?_⟩
    have tk := snaps_take hT
    have snS : ∀ {H3 : Hp}, (∀ b o, H2 b = some o → H3 b = some o) → snapIf (tOf x) = none → ((snapsOf ((tabOf rs).take (i + 1)) = [] ∧ H3 ds = some (.dK [])) ∨ (snapsOf ((tabOf rs).take (i + 1)) ≠ [] ∧ ∃ sl, H3 ds = some (.dK [(.inl 5, .ref sl)]) ∧ H3 sl = some (.lst ((snapsOf ((tabOf rs).take (i + 1))).map V.int)) ∧ G0 sl = none)) := fun {H3} s3 e => by
      rw [tk, e, Option.toList_none, List.append_nil]
      exact sn.imp (fun ⟨a, b⟩ => ⟨a, s3 _ _ b⟩) fun ⟨a, sl, b, c, d⟩ => ⟨a, sl, s3 _ _ b, s3 _ _ c, d⟩
    by_cases cs : ∃ n, x.1 = .snap n
    · obtain ⟨n, en⟩ := cs
      refine ite_t (by rw [word_snap, en]) ?_
      refine ⟨_, rfl, 1, rfl, x.2.1, ps, -1, .ref pl, rfl, rfl, SqL.of hl, hat, pl, _, 1, v, rfl, rfl, SqT.of hpl, at_of (j := 1) rfl rfl, _, rfl, ?_⟩
      rw [hv, Bool.not_not]
      by_cases lh : lastHas x.2.2 = true
      · refine ite_t lh ?_
        have hp2 := tn _ _ hGp dsp.symm
        refine ⟨_, rfl, p, dx, _, rfl, hp2, rfl, _, rfl, _, rfl, 1, rfl, x.2.1, ps, -1, .ref pl, rfl, rfl, SqL.of hl, hat, pl, _, 0, _, rfl, rfl, SqT.of hpl, at_of (j := 0) rfl rfl, ?_⟩
        refine ⟨p, q, dr, L, x.1, lastOrd x.2.2, .non, rfl, ⟨dx, _, hp2, rfl⟩, .inr ⟨od, tn _ _ hGr dsr.symm⟩, hq2, fun H3 s3 => ?_⟩
        have eS : snapIf (tOf x) = some n := by
          show (match x.1 with | .snap n => if lastHas x.2.2 = true then some n else none | _ => none) = _
          rw [en]
          exact if_pos lh
        rw [eS] at tk
        have hq3 := s3 _ _ hq2
        rw [en] at hq3
        have hs3 : ∀ b o, H2 b = some o → H3 b = some o := fun b o e => s3 _ _ (upd_old e ht0)
        have hp3' := s3 _ _ hp2
        refine ⟨_, rfl, iteT ?_⟩
        refine ⟨_, rfl, p, _, dx, _, _, rfl, hp3', cls_Table T, at_Table_snapshots T, rfl, ds, rfl, ?_⟩
        have hr3 := hs3 _ _ (fr _ _ hGr dsr.symm)
        rcases sn with ⟨e0, b0⟩ | ⟨e0, sl, b0, c0, d0⟩
        · have hb3 := hs3 _ _ b0
          refine ⟨.inl ⟨_, .inl hb3⟩, _, rfl, q, _, 1, _, rfl, rfl, SqT.of hq3, at_of (j := 1) rfl rfl, by decide, fun n0 hn0 => ?_⟩
          refine ⟨[], .inl 5, upd_old hb3 hn0, rfl, by decide, fun v' hv' => absurd hv' (by show ¬ (none : Option V) = some v'; exact fun z => nomatch z), fun _ => ?_⟩
          have n0d : n0 ≠ ds := (ne_of_none hb3 hn0).symm
          have hl0 : (upd (upd H3 n0 (.lst [])) ds (.dK (putK [] (.inl 5) (.ref n0)))) n0 = some (.lst []) := by rw [upd_ne n0d]; exact upd_same
          have hq4 : (upd (upd H3 n0 (.lst [])) ds (.dK (putK [] (.inl 5) (.ref n0)))) q = some (.tup ((Tp.snap n).key.map kV)) := by rw [upd_ne (ne_of hq3 hb3 fun z => nomatch z)]; exact upd_old hq3 hn0
          refine ⟨.inl ⟨rfl, _, SqL.of hl0⟩, _, rfl, q, _, 2, _, rfl, rfl, SqT.of hq4, at_of (j := 2) rfl rfl, n0, [], .int n, rfl, rfl, hl0, by decide, ?_⟩
          refine ⟨_, _, _, _, rfl, fun b o e z => ?_, .inr ⟨?_, n0, ?_, ?_, ?_⟩⟩
          · have e3 := hs3 _ _ (fr b o e z)
            rw [upd_ne (ne_of_none e3 hn0), upd_ne z]
            exact upd_old e3 hn0
          · rw [tk]; simp
          · rw [upd_ne n0d.symm]; exact upd_same
          · rw [tk, e0, upd_same] <;> rfl
          · cases g : G0 n0 with
            | none => rfl
            | some o => exact absurd hn0 (by rw [hs3 _ _ (fr n0 o g n0d)]; exact Option.some_ne_none _)
        · have hb3 := hs3 _ _ b0
          have hc3 := hs3 _ _ c0
          have sds : sl ≠ ds := ne_of c0 b0 fun z => nomatch z
          refine ⟨.inl ⟨_, .inl hb3⟩, _, rfl, q, _, 1, _, rfl, rfl, SqT.of hq3, at_of (j := 1) rfl rfl, by decide, fun n0 hn0 => ?_⟩
          refine ⟨_, .inl 5, upd_old hb3 hn0, rfl, small1000 (by simp), fun v' hv' => ?_, fun z => absurd z (by rw [valV_pos rfl]; exact Option.some_ne_none _)⟩
          rw [valV_pos rfl] at hv'
          obtain rfl := Option.some.inj hv'
          have hl0 := upd_old (o := .lst []) hc3 hn0
          refine ⟨.inl ⟨rfl, _, SqL.of hl0⟩, _, rfl, q, _, 2, _, rfl, rfl, SqT.of (upd_old hq3 hn0), at_of (j := 2) rfl rfl, sl, _, .int n, rfl, rfl, hl0, ?_, ?_⟩
          · refine small1000 ?_
            have : (snapsOf ((tabOf rs).take i)).length ≤ 128 := by
              have h1 : (snapsOf ((tabOf rs).take i)).length ≤ ((tabOf rs).take i).length := List.length_filterMap_le _ _
              have h2 := I.len
              rw [List.length_take] at h1
              omega
            rw [List.length_map]; omega
          refine ⟨_, _, _, _, rfl, fun b o e z => ?_, .inr ⟨?_, sl, ?_, ?_, d0⟩⟩
          · have e3 := hs3 _ _ (fr b o e z)
            rw [upd_ne (ne_of_none e d0)]
            exact upd_old e3 hn0
          · rw [tk]; simp
          · rw [upd_ne sds.symm]; exact upd_old hb3 hn0
          · rw [tk, List.map_append, upd_same] <;> rfl
      · refine ite_b (Bool.eq_false_iff.mpr lh) ?_
        exact ⟨_, _, _, _, rfl, tn, snS (fun b o e => upd_old e ht0) (by
          show (match x.1 with | .snap n => if lastHas x.2.2 = true then some n else none | _ => none) = _
          rw [en]
          exact if_neg lh)⟩
    · refine ite_b (by rw [word_snap]; cases e : x.1 <;> first | rfl | exact absurd ⟨_, e⟩ cs) ?_
      exact ⟨_, _, _, _, rfl, tn, snS (fun b o e => upd_old e ht0) (by
        show (match x.1 with | .snap n => if lastHas x.2.2 = true then some n else none | _ => none) = _
        cases e : x.1 <;> first | rfl | exact absurd ⟨_, e⟩ cs)⟩
  · rintro σ H2 ⟨w3, w5, w6, w7, rfl, fr, sn⟩
    rw [List.length_map, ← List.length_map (f := tOf), I.eq, List.take_length] at sn
    refine ⟨fr _ _ hGr dsr.symm, ?_⟩
    have ff : ∀ b o, G0 b = some o → b ≠ ds → b ≠ dr → (upd H2 dr (.dT (L.map kvOf))) b = some o := fun b o e z1 z2 => by rw [upd_ne z2]; exact fr b o e z1
    have fH : ∀ b o, H b = some o → b ≠ p → (upd H2 dr (.dT (L.map kvOf))) b = some o := fun b o e z => by
      have e3 := s3 b o e
      have eB := hBf b o e3 z
      have z1 : b ≠ dr := ne_of_none (by rw [upd_ne z]; exact e3) hdr
      have z2 : b ≠ do_ := ne_of_none (by rw [upd_ne z, upd_ne z1, upd_ne z]; exact e3) hdo
      have eH := st I eB z1 z2
      exact ff b o (hGf b o eH z z1) (ne_of_none eH hds) z1
    refine k _ as dr L ⟨⟨dx, D2, do_, ds, ff _ _ hGp dsp.symm ndp.symm, ?_, ?_⟩, ?_, .inl upd_same, ?_, I.eq⟩ upd_same fH
    · exact ff _ _ (hGf _ _ (lstS I) n1.symm (ne_of (lstS I) I.dr fun z => nomatch z)) (ne_of_none (lstS I) hds) (ne_of (lstS I) I.dr fun z => nomatch z)
    · rcases sn with ⟨a, b⟩ | ⟨a, sl, b, c, d⟩
      · exact .inl ⟨a, by rw [upd_ne dsr]; exact b⟩
      · exact .inr ⟨a, sl, by rw [upd_ne dsr]; exact b, by rw [upd_ne (ne_of_none hGr d).symm]; exact c⟩
    · exact mapP hrs fun a r e => fH a _ e (ne_of e hp fun z => nomatch z)
    · exact tG.lt (fun b xs e => ff b _ e (ne_of e hGd fun z => nomatch z) (ne_of e hGr fun z => nomatch z)) (fun b xs e => ff b _ e (ne_of e hGd fun z => nomatch z) (ne_of e hGr fun z => nomatch z))
end
end L2.Sg
set_option Elab.async false
set_option linter.all false
set_option maxRecDepth 100000
set_option maxHeartbeats 4000000
namespace L2.Sg
open PySem PySem.Spec PyProof.Rows
open C8 (Cal Met Mak pe_c pe_mt pe_mt0 pe_mk tCut pss_cut)
local macro_rules | `(tactic| walk_at "len") => `(tactic| (intro vs H Q E h; first | (obtain ⟨e, _⟩ := h; subst e; rfl) | (obtain ⟨_, e, _⟩ := h; subst e; rfl) | (obtain ⟨_, _, e, _⟩ := h; subst e; rfl) | (obtain ⟨_, _, _, e, _⟩ := h; subst e; rfl) | (obtain ⟨_, _, _, _, e, _⟩ := h; subst e; rfl) | (obtain ⟨_, _, _, _, _, e, _⟩ := h; subst e; rfl) | (obtain ⟨_, _, _, _, _, _, e, _⟩ := h; subst e; rfl) | (obtain ⟨_, _, _, _, _, _, _, e, _⟩ := h; subst e; rfl) | (obtain ⟨_, _, _, _, _, _, _, _, e, _⟩ := h; subst e; rfl) | (obtain ⟨_, _, _, _, _, _, _, _, _, e, _⟩ := h; subst e; rfl) | (obtain ⟨_, _, _, _, _, _, _, _, _, _, e, _⟩ := h; subst e; rfl) | (obtain ⟨_, _, _, _, _, _, _, _, _, _, _, e, _⟩ := h; subst e; rfl) | (obtain ⟨_, _, _, _, _, _, _, _, _, _, _, _, e, _⟩ := h; subst e; rfl) | (obtain ⟨_, _, _, _, _, _, _, _, _, _, _, _, _, e, _⟩ := h; subst e; rfl) | (obtain ⟨_, _, _, _, _, _, _, _, _, _, _, _, _, _, e, _⟩ := h; subst e; rfl) | (obtain ⟨_, _, _, _, _, _, _, _, _, _, _, _, _, _, _, e, _⟩ := h; subst e; rfl)))
local macro_rules | `(tactic| walk_at "ns") => `(tactic| (try dsimp only [Op.kind, Tp.word, Rec.top]); decide +kernel)
theorem tabOf_sz (rs : List Rec) : (tabOf rs).length ≤ 2 * rs.length ∧ ∀ t ∈ tabOf rs, t.2.length ≤ 2 * rs.length := by
  have go : ∀ (rs : List Rec) (T : Tb) (n : Nat), T.length ≤ n → (∀ t ∈ T, t.2.length ≤ n) → (rs.foldl addRec T).length ≤ n + 2 * rs.length ∧ ∀ t ∈ rs.foldl addRec T, t.2.length ≤ n + 2 * rs.length := by
    intro rs
    induction rs with
    | nil => intro T n h1 h2; exact ⟨h1, h2⟩
    | cons r rs ih =>
      intro T n h1 h2
      have a := ih (addRec T r) (n + 1 + 1) (addRow_len (addRow_len h1 _ _ _) _ _ _) (addRow_lens (addRow_lens h2 _ _ _) _ _ _)
      have e : n + 1 + 1 + 2 * rs.length = n + 2 * (r :: rs).length := by rw [List.length_cons]; omega
      rw [e] at a
      exact a
  have := go rs [] 0 (Nat.le_refl _) fun t h => (List.not_mem_nil h).elim
  rw [Nat.zero_add] at this
  exact this
theorem snaps_len (rs : List Rec) : (snapsOf (tabOf rs)).length ≤ 2 * rs.length := Nat.le_trans (List.length_filterMap_le _ _) (tabOf_sz rs).1
theorem TblAt.find {H : Hp} {p dr : Addr} {K : PySem.W.Frag} {as : List Addr} {rs : List Rec} {L : List Trip} (h : TblAt K H p as rs dr L) {x : Trip} (hx : x ∈ L) : valV (L.map kvOf) x.1.key = some (.ref x.2.1) := by
  refine val_mem ?_ (List.mem_map.mpr ⟨x, hx, rfl⟩)
  rw [List.map_map]
  have e : L.map ((fun y => y.1) ∘ kvOf) = (L.map fun x => x.1).map Tp.key := by rw [List.map_map] <;> rfl
  rw [e]
  exact List.Pairwise.map _ (fun a b e z => e (Tp.key_inj z)) h.tab.keys
theorem TblAt.mem {H : Hp} {p dr : Addr} {K : PySem.W.Frag} {as : List Addr} {rs : List Rec} {L : List Trip} (h : TblAt K H p as rs dr L) {x : Trip} (hx : x ∈ L) : tOf x ∈ tabOf rs := h.eq ▸ List.mem_map_of_mem hx
theorem TblAt.ne {H : Hp} {p dr : Addr} {K : PySem.W.Frag} {as : List Addr} {rs : List Rec} {L : List Trip} (h : TblAt K H p as rs dr L) {x : Trip} (hx : x ∈ L) : x.2.2 ≠ [] := tabOf_ne rs _ (h.mem hx)
/-- of the addresses those whose things are p -/
def selA {β : Type} (p : β → Bool) (as : List Addr) (ys : List β) : List Addr := ((as.zip ys).filter fun z => p z.2).map fun z => z.1
theorem selA_succ {β : Type} {p : β → Bool} {as : List Addr} {ys : List β} {i : Nat} {a : Addr} {y : β} (ha : as[i]? = some a) (hy : ys[i]? = some y) : selA p (as.take (i + 1)) (ys.take (i + 1)) = selA p (as.take i) (ys.take i) ++ if p y then [a] else [] := by
  unfold selA
  have l1 := (List.getElem?_eq_some_iff.mp ha).1
  have l2 := (List.getElem?_eq_some_iff.mp hy).1
  rw [List.take_add_one, List.take_add_one, ha, hy, List.zip_append (by rw [List.length_take, List.length_take]; omega), List.filter_append, List.map_append]
  congr 1
  cases e : p y <;> simp [e]
theorem selA_paired {β : Type} {F : Addr → β → Prop} {p : β → Bool} : ∀ {as : List Addr} {ys : List β}, Paired F as ys → Paired F (selA p as ys) (ys.filter p)
  | _, _, .nil => .nil
  | _, _, .cons (a := a) (b := y) h t => by
    have ih := selA_paired (p := p) t
    unfold selA at ih ⊢
    rw [List.zip_cons_cons]
    cases e : p y with
    | true => rw [List.filter_cons_of_pos (by exact e), List.filter_cons_of_pos e]; exact .cons h ih
    | false => rw [List.filter_cons_of_neg (by rw [e]; exact Bool.false_ne_true), List.filter_cons_of_neg (by rw [e]; exact Bool.false_ne_true)]; exact ih
theorem selA_all {β : Type} {p : β → Bool} {as : List Addr} {ys : List β} (h : as.length = ys.length) : selA p (as.take as.length) (ys.take as.length) = selA p as ys := by
  rw [List.take_length, h, List.take_length]
theorem selA_len {β : Type} {p : β → Bool} {as : List Addr} {ys : List β} : (selA p as ys).length ≤ as.length := by
  unfold selA
  rw [List.length_map]
  refine Nat.le_trans (List.length_filter_le _ _) ?_
  rw [List.length_zip]
  omega
/-- a dict's lookup by a topic -/
theorem rd_topic {H : Hp} {dr q : Addr} {L : List Trip} {t : Tp} (h : Rd H dr (.dT (L.map kvOf))) (hq : H q = some (.tup (t.key.map kV))) : DGet H dr (.ref q) (valV (L.map kvOf) t.key) := .inr ⟨_, _, _, h, rfl, hq, rfl⟩
/-- the lookup of the namespace's snapshots -/
theorem SnapD.get {H : Hp} {ds n0 : Addr} {sn : List Int} (h : SnapD H ds sn) (hn0 : H n0 = none) : IsD H ds ∧ ∃ o, DGet (upd H n0 (.lst [])) ds (.int 5) o ∧ ∃ sl, o.getD (.ref n0) = .ref sl ∧ (upd H n0 (.lst [])) sl = some (.lst (sn.map V.int)) := by
  rcases h with ⟨rfl, b⟩ | ⟨_, sl, b, c⟩
  · exact ⟨.inl ⟨_, .inl b⟩, none, .inl ⟨_, .inl 5, .inl (upd_old b hn0), rfl, rfl⟩, n0, rfl, upd_same⟩
  · exact ⟨.inl ⟨_, .inl b⟩, some (.ref sl), .inl ⟨_, .inl 5, .inl (upd_old b hn0), rfl, rfl⟩, sl, rfl, upd_old c hn0⟩
theorem key_five' (t : Tp) (h : ∀ i, t ≠ .host i) : atI (t.key.map kV) 1 = some (.int 5) := at_of (j := 1) rfl (key_five t h)
section
variable {P : Program} {w : World} {K : PySem.W.Frag} {base : Heap} {mg : Str → Option Value}
def sp_views (K : PySem.W.Frag) : Sp := fun vs H Q _ => ∃ (p q dr : Addr) (as : List Addr) (rs : List Rec) (L : List Trip) (t : Tp), vs = [.ref p, .ref q] ∧ TblAt K H p as rs dr L ∧ rs.length < 64 ∧ H q = some (.tup (t.key.map kV)) ∧
  Mk1 H Q fun l H' => H' l = some (.lst ((viewsOf (snapsOf (tabOf rs)) t).map optV))
theorem sc_Table_views : FnScope ["self", "topic"] ["self", "topic"] (defScope s_Table_views) := C8.fnScope_by (by decide +kernel)
theorem c_Table_views (T : Tx w K mg) : Met P w K mg base 1 (He.ga K "Table") "views" (sp_views K) [] := by
  refine K_Table_views T sc_Table_views (fun _ _ _ _ _ _ us hl => match us, hl with | [_, _], _ => rfl) (by walk_at "len") (fun cdv A outer s H vs Q E hr h => ?_)
  have nd := sc_Table_views.nd
  have hu := hu_of hr
  refine ⟨_, (pss_cons (ps_if (pt_cmpR op_ne (pe_ix ix_tup (pv 1) pe_int (fun _ _ => rfl)) pe_str (nomark _)) (pss_one (ps_ret (pe_lst (pa_cons pe_non pa_nil)))) pss_nil)
      (pss_one (ps_ret (pe_op op_cat (pe_lst (pa_cons pe_non pa_nil)) (pe_dget2 hu (pe_fld (pv 0) rfl) (pe_ix ix_tup (pv 1) pe_int (fun _ _ => rfl)) (pe_lst pa_nil) ⟨rfl, rfl, rfl, rfl⟩))))), ?_⟩
  obtain ⟨p, q, dr, as, rs, L, t, rfl, TB, h64, hq, k⟩ := h
  have sz1 : 1 ≤ sizeLine := by decide
  have sz0 : 0 ≤ sizeLine := by decide
  obtain ⟨dx, lr, do_, ds, hp, hlr, hds⟩ := TB.ex
  refine ⟨_, rfl, q, _, 0, _, rfl, rfl, SqT.of hq, at_of (j := 0) rfl (key_word t), rfl, _, rfl, ?_⟩
  by_cases c : ∃ n, t = .place n
  · obtain ⟨n, rfl⟩ := c
    refine notS_F rfl ?_
    refine ⟨sz1, fun l0 hl0 => ⟨_, rfl, p, _, dx, _, _, rfl, upd_old hp hl0, cls_Table T, at_Table_snapshots T, rfl, ds, rfl, ?_⟩⟩
    have hds2 := hds.same (same_upd hl0 (o := .lst [.non]))
    refine ⟨?_, _, rfl, q, _, 1, _, rfl, rfl, SqT.of (upd_old hq hl0), at_of (j := 1) rfl rfl, sz0, fun n0 hn0 => ?_⟩
    · rcases hds2 with ⟨_, b⟩ | ⟨_, sl, b, _⟩
      · exact .inl ⟨_, .inl b⟩
      · exact .inl ⟨_, .inl b⟩
    obtain ⟨_, o, hg, sl, e, hsl⟩ := hds2.get hn0
    refine ⟨o, hg, ?_⟩
    rw [e]
    refine ⟨l0, sl, _, _, rfl, rfl, upd_old upd_same hn0, hsl, ?_, fun l hl => ?_⟩
    · have := snaps_len rs
      have : (1000 : Nat) ≤ sizeLine := by decide
      rw [List.length_map]
      show 1 + _ ≤ _
      omega
    · refine k l _ (same_upd' (same_upd' (same_upd hl0) hn0) hl) ((same_upd' (same_upd hl0) hn0).free hl) ?_
      refine upd_same.trans ?_
      show some (HO.lst ([V.non] ++ (snapsOf (tabOf rs)).map V.int)) = some (HO.lst ((none :: (snapsOf (tabOf rs)).map some).map optV))
      rw [List.map_cons, List.map_map] <;> rfl
  · refine notS_T (fun z => ?_) ?_
    · cases t with
      | place n => exact c ⟨n, rfl⟩
      | host n => exact absurd (show ("host" : Str) = "place" from z) (by decide +kernel)
      | space => exact absurd (show ("space" : Str) = "place" from z) (by decide +kernel)
      | snap n => exact absurd (show ("snap" : Str) = "place" from z) (by decide +kernel)
    · refine ⟨sz1, fun l hl => k l _ (same_upd hl) hl ?_⟩
      refine upd_same.trans ?_
      cases t with
      | place n => exact absurd ⟨n, rfl⟩ c
      | _ => rfl
def sp_last_index (K : PySem.W.Frag) : Sp := fun vs H Q _ => ∃ (p q dr : Addr) (as : List Addr) (rs : List Rec) (L : List Trip) (x : Trip) (vw : Option Int), vs = [.ref p, .ref q, optV vw] ∧ TblAt K H p as rs dr L ∧ rs.length < 64 ∧ x ∈ L ∧ H q = some (.tup (x.1.key.map kV)) ∧
  ∀ H', Same H H' → Q (.int (lastIx x.2.2 vw)) H'
theorem sc_Table_last_index : FnScope ["self", "topic", "view", "rows", "row"] ["self", "topic", "view"] (defScope s_Table_last_index) := C8.fnScope_by (by decide +kernel)
theorem c_Table_last_index (T : Tx w K mg) : Met P w K mg base 1 (He.ga K "Table") "last_index" (sp_last_index K) [] := by
  refine K_Table_last_index T sc_Table_last_index (fun _ _ _ _ _ _ us hl => match us, hl with | [_, _, _], _ => rfl) (by walk_at "len") (fun cdv A outer s H vs Q E hr h => ?_)
  have nd := sc_Table_last_index.nd
  have hu := hu_of hr
  refine ⟨_, (pss_cons (ps_set (i := 3) nd rfl (Or.inl rfl) (pe_dget2 hu (pe_fld (pv 0) rfl) (pv 1) (pe_lst pa_nil) ⟨rfl, rfl, rfl, rfl⟩))
      (pss_cons (ps_if (pt_cmp (pc_isN (pv 2))) (pss_one (ps_ret (pe_op op_sub (pe_callB (call_len) (by rfl) (b_len T) PySem.boot_len (pa_cons (pv 3) pa_nil)) pe_int))) pss_nil)
      (pss_one (ps_ret (pe_op op_sub (pe_callB (call_len) (by rfl) (b_len T) PySem.boot_len (pa_cons (pe_lc (own := [("row", 4)]) rfl nd (pi_list (pv 3)) (blkOk_by (N := (["self", "topic", "view", "rows", "row"] : List Str)) (sc := (defScope s_Table_last_index)) (by decide +kernel)) (fun _ _ _ _ _ => (pg_name (i := 4) nd rfl (Or.inl rfl))) (fun _ _ _ _ _ => (pts_one (pt_cmpR op_lt (pe_ix (ix_tupK (K := K) rfl) (pv 4) pe_int (fun _ _ => rfl)) (pv 2) (nomark _)))) (fun _ _ _ _ _ => (pv 4))) pa_nil)) pe_int))))), ?_⟩
  obtain ⟨p, q, dr, as, rs, L, x, vw, rfl, TB, h64, hx, hq, k⟩ := h
  have sz0 : 0 ≤ sizeLine := by decide
  obtain ⟨dx, lr, do_, ds, hp, hlr, hds⟩ := TB.ex
  refine ⟨_, rfl, p, _, dx, _, _, rfl, hp, cls_Table T, at_Table_rows T, rfl, dr, rfl, .inr ⟨_, TB.rows⟩, _, rfl, sz0, fun n0 hn0 => ?_⟩
  have sm := same_upd hn0 (o := .lst [])
  refine ⟨_, rd_topic (rd_same sm TB.rows) (sm _ _ hq), ?_⟩
  rw [TB.find hx]
  obtain ⟨ps, hl, pr⟩ := (TB.same sm).tab.rows x hx
  have hlen := Paired.length pr
  cases vw with
  | none =>
    refine ⟨_, rfl, _, rfl, iteT ?_⟩
    refine ⟨_, rfl, _, _, rfl, .inl ⟨_, SqL.of hl, rfl⟩, _, _, rfl, rfl, ?_⟩
    rw [List.length_map, hlen]
    exact k _ sm
  | some o =>
    refine ⟨_, rfl, _, rfl, iteF ?_⟩
    refine ⟨_, rfl, x.2.1, rfl, ⟨_, SqL.of hl⟩, fun D hD => ?_⟩
    have lt64 : ps.length ≤ 126 := by
      have := (tabOf_sz rs).2 _ (TB.mem hx)
      rw [hlen]
      show x.2.2.length ≤ _
      exact Nat.le_trans this (by omega)
    refine lc_list (K := K) (a := x.2.1) (xs := ps.map V.ref) (fun i H' => H' = upd (upd H n0 (.lst [])) D (.lst ((selA (fun r : Int × Bool => decide (r.1 < o)) (ps.take i) (x.2.2.take i)).map V.ref))) rfl (fun i H' _ e => by rw [e]; exact SqL.of (upd_old hl hD)) ?_ ?_
    · rintro i y H' hy rfl
      obtain ⟨a, ha, rfl⟩ := refs_i hy
      obtain ⟨r, hr, v, hR, _⟩ := L2.paired_get pr ha
      have es := selA_succ (p := fun r : Int × Bool => decide (r.1 < o)) ha hr
      refine ⟨rfl, _, rfl, a, _, 0, _, rfl, rfl, SqT.of (upd_old hR hD), at_of (j := 0) rfl rfl, _, rfl, r.1, o, rfl, rfl, _, rfl, ?_⟩
      by_cases cc : r.1 < o
      · rw [if_pos (by exact decide_eq_true cc)] at es
        refine ite_of cc ⟨_, rfl, _, upd_same, ?_, ?_⟩
        · rw [List.length_map]
          refine small1000 ?_
          have := selA_len (p := fun r : Int × Bool => decide (r.1 < o)) (as := ps.take i) (ys := x.2.2.take i)
          have l2 : (ps.take i).length ≤ ps.length := by rw [List.length_take]; omega
          omega
        · rw [upd_upd, es, List.map_append] <;> rfl
      · rw [if_neg (by rw [decide_eq_false cc]; exact Bool.false_ne_true)] at es
        refine ite_no cc ?_
        rw [es, List.append_nil]
    rintro H' rfl
    rw [List.length_map, selA_all hlen]
    have hl2 := Paired.length (selA_paired (p := fun r : Int × Bool => decide (r.1 < o)) pr)
    refine ⟨_, _, rfl, .inl ⟨_, SqL.of upd_same, rfl⟩, _, _, rfl, rfl, ?_⟩
    rw [List.length_map, hl2]
    exact k _ (same_upd' sm hD)
end
end L2.Sg
set_option Elab.async false
set_option linter.all false
set_option maxRecDepth 100000
set_option maxHeartbeats 4000000
namespace L2.Sg
open PySem PySem.Spec PyProof.Rows
open C8 (Cal Met Mak pe_c pe_mt pe_mt0 pe_mk tCut pss_cut)
local macro_rules | `(tactic| walk_at "len") => `(tactic| (intro vs H Q E h; first | (obtain ⟨e, _⟩ := h; subst e; rfl) | (obtain ⟨_, e, _⟩ := h; subst e; rfl) | (obtain ⟨_, _, e, _⟩ := h; subst e; rfl) | (obtain ⟨_, _, _, e, _⟩ := h; subst e; rfl) | (obtain ⟨_, _, _, _, e, _⟩ := h; subst e; rfl) | (obtain ⟨_, _, _, _, _, e, _⟩ := h; subst e; rfl) | (obtain ⟨_, _, _, _, _, _, e, _⟩ := h; subst e; rfl) | (obtain ⟨_, _, _, _, _, _, _, e, _⟩ := h; subst e; rfl) | (obtain ⟨_, _, _, _, _, _, _, _, e, _⟩ := h; subst e; rfl) | (obtain ⟨_, _, _, _, _, _, _, _, _, e, _⟩ := h; subst e; rfl) | (obtain ⟨_, _, _, _, _, _, _, _, _, _, e, _⟩ := h; subst e; rfl) | (obtain ⟨_, _, _, _, _, _, _, _, _, _, _, e, _⟩ := h; subst e; rfl) | (obtain ⟨_, _, _, _, _, _, _, _, _, _, _, _, e, _⟩ := h; subst e; rfl) | (obtain ⟨_, _, _, _, _, _, _, _, _, _, _, _, _, e, _⟩ := h; subst e; rfl) | (obtain ⟨_, _, _, _, _, _, _, _, _, _, _, _, _, _, e, _⟩ := h; subst e; rfl) | (obtain ⟨_, _, _, _, _, _, _, _, _, _, _, _, _, _, _, e, _⟩ := h; subst e; rfl)))
local macro_rules | `(tactic| walk_at "ns") => `(tactic| (try dsimp only [Op.kind, Tp.word, Rec.top]); decide +kernel)
theorem TblAt.lock {K : PySem.W.Frag} {H : Hp} {p dr : Addr} {as : List Addr} {rs : List Rec} {L : List Trip} (h : TblAt K H p as rs dr L) (e : H dr = some (.dT (L.map kvOf))) (od : Obj) : TblAt K (upd H dr (.frz od (.dT (L.map kvOf)))) p as rs dr L := by
  obtain ⟨dx, lr, do_, ds, e1, e2, e3⟩ := h.ex
  have k : ∀ b u, H b = some u → u ≠ .dT (L.map kvOf) → (upd H dr (.frz od (.dT (L.map kvOf)))) b = some u := fun b u eb z => by rw [upd_ne (ne_of eb e z)]; exact eb
  refine ⟨⟨dx, lr, do_, ds, k _ _ e1 (fun z => nomatch z), k _ _ e2 (fun z => nomatch z), ?_⟩, mapP h.recs (fun a r ea => k _ _ ea (fun z => nomatch z)), .inr ⟨od, upd_same⟩, h.tab.lt (fun b xs eb => k _ _ eb fun z => nomatch z) (fun b xs eb => k _ _ eb fun z => nomatch z), h.eq⟩
  exact Or.imp (fun ⟨a, b⟩ => ⟨a, k _ _ b (fun z => nomatch z)⟩) (fun ⟨a, sl, b, c⟩ => ⟨a, sl, k _ _ b (fun z => nomatch z), k _ _ c (fun z => nomatch z)⟩) e3
theorem RowsL.at_ {H : Hp} {l : Addr} {rows : Rows} (h : RowsL H l rows) {i : Nat} (hi : i < rows.length) : ∃ (ps : List V) (pl : Addr) (v : V), H l = some (.lst ps) ∧ ps[i]? = some (.ref pl) ∧ H pl = some (.tup [.int (rowOrd rows i), v]) ∧ decide (v = .non) = !(rows.getD i (0, false)).2 := by
  obtain ⟨ps, hl, pr⟩ := h
  have hlen := Paired.length pr
  have e1 : rows[i]? = some rows[i] := List.getElem?_eq_getElem _
  have e2 : ps[i]? = some (ps[i]'(by omega)) := List.getElem?_eq_getElem _
  obtain ⟨v, a, b⟩ := paired_two pr e2 e1
  refine ⟨ps.map V.ref, ps[i]'(by omega), v, hl, by rw [List.getElem?_map, e2] <;> rfl, ?_, ?_⟩
  · unfold rowOrd; rw [List.getD_eq_getElem?_getD, e1]; exact a
  · rw [List.getD_eq_getElem?_getD, e1]; exact b
theorem lastIx_lt {rows : Rows} (ne : rows ≠ []) (vw : Option Int) : lastIx rows vw < rows.length := by
  have : 0 < rows.length := List.length_pos_iff.mpr ne
  cases vw with
  | none => show (rows.length : Int) - 1 < _; omega
  | some v =>
    have := List.length_filter_le (fun r : Int × Bool => decide (r.1 < v)) rows
    show ((rows.filter fun r => decide (r.1 < v)).length : Int) - 1 < _
    omega
theorem first_get {rows : Rows} : (rows.getD 0 (0, false)).2 = firstHas rows := by cases rows <;> rfl
theorem eqI_T {a b : Int} {A B : Prop} (h : a = b) (q : A) : if decide (V.int a = V.int b) = true then A else B := by
  rw [decide_eq_true (congrArg V.int h)]
  exact iteT q
theorem eqI_F {a b : Int} {A B : Prop} (h : ¬ a = b) (q : B) : if decide (V.int a = V.int b) = true then A else B := by
  rw [decide_eq_false fun e => h (V.int.inj e)]
  exact iteF q
theorem word_host (t : Tp) (h : ∀ i, t ≠ .host i) : ¬ t.word = "host" := by
  cases t with
  | host i => exact absurd rfl (h i)
  | place n => exact (show ¬ ("place" : Str) = "host" by decide +kernel)
  | space => exact (show ¬ ("space" : Str) = "host" by decide +kernel)
  | snap n => exact (show ¬ ("snap" : Str) = "host" by decide +kernel)
theorem word_gone (t : Tp) : ¬ t.word = "gone" := by
  cases t with
  | host i => exact (show ¬ ("host" : Str) = "gone" by decide +kernel)
  | place n => exact (show ¬ ("place" : Str) = "gone" by decide +kernel)
  | space => exact (show ¬ ("space" : Str) = "gone" by decide +kernel)
  | snap n => exact (show ¬ ("snap" : Str) = "gone" by decide +kernel)
section
variable {P : Program} {w : World} {K : PySem.W.Frag} {base : Heap} {mg : Str → Option Value}
def sp_live_orders (K : PySem.W.Frag) : Sp := fun vs H Q _ => ∃ (p q dr : Addr) (as : List Addr) (rs : List Rec) (L : List Trip) (x : Trip), vs = [.ref p, .ref q] ∧ TblAt K H p as rs dr L ∧ rs.length < 64 ∧ x ∈ L ∧ H q = some (.tup (x.1.key.map kV)) ∧
  Mk1 H Q fun l H' => H' l = some (.lst ((liveOrds (snapsOf (tabOf rs)) (tOf x)).map V.int))
theorem sc_Table_live_orders : FnScope ["self", "topic", "rows", "last", "live", "view", "index"] ["self", "topic"] (defScope s_Table_live_orders) := C8.fnScope_by (by decide +kernel)
theorem c_Table_live_orders (T : Tx w K mg) : Met P w K mg base 2 (He.ga K "Table") "live_orders" (sp_live_orders K) [] := by
  refine K_Table_live_orders T sc_Table_live_orders (fun _ _ _ _ _ _ us hl => match us, hl with | [_, _], _ => rfl) (by walk_at "len") (fun cdv A outer s H vs Q E hr h => ?_)
  have nd := sc_Table_live_orders.nd
  have hu := hu_of hr
  refine ⟨_, (pss_cons (ps_set (i := 2) nd rfl (Or.inl rfl) (pe_dget hu (pe_fld (pv 0) rfl) (pv 1) (fun _ _ => rfl)))
      (pss_cons (ps_set (i := 3) nd rfl (Or.inl rfl) (pe_ix ix_tup (pe_ix ix_list (pv 2) (pe_un un_neg pe_int) (fun _ _ => rfl)) pe_int (fun _ _ => rfl)))
      (pss_cons (ps_if (pt_cmpR op_eq (pe_ix ix_tup (pv 1) pe_int (fun _ _ => rfl)) pe_str (nomark _)) (pss_one (ps_ret (pe_lst (pa_cons (pv 3) pa_nil)))) pss_nil)
      (pss_cons (ps_if (pt_cmpR op_eq (pe_ix ix_tup (pv 1) pe_int (fun _ _ => rfl)) pe_str (nomark _)) pss_never pss_nil)
      (pss_cons (ps_set (i := 4) nd rfl (Or.inl rfl) (pe_lst pa_nil))
      (pss_cons (ps_for PassesOwn.never rfl (pi_list (C8.pe_mt (c_Table_views T) hr (by decide) (pv 0) (pa_cons (pv 1) pa_nil))) (pg_name (i := 5) nd rfl (Or.inl rfl)) (pss_cons (ps_set (i := 6) nd rfl (Or.inl rfl) (C8.pe_mt (c_Table_last_index T) hr (by decide) (pv 0) (pa_cons (pv 1) (pa_cons (pv 5) pa_nil))))
      (pss_one (ps_if (PW.pt (pw_or (pt_cmpR op_gt (pv 6) pe_int (nomark _)) (pw_or1 (PW.pt (pw_and (pt_cmpR op_eq (pv 6) pe_int (nomark _)) (pw_and1 (pt_cmp (pc_notN (pe_ix ix_tup (pe_ix ix_list (pv 2) pe_int (fun _ _ => rfl)) pe_int (fun _ _ => rfl)))))))))) (pss_one (ps_if (pt_not (pt_val (C8.pe_mt (c_Table_is_hidden T) hr (by decide) (pv 0) (pa_cons (pv 1) (pa_cons (pe_ix ix_tup (pe_ix ix_list (pv 2) (pv 6) (fun _ _ => rfl)) pe_int (fun _ _ => rfl)) (pa_cons (pv 5) pa_nil)))))) (pss_one (ps_expr (pe_bm PySem.F.plainAttrs_list PySem.F.slot_list_append PySem.F.type_list_append mt_append (pv 4) (pa_cons (pe_ix ix_tup (pe_ix ix_list (pv 2) (pv 6) (fun _ _ => rfl)) pe_int (fun _ _ => rfl)) pa_nil)))) pss_nil)) pss_nil))))
      (pss_one (ps_ret (pv 4))))))))), ?_⟩
  obtain ⟨p, q, dr, as, rs, L, x, rfl, TB, h64, hx, hq, k⟩ := h
  have sz1 : 1 ≤ sizeLine := by decide
  have sz0 : 0 ≤ sizeLine := by decide
  obtain ⟨dx, lr, do_, ds, hp, hlr, hds⟩ := TB.ex
  obtain ⟨ps, pl, v, hl, hat, hpl, _, _⟩ := (TB.tab.rows x hx).last (TB.ne hx)
  refine ⟨_, rfl, p, _, dx, _, _, rfl, hp, cls_Table T, at_Table_rows T, rfl, _, rfl, dr, _, rfl, TB.find hx ▸ rd_topic TB.rows hq, ?_⟩
  refine ⟨_, rfl, 1, rfl, x.2.1, ps, -1, .ref pl, rfl, rfl, SqL.of hl, hat, pl, _, 0, _, rfl, rfl, SqT.of hpl, at_of (j := 0) rfl rfl, ?_⟩
  refine ⟨_, rfl, q, _, 0, _, rfl, rfl, SqT.of hq, at_of (j := 0) rfl (key_word x.1), rfl, _, rfl, ?_⟩
  by_cases c : ∃ i, x.1 = .host i
  · obtain ⟨i, ei⟩ := c
    refine eqS_T (by rw [ei] <;> rfl) ⟨_, rfl, sz1, fun l hl0 => k l _ (same_upd hl0) hl0 ?_⟩
    refine upd_same.trans ?_
    unfold liveOrds
    show _ = some (HO.lst (List.map V.int (match x.1 with | .host _ => [lastOrd x.2.2] | k => (viewsOf (snapsOf (tabOf rs)) k).flatMap (liveView x.2.2))))
    rw [ei] <;> rfl
  have c' : ∀ i, x.1 ≠ .host i := fun i e => c ⟨i, e⟩
  have eL : liveOrds (snapsOf (tabOf rs)) (tOf x) = (viewsOf (snapsOf (tabOf rs)) x.1).flatMap (liveView x.2.2) := by
    unfold liveOrds
    show (match x.1 with | .host _ => [lastOrd x.2.2] | k => (viewsOf (snapsOf (tabOf rs)) k).flatMap (liveView x.2.2)) = _
    cases e : x.1 <;> first | rfl | exact absurd e (c' _)
  rw [eL] at k
  refine eqS_F (word_host _ c') ?_
  refine ⟨_, rfl, q, _, 0, _, rfl, rfl, SqT.of hq, at_of (j := 0) rfl (key_word x.1), rfl, _, rfl, eqS_F (word_gone _) ?_⟩
  refine ⟨sz0, fun lv hlv => ?_⟩
  have s1 := same_upd hlv (o := .lst [])
  refine ⟨_, rfl, p, dx, _, rfl, s1 _ _ hp, rfl, _, rfl, p, q, dr, as, rs, L, x.1, rfl, TB.same s1, h64, s1 _ _ hq, fun vl H2 s2 f2 hvl => ?_⟩
  have s12 := s1.trans s2
  have vne : vl ≠ lv := (ne_of_none upd_same f2).symm
  refine ⟨vl, rfl, ⟨_, SqL.of hvl⟩, ?_⟩
  have vlen : (viewsOf (snapsOf (tabOf rs)) x.1).length ≤ 127 := by
    have := snaps_len rs
    cases e : x.1 with
    | place n => show (none :: (snapsOf (tabOf rs)).map some).length ≤ _; rw [List.length_cons, List.length_map]; omega
    | host n => exact absurd e (c' n)
    | space => show 1 ≤ 127; omega
    | snap n => show 1 ≤ 127; omega
  have l1 : ∀ vw, (liveView x.2.2 vw).length ≤ 1 := fun vw => by
    unfold liveView
    split
    · exact Nat.le_refl 1
    · exact Nat.zero_le 1
  have fl : ∀ vws : List (Option Int), (vws.flatMap (liveView x.2.2)).length ≤ vws.length := fun vws => by
    induction vws with
    | nil => exact Nat.le_refl _
    | cons a t ih => rw [List.flatMap_cons, List.length_append, List.length_cons]; have := l1 a; omega
  refine for_list (K := K) (a := vl) (xs := (viewsOf (snapsOf (tabOf rs)) x.1).map optV) (fun i σ H' => ∃ v5 v6, σ = [some (.ref p), some (.ref q), some (.ref x.2.1), some (.int (lastOrd x.2.2)), some (.ref lv), v5, v6] ∧ Same H H' ∧ H' vl = some (.lst ((viewsOf (snapsOf (tabOf rs)) x.1).map optV)) ∧
    H' lv = some (.lst ((((viewsOf (snapsOf (tabOf rs)) x.1).take i).flatMap (liveView x.2.2)).map V.int))) ?_ ?_ ?_ ?_
  · exact ⟨_, _, rfl, s12, hvl, s2 _ _ upd_same⟩
  · rintro i σ H' _ ⟨_, _, _, _, e, _⟩
    exact SqL.of e
  · rintro i y σ H' hy ⟨v5, v6, rfl, s3, e3, g3⟩
    rw [List.getElem?_map] at hy
    obtain ⟨vw, hvw, rfl⟩ := Option.map_eq_some_iff.mp hy
    refine ⟨_, rfl, p, dx, _, rfl, s3 _ _ hp, rfl, _, rfl, _, rfl, p, q, dr, as, rs, L, x, vw, rfl, TB.same s3, h64, hx, s3 _ _ hq, fun H4 s4 => ?_⟩
    have s34 := s3.trans s4
    have e4 := s4 _ _ e3
    have g4 := s4 _ _ g3
    have ix := lastIx_lt (TB.ne hx) vw
    have stp : ((viewsOf (snapsOf (tabOf rs)) x.1).take (i + 1)).flatMap (liveView x.2.2) = ((viewsOf (snapsOf (tabOf rs)) x.1).take i).flatMap (liveView x.2.2) ++ liveView x.2.2 vw := by
      rw [List.take_add_one, hvw, List.flatMap_append] <;> simp
    obtain ⟨ps0, pl0, w0, hl0, hat0, hpl0, hw0⟩ := ((TB.same s34).tab.rows x hx).at_ (List.length_pos_iff.mpr (TB.ne hx))
    rw [first_get] at hw0
    have hw1 : (!decide (w0 = .non)) = firstHas x.2.2 := by rw [hw0, Bool.not_not]
    have hp4 := s34 _ _ hp
    by_cases cc : 0 < lastIx x.2.2 vw ∨ (lastIx x.2.2 vw = 0 ∧ firstHas x.2.2 = true)
    · have eV : liveView x.2.2 vw = [rowOrd x.2.2 (lastIx x.2.2 vw).toNat] := if_pos cc
      have nn : (lastIx x.2.2 vw).toNat < x.2.2.length := by omega
      obtain ⟨ps1, pl1, w1, hl1, hat1, hpl1, _⟩ := ((TB.same s34).tab.rows x hx).at_ nn
      have hat1' : atI ps1 (lastIx x.2.2 vw) = some (.ref pl1) := at_of (j := (lastIx x.2.2 vw).toNat) (by omega) hat1
      by_cases c0 : 0 < lastIx x.2.2 vw
      rotate_left
      all_goals first | refine ⟨_, rfl, _, _, rfl, rfl, _, rfl, ite_of c0 ?_⟩ | refine ⟨_, rfl, _, _, rfl, rfl, _, rfl, ite_no c0 ⟨_, rfl, rfl, _, rfl, eqI_T (by omega) ⟨_, rfl, x.2.1, ps0, 0, .ref pl0, rfl, rfl, SqL.of hl0, at_of (j := 0) rfl hat0, pl0, _, 1, w0, rfl, rfl, SqT.of hpl0, at_of (j := 1) rfl rfl, _, rfl, ite_t (hw1.trans (cc.resolve_left c0).2) ?_⟩⟩⟩
      all_goals (
        refine ⟨_, rfl, p, dx, _, rfl, hp4, rfl, _, rfl, _, rfl, _, rfl, x.2.1, ps1, lastIx x.2.2 vw, .ref pl1, rfl, rfl, SqL.of hl1, hat1', pl1, _, 0, _, rfl, rfl, SqT.of hpl1, at_of (j := 0) rfl rfl, _, rfl, ?_⟩
        refine ⟨p, q, dr, L, x.1, rowOrd x.2.2 (lastIx x.2.2 vw).toNat, optV vw, rfl, ⟨dx, _, hp4, rfl⟩, rd_same s34 TB.rows, s34 _ _ hq, fun H5 s5 => ⟨_, rfl, iteT ?_⟩⟩
        have g5 := s5 _ _ g4
        refine ⟨_, rfl, .inl ⟨rfl, _, SqL.of g5⟩, _, rfl, _, rfl, x.2.1, ps1, lastIx x.2.2 vw, .ref pl1, rfl, rfl, SqL.of (s5 _ _ hl1), hat1', pl1, _, 0, _, rfl, rfl, SqT.of (s5 _ _ hpl1), at_of (j := 0) rfl rfl, lv, _, _, rfl, rfl, g5, ?_, ?_⟩
        · rw [List.length_map]
          refine small1000 ?_
          have := fl ((viewsOf (snapsOf (tabOf rs)) x.1).take i)
          rw [List.length_take] at this
          omega
        refine ⟨_, _, rfl, fun b o e => ?_, ?_, ?_⟩
        · rw [upd_ne (ne_of_none e hlv)]
          exact s5 _ _ (s34 _ _ e)
        · rw [upd_ne vne]
          exact s5 _ _ e4
        · rw [stp, eV, List.map_append]
          exact upd_same)
    · have eV : liveView x.2.2 vw = [] := if_neg cc
      have c0 : ¬ 0 < lastIx x.2.2 vw := fun z => cc (.inl z)
      rw [eV, List.append_nil] at stp
      by_cases c1 : lastIx x.2.2 vw = 0
      · refine ⟨_, rfl, _, _, rfl, rfl, _, rfl, ite_no c0 ⟨_, rfl, rfl, _, rfl, eqI_T c1 ⟨_, rfl, x.2.1, ps0, 0, .ref pl0, rfl, rfl, SqL.of hl0, at_of (j := 0) rfl hat0, pl0, _, 1, w0, rfl, rfl, SqT.of hpl0, at_of (j := 1) rfl rfl, _, rfl, ite_b (hw1.trans (Bool.eq_false_iff.mpr fun z => cc (.inr ⟨c1, z⟩))) ?_⟩⟩⟩
        exact ⟨_, _, rfl, s34, e4, by rw [stp]; exact g4⟩
      · refine ⟨_, rfl, _, _, rfl, rfl, _, rfl, ite_no c0 ⟨_, rfl, rfl, _, rfl, eqI_F c1 ?_⟩⟩
        exact ⟨_, _, rfl, s34, e4, by rw [stp]; exact g4⟩
  · rintro σ H' ⟨v5, v6, rfl, s3, _, g3⟩
    have ee : ((viewsOf (snapsOf (tabOf rs)) x.1).map optV).length = (viewsOf (snapsOf (tabOf rs)) x.1).length := List.length_map _
    rw [ee, List.take_length] at g3
    exact ⟨_, rfl, k lv _ s3 hlv g3⟩
end
end L2.Sg
set_option Elab.async false
set_option linter.all false
set_option maxRecDepth 100000
set_option maxHeartbeats 4000000
namespace L2.Sg
open PySem PySem.Spec PyProof.Rows
open C8 (Cal Met Mak pe_c pe_mt pe_mt0 pe_mk tCut pss_cut)
local macro_rules | `(tactic| walk_at "len") => `(tactic| (intro vs H Q E h; first | (obtain ⟨e, _⟩ := h; subst e; rfl) | (obtain ⟨_, e, _⟩ := h; subst e; rfl) | (obtain ⟨_, _, e, _⟩ := h; subst e; rfl) | (obtain ⟨_, _, _, e, _⟩ := h; subst e; rfl) | (obtain ⟨_, _, _, _, e, _⟩ := h; subst e; rfl) | (obtain ⟨_, _, _, _, _, e, _⟩ := h; subst e; rfl) | (obtain ⟨_, _, _, _, _, _, e, _⟩ := h; subst e; rfl) | (obtain ⟨_, _, _, _, _, _, _, e, _⟩ := h; subst e; rfl) | (obtain ⟨_, _, _, _, _, _, _, _, e, _⟩ := h; subst e; rfl) | (obtain ⟨_, _, _, _, _, _, _, _, _, e, _⟩ := h; subst e; rfl) | (obtain ⟨_, _, _, _, _, _, _, _, _, _, e, _⟩ := h; subst e; rfl) | (obtain ⟨_, _, _, _, _, _, _, _, _, _, _, e, _⟩ := h; subst e; rfl) | (obtain ⟨_, _, _, _, _, _, _, _, _, _, _, _, e, _⟩ := h; subst e; rfl) | (obtain ⟨_, _, _, _, _, _, _, _, _, _, _, _, _, e, _⟩ := h; subst e; rfl) | (obtain ⟨_, _, _, _, _, _, _, _, _, _, _, _, _, _, e, _⟩ := h; subst e; rfl) | (obtain ⟨_, _, _, _, _, _, _, _, _, _, _, _, _, _, _, e, _⟩ := h; subst e; rfl)))
local macro_rules | `(tactic| walk_at "ns") => `(tactic| (try dsimp only [Op.kind, Tp.word, Rec.top]); decide +kernel)
/-- some thing of the table says that this order is live -/
def hitN (sn : List Int) (T : Tb) (n : Int) : Bool := T.any fun t => (liveOrds sn t).contains n
theorem hit_snoc {sn : List Int} {T : Tb} {t : Tp × Rows} {n : Int} : hitN sn (T ++ [t]) n = (hitN sn T n || (liveOrds sn t).contains n) := by
  unfold hitN
  rw [List.any_append] <;> simp
theorem isSome_put {kvs : List (Key × V)} {k k' : Key} {v : V} : (valV (putK kvs k v) k').isSome = (decide (k' = k) || (valV kvs k').isSome) := by
  rw [valV_put]
  by_cases e : k' = k
  · rw [if_pos e, decide_eq_true e] <;> rfl
  · rw [if_neg e, decide_eq_false e, Bool.false_or]
theorem liveOrds_len (rs : List Rec) (t : Tp × Rows) : (liveOrds (snapsOf (tabOf rs)) t).length ≤ 1 + 2 * rs.length := by
  have l1 : ∀ vw, (liveView t.2 vw).length ≤ 1 := fun vw => by
    unfold liveView
    split
    · exact Nat.le_refl 1
    · exact Nat.zero_le 1
  have fl : ∀ vws : List (Option Int), (vws.flatMap (liveView t.2)).length ≤ vws.length := fun vws => by
    induction vws with
    | nil => exact Nat.le_refl _
    | cons a t ih => rw [List.flatMap_cons, List.length_append, List.length_cons]; have := l1 a; omega
  have sl := snaps_len rs
  unfold liveOrds
  split
  · show 1 ≤ _; omega
  · refine Nat.le_trans (fl _) ?_
    unfold viewsOf
    split
    · rw [List.length_cons, List.length_map]; omega
    · show 1 ≤ _; omega
section
variable {P : Program} {w : World} {K : PySem.W.Frag} {base : Heap} {mg : Str → Option Value}
def sp_live (K : PySem.W.Frag) : Sp := fun vs H Q _ => ∃ (p dr : Addr) (as : List Addr) (rs : List Rec) (L : List Trip), vs = [.ref p] ∧ TblAt K H p as rs dr L ∧ rs.length < 64 ∧ H dr = some (.dT (L.map kvOf)) ∧
  Mk1 H Q fun l H' => RecL H' l (liveN rs)
theorem sc_Table_live : FnScope ["self", "orders", "topic", "order", "record"] ["self"] (defScope s_Table_live) := C8.fnScope_by (by decide +kernel)
theorem c_Table_live (T : Tx w K mg) : Met P w K mg base 3 (He.ga K "Table") "live" (sp_live K) [] := by
  refine K_Table_live T sc_Table_live (fun _ _ _ _ _ _ us hl => match us, hl with | [_], _ => rfl) (by walk_at "len") (fun cdv A outer s H vs Q E hr h => ?_)
  have nd := sc_Table_live.nd
  have hu := hu_of hr
  refine ⟨_, (pss_cons (ps_set (i := 1) nd rfl (Or.inr rfl) pe_dnewK)
      (pss_cons (ps_lock (ps_for PassesOwn.never rfl (pi_keys (pe_fld (pv 0) rfl)) (pg_name (i := 2) nd rfl (Or.inl rfl)) (pss_one (ps_for PassesOwn.never rfl (pi_list (C8.pe_mt (c_Table_live_orders T) hr (by decide) (pv 0) (pa_cons (pv 2) pa_nil))) (pg_name (i := 3) nd rfl (Or.inl rfl)) (pss_one (ps_dput hu (pv 1) (pv 3) pe_bl rfl))))))
      (pss_one (ps_ret (pe_lc (own := [("record", 4)]) rfl nd (pi_list (pe_fld (pv 0) rfl)) (blkOk_by (N := (["self", "orders", "topic", "order", "record"] : List Str)) (sc := (defScope s_Table_live)) (by decide +kernel)) (fun _ _ _ _ _ => (pg_name (i := 4) nd rfl (Or.inl rfl))) (fun _ _ _ _ _ => (pts_one (pt_cmp (pc_din hu (pe_ix (ix_tupK (K := K) rfl) (pv 4) pe_int (fun _ _ => rfl)) (pv 1))))) (fun _ _ _ _ _ => (pv 4))))))), ?_⟩
  obtain ⟨p, dr, as, rs, L, rfl, TB, h64, hdr, k⟩ := h
  have sz0 : 0 ≤ sizeLine := by decide
  obtain ⟨dx, lr, do_, ds, hp, hlr, hds⟩ := TB.ex
  refine fun O hO => ⟨dr, .dT (L.map kvOf), upd_old hdr hO, trivial, fun od => ?_⟩
  have Odr : O ≠ dr := (ne_of_none hdr hO).symm
  have TB0 := TB.lock hdr od
  have sG : Same (upd H dr (.frz od (.dT (L.map kvOf)))) (upd (upd H O (.dK [])) dr (.frz od (.dT (L.map kvOf)))) := fun b o e => by
    by_cases z : b = dr
    · subst z; rw [upd_same] at e ⊢; exact e
    · rw [upd_ne z] at e ⊢; exact upd_old e hO
  have hGO : (upd H dr (.frz od (.dT (L.map kvOf)))) O = none := by rw [upd_ne Odr]; exact hO
  have hGr : (upd H dr (.frz od (.dT (L.map kvOf)))) dr = some (.frz od (.dT (L.map kvOf))) := upd_same
  have hGp : (upd H dr (.frz od (.dT (L.map kvOf)))) p = some (.ins (He.ga K "Table") dx (tbF lr dr do_ ds)) := by rw [upd_ne (ne_of hp hdr fun z => nomatch z)]; exact hp
  have hGf : ∀ b o, H b = some o → b ≠ dr → (upd H dr (.frz od (.dT (L.map kvOf)))) b = some o := fun b o e z => by rw [upd_ne z]; exact e
  have hO1 : (upd (upd H O (.dK [])) dr (.frz od (.dT (L.map kvOf)))) O = some (.dK []) := by rw [upd_ne Odr]; exact upd_same
  revert TB0 sG hGO hGr hGp hGf
  generalize (upd H dr (.frz od (.dT (L.map kvOf)))) = G
  intro TB0 sG hGO hGr hGp hGf
  refine ⟨_, rfl, p, _, dx, _, _, rfl, sG _ _ hGp, cls_Table T, at_Table_rows T, rfl, dr, od, rfl, .inr ⟨L.map kvOf, sG _ _ hGr, ?_⟩⟩
  have len1 : L.length ≤ 126 := by
    have := (tabOf_sz rs).1
    rw [← TB.eq, List.length_map] at this
    omega
  refine for_it walk_keysT (fun i σ H' => ∃ v2 v3 kvs, σ = [some (.ref p), some (.ref O), v2, v3, none] ∧ Same G H' ∧ H' O = some (.dK kvs) ∧ kvs.length ≤ 127 * i ∧ ∀ m, (valV kvs (.inl m)).isSome = hitN (snapsOf (tabOf rs)) ((tabOf rs).take i) m) ?_ ?_ ?_ ?_
  · exact ⟨none, none, [], rfl, sG, hO1, Nat.le_refl _, fun _ => rfl⟩
  · rintro i σ H' _ ⟨_, _, _, _, s, _⟩
    exact s _ _ hGr
  · rintro i y σ H' H2 hi ⟨v2, v3, kvs, rfl, s, eO, lO, hv⟩ ⟨rfl, kk, vv, q, hkv, rfl, hq⟩
    rw [List.getElem?_map] at hkv
    obtain ⟨x, hx, ex⟩ := Option.map_eq_some_iff.mp hkv
    obtain rfl : x.1.key = kk := congrArg (·.1) ex
    have hxm := List.mem_of_getElem? hx
    have hT : (tabOf rs)[i]? = some (tOf x) := by rw [← TB.eq, List.getElem?_map, hx] <;> rfl
    have il : i < L.length := (List.getElem?_eq_some_iff.mp hx).1
    refine ⟨_, rfl, p, dx, _, rfl, s _ _ hGp, rfl, _, rfl, p, q, dr, as, rs, L, x, rfl, TB0.same s, h64, hxm, hq, fun l H3 s3 f3 hl => ⟨l, rfl, ⟨_, SqL.of hl⟩, ?_⟩⟩
    have s13 := s.trans s3
    have eO3 := s3 _ _ eO
    have lO' : l ≠ O := (ne_of_none eO f3).symm
    have ll := liveOrds_len rs (tOf x)
    have tk : (tabOf rs).take (i + 1) = (tabOf rs).take i ++ [tOf x] := by rw [List.take_add_one, hT] <;> rfl
    refine for_list (K := K) (a := l) (xs := (liveOrds (snapsOf (tabOf rs)) (tOf x)).map V.int) (fun j σ H' => ∃ v3 kvs, σ = [some (.ref p), some (.ref O), some (.ref q), v3, none] ∧ Same G H' ∧ H' l = some (.lst ((liveOrds (snapsOf (tabOf rs)) (tOf x)).map V.int)) ∧ H' O = some (.dK kvs) ∧ kvs.length ≤ 127 * i + j ∧
      ∀ m, (valV kvs (.inl m)).isSome = (hitN (snapsOf (tabOf rs)) ((tabOf rs).take i) m || ((liveOrds (snapsOf (tabOf rs)) (tOf x)).take j).contains m)) ?_ ?_ ?_ ?_
    · exact ⟨_, kvs, rfl, s13, hl, eO3, lO, fun m => by rw [hv m, List.take_zero]; exact (Bool.or_false _).symm⟩
    · rintro j σ H' _ ⟨_, _, _, _, e, _⟩
      exact SqL.of e
    · rintro j y σ H' hy ⟨v3, kvs, rfl, s, el, eO, lO, hv⟩
      obtain ⟨n, hn, rfl⟩ := ints_i hy
      have jl := (List.getElem?_eq_some_iff.mp hn).1
      refine ⟨_, rfl, _, rfl, O, _, rfl, DPut.k (k := .inl n) eO ?_, ?_⟩
      · have : 20000 < sizeLine := by decide
        omega
      refine ⟨_, _, rfl, fun b o e => ?_, ?_, upd_same, ?_, fun m => ?_⟩
      · rw [upd_ne (ne_of_none e hGO)]; exact s _ _ e
      · rw [upd_ne lO']; exact el
      · have := length_putK kvs (.inl n) (.bl true)
        omega
      · rw [isSome_put, hv m, List.take_add_one, hn, List.contains_append]
        have q : ([n] : List Int).contains m = decide ((Sum.inl m : Key) = Sum.inl n) := by
          rw [key_ll]
          show (m == n || false) = _
          rw [Bool.or_false]
        show _ = (_ || (_ || ([n] : List Int).contains m))
        rw [q]
        cases decide ((Sum.inl m : Key) = Sum.inl n) <;> simp
    · rintro σ H' ⟨v3, kvs, rfl, s, _, eO, lO, hv⟩
      rw [List.length_map, List.take_length] at hv
      rw [List.length_map] at lO
      exact ⟨_, _, kvs, rfl, s, eO, by omega, fun m => by rw [hv m, tk, hit_snoc]⟩
  rintro σ H' ⟨v2, v3, kvs, rfl, s, eO, lO, hv⟩
  refine ⟨s _ _ hGr, ?_⟩
  rw [List.length_map, ← List.length_map (f := tOf), TB.eq, List.take_length] at hv
  have sF : Same H (upd H' dr (.dT (L.map kvOf))) := fun b o e => by
    by_cases z : b = dr
    · subst z; rw [hdr] at e; rw [upd_same]; exact e
    · rw [upd_ne z]; exact s _ _ (hGf _ _ e z)
  have fO : (upd H' dr (.dT (L.map kvOf))) O = some (.dK kvs) := by rw [upd_ne Odr]; exact eO
  revert sF fO
  generalize (upd H' dr (.dT (L.map kvOf))) = F
  intro sF fO
  have hrs := TB.recs.keep (same_imm sF)
  have hlen := Paired.length hrs
  refine ⟨_, rfl, p, _, dx, _, _, rfl, sF _ _ hp, cls_Table T, at_Table_records T, rfl, lr, rfl, ⟨_, SqL.of (sF _ _ hlr)⟩, fun D hD => ?_⟩
  refine lc_list (K := K) (a := lr) (xs := as.map V.ref) (fun i H' => H' = upd F D (.lst ((selA (fun r : Rec => hitN (snapsOf (tabOf rs)) (tabOf rs) r.ord) (as.take i) (rs.take i)).map V.ref))) rfl (fun i H' _ e => by rw [e]; exact SqL.of (upd_old (sF _ _ hlr) hD)) ?_ ?_
  · rintro i y H' hy rfl
    obtain ⟨a, ha, rfl⟩ := refs_i hy
    obtain ⟨r, hr, hR⟩ := L2.paired_get hrs ha
    obtain ⟨v0, _⟩ := vals_at r
    have es := selA_succ (p := fun r : Rec => hitN (snapsOf (tabOf rs)) (tabOf rs) r.ord) ha hr
    refine ⟨rfl, _, rfl, a, _, 0, _, rfl, rfl, SqT.of (upd_old hR hD), at_of (j := 0) rfl v0, _, rfl, O, _, rfl, DGet.k (k := .inl r.ord) (upd_old fO hD), _, rfl, ?_⟩
    rw [hv]
    cases cc : hitN (snapsOf (tabOf rs)) (tabOf rs) r.ord with
    | true =>
      rw [if_pos cc] at es
      refine iteT ⟨_, rfl, _, upd_same, ?_, ?_⟩
      · rw [List.length_map]
        refine small1000 ?_
        have := selA_len (p := fun r : Rec => hitN (snapsOf (tabOf rs)) (tabOf rs) r.ord) (as := as.take i) (ys := rs.take i)
        have l2 : (as.take i).length ≤ as.length := by rw [List.length_take]; omega
        omega
      · rw [upd_upd, es, List.map_append] <;> rfl
    | false =>
      rw [if_neg (by rw [cc]; exact Bool.false_ne_true)] at es
      refine iteF ?_
      rw [es, List.append_nil]
  rintro H' rfl
  rw [List.length_map, selA_all hlen]
  exact k D _ (same_upd' sF hD) (sF.free hD) ⟨_, upd_same, selA_paired (hrs.keep (same_imm (same_upd hD)))⟩
end
end L2.Sg
set_option Elab.async false
set_option linter.all false
set_option maxRecDepth 100000
set_option maxHeartbeats 4000000
namespace L2.Sg
open PySem PySem.Spec PyProof.Rows
open C8 (Cal Met Mak pe_c pe_mt pe_mt0 pe_mk tCut pss_cut)
local macro_rules | `(tactic| walk_at "len") => `(tactic| (intro vs H Q E h; first | (obtain ⟨e, _⟩ := h; subst e; rfl) | (obtain ⟨_, e, _⟩ := h; subst e; rfl) | (obtain ⟨_, _, e, _⟩ := h; subst e; rfl) | (obtain ⟨_, _, _, e, _⟩ := h; subst e; rfl) | (obtain ⟨_, _, _, _, e, _⟩ := h; subst e; rfl) | (obtain ⟨_, _, _, _, _, e, _⟩ := h; subst e; rfl) | (obtain ⟨_, _, _, _, _, _, e, _⟩ := h; subst e; rfl) | (obtain ⟨_, _, _, _, _, _, _, e, _⟩ := h; subst e; rfl) | (obtain ⟨_, _, _, _, _, _, _, _, e, _⟩ := h; subst e; rfl) | (obtain ⟨_, _, _, _, _, _, _, _, _, e, _⟩ := h; subst e; rfl) | (obtain ⟨_, _, _, _, _, _, _, _, _, _, e, _⟩ := h; subst e; rfl) | (obtain ⟨_, _, _, _, _, _, _, _, _, _, _, e, _⟩ := h; subst e; rfl) | (obtain ⟨_, _, _, _, _, _, _, _, _, _, _, _, e, _⟩ := h; subst e; rfl) | (obtain ⟨_, _, _, _, _, _, _, _, _, _, _, _, _, e, _⟩ := h; subst e; rfl) | (obtain ⟨_, _, _, _, _, _, _, _, _, _, _, _, _, _, e, _⟩ := h; subst e; rfl) | (obtain ⟨_, _, _, _, _, _, _, _, _, _, _, _, _, _, _, e, _⟩ := h; subst e; rfl)))
local macro_rules | `(tactic| walk_at "ns") => `(tactic| (try dsimp only [Op.kind, Tp.word, Rec.top]); decide +kernel)
theorem sharedB_no {sn : List Int} {t : Tp × Rows} (h : ∀ n, t.1 ≠ .place n) : sharedB sn t = false := by
  unfold sharedB
  split
  · rename_i n e; exact absurd e (h n)
  · rfl
theorem sharedB_pl {sn : List Int} {t : Tp × Rows} {n : Int} (h : t.1 = .place n) : sharedB sn t = (lastHas t.2 && sn.any fun n => decide (lastOrd t.2 < n)) := by
  unfold sharedB
  split
  · rfl
  · rename_i e; exact absurd h (e n)
theorem word_place (t : Tp) (h : ∀ n, t ≠ .place n) : ¬ t.word = "place" := by
  cases t with
  | place n => exact absurd rfl (h n)
  | host i => exact (show ¬ ("host" : Str) = "place" by decide +kernel)
  | space => exact (show ¬ ("space" : Str) = "place" by decide +kernel)
  | snap n => exact (show ¬ ("snap" : Str) = "place" by decide +kernel)
section
variable {P : Program} {w : World} {K : PySem.W.Frag} {base : Heap} {mg : Str → Option Value}
def sp_is_shared (K : PySem.W.Frag) : Sp := fun vs H Q _ => ∃ (p q dr : Addr) (as : List Addr) (rs : List Rec) (L : List Trip) (x : Trip), vs = [.ref p, .ref q] ∧ TblAt K H p as rs dr L ∧ rs.length < 64 ∧ x ∈ L ∧ H q = some (.tup (x.1.key.map kV)) ∧
  ∀ H', Same H H' → Q (.bl (sharedB (snapsOf (tabOf rs)) (tOf x))) H'
theorem sc_Table_is_shared : FnScope ["self", "topic", "order", "value", "number"] ["self", "topic"] (defScope s_Table_is_shared) := C8.fnScope_by (by decide +kernel)
theorem c_Table_is_shared (T : Tx w K mg) : Met P w K mg base 2 (He.ga K "Table") "is_shared" (sp_is_shared K) [] := by
  refine K_Table_is_shared T sc_Table_is_shared (fun _ _ _ _ _ _ us hl => match us, hl with | [_, _], _ => rfl) (by walk_at "len") (fun cdv A outer s H vs Q E hr h => ?_)
  have nd := sc_Table_is_shared.nd
  have hu := hu_of hr
  refine ⟨_, (pss_cons (ps_if (pt_cmpR op_ne (pe_ix ix_tup (pv 1) pe_int (fun _ _ => rfl)) pe_str (nomark _)) (pss_one (ps_ret pe_bl)) pss_nil)
      (pss_cons (ps_asg (pe_ix ix_list (pe_dget hu (pe_fld (pv 0) rfl) (pv 1) (fun _ _ => rfl)) (pe_un un_neg pe_int) (fun _ _ => rfl)) (pg_tup rfl (pgs_cons (pg_name (i := 2) nd rfl (Or.inr rfl)) (pgs_cons (pg_name (i := 3) nd rfl (Or.inl rfl)) pgs_nil))))
      (pss_cons (ps_if (PW.pt (pw_or (pt_cmp (pc_isN (pv 3))) (pw_or1 (pt_val (C8.pe_mt (c_Table_is_hidden T) hr (by decide) (pv 0) (pa_cons (pv 1) (pa_cons (pv 2) (pa_cons pe_non pa_nil)))))))) (pss_one (ps_ret pe_bl)) pss_nil)
      (pss_one (ps_ret (pe_callB (cr_any rfl) (by rfl) (b_any T) (by decide +kernel) (pa_cons (pe_lc (own := [("number", 4)]) rfl nd (pi_list (pe_dget2 hu (pe_fld (pv 0) rfl) (pe_ix ix_tup (pv 1) pe_int (fun _ _ => rfl)) (pe_lst pa_nil) ⟨rfl, rfl, rfl, rfl⟩)) (blkOk_by (N := (["self", "topic", "order", "value", "number"] : List Str)) (sc := (defScope s_Table_is_shared)) (by decide +kernel)) (fun _ _ _ _ _ => (pg_name (i := 4) nd rfl (Or.inl rfl))) (fun _ _ _ _ _ => pts_nil) (fun _ _ _ _ _ => (pe_cmpR op_lt (pv 2) (pv 4) (nomark _)))) pa_nil))))))), ?_⟩
  obtain ⟨p, q, dr, as, rs, L, x, rfl, TB, h64, hx, hq, k⟩ := h
  have sz0 : 0 ≤ sizeLine := by decide
  obtain ⟨dx, lr, do_, ds, hp, hlr, hds⟩ := TB.ex
  obtain ⟨ps, pl, v, hl, hat, hpl, hv, _⟩ := (TB.tab.rows x hx).last (TB.ne hx)
  refine ⟨_, rfl, q, _, 0, _, rfl, rfl, SqT.of hq, at_of (j := 0) rfl (key_word x.1), rfl, _, rfl, ?_⟩
  by_cases c : ∃ n, x.1 = .place n
  · obtain ⟨n, en⟩ := c
    have eS : sharedB (snapsOf (tabOf rs)) (tOf x) = (lastHas x.2.2 && (snapsOf (tabOf rs)).any fun n => decide (lastOrd x.2.2 < n)) := sharedB_pl (t := tOf x) en
    rw [eS] at k
    refine notS_F (by rw [en] <;> rfl) ?_
    refine ⟨_, rfl, p, _, dx, _, _, rfl, hp, cls_Table T, at_Table_rows T, rfl, _, rfl, dr, _, rfl, TB.find hx ▸ rd_topic TB.rows hq, 1, rfl, x.2.1, ps, -1, .ref pl, rfl, rfl, SqL.of hl, hat, ?_⟩
    refine ⟨pl, _, rfl, SqT.of hpl, rfl, _, _, rfl, _, _, rfl, rfl, ?_⟩
    refine ⟨_, rfl, _, rfl, ?_⟩
    rw [hv]
    cases lh : lastHas x.2.2 with
    | false =>
      rw [lh] at k
      exact iteT (k _ (Same.refl H))
    | true =>
      rw [lh] at k
      refine iteF ⟨_, rfl, p, dx, _, rfl, hp, rfl, _, rfl, _, rfl, ?_⟩
      refine ⟨p, q, dr, L, x.1, _, .non, rfl, ⟨dx, _, hp, rfl⟩, TB.rows, hq, fun H1 s1 => ⟨_, rfl, iteF ?_⟩⟩
      have hds1 := hds.same s1
      refine ⟨_, rfl, p, _, dx, _, _, rfl, s1 _ _ hp, cls_Table T, at_Table_snapshots T, rfl, ds, rfl, ?_⟩
      refine ⟨?_, _, rfl, q, _, 1, _, rfl, rfl, SqT.of (s1 _ _ hq), by rw [en]; exact at_of (j := 1) rfl rfl, sz0, fun n0 hn0 => ?_⟩
      · rcases hds1 with ⟨_, b⟩ | ⟨_, sl, b, _⟩
        · exact .inl ⟨_, .inl b⟩
        · exact .inl ⟨_, .inl b⟩
      obtain ⟨_, o, hg, sl, e, hsl⟩ := hds1.get hn0
      refine ⟨o, hg, sl, e, ⟨_, SqL.of hsl⟩, fun D hD => ?_⟩
      have s2 := same_upd' s1 hn0 (o := .lst [])
      refine lc_list (K := K) (a := sl) (xs := (snapsOf (tabOf rs)).map V.int) (fun i H' => H' = upd (upd H1 n0 (.lst [])) D (.lst ((((snapsOf (tabOf rs)).take i).map fun n => decide (lastOrd x.2.2 < n)).map V.bl))) rfl (fun i H' _ e => by rw [e]; exact SqL.of (upd_old hsl hD)) ?_ ?_
      · rintro i y H' hy rfl
        obtain ⟨m, hm, rfl⟩ := ints_i hy
        refine ⟨rfl, yesT ⟨_, rfl, _, rfl, _, _, rfl, rfl, _, upd_same, ?_, ?_⟩⟩
        · rw [List.length_map, List.length_map, List.length_take]
          have := snaps_len rs
          exact small1000 (by omega)
        · rw [upd_upd, List.take_add_one, hm, List.map_append, List.map_append] <;> rfl
      rintro H' rfl
      rw [List.length_map, List.take_length]
      refine ⟨D, _, rfl, SqL.of upd_same, ?_⟩
      have := k _ (same_upd' s2 hD (o := .lst (((snapsOf (tabOf rs)).map fun n => decide (lastOrd x.2.2 < n)).map V.bl)))
      rw [Bool.true_and] at this
      rw [List.any_map]
      exact this
  · have c' : ∀ n, x.1 ≠ .place n := fun n e => c ⟨n, e⟩
    rw [sharedB_no (t := tOf x) c'] at k
    exact notS_T (word_place _ c') (k _ (Same.refl H))
def sp_shared (K : PySem.W.Frag) : Sp := fun vs H Q _ => ∃ (p dr : Addr) (as : List Addr) (rs : List Rec) (L : List Trip), vs = [.ref p] ∧ TblAt K H p as rs dr L ∧ rs.length < 64 ∧ H dr = some (.dT (L.map kvOf)) ∧
  Mk1 H Q fun l H' => ∃ xs, H' l = some (.lst xs) ∧ xs.length = sharedN rs
theorem sc_Table_shared : FnScope ["self", "topic"] ["self"] (defScope s_Table_shared) := C8.fnScope_by (by decide +kernel)
theorem c_Table_shared (T : Tx w K mg) : Met P w K mg base 3 (He.ga K "Table") "shared" (sp_shared K) [] := by
  refine K_Table_shared T sc_Table_shared (fun _ _ _ _ _ _ us hl => match us, hl with | [_], _ => rfl) (by walk_at "len") (fun cdv A outer s H vs Q E hr h => ?_)
  have nd := sc_Table_shared.nd
  have hu := hu_of hr
  refine ⟨_, (pss_one (ps_ret (pe_callB (cr_sortedP) (by rfl) (b_sorted T) (by decide +kernel) (pa_cons (pe_lock (pe_lc (own := [("topic", 1)]) rfl nd (pi_keys (pe_fld (pv 0) rfl)) (blkOk_by (N := (["self", "topic"] : List Str)) (sc := (defScope s_Table_shared)) (by decide +kernel)) (fun _ _ _ _ _ => (pg_name (i := 1) nd rfl (Or.inl rfl))) (fun _ _ _ _ _ => (pts_one (pt_val (C8.pe_mt (c_Table_is_shared T) hr (by decide) (pv 0) (pa_cons (pv 1) pa_nil))))) (fun _ _ _ _ _ => (pe_tup (pa_cons (pe_ix (ix_tupK (K := K) rfl) (pv 1) pe_int (fun _ _ => rfl)) (pa_cons (pe_ix (ix_tupK (K := K) rfl) (pv 1) pe_int (fun _ _ => rfl)) pa_nil)))))) pa_nil)))), ?_⟩
  obtain ⟨p, dr, as, rs, L, rfl, TB, h64, hdr, k⟩ := h
  have sz2 : 2 ≤ sizeLine := by decide
  obtain ⟨dx, lr, do_, ds, hp, hlr, hds⟩ := TB.ex
  refine ⟨dr, .dT (L.map kvOf), hdr, trivial, fun od => ?_⟩
  have TB0 := TB.lock hdr od
  have hGr : (upd H dr (.frz od (.dT (L.map kvOf)))) dr = some (.frz od (.dT (L.map kvOf))) := upd_same
  have hGp : (upd H dr (.frz od (.dT (L.map kvOf)))) p = some (.ins (He.ga K "Table") dx (tbF lr dr do_ ds)) := by rw [upd_ne (ne_of hp hdr fun z => nomatch z)]; exact hp
  have hGf : ∀ b o, H b = some o → b ≠ dr → (upd H dr (.frz od (.dT (L.map kvOf)))) b = some o := fun b o e z => by rw [upd_ne z]; exact e
  have hGn : ∀ b, (upd H dr (.frz od (.dT (L.map kvOf)))) b = none → H b = none ∧ b ≠ dr := fun b e => by
    by_cases z : b = dr
    · rw [z, upd_same] at e; cases e
    · rw [upd_ne z] at e; exact ⟨e, z⟩
  revert TB0 hGr hGp hGf hGn
  generalize (upd H dr (.frz od (.dT (L.map kvOf)))) = G
  intro TB0 hGr hGp hGf hGn
  refine ⟨_, rfl, p, _, dx, _, _, rfl, hGp, cls_Table T, at_Table_rows T, rfl, dr, od, rfl, .inr ⟨L.map kvOf, hGr, fun D hD => ?_⟩⟩
  have len1 : (tabOf rs).length ≤ 126 := by
    have := (tabOf_sz rs).1
    omega
  refine lc_it walk_keysT (fun i H' => Same G H' ∧ ∃ xs, H' D = some (.lst xs) ∧ xs.length = (((tabOf rs).take i).filter (sharedB (snapsOf (tabOf rs)))).length ∧ ∀ y ∈ xs, ∃ t i j, y = V.ref t ∧ H' t = some (.tup [.int i, .int j])) ?_ ?_ ?_ ?_
  · exact ⟨same_upd hD, [], upd_same, rfl, fun y h => (List.not_mem_nil h).elim⟩
  · rintro i H' _ ⟨s, _⟩
    exact s _ _ hGr
  · rintro i y H' H2 hi ⟨s, xs, eD, el, ex⟩ ⟨rfl, kk, vv, q, hkv, rfl, hq⟩
    rw [List.getElem?_map] at hkv
    obtain ⟨x, hx, ex0⟩ := Option.map_eq_some_iff.mp hkv
    obtain rfl : x.1.key = kk := congrArg (·.1) ex0
    have hxm := List.mem_of_getElem? hx
    have hT : (tabOf rs)[i]? = some (tOf x) := by rw [← TB.eq, List.getElem?_map, hx] <;> rfl
    have tk : (tabOf rs).take (i + 1) = (tabOf rs).take i ++ [tOf x] := by rw [List.take_add_one, hT] <;> rfl
    have fl : (((tabOf rs).take (i + 1)).filter (sharedB (snapsOf (tabOf rs)))) = ((tabOf rs).take i).filter (sharedB (snapsOf (tabOf rs))) ++ [tOf x].filter (sharedB (snapsOf (tabOf rs))) := by rw [tk, List.filter_append]
    refine ⟨rfl, _, rfl, p, dx, _, rfl, s _ _ hGp, rfl, _, rfl, p, q, dr, as, rs, L, x, rfl, TB0.same s, h64, hxm, hq, fun H3 s3 => ⟨_, rfl, ?_⟩⟩
    have ex3 : ∀ y ∈ xs, ∃ t i j, y = V.ref t ∧ H3 t = some (.tup [.int i, .int j]) := fun y hy => let ⟨t, i, j, e, h⟩ := ex y hy; ⟨t, i, j, e, s3 _ _ h⟩
    cases cc : sharedB (snapsOf (tabOf rs)) (tOf x) with
    | true =>
      have pl : ∃ n, x.1 = .place n := by
        cases e : x.1 with
        | place n => exact ⟨n, rfl⟩
        | _ => rw [sharedB_no (t := tOf x) (fun n z => by have : x.1 = .place n := z; rw [e] at this; cases this)] at cc; cases cc
      obtain ⟨n, en⟩ := pl
      have hq3 := s3 _ _ hq
      rw [en] at hq3
      refine iteT ⟨_, rfl, q, _, 1, _, rfl, rfl, SqT.of hq3, at_of (j := 1) rfl rfl, _, rfl, q, _, 2, _, rfl, rfl, SqT.of hq3, at_of (j := 2) rfl rfl, sz2, fun c hc => ?_⟩
      have eD3 := upd_old (o := .tup [.int 5, .int n]) (s3 _ _ eD) hc
      refine ⟨xs, eD3, ?_, fun b o e => ?_, _, upd_same, ?_, fun y hy => ?_⟩
      · refine small1000 ?_
        rw [el]
        have h1 := List.length_filter_le (sharedB (snapsOf (tabOf rs))) ((tabOf rs).take i)
        rw [List.length_take] at h1
        omega
      · rw [upd_ne (ne_of_none e hD)]; exact upd_old (s3 _ _ (s _ _ e)) hc
      · rw [fl, List.length_append, List.length_append, el, List.filter_cons_of_pos cc] <;> rfl
      · rcases List.mem_append.mp hy with hy | hy
        · obtain ⟨t, i, j, e, h⟩ := ex3 y hy
          exact ⟨t, i, j, e, by rw [upd_ne (ne_of (upd_old h hc) eD3 fun z => nomatch z)]; exact upd_old h hc⟩
        · obtain rfl := List.mem_singleton.mp hy
          exact ⟨c, 5, n, rfl, by rw [upd_ne (fun z => by rw [← z] at eD; rw [s3 _ _ eD] at hc; cases hc)]; exact upd_same⟩
    | false =>
      refine iteF ⟨s.trans s3, xs, s3 _ _ eD, ?_, ex3⟩
      rw [fl, List.filter_cons_of_neg (by rw [cc]; exact Bool.false_ne_true), List.filter_nil, List.append_nil, el]
  rintro H' ⟨s, xs, eD, el, ex⟩
  refine ⟨s _ _ hGr, ?_⟩
  rw [List.length_map, ← List.length_map (f := tOf), TB.eq, List.take_length] at el
  have hDH := hGn D hD
  have sF : Same H (upd H' dr (.dT (L.map kvOf))) := fun b o e => by
    by_cases z : b = dr
    · subst z; rw [hdr] at e; rw [upd_same]; exact e
    · rw [upd_ne z]; exact s _ _ (hGf _ _ e z)
  refine ⟨D, xs, rfl, SqL.of (by rw [upd_ne hDH.2]; exact eD), fun y hy => ?_, fun ys l pm hl => ?_⟩
  · obtain ⟨t, i, j, e, h⟩ := ex y hy
    exact ⟨t, i, j, e, by rw [upd_ne (ne_of h (s _ _ hGr) fun z => nomatch z)]; exact h⟩
  · exact k l _ (same_upd' sF hl) (sF.free hl) ⟨ys, upd_same, pm.length_eq.trans el⟩
end
end L2.Sg
set_option Elab.async false
set_option linter.all false
set_option maxRecDepth 100000
set_option maxHeartbeats 4000000
namespace L2.Sg
open PySem PySem.Spec PyProof.Rows
open C8 (Cal Met Mak pe_c pe_mt pe_mt0 pe_mk tCut pss_cut)
local macro_rules | `(tactic| walk_at "len") => `(tactic| (intro vs H Q E h; first | (obtain ⟨e, _⟩ := h; subst e; rfl) | (obtain ⟨_, e, _⟩ := h; subst e; rfl) | (obtain ⟨_, _, e, _⟩ := h; subst e; rfl) | (obtain ⟨_, _, _, e, _⟩ := h; subst e; rfl) | (obtain ⟨_, _, _, _, e, _⟩ := h; subst e; rfl) | (obtain ⟨_, _, _, _, _, e, _⟩ := h; subst e; rfl) | (obtain ⟨_, _, _, _, _, _, e, _⟩ := h; subst e; rfl) | (obtain ⟨_, _, _, _, _, _, _, e, _⟩ := h; subst e; rfl) | (obtain ⟨_, _, _, _, _, _, _, _, e, _⟩ := h; subst e; rfl) | (obtain ⟨_, _, _, _, _, _, _, _, _, e, _⟩ := h; subst e; rfl) | (obtain ⟨_, _, _, _, _, _, _, _, _, _, e, _⟩ := h; subst e; rfl) | (obtain ⟨_, _, _, _, _, _, _, _, _, _, _, e, _⟩ := h; subst e; rfl) | (obtain ⟨_, _, _, _, _, _, _, _, _, _, _, _, e, _⟩ := h; subst e; rfl) | (obtain ⟨_, _, _, _, _, _, _, _, _, _, _, _, _, e, _⟩ := h; subst e; rfl) | (obtain ⟨_, _, _, _, _, _, _, _, _, _, _, _, _, _, e, _⟩ := h; subst e; rfl) | (obtain ⟨_, _, _, _, _, _, _, _, _, _, _, _, _, _, _, e, _⟩ := h; subst e; rfl)))
local macro_rules | `(tactic| walk_at "ns") => `(tactic| (try dsimp only [Op.kind, Tp.word, Rec.top]); decide +kernel)
theorem Asc.filter {rs : List Rec} (h : Asc rs) (p : Rec → Bool) : Asc (rs.filter p) := h.sublist List.filter_sublist
theorem liveN_len (rs : List Rec) : (liveN rs).length ≤ rs.length := List.length_filter_le _ _
section
variable {P : Program} {w : World} {K : PySem.W.Frag} {base : Heap} {mg : Str → Option Value}
def sp_live_records : Sp := fun vs H Q _ => ∃ (l : Addr) (rs : List Rec), vs = [.ref l] ∧ RecL H l rs ∧ Asc rs ∧ rs.length < 64 ∧ Mk1 H Q fun l H' => RecL H' l (liveN rs)
theorem sc_live_records : FnScope ["records"] ["records"] (defScope s_live_records) := C8.fnScope_by (by decide +kernel)
theorem c_live_records (T : Tx w K mg) : Cal P w K mg base 5 "live_records" sp_live_records [] := by
  refine K_live_records T sc_live_records (fun _ _ _ _ _ _ us hl => match us, hl with | [_], _ => rfl) (by walk_at "len") (fun cdv A outer s H vs Q E hr h => ?_)
  have nd := sc_live_records.nd
  have hu := hu_of hr
  refine ⟨_, (pss_one (ps_ret (C8.pe_mt0 (c_Table_live T) hr (by decide) (C8.pe_mk (c_Table_init T) hr (by decide) (by rfl) (pa_cons (pv 0) pa_nil))))), ?_⟩
  obtain ⟨l, rs, rfl, hR, asc, h64, k⟩ := h
  refine ⟨_, rfl, fun p dx hp hdx dne => ?_⟩
  have s1 := same_upd hdx (o := .own p)
  have hp1 : (upd H dx (.own p)) p = none := by rw [upd_ne dne.symm]; exact hp
  have s2 := same_upd' s1 hp1 (o := .ins (He.ga K "Table") dx [])
  refine ⟨p, dx, l, rs, rfl, upd_same, hR.keep s2, asc, h64, fun H' as dr L TB hdr fr => ⟨rfl, ?_⟩⟩
  have s3 : Same H H' := fun b o e => fr b o (s2 _ _ e) (ne_of_none e hp)
  obtain ⟨dx', lr, do_, ds, hp', _⟩ := TB.ex
  refine ⟨p, dx', _, rfl, hp', rfl, p, dr, as, rs, L, rfl, TB, h64, hdr, fun l' H'' s4 f4 r4 => ?_⟩
  exact k l' H'' (s3.trans s4) (s3.free f4) r4
def sp_shared_places : Sp := fun vs H Q _ => ∃ (l : Addr) (rs : List Rec), vs = [.ref l] ∧ RecL H l rs ∧ Asc rs ∧ rs.length < 64 ∧ Mk1 H Q fun l H' => ∃ xs, H' l = some (.lst xs) ∧ xs.length = sharedN rs
theorem sc_shared_places : FnScope ["records"] ["records"] (defScope s_shared_places) := C8.fnScope_by (by decide +kernel)
theorem c_shared_places (T : Tx w K mg) : Cal P w K mg base 5 "shared_places" sp_shared_places [] := by
  refine K_shared_places T sc_shared_places (fun _ _ _ _ _ _ us hl => match us, hl with | [_], _ => rfl) (by walk_at "len") (fun cdv A outer s H vs Q E hr h => ?_)
  have nd := sc_shared_places.nd
  have hu := hu_of hr
  refine ⟨_, (pss_one (ps_ret (C8.pe_mt0 (c_Table_shared T) hr (by decide) (C8.pe_mk (c_Table_init T) hr (by decide) (by rfl) (pa_cons (pv 0) pa_nil))))), ?_⟩
  obtain ⟨l, rs, rfl, hR, asc, h64, k⟩ := h
  refine ⟨_, rfl, fun p dx hp hdx dne => ?_⟩
  have s1 := same_upd hdx (o := .own p)
  have hp1 : (upd H dx (.own p)) p = none := by rw [upd_ne dne.symm]; exact hp
  have s2 := same_upd' s1 hp1 (o := .ins (He.ga K "Table") dx [])
  refine ⟨p, dx, l, rs, rfl, upd_same, hR.keep s2, asc, h64, fun H' as dr L TB hdr fr => ⟨rfl, ?_⟩⟩
  have s3 : Same H H' := fun b o e => fr b o (s2 _ _ e) (ne_of_none e hp)
  obtain ⟨dx', lr, do_, ds, hp', _⟩ := TB.ex
  refine ⟨p, dx', _, rfl, hp', rfl, p, dr, as, rs, L, rfl, TB, h64, hdr, fun l' H'' s4 f4 r4 => ?_⟩
  exact k l' H'' (s3.trans s4) (s3.free f4) r4
def sp_core : Sp := fun vs H Q _ => ∃ (l : Addr) (rs : List Rec), vs = [.ref l] ∧ RecL H l rs ∧ Asc rs ∧ rs.length < 64 ∧ ∀ l H', Same H H' → RecL H' l (coreN rs) → Q (.ref l) H'
theorem sc_core : FnScope ["records", "left", "smaller"] ["records"] (defScope s_core) := C8.fnScope_by (by decide +kernel)
theorem c_core (T : Tx w K mg) : Cal P w K mg base 6 "core" sp_core [] := by
  refine K_core T sc_core (fun _ _ _ _ _ _ us hl => match us, hl with | [_], _ => rfl) (by walk_at "len") (fun cdv A outer s H vs Q E hr h => ?_)
  have nd := sc_core.nd
  have hu := hu_of hr
  refine ⟨_, (pss_cons (ps_set (i := 1) nd rfl (Or.inl rfl) (C8.pe_c (c_live_records T) hr (by decide) (by rfl) (pa_cons (pv 0) pa_nil)))
      (pss_cons (ps_set (i := 2) nd rfl (Or.inl rfl) (C8.pe_c (c_live_records T) hr (by decide) (by rfl) (pa_cons (pv 1) pa_nil)))
      (pss_cons (ps_while PassesOwn.never (pt_cmpR op_lt (pe_callB (call_len) (by rfl) (b_len T) PySem.boot_len (pa_cons (pv 2) pa_nil)) (pe_callB (call_len) (by rfl) (b_len T) PySem.boot_len (pa_cons (pv 1) pa_nil)) (nomark _)) (pss_cons (ps_set (i := 1) nd rfl (Or.inl rfl) (pv 2))
      (pss_one (ps_set (i := 2) nd rfl (Or.inl rfl) (C8.pe_c (c_live_records T) hr (by decide) (by rfl) (pa_cons (pv 1) pa_nil))))))
      (pss_one (ps_ret (pv 1)))))), ?_⟩
  obtain ⟨l, rs, rfl, hR, asc, h64, k⟩ := h
  have a1 : Asc (liveN rs) := asc.filter _
  have n1 := liveN_len rs
  refine ⟨_, rfl, l, rs, rfl, hR, asc, h64, fun l1 H1 s1 _ r1 => ?_⟩
  refine ⟨_, rfl, l1, liveN rs, rfl, r1, a1, by omega, fun l2 H2 s2 _ r2 => ?_⟩
  refine ⟨fun m σ H' => ∃ l1 l2 ls, σ = [some (.ref l), some (.ref l1), some (.ref l2)] ∧ Same H H' ∧ RecL H' l1 ls ∧ RecL H' l2 (liveN ls) ∧ Asc ls ∧ ls.length < m ∧ ls.length < 64 ∧ coreIt m ls = coreN rs, ⟨rs.length + 1, l1, l2, liveN rs, rfl, s1.trans s2, r1.keep s2, r2, a1, by omega, by omega, rfl⟩, ?_⟩
  rintro m σ H' ⟨l1, l2, ls, rfl, s, r1, r2, a, hm, h6, e⟩
  obtain ⟨as1, e1, p1⟩ := r1
  obtain ⟨as2, e2, p2⟩ := r2
  have q1 := Paired.length p1
  have q2 := Paired.length p2
  refine ⟨_, rfl, _, _, rfl, .inl ⟨_, SqL.of e2, rfl⟩, _, rfl, _, _, rfl, .inl ⟨_, SqL.of e1, rfl⟩, _, _, rfl, rfl, _, rfl, ?_⟩
  rw [List.length_map, List.length_map, q1, q2]
  cases m with
  | zero => omega
  | succ m =>
    by_cases c : (liveN ls).length < ls.length
    · refine ite_of (by omega) ⟨_, fun _ _ z => ⟨m, Nat.lt_succ_self m, z⟩, ?_⟩
      refine ⟨_, rfl, _, rfl, l2, liveN ls, rfl, ⟨as2, e2, p2⟩, a.filter _, by omega, fun l3 H3 s3 _ r3 => ?_⟩
      refine ⟨l2, l3, liveN ls, rfl, s.trans s3, RecL.keep ⟨as2, e2, p2⟩ s3, r3, a.filter _, by omega, by omega, ?_⟩
      rw [← e]
      exact (if_pos c).symm
    · refine ite_no (by omega) ⟨_, rfl, ?_⟩
      have e3 : coreIt (m + 1) ls = ls := if_neg c
      exact k l1 H' s ⟨as1, e1, by rw [← e, e3]; exact p1⟩
def sp_need : Sp := fun vs H Q _ => ∃ (l : Addr) (rs : List Rec), vs = [.ref l] ∧ RecL H l rs ∧ Asc rs ∧ rs.length < 64 ∧ ∀ H', Same H H' → Q (.int (needN rs)) H'
theorem sc_need : FnScope ["records"] ["records"] (defScope s_need) := C8.fnScope_by (by decide +kernel)
theorem c_need (T : Tx w K mg) : Cal P w K mg base 7 "need" sp_need [] := by
  refine K_need T sc_need (fun _ _ _ _ _ _ us hl => match us, hl with | [_], _ => rfl) (by walk_at "len") (fun cdv A outer s H vs Q E hr h => ?_)
  have nd := sc_need.nd
  have hu := hu_of hr
  refine ⟨_, (pss_one (ps_ret (pe_op op_add (pe_callB (call_len) (by rfl) (b_len T) PySem.boot_len (pa_cons (C8.pe_c (c_core T) hr (by decide) (by rfl) (pa_cons (pv 0) pa_nil)) pa_nil)) (pe_callB (call_len) (by rfl) (b_len T) PySem.boot_len (pa_cons (C8.pe_c (c_shared_places T) hr (by decide) (by rfl) (pa_cons (pv 0) pa_nil)) pa_nil))))), ?_⟩
  obtain ⟨l, rs, rfl, hR, asc, h64, k⟩ := h
  refine ⟨_, rfl, l, rs, rfl, hR, asc, h64, fun l1 H1 s1 r1 => ?_⟩
  obtain ⟨as1, e1, p1⟩ := r1
  refine ⟨_, _, rfl, .inl ⟨_, SqL.of e1, rfl⟩, ?_⟩
  refine ⟨_, rfl, l, rs, rfl, hR.keep s1, asc, h64, fun l2 H2 s2 _ ⟨xs, e2, el⟩ => ?_⟩
  refine ⟨_, _, rfl, .inl ⟨_, SqL.of e2, rfl⟩, _, _, rfl, rfl, ?_⟩
  rw [List.length_map, Paired.length p1, el]
  exact k _ (s1.trans s2)
end
end L2.Sg
set_option Elab.async false
set_option linter.all false
set_option maxRecDepth 100000
set_option maxHeartbeats 4000000
namespace L2.Sg
open PySem PySem.Spec PyProof.Rows
open C8 (Cal Met Mak pe_c pe_mt pe_mt0 pe_mk tCut pss_cut)
local macro_rules | `(tactic| walk_at "len") => `(tactic| (intro vs H Q E h; first | (obtain ⟨e, _⟩ := h; subst e; rfl) | (obtain ⟨_, e, _⟩ := h; subst e; rfl) | (obtain ⟨_, _, e, _⟩ := h; subst e; rfl) | (obtain ⟨_, _, _, e, _⟩ := h; subst e; rfl) | (obtain ⟨_, _, _, _, e, _⟩ := h; subst e; rfl) | (obtain ⟨_, _, _, _, _, e, _⟩ := h; subst e; rfl) | (obtain ⟨_, _, _, _, _, _, e, _⟩ := h; subst e; rfl) | (obtain ⟨_, _, _, _, _, _, _, e, _⟩ := h; subst e; rfl) | (obtain ⟨_, _, _, _, _, _, _, _, e, _⟩ := h; subst e; rfl) | (obtain ⟨_, _, _, _, _, _, _, _, _, e, _⟩ := h; subst e; rfl) | (obtain ⟨_, _, _, _, _, _, _, _, _, _, e, _⟩ := h; subst e; rfl) | (obtain ⟨_, _, _, _, _, _, _, _, _, _, _, e, _⟩ := h; subst e; rfl) | (obtain ⟨_, _, _, _, _, _, _, _, _, _, _, _, e, _⟩ := h; subst e; rfl) | (obtain ⟨_, _, _, _, _, _, _, _, _, _, _, _, _, e, _⟩ := h; subst e; rfl) | (obtain ⟨_, _, _, _, _, _, _, _, _, _, _, _, _, _, e, _⟩ := h; subst e; rfl) | (obtain ⟨_, _, _, _, _, _, _, _, _, _, _, _, _, _, _, e, _⟩ := h; subst e; rfl)))
local macro_rules | `(tactic| walk_at "ns") => `(tactic| (try dsimp only [Op.kind, Tp.word, Rec.top]); decide +kernel)
theorem op_repK {X : Cx} {K : PySem.W.Frag} (_ : X.K = K) : OpR X (binaryOp .Mult) rRep := op_rep
/-! ### blocks of pages -/
def blk (as : List Addr) (i : Nat) : List Addr := (as.drop (8 * i)).take 8
theorem blk_le (as : List Addr) (i : Nat) : (blk as i).length ≤ 8 := List.length_take_le _ _
theorem blk_len (as : List Addr) (i : Nat) : (blk as i).length = min 8 (as.length - 8 * i) := by unfold blk; rw [List.length_take, List.length_drop]
theorem blk_other {as : List Addr} {a : Addr} {i : Nat} (h : i ≠ as.length / 8) : blk (as ++ [a]) i = blk as i := by
  unfold blk
  by_cases c : i < as.length / 8
  · have e : 8 * i + 8 ≤ as.length := by omega
    rw [List.drop_append_of_le_length (by omega), List.take_append_of_le_length (by rw [List.length_drop]; omega)]
  · have h1 : as.length + 1 ≤ 8 * i := by omega
    rw [List.drop_eq_nil_of_le (by rw [List.length_append]; exact h1), List.drop_eq_nil_of_le (by omega)]
theorem blk_this (as : List Addr) (a : Addr) : blk (as ++ [a]) (as.length / 8) = blk as (as.length / 8) ++ [a] := by
  unfold blk
  have h1 : 8 * (as.length / 8) ≤ as.length := by omega
  have h2 : (as.drop (8 * (as.length / 8))).length < 8 := by rw [List.length_drop]; omega
  rw [List.drop_append_of_le_length h1, List.take_of_length_le (by rw [List.length_append]; show _ + 1 ≤ 8; omega), List.take_of_length_le (by omega)]
theorem pgs_set {cs : List Addr} {a : Addr} (h : cs.length < 8) : (pgs cs).set cs.length (.ref a) = pgs (cs ++ [a]) := by
  unfold pgs
  rw [List.set_append_right _ _ (by rw [List.length_map]; exact Nat.le_refl _), List.length_map, Nat.sub_self, List.map_append, List.append_assoc, List.length_append]
  congr 1
  obtain ⟨n, e⟩ : ∃ n, 8 - cs.length = n + 1 := ⟨7 - cs.length, by omega⟩
  rw [e, List.replicate_succ, List.set_cons_zero]
  have e2 : 8 - (cs.length + [a].length) = n := by show 8 - (cs.length + 1) = n; omega
  rw [e2] <;> rfl
structure BlkAt (H : Hp) (hh : Addr) (bs : List Addr) (as : List Addr) : Prop where
  held : H hh = some (.lst (bs.map V.ref))
  blks : ∀ i b, bs[i]? = some b → H b = some (.lst (pgs (blk as i)))
  len : bs.length = 8
  nd : bs.Nodup
  out : hh ∉ bs
theorem BlkAt.get {H : Hp} {hh : Addr} {bs as : List Addr} (B : BlkAt H hh bs as) {i : Nat} (h : i < 8) : ∃ b, bs[i]? = some b ∧ (bs.map V.ref)[i]? = some (.ref b) ∧ H b = some (.lst (pgs (blk as i))) := by
  have l : i < bs.length := by rw [B.len]; exact h
  refine ⟨bs[i], List.getElem?_eq_getElem l, ?_, B.blks i _ (List.getElem?_eq_getElem l)⟩
  rw [List.getElem?_map, List.getElem?_eq_getElem l] <;> rfl
theorem BlkAt.keep {H H' : Hp} {hh : Addr} {bs as : List Addr} (B : BlkAt H hh bs as) (k : ∀ b o, (b = hh ∨ b ∈ bs) → H b = some o → H' b = some o) : BlkAt H' hh bs as :=
  ⟨k _ _ (.inl rfl) B.held, fun i b e => k _ _ (.inr (List.mem_of_getElem? e)) (B.blks i b e), B.len, B.nd, B.out⟩
theorem BlkAt.put {H H' : Hp} {hh b a : Addr} {bs as : List Addr} (B : BlkAt H hh bs as) (hb : bs[as.length / 8]? = some b) (hb' : H' b = some (.lst (pgs (blk (as ++ [a]) (as.length / 8)))))
    (k : ∀ c o, c ≠ b → (c = hh ∨ c ∈ bs) → H c = some o → H' c = some o) : BlkAt H' hh bs (as ++ [a]) := by
  refine ⟨k _ _ (fun e => B.out (e ▸ List.mem_of_getElem? hb)) (.inl rfl) B.held, fun i c e => ?_, B.len, B.nd, B.out⟩
  by_cases z : i = as.length / 8
  · subst z
    rw [hb] at e
    cases e
    exact hb'
  · rw [blk_other z]
    refine k _ _ (fun z2 => z ?_) (.inr (List.mem_of_getElem? e)) (B.blks i c e)
    subst z2
    exact nd_ix B.nd e hb
def flF (fh fw : Addr) : List (Str × V) := [("blocks", .int 8), ("held", .ref fh), ("wears", .ref fw), ("left", .non), ("power", .bl true), ("broken", .non)]
/-- the flash: as its records in the order of the pages -/
structure FlA (K : PySem.W.Frag) (H : Hp) (fl fh fw : Addr) (fb as : List Addr) : Prop where
  ins : ∃ dx, H fl = some (.ins (He.ga K "Flash") dx (flF fh fw))
  bk : BlkAt H fh fb as
  wr : H fw = some (.lst (List.replicate 8 (.int 0)))
  wo : fw ∉ fb
theorem FlA.keep {K : PySem.W.Frag} {H H' : Hp} {fl fh fw : Addr} {fb as : List Addr} (F : FlA K H fl fh fw fb as) (s : Same H H') : FlA K H' fl fh fw fb as := by
  obtain ⟨dx, h⟩ := F.ins
  exact ⟨⟨dx, s _ _ h⟩, F.bk.keep fun b o _ e => s _ _ e, s _ _ F.wr, F.wo⟩
theorem ix_nat {n i : Nat} (h : i < n) : ixN n (i : Int) = some i := by
  unfold ixN
  rw [if_pos (by omega), if_pos (by omega)]
  rfl
section
variable {P : Program} {w : World} {K : PySem.W.Frag} {base : Heap} {mg : Str → Option Value}
def sp_Flash_init (K : PySem.W.Frag) : Sp := fun vs H Q _ => ∃ (p dx : Addr), vs = [.ref p, .int 8] ∧ H p = some (.ins (He.ga K "Flash") dx []) ∧
  ∀ H' fh fw fb, FlA K H' p fh fw fb [] → (∀ b o, H b = some o → b ≠ p → H' b = some o ∧ b ∉ fb) → Q .non H'
theorem sc_Flash_init : FnScope ["self", "blocks", "block"] ["self", "blocks"] (defScope s_Flash_init) := C8.fnScope_by (by decide +kernel)
theorem c_Flash_init (T : Tx w K mg) : Mak P w K mg base 2 "Flash" (He.ga K "Flash") (sp_Flash_init K) [] := by
  refine K_Flash_init T sc_Flash_init (fun _ _ _ _ _ _ us hl => match us, hl with | [_, _], _ => rfl) (by walk_at "len") (fun cdv A outer s H vs Q E hr h => ?_)
  have nd := sc_Flash_init.nd
  have hu := hu_of hr
  refine ⟨_, (pss_cons (ps_if (pt_not (pt_val (C8.pe_c (c_is_between T) hr (by decide) (by rfl) (pa_cons (pv 1) (pa_cons (C8.pe_gc (by rfl) (i_MIN_BLOCKS T)) (pa_cons (C8.pe_gc (by rfl) (i_MAX_BLOCKS T)) pa_nil)))))) (pss_one ps_never) pss_nil)
      (pss_cons (ps_fld (pv 0) (pv 1) rfl)
      (pss_cons (ps_fld (pv 0) (pe_lc (own := [("block", 2)]) rfl nd (pi_range1 rfl (b_range T) (pa_cons (pv 1) pa_nil)) (blkOk_by (N := (["self", "blocks", "block"] : List Str)) (sc := (defScope s_Flash_init)) (by decide +kernel)) (fun _ _ _ _ _ => (pg_name (i := 2) nd rfl (Or.inl rfl))) (fun _ _ _ _ _ => pts_nil) (fun _ _ _ _ _ => (pe_op (op_repK (K := K) rfl) (pe_lst (pa_cons pe_non pa_nil)) (C8.pe_gc (by rfl) (i_PAGES T))))) rfl)
      (pss_cons (ps_fld (pv 0) (pe_op op_rep (pe_lst (pa_cons pe_int pa_nil)) (pv 1)) rfl)
      (pss_cons (ps_fld (pv 0) pe_non rfl)
      (pss_cons (ps_fld (pv 0) pe_bl rfl)
      (pss_one (ps_fld (pv 0) pe_non rfl)))))))), ?_⟩
  obtain ⟨p, dx, rfl, hp, k⟩ := h
  have sz1 : 1 ≤ sizeLine := by decide
  refine ⟨_, rfl, 8, 8, 24, rfl, true, rfl, iteF ?_⟩
  refine ⟨_, rfl, _, rfl, p, _, dx, [], rfl, hp, cls_Flash T, at_Flash_blocks T, by decide, ?_⟩
  have f1 : ∀ b o, H b = some o → b ≠ p → (upd H p (.ins (He.ga K "Flash") dx (putF "blocks" (.int 8) []))) b = some o := fun b o e z => by rw [upd_ne z]; exact e
  have hp1 := upd_same (H := H) (a := p) (o := .ins (He.ga K "Flash") dx (putF "blocks" (.int 8) []))
  revert f1 hp1
  generalize (upd H p (.ins (He.ga K "Flash") dx (putF "blocks" (.int 8) []))) = H1
  intro f1 hp1
  refine ⟨_, rfl, 8, rfl, by decide, by decide, fun D hD => ?_⟩
  refine lc_range (lo := 0) (n := 8) (fun i H' => Same H1 H' ∧ ∃ xs : List Addr, H' D = some (.lst (xs.map V.ref)) ∧ xs.length = i ∧ xs.Nodup ∧ D ∉ xs ∧ ∀ x ∈ xs, H' x = some (.lst (List.replicate 8 .non)) ∧ H1 x = none) ?_ ?_ ?_
  · exact ⟨same_upd hD, [], upd_same, rfl, .nil, by simp, fun x h => (List.not_mem_nil h).elim⟩
  · rintro i H' hi ⟨s, xs, eD, el, nd, nD, hx⟩
    refine ⟨rfl, yesT ⟨sz1, fun l hl => ⟨l, 8, [.non], rfl, rfl, upd_same, by decide, by decide, by decide, fun q hq => ?_⟩⟩⟩
    have s2 := same_upd' (same_upd' s hl (o := .lst [.non])) hq (o := .lst (List.replicate (8 : Int).toNat [V.non]).flatten)
    have eD2 := upd_old (o := .lst (List.replicate (8 : Int).toNat [V.non]).flatten) (upd_old (o := .lst [.non]) eD hl) hq
    have qD : q ≠ D := (ne_of_none (upd_old (o := .lst [.non]) eD hl) hq).symm
    refine ⟨xs.map V.ref, eD2, small1000 (by rw [List.length_map]; omega), fun b o e => ?_, xs ++ [q], ?_, ?_, ?_, ?_, ?_⟩
    · rw [upd_ne (ne_of_none e hD)]; exact s2 _ _ e
    · rw [List.map_append]; exact upd_same
    · rw [List.length_append, el] <;> rfl
    · rw [List.nodup_append]
      refine ⟨nd, by simp, fun a ha b hb e => ?_⟩
      obtain rfl := List.mem_singleton.mp hb
      subst e
      have h1 := (hx _ ha).1
      rw [upd_old (o := .lst [.non]) h1 hl] at hq
      cases hq
    · intro z
      rcases List.mem_append.mp z with z | z
      · exact nD z
      · exact qD (List.mem_singleton.mp z).symm
    · intro x hx2
      rcases List.mem_append.mp hx2 with hx2 | hx2
      · obtain ⟨a1, a2⟩ := hx x hx2
        have xD : x ≠ D := fun z => by rw [z] at hx2; exact nD hx2
        exact ⟨by rw [upd_ne xD]; exact upd_old (upd_old a1 hl) hq, a2⟩
      · obtain rfl := List.mem_singleton.mp hx2
        refine ⟨by rw [upd_ne qD]; exact upd_same, ?_⟩
        cases g : H1 x with
        | none => rfl
        | some o => exact absurd hq (by rw [upd_old (o := .lst [.non]) (s _ _ g) hl]; exact Option.some_ne_none _)
  · rintro H2 ⟨s, xs, eD, el, nd, nD, hx⟩
    have hp2 := s _ _ hp1
    have px : ∀ x ∈ xs, x ≠ p := fun x h z => by rw [z] at h; rw [(hx p h).2] at hp1; cases hp1
    have pD : D ≠ p := (ne_of_none hp1 hD).symm
    refine ⟨_, rfl, p, _, dx, _, rfl, hp2, cls_Flash T, at_Flash_held T, by show 1 < 1000; decide, ?_⟩
    refine ⟨sz1, fun l hl => ⟨_, rfl, l, 8, [.int 0], rfl, rfl, upd_same, by decide, by decide, by decide, fun fw hfw => ?_⟩⟩
    have hp3 := upd_old (o := .lst (List.replicate (8 : Int).toNat [V.int 0]).flatten) (upd_old (o := .lst [.int 0]) (upd_same (H := H2) (a := p) (o := .ins (He.ga K "Flash") dx (putF "held" (.ref D) (putF "blocks" (.int 8) [])))) hl) hfw
    have f3 : ∀ b o, H2 b = some o → b ≠ p → (upd (upd (upd H2 p (.ins (He.ga K "Flash") dx (putF "held" (.ref D) (putF "blocks" (.int 8) [])))) l (.lst [.int 0])) fw (.lst (List.replicate (8 : Int).toNat [V.int 0]).flatten)) b = some o := fun b o e z => upd_old (upd_old (by rw [upd_ne z]; exact e) hl) hfw
    have fwp : fw ≠ p := (ne_of_none (upd_old (o := .lst [.int 0]) (upd_same (H := H2) (a := p)) hl) hfw).symm
    have hw3 : (upd (upd (upd H2 p (.ins (He.ga K "Flash") dx (putF "held" (.ref D) (putF "blocks" (.int 8) [])))) l (.lst [.int 0])) fw (.lst (List.replicate (8 : Int).toNat [V.int 0]).flatten)) fw = some (.lst (List.replicate 8 (.int 0))) := upd_same
    have fwx : fw ∉ xs := fun z => by
      have h1 := (hx _ z).1
      rw [upd_old (o := .lst [.int 0]) (by rw [upd_ne fwp]; exact h1 : (upd H2 p (.ins (He.ga K "Flash") dx (putF "held" (.ref D) (putF "blocks" (.int 8) [])))) fw = some (.lst (List.replicate 8 .non))) hl] at hfw
      cases hfw
    revert hp3 f3 hw3
    generalize (upd (upd (upd H2 p (.ins (He.ga K "Flash") dx (putF "held" (.ref D) (putF "blocks" (.int 8) [])))) l (.lst [.int 0])) fw (.lst (List.replicate (8 : Int).toNat [V.int 0]).flatten)) = H3
    intro hp3 f3 hw3
    refine ⟨_, rfl, p, _, dx, _, rfl, hp3, cls_Flash T, at_Flash_wears T, by show 2 < 1000; decide, ?_⟩
    refine ⟨_, rfl, p, _, dx, _, rfl, upd_same, cls_Flash T, at_Flash_left T, by show 3 < 1000; decide, ?_⟩
    refine ⟨_, rfl, p, _, dx, _, rfl, upd_same, cls_Flash T, at_Flash_power T, by show 4 < 1000; decide, ?_⟩
    refine ⟨_, rfl, p, _, dx, _, rfl, upd_same, cls_Flash T, at_Flash_broken T, by show 5 < 1000; decide, ?_⟩
    have ff : ∀ b o, H3 b = some o → b ≠ p → (upd (upd (upd (upd H3 p (.ins (He.ga K "Flash") dx (putF "wears" (.ref fw) (putF "held" (.ref D) (putF "blocks" (.int 8) []))))) p (.ins (He.ga K "Flash") dx (putF "left" .non (putF "wears" (.ref fw) (putF "held" (.ref D) (putF "blocks" (.int 8) [])))))) p (.ins (He.ga K "Flash") dx (putF "power" (.bl true) (putF "left" .non (putF "wears" (.ref fw) (putF "held" (.ref D) (putF "blocks" (.int 8) []))))))) p (.ins (He.ga K "Flash") dx (putF "broken" .non (putF "power" (.bl true) (putF "left" .non (putF "wears" (.ref fw) (putF "held" (.ref D) (putF "blocks" (.int 8) []))))))) ) b = some o := fun b o e z => by
      rw [upd_ne z, upd_ne z, upd_ne z, upd_ne z]; exact e
    refine k _ D fw xs ⟨⟨dx, upd_same⟩, ⟨ff _ _ (f3 _ _ eD pD) pD, fun i b e => ?_, el, nd, nD⟩, ff _ _ hw3 fwp, fwx⟩ fun b o e z => ⟨ff _ _ (f3 _ _ (s _ _ (f1 _ _ e z)) z) z, fun zz => by have := f1 _ _ e z; rw [(hx b zz).2] at this; cases this⟩
    have hm := List.mem_of_getElem? e
    have e8 : blk [] i = [] := by unfold blk; simp
    rw [e8]
    exact ff _ _ (f3 _ _ (hx b hm).1 (px b hm)) (px b hm)
end
end L2.Sg
set_option Elab.async false
set_option linter.all false
set_option maxRecDepth 100000
set_option maxHeartbeats 4000000
namespace L2.Sg
open PySem PySem.Spec PyProof.Rows
open C8 (Cal Met Mak pe_c pe_mt pe_mt0 pe_mk tCut pss_cut)
local macro_rules | `(tactic| walk_at "len") => `(tactic| (intro vs H Q E h; first | (obtain ⟨e, _⟩ := h; subst e; rfl) | (obtain ⟨_, e, _⟩ := h; subst e; rfl) | (obtain ⟨_, _, e, _⟩ := h; subst e; rfl) | (obtain ⟨_, _, _, e, _⟩ := h; subst e; rfl) | (obtain ⟨_, _, _, _, e, _⟩ := h; subst e; rfl) | (obtain ⟨_, _, _, _, _, e, _⟩ := h; subst e; rfl) | (obtain ⟨_, _, _, _, _, _, e, _⟩ := h; subst e; rfl) | (obtain ⟨_, _, _, _, _, _, _, e, _⟩ := h; subst e; rfl) | (obtain ⟨_, _, _, _, _, _, _, _, e, _⟩ := h; subst e; rfl) | (obtain ⟨_, _, _, _, _, _, _, _, _, e, _⟩ := h; subst e; rfl) | (obtain ⟨_, _, _, _, _, _, _, _, _, _, e, _⟩ := h; subst e; rfl) | (obtain ⟨_, _, _, _, _, _, _, _, _, _, _, e, _⟩ := h; subst e; rfl) | (obtain ⟨_, _, _, _, _, _, _, _, _, _, _, _, e, _⟩ := h; subst e; rfl) | (obtain ⟨_, _, _, _, _, _, _, _, _, _, _, _, _, e, _⟩ := h; subst e; rfl) | (obtain ⟨_, _, _, _, _, _, _, _, _, _, _, _, _, _, e, _⟩ := h; subst e; rfl) | (obtain ⟨_, _, _, _, _, _, _, _, _, _, _, _, _, _, _, e, _⟩ := h; subst e; rfl)))
local macro_rules | `(tactic| walk_at "ns") => `(tactic| (try dsimp only [Op.kind, Tp.word, Rec.top]); decide +kernel)
abbrev FlI (K : PySem.W.Frag) (H : Hp) (fl fh fw : Addr) : Prop := ∃ dx, H fl = some (.ins (He.ga K "Flash") dx (flF fh fw))
theorem in8 {b : Int} (h0 : 0 ≤ b) (h8 : b < 8) : (decide (0 ≤ b) && decide (b ≤ 8 - 1)) = true := by
  rw [decide_eq_true h0, decide_eq_true (by omega)] <;> rfl
section
variable {P : Program} {w : World} {K : PySem.W.Frag} {base : Heap} {mg : Str → Option Value}
def sp_Flash_check_block (K : PySem.W.Frag) : Sp := fun vs H Q _ => ∃ (fl fh fw : Addr) (b : Int), vs = [.ref fl, .int b] ∧ FlI K H fl fh fw ∧ 0 ≤ b ∧ b < 8 ∧ Q .non H
theorem sc_Flash_check_block : FnScope ["self", "block"] ["self", "block"] (defScope s_Flash_check_block) := C8.fnScope_by (by decide +kernel)
theorem c_Flash_check_block (T : Tx w K mg) : Met P w K mg base 2 (He.ga K "Flash") "check_block" (sp_Flash_check_block K) [] := by
  refine K_Flash_check_block T sc_Flash_check_block (fun _ _ _ _ _ _ us hl => match us, hl with | [_, _], _ => rfl) (by walk_at "len") (fun cdv A outer s H vs Q E hr h => ?_)
  have nd := sc_Flash_check_block.nd
  have hu := hu_of hr
  refine ⟨_, (pss_one (ps_if (pt_not (pt_val (C8.pe_c (c_is_between T) hr (by decide) (by rfl) (pa_cons (pv 1) (pa_cons pe_int (pa_cons (pe_op op_sub (pe_fld (pv 0) rfl) pe_int) pa_nil)))))) (pss_one ps_never) pss_nil)), ?_⟩
  obtain ⟨fl, fh, fw, b, rfl, ⟨dx, hp⟩, h0, h8, k⟩ := h
  exact ⟨_, rfl, _, rfl, fl, _, dx, _, _, rfl, hp, cls_Flash T, at_Flash_blocks T, rfl, _, _, rfl, rfl, b, 0, 8 - 1, rfl, _, rfl, ite_b (by rw [in8 h0 h8] <;> rfl) k⟩
def sp_Flash_check_page (K : PySem.W.Frag) : Sp := fun vs H Q _ => ∃ (fl fh fw : Addr) (b g : Int), vs = [.ref fl, .int b, .int g] ∧ FlI K H fl fh fw ∧ 0 ≤ b ∧ b < 8 ∧ 0 ≤ g ∧ g < 8 ∧ Q .non H
theorem sc_Flash_check_page : FnScope ["self", "block", "page"] ["self", "block", "page"] (defScope s_Flash_check_page) := C8.fnScope_by (by decide +kernel)
theorem c_Flash_check_page (T : Tx w K mg) : Met P w K mg base 3 (He.ga K "Flash") "check_page" (sp_Flash_check_page K) [] := by
  refine K_Flash_check_page T sc_Flash_check_page (fun _ _ _ _ _ _ us hl => match us, hl with | [_, _, _], _ => rfl) (by walk_at "len") (fun cdv A outer s H vs Q E hr h => ?_)
  have nd := sc_Flash_check_page.nd
  have hu := hu_of hr
  refine ⟨_, (pss_cons (ps_expr (C8.pe_mt (c_Flash_check_block T) hr (by decide) (pv 0) (pa_cons (pv 1) pa_nil)))
      (pss_one (ps_if (pt_not (pt_val (C8.pe_c (c_is_between T) hr (by decide) (by rfl) (pa_cons (pv 2) (pa_cons pe_int (pa_cons (pe_op op_sub (C8.pe_gc (by rfl) (i_PAGES T)) pe_int) pa_nil)))))) (pss_one ps_never) pss_nil))), ?_⟩
  obtain ⟨fl, fh, fw, b, g, rfl, ⟨dx, hp⟩, h0, h8, g0, g8, k⟩ := h
  refine ⟨_, rfl, fl, dx, _, rfl, hp, rfl, _, rfl, fl, fh, fw, b, rfl, ⟨dx, hp⟩, h0, h8, ?_⟩
  exact ⟨_, rfl, _, _, rfl, rfl, g, 0, 8 - 1, rfl, _, rfl, ite_b (by rw [in8 g0 g8] <;> rfl) k⟩
def sp_Flash_read (K : PySem.W.Frag) : Sp := fun vs H Q _ => ∃ (fl fh fw : Addr) (fb as : List Addr) (b g : Nat) (v : V), vs = [.ref fl, .int b, .int g] ∧ FlA K H fl fh fw fb as ∧ b < 8 ∧ (pgs (blk as b))[g]? = some v ∧ Q v H
theorem sc_Flash_read : FnScope ["self", "block", "page"] ["self", "block", "page"] (defScope s_Flash_read) := C8.fnScope_by (by decide +kernel)
theorem c_Flash_read (T : Tx w K mg) : Met P w K mg base 4 (He.ga K "Flash") "read" (sp_Flash_read K) [] := by
  refine K_Flash_read T sc_Flash_read (fun _ _ _ _ _ _ us hl => match us, hl with | [_, _, _], _ => rfl) (by walk_at "len") (fun cdv A outer s H vs Q E hr h => ?_)
  have nd := sc_Flash_read.nd
  have hu := hu_of hr
  refine ⟨_, (pss_cons (ps_expr (C8.pe_mt (c_Flash_check_page T) hr (by decide) (pv 0) (pa_cons (pv 1) (pa_cons (pv 2) pa_nil))))
      (pss_cons (ps_if (pt_not (pt_val (pe_fld (pv 0) rfl))) (pss_one ps_never) pss_nil)
      (pss_one (ps_ret (pe_ix ix_list (pe_ix ix_list (pe_fld (pv 0) rfl) (pv 1) (fun _ _ => rfl)) (pv 2) (fun _ _ => rfl)))))), ?_⟩
  obtain ⟨fl, fh, fw, fb, as, b, g, v, rfl, F, h8, hv, k⟩ := h
  obtain ⟨dx, hp⟩ := F.ins
  obtain ⟨c, _, hc, hcl⟩ := F.bk.get h8
  have g8 : g < 8 := by
    have := (List.getElem?_eq_some_iff.mp hv).1
    rw [pgs_len (blk_le _ _)] at this
    exact this
  refine ⟨_, rfl, fl, dx, _, rfl, hp, rfl, _, rfl, _, rfl, fl, fh, fw, b, g, rfl, ⟨dx, hp⟩, by omega, by omega, by omega, by omega, ?_⟩
  refine ⟨_, rfl, fl, _, dx, _, _, rfl, hp, cls_Flash T, at_Flash_power T, rfl, true, rfl, iteF ?_⟩
  exact ⟨_, rfl, fl, _, dx, _, _, rfl, hp, cls_Flash T, at_Flash_held T, rfl, _, rfl, fh, _, _, _, rfl, rfl, SqL.of F.bk.held, at_of (j := b) rfl hc, _, rfl, c, _, _, _, rfl, rfl, SqL.of hcl, at_of (j := g) rfl hv, k⟩
def sp_Flash_operate (K : PySem.W.Frag) : Sp := fun vs H Q _ => ∃ (fl fh fw : Addr) (x : V), vs = [.ref fl, x] ∧ FlI K H fl fh fw ∧ Q .non H
theorem sc_Flash_operate : FnScope ["self", "operation"] ["self", "operation"] (defScope s_Flash_operate) := C8.fnScope_by (by decide +kernel)
theorem c_Flash_operate (T : Tx w K mg) : Met P w K mg base 1 (He.ga K "Flash") "operate" (sp_Flash_operate K) [] := by
  refine K_Flash_operate T sc_Flash_operate (fun _ _ _ _ _ _ us hl => match us, hl with | [_, _], _ => rfl) (by walk_at "len") (fun cdv A outer s H vs Q E hr h => ?_)
  have nd := sc_Flash_operate.nd
  have hu := hu_of hr
  refine ⟨_, (pss_cons (ps_if (PW.pt (pw_and (pt_val (pe_fld (pv 0) rfl)) (pw_and1 (pt_cmpR op_eq (pe_fld (pv 0) rfl) pe_int (nomark _))))) pss_never pss_nil)
      (pss_cons (ps_if (pt_not (pt_val (pe_fld (pv 0) rfl))) (pss_one ps_never) pss_nil)
      (pss_one (ps_if (pt_cmp (pc_notN (pe_fld (pv 0) rfl))) pss_never pss_nil)))), ?_⟩
  obtain ⟨fl, fh, fw, x, rfl, ⟨dx, hp⟩, k⟩ := h
  refine ⟨_, rfl, fl, _, dx, _, _, rfl, hp, cls_Flash T, at_Flash_power T, rfl, true, rfl, iteT ⟨_, rfl, fl, _, dx, _, _, rfl, hp, cls_Flash T, at_Flash_left T, rfl, rfl, _, rfl, iteF ?_⟩⟩
  refine ⟨_, rfl, fl, _, dx, _, _, rfl, hp, cls_Flash T, at_Flash_power T, rfl, true, rfl, iteF ?_⟩
  exact ⟨_, rfl, fl, _, dx, _, _, rfl, hp, cls_Flash T, at_Flash_left T, rfl, _, rfl, iteF k⟩
def sp_Flash_program (K : PySem.W.Frag) : Sp := fun vs H Q _ => ∃ (fl fh fw : Addr) (fb as : List Addr) (a : Addr) (xs : List V), vs = [.ref fl, .int (as.length / 8 : Nat), .int (as.length % 8 : Nat), .ref a] ∧ FlA K H fl fh fw fb as ∧ as.length < 64 ∧ H a = some (.tup xs) ∧
  ∀ H' b, fb[as.length / 8]? = some b → H' b = some (.lst (pgs (blk (as ++ [a]) (as.length / 8)))) → (∀ c o, H c = some o → c ≠ b → H' c = some o) → Q .non H'
theorem sc_Flash_program : FnScope ["self", "block", "page", "record"] ["self", "block", "page", "record"] (defScope s_Flash_program) := C8.fnScope_by (by decide +kernel)
theorem c_Flash_program (T : Tx w K mg) : Met P w K mg base 4 (He.ga K "Flash") "program" (sp_Flash_program K) [] := by
  refine K_Flash_program T sc_Flash_program (fun _ _ _ _ _ _ us hl => match us, hl with | [_, _, _, _], _ => rfl) (by walk_at "len") (fun cdv A outer s H vs Q E hr h => ?_)
  have nd := sc_Flash_program.nd
  have hu := hu_of hr
  refine ⟨_, (pss_cons (ps_expr (C8.pe_mt (c_Flash_check_page T) hr (by decide) (pv 0) (pa_cons (pv 1) (pa_cons (pv 2) pa_nil))))
      (pss_cons (ps_if (PW.pt (pw_or (pt_not (pt_val (pe_callB call_isi (by rfl) (b_isinstance T) boot_isinstance (pa_cons (pv 3) (pa_cons (pe_bltn (v := .ty "tuple") (by rfl) (b_tuple T) boot_tuple rfl) pa_nil))))) (pw_or1 (pt_cmpR op_ne (C8.pe_c (c_next_page T) hr (by decide) (by rfl) (pa_cons (pe_ix ix_list (pe_fld (pv 0) rfl) (pv 1) (fun _ _ => rfl)) pa_nil)) (pv 2) (nomark _))))) (pss_one ps_never) pss_nil)
      (pss_cons (ps_expr (C8.pe_mt (c_Flash_operate T) hr (by decide) (pv 0) (pa_cons (pe_tup (pa_cons (pv 1) (pa_cons (pv 2) (pa_cons (pv 3) pa_nil)))) pa_nil)))
      (pss_one (ps_asg (pv 3) (pg_sub (pe_ix ix_list (pe_fld (pv 0) rfl) (pv 1) (fun _ _ => rfl)) (pv 2) set_list)))))), ?_⟩
  obtain ⟨fl, fh, fw, fb, as, a, xs, rfl, F, h64, ha, k⟩ := h
  obtain ⟨dx, hp⟩ := F.ins
  have b8 : as.length / 8 < 8 := by omega
  have g8 : as.length % 8 < 8 := by omega
  obtain ⟨c, hcb, hc, hcl⟩ := F.bk.get b8
  have sz3 : 3 ≤ sizeLine := by decide
  have bl : (blk as (as.length / 8)).length = as.length % 8 := by rw [blk_len]; omega
  refine ⟨_, rfl, fl, dx, _, rfl, hp, rfl, _, rfl, _, rfl, fl, fh, fw, _, _, rfl, ⟨dx, hp⟩, by omega, by omega, by omega, by omega, ?_⟩
  refine ⟨_, rfl, .ref a, .ty "tuple", .type "tuple", .type "tuple", true, rfl, .ty _, .base (.tup ha), kit_ty (by decide +kernel), true, rfl, ?_⟩
  refine iteF ⟨_, rfl, fl, _, dx, _, _, rfl, hp, cls_Flash T, at_Flash_held T, rfl, _, rfl, fh, _, _, _, rfl, rfl, SqL.of F.bk.held, at_of (j := as.length / 8) rfl hc, c, _, rfl, SqL.of hcl, blk_le _ _, ?_⟩
  refine ⟨_, rfl, rfl, _, rfl, ite_b (by rw [bl]; simp) ?_⟩
  refine ⟨_, rfl, fl, dx, _, rfl, hp, rfl, _, rfl, _, rfl, _, rfl, sz3, fun c0 hc0 => ⟨fl, fh, fw, .ref c0, rfl, ⟨dx, upd_old hp hc0⟩, ?_⟩⟩
  refine ⟨_, rfl, _, rfl, fl, _, dx, _, _, rfl, upd_old hp hc0, cls_Flash T, at_Flash_held T, rfl, _, rfl, fh, _, _, _, rfl, rfl, SqL.of (upd_old F.bk.held hc0), at_of (j := as.length / 8) rfl hc, _, rfl, c, _, _, as.length % 8, rfl, rfl, upd_old hcl hc0, ix_nat (by rw [pgs_len (blk_le _ _)]; exact g8), ?_⟩
  refine k _ c hcb ?_ fun b o e z => by rw [upd_ne z]; exact upd_old e hc0
  rw [upd_same, blk_this, ← pgs_set (by omega), bl]
def sp_Flash_wear (K : PySem.W.Frag) : Sp := fun vs H Q _ => ∃ (fl fh fw : Addr) (fb as : List Addr) (b : Nat), vs = [.ref fl, .int b] ∧ FlA K H fl fh fw fb as ∧ b < 8 ∧ Q (.int 0) H
theorem sc_Flash_wear : FnScope ["self", "block"] ["self", "block"] (defScope s_Flash_wear) := C8.fnScope_by (by decide +kernel)
theorem c_Flash_wear (T : Tx w K mg) : Met P w K mg base 3 (He.ga K "Flash") "wear" (sp_Flash_wear K) [] := by
  refine K_Flash_wear T sc_Flash_wear (fun _ _ _ _ _ _ us hl => match us, hl with | [_, _], _ => rfl) (by walk_at "len") (fun cdv A outer s H vs Q E hr h => ?_)
  have nd := sc_Flash_wear.nd
  have hu := hu_of hr
  refine ⟨_, (pss_cons (ps_expr (C8.pe_mt (c_Flash_check_block T) hr (by decide) (pv 0) (pa_cons (pv 1) pa_nil)))
      (pss_one (ps_ret (pe_ix ix_list (pe_fld (pv 0) rfl) (pv 1) (fun _ _ => rfl))))), ?_⟩
  obtain ⟨fl, fh, fw, fb, as, b, rfl, F, h8, k⟩ := h
  obtain ⟨dx, hp⟩ := F.ins
  refine ⟨_, rfl, fl, dx, _, rfl, hp, rfl, _, rfl, fl, fh, fw, _, rfl, ⟨dx, hp⟩, by omega, by omega, ?_⟩
  exact ⟨_, rfl, fl, _, dx, _, _, rfl, hp, cls_Flash T, at_Flash_wears T, rfl, _, rfl, fw, _, _, _, rfl, rfl, SqL.of F.wr, at_of (j := b) rfl (by rw [List.getElem?_replicate, if_pos h8]), k⟩
end
end L2.Sg
set_option Elab.async false
set_option linter.all false
set_option maxRecDepth 100000
set_option maxHeartbeats 4000000
namespace L2.Sg
open PySem PySem.Spec PyProof.Rows
open C8 (Cal Met Mak pe_c pe_mt pe_mt0 pe_mk tCut pss_cut)
local macro_rules | `(tactic| walk_at "len") => `(tactic| (intro vs H Q E h; first | (obtain ⟨e, _⟩ := h; subst e; rfl) | (obtain ⟨_, e, _⟩ := h; subst e; rfl) | (obtain ⟨_, _, e, _⟩ := h; subst e; rfl) | (obtain ⟨_, _, _, e, _⟩ := h; subst e; rfl) | (obtain ⟨_, _, _, _, e, _⟩ := h; subst e; rfl) | (obtain ⟨_, _, _, _, _, e, _⟩ := h; subst e; rfl) | (obtain ⟨_, _, _, _, _, _, e, _⟩ := h; subst e; rfl) | (obtain ⟨_, _, _, _, _, _, _, e, _⟩ := h; subst e; rfl) | (obtain ⟨_, _, _, _, _, _, _, _, e, _⟩ := h; subst e; rfl) | (obtain ⟨_, _, _, _, _, _, _, _, _, e, _⟩ := h; subst e; rfl) | (obtain ⟨_, _, _, _, _, _, _, _, _, _, e, _⟩ := h; subst e; rfl) | (obtain ⟨_, _, _, _, _, _, _, _, _, _, _, e, _⟩ := h; subst e; rfl) | (obtain ⟨_, _, _, _, _, _, _, _, _, _, _, _, e, _⟩ := h; subst e; rfl) | (obtain ⟨_, _, _, _, _, _, _, _, _, _, _, _, _, e, _⟩ := h; subst e; rfl) | (obtain ⟨_, _, _, _, _, _, _, _, _, _, _, _, _, _, e, _⟩ := h; subst e; rfl) | (obtain ⟨_, _, _, _, _, _, _, _, _, _, _, _, _, _, _, e, _⟩ := h; subst e; rfl)))
local macro_rules | `(tactic| walk_at "ns") => `(tactic| (try dsimp only [Op.kind, Tp.word, Rec.top]); decide +kernel)
def curV (as : List Addr) : V := if as.length % 8 = 0 then .non else .int (as.length / 8 : Nat)
def lgF (fl lh : Addr) (c : V) : List (Str × V) := [("flash", .ref fl), ("held", .ref lh), ("current", c)]
/-- the log over its flash -/
structure LgA (K : PySem.W.Frag) (H : Hp) (lg lh fl fh fw : Addr) (fb lb as : List Addr) : Prop where
  ins : ∃ dx, H lg = some (.ins (He.ga K "Log") dx (lgF fl lh (curV as)))
  bk : BlkAt H lh lb as
  fl : FlA K H fl fh fw fb as
  dj : ∀ b ∈ lb, b ∉ fb ∧ b ≠ fh ∧ b ≠ fw
  dh : lh ∉ fb
theorem LgA.keep {K : PySem.W.Frag} {H H' : Hp} {lg lh fl fh fw : Addr} {fb lb as : List Addr} (G : LgA K H lg lh fl fh fw fb lb as) (s : Same H H') : LgA K H' lg lh fl fh fw fb lb as := by
  obtain ⟨dx, h⟩ := G.ins
  exact ⟨⟨dx, s _ _ h⟩, G.bk.keep fun b o _ e => s _ _ e, G.fl.keep s, G.dj, G.dh⟩
def stW (m b : Nat) : Str := if m % 8 ≠ 0 ∧ b = m / 8 then "open" else if m ≤ 8 * b then "free" else "closed"
theorem stW_free (m b : Nat) : decide (V.str (stW m b) = V.str "free") = decide (m ≤ 8 * b) := by
  unfold stW
  by_cases c : m % 8 ≠ 0 ∧ b = m / 8
  · rw [if_pos c, decide_eq_false (show ¬ m ≤ 8 * b by omega)]
    exact decide_eq_false fun e => absurd (V.str.inj e) (by decide +kernel)
  · rw [if_neg c]
    by_cases d : m ≤ 8 * b
    · rw [if_pos d, decide_eq_true d]
      exact decide_eq_true rfl
    · rw [if_neg d, decide_eq_false d]
      exact decide_eq_false fun e => absurd (V.str.inj e) (by decide +kernel)
def freeL (m : Nat) : List Nat := (List.range 8).filter fun i => decide (m ≤ 8 * i)
theorem freeL_len {m : Nat} (h : m ≤ 56) : (freeL m).length = 8 - (m + 7) / 8 := by
  have : ∀ m : Fin 57, (freeL m).length = 8 - (m.val + 7) / 8 := by decide
  exact this ⟨m, by omega⟩
theorem freeL_head {m : Nat} (h : m < 64) (z : m % 8 = 0) : (freeL m)[0]? = some (m / 8) := by
  have : ∀ m : Fin 64, m.val % 8 = 0 → (freeL m)[0]? = some (m.val / 8) := by decide
  exact this ⟨m, h⟩ z
theorem freeL_asc (m : Nat) : (freeL m).Pairwise (· < ·) := (List.pairwise_lt_range).sublist List.filter_sublist
theorem freeL_mem {m b : Nat} (h : b ∈ freeL m) : b < 8 := List.mem_range.mp (List.mem_filter.mp h).1
theorem curN {as : List Addr} (h : as.length % 8 = 0) : curV as = .non := if_pos h
theorem curI {as : List Addr} (h : as.length % 8 ≠ 0) : curV as = .int (as.length / 8 : Nat) := if_neg h
/-- a pair of ints at a tuple -/
def kOf (H : Hp) : V → Int × Int
  | .ref t => (match H t with | some (.tup [.int i, .int j]) => (i, j) | _ => (0, 0))
  | _ => (0, 0)
theorem scal_cur (b : Nat) (as : List Addr) : scal (V.int b) (curV as) = true := by
  unfold curV
  split <;> rfl
section
variable {P : Program} {w : World} {K : PySem.W.Frag} {base : Heap} {mg : Str → Option Value}
def sp_Log_check_block (K : PySem.W.Frag) : Sp := fun vs H Q _ => ∃ (lg lh fl fh fw : Addr) (c : V) (b : Int), vs = [.ref lg, .int b] ∧ (∃ dx, H lg = some (.ins (He.ga K "Log") dx (lgF fl lh c))) ∧ FlI K H fl fh fw ∧ 0 ≤ b ∧ b < 8 ∧ Q .non H
theorem sc_Log_check_block : FnScope ["self", "block"] ["self", "block"] (defScope s_Log_check_block) := C8.fnScope_by (by decide +kernel)
theorem c_Log_check_block (T : Tx w K mg) : Met P w K mg base 2 (He.ga K "Log") "check_block" (sp_Log_check_block K) [] := by
  refine K_Log_check_block T sc_Log_check_block (fun _ _ _ _ _ _ us hl => match us, hl with | [_, _], _ => rfl) (by walk_at "len") (fun cdv A outer s H vs Q E hr h => ?_)
  have nd := sc_Log_check_block.nd
  have hu := hu_of hr
  refine ⟨_, (pss_one (ps_if (pt_not (pt_val (C8.pe_c (c_is_between T) hr (by decide) (by rfl) (pa_cons (pv 1) (pa_cons pe_int (pa_cons (pe_op op_sub (pe_fld (pe_fld (pv 0) rfl) rfl) pe_int) pa_nil)))))) (pss_one ps_never) pss_nil)), ?_⟩
  obtain ⟨lg, lh, fl, fh, fw, c, b, rfl, ⟨dx, hp⟩, ⟨dx2, hf⟩, h0, h8, k⟩ := h
  exact ⟨_, rfl, _, rfl, lg, _, dx, _, _, rfl, hp, cls_Log T, at_Log_flash T, rfl, fl, _, dx2, _, _, rfl, hf, cls_Flash T, at_Flash_blocks T, rfl, _, _, rfl, rfl, b, 0, 8 - 1, rfl, _, rfl, ite_b (by rw [in8 h0 h8] <;> rfl) k⟩
def sp_Log_state (K : PySem.W.Frag) : Sp := fun vs H Q _ => ∃ (lg lh fl fh fw : Addr) (fb lb as : List Addr) (b : Nat), vs = [.ref lg, .int b] ∧ LgA K H lg lh fl fh fw fb lb as ∧ b < 8 ∧ Q (.str (stW as.length b)) H
theorem sc_Log_state : FnScope ["self", "block"] ["self", "block"] (defScope s_Log_state) := C8.fnScope_by (by decide +kernel)
theorem c_Log_state (T : Tx w K mg) : Met P w K mg base 3 (He.ga K "Log") "state" (sp_Log_state K) [] := by
  refine K_Log_state T sc_Log_state (fun _ _ _ _ _ _ us hl => match us, hl with | [_, _], _ => rfl) (by walk_at "len") (fun cdv A outer s H vs Q E hr h => ?_)
  have nd := sc_Log_state.nd
  have hu := hu_of hr
  refine ⟨_, (pss_cons (ps_expr (C8.pe_mt (c_Log_check_block T) hr (by decide) (pv 0) (pa_cons (pv 1) pa_nil)))
      (pss_cons (ps_if (pt_cmpR op_eq (pv 1) (pe_fld (pv 0) rfl) (nomark _)) (pss_one (ps_ret pe_str)) pss_nil)
      (pss_cons (ps_if (pt_cmpR op_eq (C8.pe_c (c_next_page T) hr (by decide) (by rfl) (pa_cons (pe_ix ix_list (pe_fld (pv 0) rfl) (pv 1) (fun _ _ => rfl)) pa_nil)) pe_int (nomark _)) (pss_one (ps_ret pe_str)) pss_nil)
      (pss_one (ps_ret pe_str))))), ?_⟩
  obtain ⟨lg, lh, fl, fh, fw, fb, lb, as, b, rfl, G, h8, k⟩ := h
  obtain ⟨dx, hp⟩ := G.ins
  obtain ⟨c, hcb, hc, hcl⟩ := G.bk.get h8
  refine ⟨_, rfl, lg, dx, _, rfl, hp, rfl, _, rfl, lg, lh, fl, fh, fw, curV as, b, rfl, ⟨dx, hp⟩, G.fl.ins, by omega, by omega, ?_⟩
  refine ⟨_, rfl, _, rfl, lg, _, dx, _, _, rfl, hp, cls_Log T, at_Log_current T, rfl, scal_cur b as, _, rfl, ?_⟩
  have free : ∀ k' : ¬ (as.length % 8 ≠ 0 ∧ b = as.length / 8), decide (V.int ((blk as b).length : Nat) = V.int 0) = decide (as.length ≤ 8 * b) := fun k' => by
    rw [blk_len]
    by_cases d : as.length ≤ 8 * b
    · rw [decide_eq_true d, decide_eq_true]
      congr 1
      omega
    · rw [decide_eq_false d, decide_eq_false]
      intro e
      have := V.int.inj e
      omega
  by_cases c0 : as.length % 8 ≠ 0 ∧ b = as.length / 8
  · refine ite_t ?_ ?_
    · rw [curI c0.1, c0.2]
      exact decide_eq_true rfl
    · have e : stW as.length b = "open" := if_pos c0
      rw [e] at k
      exact k
  · refine ite_b ?_ ?_
    · refine decide_eq_false fun e => c0 ?_
      by_cases z : as.length % 8 = 0
      · rw [curN z] at e; cases e
      · rw [curI z] at e
        have := V.int.inj e
        exact ⟨z, by omega⟩
    · refine ⟨_, rfl, lg, _, dx, _, _, rfl, hp, cls_Log T, at_Log_held T, rfl, _, rfl, lh, _, _, _, rfl, rfl, SqL.of G.bk.held, at_of (j := b) rfl hc, c, _, rfl, SqL.of hcl, blk_le _ _, rfl, _, rfl, ?_⟩
      rw [free c0]
      unfold stW at k
      rw [if_neg c0] at k
      by_cases d : as.length ≤ 8 * b
      · rw [if_pos d] at k
        exact ite_of d k
      · rw [if_neg d] at k
        exact ite_no d k
def sp_free_blocks (K : PySem.W.Frag) : Sp := fun vs H Q _ => ∃ (lg lh fl fh fw : Addr) (fb lb as : List Addr), vs = [.ref lg] ∧ LgA K H lg lh fl fh fw fb lb as ∧ Mk1 H Q fun l H' => H' l = some (.lst ((freeL as.length).map fun i : Nat => V.int i))
theorem sc_Log_free_blocks : FnScope ["self", "block"] ["self"] (defScope s_Log_free_blocks) := C8.fnScope_by (by decide +kernel)
theorem c_Log_free_blocks (T : Tx w K mg) : Met P w K mg base 4 (He.ga K "Log") "free_blocks" (sp_free_blocks K) [] := by
  refine K_Log_free_blocks T sc_Log_free_blocks (fun _ _ _ _ _ _ us hl => match us, hl with | [_], _ => rfl) (by walk_at "len") (fun cdv A outer s H vs Q E hr h => ?_)
  have nd := sc_Log_free_blocks.nd
  have hu := hu_of hr
  refine ⟨_, (pss_one (ps_ret (pe_lc (own := [("block", 1)]) rfl nd (pi_range1 rfl (b_range T) (pa_cons (pe_fld (pe_fld (pv 0) rfl) rfl) pa_nil)) (blkOk_by (N := (["self", "block"] : List Str)) (sc := (defScope s_Log_free_blocks)) (by decide +kernel)) (fun _ _ _ _ _ => (pg_name (i := 1) nd rfl (Or.inl rfl))) (fun _ _ _ _ _ => (pts_one (pt_cmpR op_eq (C8.pe_mt (c_Log_state T) hr (by decide) (pv 0) (pa_cons (pv 1) pa_nil)) pe_str (nomark _)))) (fun _ _ _ _ _ => (pv 1))))), ?_⟩
  obtain ⟨lg, lh, fl, fh, fw, fb, lb, as, rfl, G, k⟩ := h
  obtain ⟨dx, hp⟩ := G.ins
  obtain ⟨dx2, hf⟩ := G.fl.ins
  refine ⟨_, rfl, lg, _, dx, _, _, rfl, hp, cls_Log T, at_Log_flash T, rfl, fl, _, dx2, _, _, rfl, hf, cls_Flash T, at_Flash_blocks T, rfl, 8, rfl, by decide, by decide, fun D hD => ?_⟩
  refine lc_range (lo := 0) (n := 8) (fun i H' => H' = upd H D (.lst (((List.range i).filter fun i => decide (as.length ≤ 8 * i)).map fun i : Nat => V.int i))) rfl ?_ ?_
  · rintro i H' hi rfl
    have G2 := G.keep (same_upd hD (o := .lst (((List.range i).filter fun i => decide (as.length ≤ 8 * i)).map fun i : Nat => V.int i)))
    obtain ⟨dx', hp'⟩ := G2.ins
    have e0 : (0 : Int) + (i : Nat) = ((i : Nat) : Int) := Int.zero_add _
    refine ⟨rfl, _, rfl, lg, dx', _, rfl, hp', rfl, _, rfl, lg, lh, fl, fh, fw, fb, lb, as, i, by rw [e0] <;> rfl, G2, hi, rfl, _, rfl, ?_⟩
    rw [stW_free]
    by_cases d : as.length ≤ 8 * i
    · refine ite_of d ⟨_, rfl, _, upd_same, ?_, ?_⟩
      · rw [List.length_map]
        have := List.length_filter_le (fun i => decide (as.length ≤ 8 * i)) (List.range i)
        rw [List.length_range] at this
        exact small1000 (by omega)
      · rw [upd_upd, List.range_succ, List.filter_append, List.map_append, List.filter_cons_of_pos (by simp [d]), e0] <;> rfl
    · refine ite_no d ?_
      rw [List.range_succ, List.filter_append, List.filter_cons_of_neg (by simp [d]), List.filter_nil, List.append_nil]
  · rintro H' rfl
    exact k D _ (same_upd hD) hD upd_same
def sp_room (K : PySem.W.Frag) : Sp := fun vs H Q _ => ∃ (lg lh fl fh fw : Addr) (fb lb as : List Addr), vs = [.ref lg, .bl false] ∧ LgA K H lg lh fl fh fw fb lb as ∧ as.length ≤ 56 ∧ ∀ H', Same H H' → Q (.int (56 - (as.length : Nat))) H'
theorem sc_Log_room : FnScope ["self", "is_copy", "free", "many"] ["self", "is_copy"] (defScope s_Log_room) := C8.fnScope_by (by decide +kernel)
theorem c_Log_room (T : Tx w K mg) : Met P w K mg base 5 (He.ga K "Log") "room" (sp_room K) [] := by
  refine K_Log_room T sc_Log_room (fun _ _ _ _ _ _ us hl => match us, hl with | [_, _], _ => rfl) (by walk_at "len") (fun cdv A outer s H vs Q E hr h => ?_)
  have nd := sc_Log_room.nd
  have hu := hu_of hr
  refine ⟨_, (pss_cons (ps_set (i := 2) nd rfl (Or.inl rfl) (pe_callB (call_len) (by rfl) (b_len T) PySem.boot_len (pa_cons (C8.pe_mt0 (c_Log_free_blocks T) hr (by decide) (pv 0)) pa_nil)))
      (pss_cons (ps_if (pt_not (pt_val (pv 1))) (pss_cons (ps_if (pt_cmpR op_eq (pv 2) pe_int (nomark _)) (pss_one (ps_ret pe_int)) pss_nil)
      (pss_one (ps_aug (i := 2) nd rfl (Or.inl rfl) pe_int ip_sub))) pss_nil)
      (pss_cons (ps_set (i := 3) nd rfl (Or.inl rfl) (pe_op op_mul (C8.pe_gc (by rfl) (i_PAGES T)) (pv 2)))
      (pss_cons (ps_if (pt_cmp (pc_notN (pe_fld (pv 0) rfl))) (pss_one (ps_set (i := 3) nd rfl (Or.inl rfl) (pe_op op_sub (pe_op op_add (pv 3) (C8.pe_gc (by rfl) (i_PAGES T))) (C8.pe_c (c_next_page T) hr (by decide) (by rfl) (pa_cons (pe_ix ix_list (pe_fld (pv 0) rfl) (pe_fld (pv 0) rfl) (fun _ _ => rfl)) pa_nil))))) pss_nil)
      (pss_one (ps_ret (pv 3))))))), ?_⟩
  obtain ⟨lg, lh, fl, fh, fw, fb, lb, as, rfl, G, h56, k⟩ := h
  obtain ⟨dx, hp⟩ := G.ins
  have fl8 := freeL_len h56
  refine ⟨_, rfl, lg, dx, _, rfl, hp, rfl, lg, lh, fl, fh, fw, fb, lb, as, rfl, G, fun l H1 s1 f1 e1 => ?_⟩
  refine ⟨_, _, rfl, .inl ⟨_, SqL.of e1, rfl⟩, ?_⟩
  rw [List.length_map]
  have G1 := G.keep s1
  have hp1 := s1 _ _ hp
  refine ⟨_, rfl, _, rfl, iteT ⟨_, rfl, rfl, _, rfl, eqI_F (by omega) ?_⟩⟩
  have c9 : CMul 8 (((8 - (as.length + 7) / 8 : Nat) : Int) - 1) := .inl ⟨by decide, by decide⟩
  rw [fl8]
  refine ⟨_, rfl, _, _, rfl, rfl, _, rfl, _, _, rfl, rfl, c9, ?_⟩
  refine ⟨_, rfl, lg, _, dx, _, _, rfl, hp1, cls_Log T, at_Log_current T, rfl, _, rfl, ?_⟩
  by_cases z : as.length % 8 = 0
  · refine ite_b (by rw [curN z] <;> rfl) ⟨_, rfl, ?_⟩
    have := k H1 s1
    rw [show (56 - ((as.length : Nat) : Int)) = 8 * (((8 - (as.length + 7) / 8 : Nat) : Int) - 1) by omega] at this
    exact this
  · have b8 : as.length / 8 < 8 := by omega
    obtain ⟨c, hcb, hc, hcl⟩ := G1.bk.get b8
    refine ite_t (by rw [curI z] <;> rfl) ⟨_, rfl, _, _, rfl, rfl, _, rfl, lg, _, dx, _, _, rfl, hp1, cls_Log T, at_Log_held T, rfl, _, rfl, lg, _, dx, _, _, rfl, hp1, cls_Log T, at_Log_current T, rfl, lh, _, _, _, rfl, curI z, SqL.of G1.bk.held, at_of (j := as.length / 8) rfl hc, c, _, rfl, SqL.of hcl, blk_le _ _, _, _, rfl, rfl, _, rfl, ?_⟩
    have := k H1 s1
    rw [show (56 - ((as.length : Nat) : Int)) = 8 * (((8 - (as.length + 7) / 8 : Nat) : Int) - 1) + 8 - ((blk as (as.length / 8)).length : Nat) by rw [blk_len]; omega] at this
    exact this
def sp_choose (K : PySem.W.Frag) : Sp := fun vs H Q _ => ∃ (lg lh fl fh fw : Addr) (fb lb as : List Addr), vs = [.ref lg] ∧ LgA K H lg lh fl fh fw fb lb as ∧ as.length < 64 ∧ as.length % 8 = 0 ∧ ∀ H', Same H H' → Q (.int (as.length / 8 : Nat)) H'
theorem sc_Log_choose : FnScope ["self", "block"] ["self"] (defScope s_Log_choose) := C8.fnScope_by (by decide +kernel)
theorem c_Log_choose (T : Tx w K mg) : Met P w K mg base 5 (He.ga K "Log") "choose" (sp_choose K) [] := by
  refine K_Log_choose T sc_Log_choose (fun _ _ _ _ _ _ us hl => match us, hl with | [_], _ => rfl) (by walk_at "len") (fun cdv A outer s H vs Q E hr h => ?_)
  have nd := sc_Log_choose.nd
  have hu := hu_of hr
  refine ⟨_, (pss_one (ps_ret (pe_ix ix_tup (pe_ix ix_list (pe_callB (cr_sortedPO) (by rfl) (b_sorted T) (by decide +kernel) (pa_cons (pe_lc (own := [("block", 1)]) rfl nd (pi_list (C8.pe_mt0 (c_Log_free_blocks T) hr (by decide) (pv 0))) (blkOk_by (N := (["self", "block"] : List Str)) (sc := (defScope s_Log_choose)) (by decide +kernel)) (fun _ _ _ _ _ => (pg_name (i := 1) nd rfl (Or.inl rfl))) (fun _ _ _ _ _ => pts_nil) (fun _ _ _ _ _ => (pe_tup (pa_cons (C8.pe_mt (c_Flash_wear T) hr (by decide) (pe_fldK (K := K) rfl (pv 0) rfl) (pa_cons (pv 1) pa_nil)) (pa_cons (pv 1) pa_nil))))) pa_nil)) pe_int (fun _ _ => rfl)) pe_int (fun _ _ => rfl)))), ?_⟩
  obtain ⟨lg, lh, fl, fh, fw, fb, lb, as, rfl, G, h64, z, k⟩ := h
  obtain ⟨dx, hp⟩ := G.ins
  obtain ⟨dx2, hf⟩ := G.fl.ins
  have sz2 : 2 ≤ sizeLine := by decide
  refine ⟨_, rfl, lg, dx, _, rfl, hp, rfl, lg, lh, fl, fh, fw, fb, lb, as, rfl, G, fun l H1 s1 f1 e1 => ⟨l, rfl, ⟨_, SqL.of e1⟩, fun D hD => ?_⟩⟩
  have G1 := G.keep s1
  have l8 : (freeL as.length).length ≤ 8 := by
    have := List.length_filter_le (fun i => decide (as.length ≤ 8 * i)) (List.range 8)
    rw [List.length_range] at this
    exact this
  refine lc_list (K := K) (a := l) (xs := (freeL as.length).map fun i : Nat => V.int i) (fun i H' => Same H1 H' ∧ ∃ ts : List Addr, H' D = some (.lst (ts.map V.ref)) ∧ Paired (fun t b => H' t = some (.tup [.int 0, .int (b : Nat)])) ts ((freeL as.length).take i)) ?_ ?_ ?_ ?_
  · exact ⟨same_upd hD, [], upd_same, .nil⟩
  · rintro i H' _ ⟨s, _⟩
    exact SqL.of (s _ _ e1)
  · rintro i y H' hy ⟨s, ts, eD, pr⟩
    rw [List.getElem?_map] at hy
    obtain ⟨b, hb, rfl⟩ := Option.map_eq_some_iff.mp hy
    have b8 := freeL_mem (List.mem_of_getElem? hb)
    have hp' := s _ _ (s1 _ _ hp)
    have hf' := s _ _ (s1 _ _ hf)
    refine ⟨rfl, yesT ⟨_, rfl, lg, _, dx, _, _, rfl, hp', cls_Log T, at_Log_flash T, rfl, fl, dx2, _, rfl, hf', rfl, _, rfl, fl, fh, fw, fb, as, b, rfl, (G1.keep s).fl, b8, _, rfl, sz2, fun c hc => ?_⟩⟩
    have eD2 := upd_old (o := .tup [.int 0, .int (b : Nat)]) eD hc
    have cD : c ≠ D := (ne_of_none eD hc).symm
    refine ⟨_, eD2, ?_, fun a o e => ?_, ts ++ [c], ?_, ?_⟩
    · rw [List.length_map, Paired.length pr, List.length_take]
      exact small1000 (by omega)
    · rw [upd_ne (ne_of_none e hD)]; exact upd_old (s _ _ e) hc
    · rw [List.map_append]; exact upd_same
    · rw [List.take_add_one, hb]
      refine Paired.snoc (mapP pr fun t b' e => ?_) ?_
      · rw [upd_ne (ne_of (upd_old e hc) eD2 fun z => nomatch z)]; exact upd_old e hc
      · rw [upd_ne cD]; exact upd_same
  rintro H2 ⟨s, ts, eD, pr⟩
  rw [List.length_map, List.take_length] at pr
  have hk : ∀ t, (∃ b, H2 t = some (.tup [.int 0, .int (b : Nat)])) → ∃ b : Nat, H2 t = some (.tup [.int 0, .int b]) ∧ kOf H2 (.ref t) = (0, (b : Int)) := by
    rintro t ⟨b, e⟩
    refine ⟨b, e, ?_⟩
    unfold kOf
    show (match H2 t with | some (.tup [.int i, .int j]) => (i, j) | _ => (0, 0)) = _
    rw [e]
  have srt : SrtO.Srtd (ltP (kOf H2)) (ts.map V.ref) := by
    refine List.pairwise_iff_getElem.mpr fun i j hi hj ij => ?_
    rw [List.length_map] at hi hj
    rw [List.getElem_map, List.getElem_map]
    obtain ⟨b1, hb1, e1⟩ := L2.paired_get pr (List.getElem?_eq_getElem hi)
    obtain ⟨b2, hb2, e2⟩ := L2.paired_get pr (List.getElem?_eq_getElem hj)
    obtain ⟨_, q1, k1⟩ := hk _ ⟨b1, e1⟩
    obtain ⟨_, q2, k2⟩ := hk _ ⟨b2, e2⟩
    rw [e1] at q1
    rw [e2] at q2
    cases q1
    cases q2
    show SrtO.lexB (kOf H2 _) (kOf H2 _) = false
    rw [k1, k2]
    refine SrtO.lexB_no.mpr ?_
    have := List.pairwise_iff_getElem.mp (freeL_asc as.length) i j (by rw [← Paired.length pr]; exact hi) (by rw [← Paired.length pr]; exact hj) ij
    rw [(List.getElem?_eq_some_iff.mp hb1).2, (List.getElem?_eq_some_iff.mp hb2).2] at this
    show ¬ ((0 : Int) < 0 ∨ ((0 : Int) = 0 ∧ (b2 : Int) < b1))
    omega
  obtain ⟨t0, ht0, e0⟩ : ∃ t0, ts[0]? = some t0 ∧ H2 t0 = some (.tup [.int 0, .int (as.length / 8 : Nat)]) := by
    have h0 := freeL_head h64 z
    have l0 : 0 < ts.length := by
      rw [Paired.length pr]
      exact (List.getElem?_eq_some_iff.mp h0).1
    exact ⟨ts[0], List.getElem?_eq_getElem l0, paired_two pr (List.getElem?_eq_getElem l0) h0⟩
  refine ⟨D, ts.map V.ref, kOf H2, rfl, SqL.of eD, fun x hx => ?_, fun ys p sy st hpn => ?_⟩
  · obtain ⟨t, ht, rfl⟩ := List.mem_map.mp hx
    obtain ⟨i, hi⟩ := List.mem_iff_getElem?.mp ht
    obtain ⟨b, _, e⟩ := L2.paired_get pr hi
    obtain ⟨b', e', k'⟩ := hk t ⟨b, e⟩
    exact ⟨t, rfl, by rw [k']; exact e'⟩
  · obtain rfl := SrtO.stb_uniq (ltP_swo (kOf H2)) sy srt st
    refine ⟨p, _, 0, .ref t0, rfl, rfl, SqL.of upd_same, at_of (j := 0) rfl (by rw [List.getElem?_map, ht0] <;> rfl), t0, _, 1, _, rfl, rfl, SqT.of (upd_old e0 hpn), at_of (j := 1) rfl rfl, ?_⟩
    exact k _ (same_upd' (s1.trans s) hpn)
end
end L2.Sg
set_option Elab.async false
set_option linter.all false
set_option maxRecDepth 100000
set_option maxHeartbeats 4000000
namespace L2.Sg
open PySem PySem.Spec PyProof.Rows
open C8 (Cal Met Mak pe_c pe_mt pe_mt0 pe_mk tCut pss_cut)
local macro_rules | `(tactic| walk_at "len") => `(tactic| (intro vs H Q E h; first | (obtain ⟨e, _⟩ := h; subst e; rfl) | (obtain ⟨_, e, _⟩ := h; subst e; rfl) | (obtain ⟨_, _, e, _⟩ := h; subst e; rfl) | (obtain ⟨_, _, _, e, _⟩ := h; subst e; rfl) | (obtain ⟨_, _, _, _, e, _⟩ := h; subst e; rfl) | (obtain ⟨_, _, _, _, _, e, _⟩ := h; subst e; rfl) | (obtain ⟨_, _, _, _, _, _, e, _⟩ := h; subst e; rfl) | (obtain ⟨_, _, _, _, _, _, _, e, _⟩ := h; subst e; rfl) | (obtain ⟨_, _, _, _, _, _, _, _, e, _⟩ := h; subst e; rfl) | (obtain ⟨_, _, _, _, _, _, _, _, _, e, _⟩ := h; subst e; rfl) | (obtain ⟨_, _, _, _, _, _, _, _, _, _, e, _⟩ := h; subst e; rfl) | (obtain ⟨_, _, _, _, _, _, _, _, _, _, _, e, _⟩ := h; subst e; rfl) | (obtain ⟨_, _, _, _, _, _, _, _, _, _, _, _, e, _⟩ := h; subst e; rfl) | (obtain ⟨_, _, _, _, _, _, _, _, _, _, _, _, _, e, _⟩ := h; subst e; rfl) | (obtain ⟨_, _, _, _, _, _, _, _, _, _, _, _, _, _, e, _⟩ := h; subst e; rfl) | (obtain ⟨_, _, _, _, _, _, _, _, _, _, _, _, _, _, _, e, _⟩ := h; subst e; rfl)))
local macro_rules | `(tactic| walk_at "ns") => `(tactic| (try dsimp only [Op.kind, Tp.word, Rec.top]); decide +kernel)
theorem LgA.put {K : PySem.W.Frag} {H F : Hp} {lg lh fl fh fw a b c dx : Addr} {fb lb as : List Addr} (G : LgA K H lg lh fl fh fw fb lb as) (hb : fb[as.length / 8]? = some b) (hc : lb[as.length / 8]? = some c)
    (fg : F lg = some (.ins (He.ga K "Log") dx (lgF fl lh (curV (as ++ [a]))))) (eb : F b = some (.lst (pgs (blk (as ++ [a]) (as.length / 8))))) (ec : F c = some (.lst (pgs (blk (as ++ [a]) (as.length / 8)))))
    (k : ∀ x o, H x = some o → x ≠ lg → x ≠ b → x ≠ c → F x = some o) : LgA K F lg lh fl fh fw fb lb (as ++ [a]) := by
  obtain ⟨dx1, h1⟩ := G.ins
  obtain ⟨dx2, h2⟩ := G.fl.ins
  have mb := List.mem_of_getElem? hb
  have mc := List.mem_of_getElem? hc
  have lst_lg : ∀ {x xs}, H x = some (.lst xs) → x ≠ lg := fun e => ne_of e h1 fun z => nomatch z
  have hbl := G.fl.bk.blks _ _ hb
  have hcl := G.bk.blks _ _ hc
  have inB : ∀ x, x ∈ fb → ∃ xs, H x = some (.lst xs) := fun x hx => by
    obtain ⟨i, hi⟩ := List.mem_iff_getElem?.mp hx
    exact ⟨_, G.fl.bk.blks _ _ hi⟩
  have inC : ∀ x, x ∈ lb → ∃ xs, H x = some (.lst xs) := fun x hx => by
    obtain ⟨i, hi⟩ := List.mem_iff_getElem?.mp hx
    exact ⟨_, G.bk.blks _ _ hi⟩
  refine ⟨⟨dx, fg⟩, G.bk.put hc ec fun x o z hx e => ?_, ⟨⟨dx2, ?_⟩, G.fl.bk.put hb eb fun x o z hx e => ?_, ?_, G.fl.wo⟩, G.dj, G.dh⟩
  · rcases hx with rfl | hx
    · exact k _ _ e (lst_lg G.bk.held) (fun q => G.dh (q ▸ mb)) z
    · obtain ⟨xs, hxs⟩ := inC x hx
      exact k _ _ e (lst_lg hxs) (fun q => (G.dj x hx).1 (q ▸ mb)) z
  · have n1 : fl ≠ lg := fun z => by
      rw [z, h1] at h2
      have := congrArg (fun o : Option HO => match o with | some (.ins _ _ fs) => fs.length | _ => 0) h2
      exact absurd this (by show ¬ 3 = 6; decide)
    exact k _ _ h2 n1 (ne_of h2 hbl fun z => nomatch z) (ne_of h2 hcl fun z => nomatch z)
  · rcases hx with rfl | hx
    · exact k _ _ e (lst_lg G.fl.bk.held) z (fun q => (G.dj c mc).2.1 q.symm)
    · obtain ⟨xs, hxs⟩ := inB x hx
      exact k _ _ e (lst_lg hxs) z (fun q => (G.dj c mc).1 (q ▸ hx))
  · exact k _ _ G.fl.wr (lst_lg G.fl.wr) (fun q => G.fl.wo (q ▸ mb)) (fun q => (G.dj c mc).2.2 q.symm)
section
variable {P : Program} {w : World} {K : PySem.W.Frag} {base : Heap} {mg : Str → Option Value}
def sp_append (K : PySem.W.Frag) : Sp := fun vs H Q _ => ∃ (lg lh fl fh fw a : Addr) (fb lb as : List Addr) (xs : List V), vs = [.ref lg, .ref a, .bl false] ∧ LgA K H lg lh fl fh fw fb lb as ∧ as.length < 56 ∧ H a = some (.tup xs) ∧
  ∀ H', LgA K H' lg lh fl fh fw fb lb (as ++ [a]) → (∀ b o, H b = some o → b ≠ lg → b ∉ fb → b ∉ lb → H' b = some o) → Q .non H'
theorem sc_Log_append : FnScope ["self", "record", "is_copy", "block", "page"] ["self", "record", "is_copy"] (defScope s_Log_append) := C8.fnScope_by (by decide +kernel)
theorem c_Log_append (T : Tx w K mg) : Met P w K mg base 6 (He.ga K "Log") "append" (sp_append K) [] := by
  refine K_Log_append T sc_Log_append (fun _ _ _ _ _ _ us hl => match us, hl with | [_, _, _], _ => rfl) (by walk_at "len") (fun cdv A outer s H vs Q E hr h => ?_)
  have nd := sc_Log_append.nd
  have hu := hu_of hr
  refine ⟨_, (pss_cons (ps_if (pt_cmpR op_eq (C8.pe_mt (c_Log_room T) hr (by decide) (pv 0) (pa_cons (pv 2) pa_nil)) pe_int (nomark _)) (pss_one ps_never) pss_nil)
      (pss_cons (ps_set (i := 3) nd rfl (Or.inl rfl) (pe_fld (pv 0) rfl))
      (pss_cons (ps_if (pt_cmp (pc_isN (pv 3))) (pss_one (ps_set (i := 3) nd rfl (Or.inl rfl) (C8.pe_mt0 (c_Log_choose T) hr (by decide) (pv 0)))) pss_nil)
      (pss_cons (ps_set (i := 4) nd rfl (Or.inl rfl) (C8.pe_c (c_next_page T) hr (by decide) (by rfl) (pa_cons (pe_ix ix_list (pe_fld (pv 0) rfl) (pv 3) (fun _ _ => rfl)) pa_nil)))
      (pss_cons (ps_expr (C8.pe_mt (c_Flash_program T) hr (by decide) (pe_fld (pv 0) rfl) (pa_cons (pv 3) (pa_cons (pv 4) (pa_cons (pv 1) pa_nil)))))
      (pss_cons (ps_asg (pv 1) (pg_sub (pe_ix ix_list (pe_fld (pv 0) rfl) (pv 3) (fun _ _ => rfl)) (pv 4) set_list))
      (pss_cons (ps_fld (pv 0) (pv 3) rfl)
      (pss_one (ps_if (pt_cmpR op_eq (pe_op op_add (pv 4) pe_int) (C8.pe_gc (by rfl) (i_PAGES T)) (nomark _)) (pss_one (ps_fld (pv 0) pe_non rfl)) pss_nil))))))))), ?_⟩
  obtain ⟨lg, lh, fl, fh, fw, a, fb, lb, as, xs, rfl, G, h56, ha, k⟩ := h
  obtain ⟨dx, hp⟩ := G.ins
  have b8 : as.length / 8 < 8 := by omega
  have g8 : as.length % 8 < 8 := by omega
  have bl : (blk as (as.length / 8)).length = as.length % 8 := by rw [blk_len]; omega
  refine ⟨_, rfl, lg, dx, _, rfl, hp, rfl, _, rfl, lg, lh, fl, fh, fw, fb, lb, as, rfl, G, by omega, fun H1 s1 => ⟨rfl, _, rfl, eqI_F (by omega) ?_⟩⟩
  refine ⟨_, rfl, lg, _, dx, _, _, rfl, s1 _ _ hp, cls_Log T, at_Log_current T, rfl, ?_⟩
  have fin : ∀ H2, Same H H2 → ∃ b c, fb[as.length / 8]? = some b ∧ lb[as.length / 8]? = some c ∧ (lb.map V.ref)[as.length / 8]? = some (.ref c) ∧ H2 c = some (.lst (pgs (blk as (as.length / 8)))) ∧ H2 b = some (.lst (pgs (blk as (as.length / 8)))) := fun H2 s2 => by
    obtain ⟨b, hb, _, hbl⟩ := (G.keep s2).fl.bk.get b8
    obtain ⟨c, hcb, hc, hcl⟩ := (G.keep s2).bk.get b8
    exact ⟨b, c, hb, hcb, hc, hcl, hbl⟩
  by_cases z : as.length % 8 = 0
  rotate_left
  · refine ⟨_, rfl, _, rfl, ite_b (by rw [curI z] <;> rfl) ?_⟩
    rw [curI z]
    have s3 := s1
    revert s3
    generalize H1 = H2
    intro s3
    have G2 := G.keep s3
    obtain ⟨b, c, hb, hcb, hc, hcl, hbl⟩ := fin H2 s3
    have hp2 := s3 _ _ hp
    obtain ⟨dxF, hf2⟩ := G2.fl.ins
    refine ⟨_, rfl, lg, _, dx, _, _, rfl, hp2, cls_Log T, at_Log_held T, rfl, _, rfl, lh, _, _, _, rfl, rfl, SqL.of G2.bk.held, at_of (j := as.length / 8) rfl hc, c, _, rfl, SqL.of hcl, blk_le _ _, ?_⟩
    rw [bl]
    refine ⟨_, rfl, lg, _, dx, _, _, rfl, hp2, cls_Log T, at_Log_flash T, rfl, fl, dxF, _, rfl, hf2, rfl, _, rfl, _, rfl, _, rfl, fl, fh, fw, fb, as, a, xs, rfl, G2.fl, by omega, s3 _ _ ha, fun H3 b' hb' eb fr => ?_⟩
    obtain rfl : b = b' := Option.some.inj (hb.symm.trans hb')
    have mb := List.mem_of_getElem? hb
    have mc := List.mem_of_getElem? hcb
    have cb : c ≠ b := fun q => (G.dj c mc).1 (q ▸ mb)
    have hp3 := fr _ _ hp2 (ne_of hp2 hbl fun z => nomatch z)
    have hc3 := fr _ _ hcl cb
    have hh3 := fr _ _ G2.bk.held (fun q => G.dh (q ▸ mb))
    refine ⟨_, rfl, _, rfl, lg, _, dx, _, _, rfl, hp3, cls_Log T, at_Log_held T, rfl, _, rfl, lh, _, _, _, rfl, rfl, SqL.of hh3, at_of (j := as.length / 8) rfl hc, _, rfl, c, _, _, as.length % 8, rfl, rfl, hc3, ix_nat (by rw [pgs_len (blk_le _ _)]; exact g8), ?_⟩
    have e4 : (pgs (blk as (as.length / 8))).set (as.length % 8) (.ref a) = pgs (blk (as ++ [a]) (as.length / 8)) := by rw [blk_this, ← pgs_set (by omega), bl]
    rw [e4]
    have cl : lg ≠ c := ne_of hp3 hc3 fun z => nomatch z
    have hp4 : (upd H3 c (.lst (pgs (blk (as ++ [a]) (as.length / 8))))) lg = some (.ins (He.ga K "Log") dx (lgF fl lh (curV as))) := by rw [upd_ne cl]; exact hp3
    refine ⟨_, rfl, _, rfl, lg, _, dx, _, rfl, hp4, cls_Log T, at_Log_current T, by show 3 < 1000; decide, ?_⟩
    refine ⟨_, rfl, _, _, rfl, rfl, rfl, _, rfl, ?_⟩
    have lb' : lg ≠ b := ne_of hp2 hbl fun z => nomatch z
    by_cases y : as.length % 8 = 7
    · refine eqI_T (by omega) ⟨_, rfl, lg, _, dx, _, rfl, upd_same, cls_Log T, at_Log_current T, by show 3 < 1000; decide, ?_⟩
      have cv : curV (as ++ [a]) = .non := curN (by rw [List.length_append]; show (as.length + 1) % 8 = 0; omega)
      have fr4 : ∀ x o, H x = some o → x ≠ lg → x ≠ b → x ≠ c → (upd (upd (upd H3 c (.lst (pgs (blk (as ++ [a]) (as.length / 8))))) lg (.ins (He.ga K "Log") dx (lgF fl lh (.int (as.length / 8 : Nat))))) lg (.ins (He.ga K "Log") dx (lgF fl lh .non))) x = some o := fun x o e q1 q2 q3 => by
        rw [upd_ne q1, upd_ne q1, upd_ne q3]
        exact fr _ _ (s3 _ _ e) q2
      refine k _ (G.put (dx := dx) hb hcb (by rw [cv]; exact upd_same) (by rw [upd_ne lb'.symm, upd_ne lb'.symm, upd_ne cb.symm]; exact eb) (by rw [upd_ne cl.symm, upd_ne cl.symm]; exact upd_same) fr4) fun x o e q1 q2 q3 => fr4 x o e q1 (fun q => q2 (q ▸ mb)) (fun q => q3 (q ▸ mc))
    · refine eqI_F (by omega) ?_
      have cv : curV (as ++ [a]) = .int (as.length / 8 : Nat) := by
        rw [curI (by rw [List.length_append]; show (as.length + 1) % 8 ≠ 0; omega)]
        congr 2
        rw [List.length_append]
        show (as.length + 1) / 8 = _
        omega
      have fr4 : ∀ x o, H x = some o → x ≠ lg → x ≠ b → x ≠ c → (upd (upd H3 c (.lst (pgs (blk (as ++ [a]) (as.length / 8))))) lg (.ins (He.ga K "Log") dx (lgF fl lh (.int (as.length / 8 : Nat))))) x = some o := fun x o e q1 q2 q3 => by
        rw [upd_ne q1, upd_ne q3]
        exact fr _ _ (s3 _ _ e) q2
      refine k _ (G.put (dx := dx) hb hcb (by rw [cv]; exact upd_same) (by rw [upd_ne lb'.symm, upd_ne cb.symm]; exact eb) (by rw [upd_ne cl.symm]; exact upd_same) fr4) fun x o e q1 q2 q3 => fr4 x o e q1 (fun q => q2 (q ▸ mb)) (fun q => q3 (q ▸ mc))
  · refine ⟨_, rfl, _, rfl, ite_t (by rw [curN z] <;> rfl) ⟨_, rfl, lg, dx, _, rfl, s1 _ _ hp, rfl, lg, lh, fl, fh, fw, fb, lb, as, rfl, G.keep s1, by omega, z, fun H2 s2 => ?_⟩⟩
    have s3 := s1.trans s2
    have G2 := G.keep s3
    obtain ⟨b, c, hb, hcb, hc, hcl, hbl⟩ := fin H2 s3
    have hp2 := s3 _ _ hp
    obtain ⟨dxF, hf2⟩ := G2.fl.ins
    refine ⟨_, rfl, lg, _, dx, _, _, rfl, hp2, cls_Log T, at_Log_held T, rfl, _, rfl, lh, _, _, _, rfl, rfl, SqL.of G2.bk.held, at_of (j := as.length / 8) rfl hc, c, _, rfl, SqL.of hcl, blk_le _ _, ?_⟩
    rw [bl]
    refine ⟨_, rfl, lg, _, dx, _, _, rfl, hp2, cls_Log T, at_Log_flash T, rfl, fl, dxF, _, rfl, hf2, rfl, _, rfl, _, rfl, _, rfl, fl, fh, fw, fb, as, a, xs, rfl, G2.fl, by omega, s3 _ _ ha, fun H3 b' hb' eb fr => ?_⟩
    obtain rfl : b = b' := Option.some.inj (hb.symm.trans hb')
    have mb := List.mem_of_getElem? hb
    have mc := List.mem_of_getElem? hcb
    have cb : c ≠ b := fun q => (G.dj c mc).1 (q ▸ mb)
    have hp3 := fr _ _ hp2 (ne_of hp2 hbl fun z => nomatch z)
    have hc3 := fr _ _ hcl cb
    have hh3 := fr _ _ G2.bk.held (fun q => G.dh (q ▸ mb))
    refine ⟨_, rfl, _, rfl, lg, _, dx, _, _, rfl, hp3, cls_Log T, at_Log_held T, rfl, _, rfl, lh, _, _, _, rfl, rfl, SqL.of hh3, at_of (j := as.length / 8) rfl hc, _, rfl, c, _, _, as.length % 8, rfl, rfl, hc3, ix_nat (by rw [pgs_len (blk_le _ _)]; exact g8), ?_⟩
    have e4 : (pgs (blk as (as.length / 8))).set (as.length % 8) (.ref a) = pgs (blk (as ++ [a]) (as.length / 8)) := by rw [blk_this, ← pgs_set (by omega), bl]
    rw [e4]
    have cl : lg ≠ c := ne_of hp3 hc3 fun z => nomatch z
    have hp4 : (upd H3 c (.lst (pgs (blk (as ++ [a]) (as.length / 8))))) lg = some (.ins (He.ga K "Log") dx (lgF fl lh (curV as))) := by rw [upd_ne cl]; exact hp3
    refine ⟨_, rfl, _, rfl, lg, _, dx, _, rfl, hp4, cls_Log T, at_Log_current T, by show 3 < 1000; decide, ?_⟩
    refine ⟨_, rfl, _, _, rfl, rfl, rfl, _, rfl, ?_⟩
    have lb' : lg ≠ b := ne_of hp2 hbl fun z => nomatch z
    by_cases y : as.length % 8 = 7
    · refine eqI_T (by omega) ⟨_, rfl, lg, _, dx, _, rfl, upd_same, cls_Log T, at_Log_current T, by show 3 < 1000; decide, ?_⟩
      have cv : curV (as ++ [a]) = .non := curN (by rw [List.length_append]; show (as.length + 1) % 8 = 0; omega)
      have fr4 : ∀ x o, H x = some o → x ≠ lg → x ≠ b → x ≠ c → (upd (upd (upd H3 c (.lst (pgs (blk (as ++ [a]) (as.length / 8))))) lg (.ins (He.ga K "Log") dx (lgF fl lh (.int (as.length / 8 : Nat))))) lg (.ins (He.ga K "Log") dx (lgF fl lh .non))) x = some o := fun x o e q1 q2 q3 => by
        rw [upd_ne q1, upd_ne q1, upd_ne q3]
        exact fr _ _ (s3 _ _ e) q2
      refine k _ (G.put (dx := dx) hb hcb (by rw [cv]; exact upd_same) (by rw [upd_ne lb'.symm, upd_ne lb'.symm, upd_ne cb.symm]; exact eb) (by rw [upd_ne cl.symm, upd_ne cl.symm]; exact upd_same) fr4) fun x o e q1 q2 q3 => fr4 x o e q1 (fun q => q2 (q ▸ mb)) (fun q => q3 (q ▸ mc))
    · refine eqI_F (by omega) ?_
      have cv : curV (as ++ [a]) = .int (as.length / 8 : Nat) := by
        rw [curI (by rw [List.length_append]; show (as.length + 1) % 8 ≠ 0; omega)]
        congr 2
        rw [List.length_append]
        show (as.length + 1) / 8 = _
        omega
      have fr4 : ∀ x o, H x = some o → x ≠ lg → x ≠ b → x ≠ c → (upd (upd H3 c (.lst (pgs (blk (as ++ [a]) (as.length / 8))))) lg (.ins (He.ga K "Log") dx (lgF fl lh (.int (as.length / 8 : Nat))))) x = some o := fun x o e q1 q2 q3 => by
        rw [upd_ne q1, upd_ne q3]
        exact fr _ _ (s3 _ _ e) q2
      refine k _ (G.put (dx := dx) hb hcb (by rw [cv]; exact upd_same) (by rw [upd_ne lb'.symm, upd_ne cb.symm]; exact eb) (by rw [upd_ne cl.symm]; exact upd_same) fr4) fun x o e q1 q2 q3 => fr4 x o e q1 (fun q => q2 (q ▸ mb)) (fun q => q3 (q ▸ mc))
end
end L2.Sg
set_option Elab.async false
set_option linter.all false
set_option maxRecDepth 100000
set_option maxHeartbeats 4000000
namespace L2.Sg
open PySem PySem.Spec PyProof.Rows
open C8 (Cal Met Mak pe_c pe_mt pe_mt0 pe_mk tCut pss_cut)
local macro_rules | `(tactic| walk_at "len") => `(tactic| (intro vs H Q E h; first | (obtain ⟨e, _⟩ := h; subst e; rfl) | (obtain ⟨_, e, _⟩ := h; subst e; rfl) | (obtain ⟨_, _, e, _⟩ := h; subst e; rfl) | (obtain ⟨_, _, _, e, _⟩ := h; subst e; rfl) | (obtain ⟨_, _, _, _, e, _⟩ := h; subst e; rfl) | (obtain ⟨_, _, _, _, _, e, _⟩ := h; subst e; rfl) | (obtain ⟨_, _, _, _, _, _, e, _⟩ := h; subst e; rfl) | (obtain ⟨_, _, _, _, _, _, _, e, _⟩ := h; subst e; rfl) | (obtain ⟨_, _, _, _, _, _, _, _, e, _⟩ := h; subst e; rfl) | (obtain ⟨_, _, _, _, _, _, _, _, _, e, _⟩ := h; subst e; rfl) | (obtain ⟨_, _, _, _, _, _, _, _, _, _, e, _⟩ := h; subst e; rfl) | (obtain ⟨_, _, _, _, _, _, _, _, _, _, _, e, _⟩ := h; subst e; rfl) | (obtain ⟨_, _, _, _, _, _, _, _, _, _, _, _, e, _⟩ := h; subst e; rfl) | (obtain ⟨_, _, _, _, _, _, _, _, _, _, _, _, _, e, _⟩ := h; subst e; rfl) | (obtain ⟨_, _, _, _, _, _, _, _, _, _, _, _, _, _, e, _⟩ := h; subst e; rfl) | (obtain ⟨_, _, _, _, _, _, _, _, _, _, _, _, _, _, _, e, _⟩ := h; subst e; rfl)))
local macro_rules | `(tactic| walk_at "ns") => `(tactic| (try dsimp only [Op.kind, Tp.word, Rec.top]); decide +kernel)
theorem blk_at {as : List Addr} {i j : Nat} (hj : j < 8) : (blk as i)[j]? = as[8 * i + j]? := by
  unfold blk
  rw [List.getElem?_take, if_pos hj, List.getElem?_drop]
theorem rec_dp {K : PySem.W.Frag} (H : Hp) (r : Rec) : ∃ ds, DpAll K H r.vals ds ∧ SeqAt.shaped (.tuple ds) = true := by
  obtain ⟨o, h, c, op⟩ := r
  cases op with
  | make => exact ⟨[.int o, .str "make", .int h, .int 1, .int c, .int 5, .int 64], .cons (.int _) (.cons (.str _) (.cons (.int _) (.cons (.int _) (.cons (.int _) (.cons (.int _) (.cons (.int _) .nil)))))), by kernel_rfl⟩
  | write p v => exact ⟨[.int o, .str "write", .int h, .int 1, .int c, .int 5, .int p, .int v], .cons (.int _) (.cons (.str _) (.cons (.int _) (.cons (.int _) (.cons (.int _) (.cons (.int _) (.cons (.int _) (.cons (.int _) .nil))))))), by kernel_rfl⟩
  | trim p => exact ⟨[.int o, .str "trim", .int h, .int 1, .int c, .int 5, .int p], .cons (.int _) (.cons (.str _) (.cons (.int _) (.cons (.int _) (.cons (.int _) (.cons (.int _) (.cons (.int _) .nil)))))), by kernel_rfl⟩
  | snap => exact ⟨[.int o, .str "snap", .int h, .int 1, .int c, .int 5], .cons (.int _) (.cons (.str _) (.cons (.int _) (.cons (.int _) (.cons (.int _) (.cons (.int _) .nil))))), by kernel_rfl⟩
  | drop n => exact ⟨[.int o, .str "drop", .int h, .int 1, .int c, .int 5, .int n], .cons (.int _) (.cons (.str _) (.cons (.int _) (.cons (.int _) (.cons (.int _) (.cons (.int _) (.cons (.int _) .nil)))))), by kernel_rfl⟩
theorem pgs_get {as : List Addr} {i j : Nat} (hj : j < 8) : (pgs (blk as i))[j]? = some (match as[8 * i + j]? with | some a => V.ref a | none => .non) := by
  rw [← blk_at hj]
  by_cases c : j < (blk as i).length
  · rw [pgs_at c, List.getElem?_eq_getElem c]
  · rw [pgs_non (by omega) hj, List.getElem?_eq_none (by omega)]
section
variable {P : Program} {w : World} {K : PySem.W.Frag} {base : Heap} {mg : Str → Option Value}
def sp_records (K : PySem.W.Frag) : Sp := fun vs H Q _ => ∃ (lg lh fl fh fw : Addr) (fb lb as : List Addr) (rs : List Rec), vs = [.ref lg] ∧ LgA K H lg lh fl fh fw fb lb as ∧ RecsAt H as rs ∧ Asc rs ∧ rs.length < 64 ∧ Mk1 H Q fun l H' => H' l = some (.lst (as.map V.ref))
theorem sc_Log_records : FnScope ["self", "found", "pages", "page", "order"] ["self"] (defScope s_Log_records) := C8.fnScope_by (by decide +kernel)
theorem c_Log_records (T : Tx w K mg) : Met P w K mg base 1 (He.ga K "Log") "records" (sp_records K) [] := by
  refine K_Log_records T sc_Log_records (fun _ _ _ _ _ _ us hl => match us, hl with | [_], _ => rfl) (by walk_at "len") (fun cdv A outer s H vs Q E hr h => ?_)
  have nd := sc_Log_records.nd
  have hu := hu_of hr
  refine ⟨_, (pss_cons (ps_set (i := 1) nd rfl (Or.inr rfl) pe_dnewK)
      (pss_cons (ps_for PassesOwn.never rfl (pi_list (pe_fld (pv 0) rfl)) (pg_name (i := 2) nd rfl (Or.inl rfl)) (pss_one (ps_for PassesOwn.never rfl (pi_list (pv 2)) (pg_name (i := 3) nd rfl (Or.inl rfl)) (pss_one (ps_if (PW.pt (pw_and (pt_cmp (pc_notN (pv 3))) (pw_and1 (pt_cmpR (op_neD hr.units) (pv 3) (C8.pe_gc (by rfl) (i_TORN T)) (nomark _))))) (pss_one (ps_dput hu (pv 1) (pe_ix ix_tup (pv 3) pe_int (fun _ _ => rfl)) (pv 3) rfl)) pss_nil)))))
      (pss_one (ps_ret (pe_lc (own := [("order", 4)]) rfl nd (pi_list (pe_callB (call_sortedDI rfl) (by rfl) (b_sorted T) (by decide +kernel) (pa_cons (pv 1) pa_nil))) (blkOk_by (N := (["self", "found", "pages", "page", "order"] : List Str)) (sc := (defScope s_Log_records)) (by decide +kernel)) (fun _ _ _ _ _ => (pg_name (i := 4) nd rfl (Or.inl rfl))) (fun _ _ _ _ _ => pts_nil) (fun _ _ _ _ _ => (pe_dget hu (pv 1) (pv 4) (fun _ _ => rfl)))))))), ?_⟩
  obtain ⟨lg, lh, fl, fh, fw, fb, lb, as, rs, rfl, G, hrs, asc, h64, k⟩ := h
  obtain ⟨dx, hp⟩ := G.ins
  have hlen : as.length = rs.length := Paired.length hrs
  have hlO : (ordKV as rs).length = rs.length := by unfold ordKV; rw [List.length_zipWith]; omega
  refine fun O hO => ⟨_, rfl, lg, _, dx, _, _, rfl, upd_old hp hO, cls_Log T, at_Log_held T, rfl, lh, rfl, ⟨_, SqL.of (upd_old G.bk.held hO)⟩, ?_⟩
  refine for_list (K := K) (a := lh) (xs := lb.map V.ref) (fun i σ H' => ∃ v2 v3, σ = [some (.ref lg), some (.ref O), v2, v3, none] ∧ H' = upd H O (.dK ((ordKV as rs).take (8 * i)))) ⟨_, _, rfl, rfl⟩ ?_ ?_ ?_
  · rintro i σ H' _ ⟨_, _, _, rfl⟩
    exact SqL.of (upd_old G.bk.held hO)
  · rintro i x σ H' hx ⟨v2, v3, rfl, rfl⟩
    obtain ⟨c, hc, rfl⟩ := refs_i hx
    have hcl := G.bk.blks i c hc
    refine ⟨_, rfl, c, rfl, ⟨_, SqL.of (upd_old hcl hO)⟩, ?_⟩
    refine for_list (K := K) (a := c) (xs := pgs (blk as i)) (fun j σ H' => ∃ v3, σ = [some (.ref lg), some (.ref O), some (.ref c), v3, none] ∧ H' = upd H O (.dK ((ordKV as rs).take (8 * i + j)))) ⟨_, rfl, rfl⟩ ?_ ?_ ?_
    · rintro j σ H' _ ⟨_, _, rfl⟩
      exact SqL.of (upd_old hcl hO)
    · rintro j x σ H' hx ⟨v3, rfl, rfl⟩
      have j8 : j < 8 := by
        have := (List.getElem?_eq_some_iff.mp hx).1
        rw [pgs_len (blk_le _ _)] at this
        exact this
      rw [pgs_get j8] at hx
      obtain rfl := Option.some.inj hx
      cases e : as[8 * i + j]? with
      | none =>
        have le : as.length ≤ 8 * i + j := List.getElem?_eq_none_iff.mp e
        refine ⟨_, rfl, _, rfl, iteF ⟨_, rfl, ?_⟩⟩
        rw [List.take_of_length_le (by omega), List.take_of_length_le (by omega)]
      | some a =>
        obtain ⟨r, hr, hR⟩ := L2.paired_get hrs e
        obtain ⟨v0, _⟩ := vals_at r
        have hR1 := upd_old (o := .dK ((ordKV as rs).take (8 * i + j))) hR hO
        obtain ⟨ds, hds, hsh⟩ := rec_dp (K := K) (upd H O (.dK ((ordKV as rs).take (8 * i + j)))) r
        refine ⟨_, rfl, _, rfl, iteT ⟨_, rfl, .tuple ds, .str "torn", .tup (SqT.of hR1) hds, .str _, hsh, by kernel_rfl, _, rfl, iteT ?_⟩⟩
        refine ⟨_, rfl, _, rfl, _, rfl, a, _, 0, _, rfl, rfl, SqT.of hR1, at_of (j := 0) rfl v0, O, _, rfl, DPut.k (k := .inl r.ord) upd_same ?_, _, rfl, ?_⟩
        · have : ((ordKV as rs).take (8 * i + j)).length ≤ (ordKV as rs).length := by rw [List.length_take]; exact Nat.min_le_right _ _
          exact small1000 (by omega)
        · rw [upd_upd, ordKV_put hlen asc e hr] <;> rfl
    · rintro σ H' ⟨v3, rfl, rfl⟩
      rw [pgs_len (blk_le _ _)]
      exact ⟨_, _, rfl, rfl⟩
  rintro σ H' ⟨v2, v3, rfl, rfl⟩
  have m64 : as.length ≤ 64 := by omega
  rw [List.length_map, G.bk.len, List.take_of_length_le (by omega)]
  refine ⟨_, rfl, O, ordKV as rs, rs.map (·.ord), rfl, .inl upd_same, ordKV_keys hlen, by rw [List.length_map]; exact h64, fun ys c perm srt hc => ?_⟩
  obtain rfl : ys = rs.map (·.ord) := List.Perm.eq_of_pairwise (fun a b _ _ h1 h2 => Int.le_antisymm h1 h2) srt (asc.ords.imp fun e => Int.le_of_lt e) perm
  refine ⟨c, rfl, ⟨_, SqL.of upd_same⟩, fun D2 hD2 => lc_list (K := K) (a := c) (xs := (rs.map (·.ord)).map V.int) (fun i H' => H' = upd (upd (upd H O (.dK (ordKV as rs))) c (.lst ((rs.map (·.ord)).map V.int))) D2 (.lst ((as.take i).map V.ref))) rfl (fun i H' _ e => by rw [e]; exact SqL.of (upd_old upd_same hD2)) ?_ ?_⟩
  · rintro i x H' hx rfl
    obtain ⟨n, hn, rfl⟩ := ints_i hx
    rw [List.getElem?_map] at hn
    obtain ⟨r, hr, rfl⟩ := Option.map_eq_some_iff.mp hn
    have hil : i < as.length := by rw [hlen]; exact (List.getElem?_eq_some_iff.mp hr).1
    have ha : as[i]? = some as[i] := List.getElem?_eq_getElem hil
    refine ⟨rfl, yesT ?_⟩
    refine ⟨_, rfl, _, rfl, O, .ref as[i], rfl, ?_, _, upd_same, ?_, ?_⟩
    · rw [← val_mem (ordKV_nodup hlen asc) (List.mem_of_getElem? (ordKV_at ha hr))]
      exact DGet.k (k := .inl r.ord) (upd_old (upd_old upd_same hc) hD2)
    · rw [List.length_map, List.length_take]; exact small1000 (by omega)
    · rw [upd_upd, List.take_add_one, ha, List.map_append] <;> rfl
  rintro H' rfl
  rw [List.length_map, List.length_map, ← hlen, List.take_length]
  exact k D2 _ (same_upd' (same_upd' (same_upd hO) hc) hD2) ((same_upd' (same_upd hO) hc).free hD2) upd_same
def sp_Log_init (K : PySem.W.Frag) : Sp := fun vs H Q _ => ∃ (p dx fl fh fw : Addr) (fb as : List Addr), vs = [.ref p, .ref fl] ∧ H p = some (.ins (He.ga K "Log") dx []) ∧ FlA K H fl fh fw fb as ∧ as.length < 64 ∧
  ∀ H' lh lb, LgA K H' p lh fl fh fw fb lb as → (∀ b o, H b = some o → b ≠ p → H' b = some o ∧ b ∉ lb) → Q .non H'
theorem sc_Log_init : FnScope ["self", "flash", "block", "page", "begun"] ["self", "flash"] (defScope s_Log_init) := C8.fnScope_by (by decide +kernel)
theorem c_Log_init (T : Tx w K mg) : Mak P w K mg base 5 "Log" (He.ga K "Log") (sp_Log_init K) [] := by
  refine K_Log_init T sc_Log_init (fun _ _ _ _ _ _ us hl => match us, hl with | [_, _], _ => rfl) (by walk_at "len") (fun cdv A outer s H vs Q E hr h => ?_)
  have nd := sc_Log_init.nd
  have hu := hu_of hr
  refine ⟨_, (pss_cons (ps_fld (pv 0) (pv 1) rfl)
      (pss_cons (ps_fld (pv 0) (pe_lst pa_nil) rfl)
      (pss_cons (ps_for PassesOwn.never rfl (pi_range1 rfl (b_range T) (pa_cons (pe_fld (pv 1) rfl) pa_nil)) (pg_name (i := 2) nd rfl (Or.inr rfl)) (pss_one (ps_expr (pe_bm PySem.F.plainAttrs_list PySem.F.slot_list_append PySem.F.type_list_append mt_append (pe_fld (pv 0) rfl) (pa_cons (pe_lc (own := [("page", 3)]) rfl nd (pi_range1 rfl (b_range T) (pa_cons (C8.pe_gc (by rfl) (i_PAGES T)) pa_nil)) (blkOk_by (N := (["self", "flash", "block", "page", "begun"] : List Str)) (sc := (defScope s_Log_init)) (by decide +kernel)) (fun _ _ _ _ _ => (pg_name (i := 3) nd rfl (Or.inl rfl))) (fun _ _ _ _ _ => pts_nil) (fun _ _ _ _ _ => (C8.pe_mt (c_Flash_read T) hr (by decide) (pv 1) (pa_cons (pv 2) (pa_cons (pv 3) pa_nil))))) pa_nil)))))
      (pss_cons (ps_setLc (i := 4) (own := [("block", 2)]) rfl nd rfl rfl (sw_true rfl rfl rfl (by decide +kernel)) (pi_range1 rfl (b_range T) (pa_cons (pe_fld (pv 1) rfl) pa_nil)) (blkOk_by (N := (["self", "flash", "block", "page", "begun"] : List Str)) (sc := (defScope s_Log_init)) (by decide +kernel)) (fun _ _ _ _ _ => (pg_name (i := 2) nd rfl (Or.inl rfl))) (fun _ _ _ _ _ => (pts_one (pt_chain op_lt op_lt pe_int (C8.pe_c (c_next_page T) hr (by decide) (by rfl) (pa_cons (pe_ix (ix_listK (K := K) rfl) (pe_fldK (K := K) rfl (pv 0) rfl) (pv 2) (fun _ _ => rfl)) pa_nil)) (C8.pe_gc (by rfl) (i_PAGES T))))) (fun _ _ _ _ _ => (pv 2)))
      (pss_cons (ps_if (pt_cmpR op_gt (pe_callB (call_len) (by rfl) (b_len T) PySem.boot_len (pa_cons (pv 4) pa_nil)) pe_int (nomark _)) (pss_one ps_never) pss_nil)
      (pss_cons (ps_fld (pv 0) pe_non rfl)
      (pss_one (ps_if (pt_truth (pv 4) (by intro _; rfl)) (pss_one (ps_fld (pv 0) (pe_ix ix_list (pv 4) pe_int (fun _ _ => rfl)) rfl)) pss_nil)))))))), ?_⟩
  obtain ⟨p, dx, fl, fh, fw, fb, as, rfl, hp, F, h64, k⟩ := h
  obtain ⟨dxF, hf⟩ := F.ins
  have sz0 : 0 ≤ sizeLine := by decide
  refine ⟨_, rfl, _, rfl, p, _, dx, [], rfl, hp, cls_Log T, at_Log_flash T, by decide, ?_⟩
  refine ⟨sz0, fun lh hlh => ⟨_, rfl, p, _, dx, _, rfl, upd_old upd_same hlh, cls_Log T, at_Log_held T, by show 1 < 1000; decide, ?_⟩⟩
  have lhp : lh ≠ p := (ne_of_none upd_same hlh).symm
  have hHl : H lh = none := by rw [upd_ne lhp] at hlh; exact hlh
  have fB : ∀ b o, H b = some o → b ≠ p → (upd (upd (upd H p (.ins (He.ga K "Log") dx (putF "flash" (.ref fl) []))) lh (.lst [])) p (.ins (He.ga K "Log") dx (putF "held" (.ref lh) (putF "flash" (.ref fl) [])))) b = some o := fun b o e z => by
    rw [upd_ne z]; exact upd_old (by rw [upd_ne z]; exact e) hlh
  have hpB : (upd (upd (upd H p (.ins (He.ga K "Log") dx (putF "flash" (.ref fl) []))) lh (.lst [])) p (.ins (He.ga K "Log") dx (putF "held" (.ref lh) (putF "flash" (.ref fl) [])))) p = some (.ins (He.ga K "Log") dx [("flash", .ref fl), ("held", .ref lh)]) := upd_same
  have hlB : (upd (upd (upd H p (.ins (He.ga K "Log") dx (putF "flash" (.ref fl) []))) lh (.lst [])) p (.ins (He.ga K "Log") dx (putF "held" (.ref lh) (putF "flash" (.ref fl) [])))) lh = some (.lst []) := by rw [upd_ne lhp]; exact upd_same
  revert fB hpB hlB
  generalize (upd (upd (upd H p (.ins (He.ga K "Log") dx (putF "flash" (.ref fl) []))) lh (.lst [])) p (.ins (He.ga K "Log") dx (putF "held" (.ref lh) (putF "flash" (.ref fl) [])))) = B
  intro fB hpB hlB
  have lp : ∀ {b xs}, H b = some (.lst xs) → b ≠ p := fun e => ne_of e hp fun z => nomatch z
  have flp : fl ≠ p := fun z => by
    rw [z, hp] at hf
    have := congrArg (fun o : Option HO => match o with | some (.ins _ _ fs) => fs.length | _ => 0) hf
    exact absurd this (by show ¬ 0 = 6; decide)
  have FK : ∀ H', (∀ b o, H b = some o → b ≠ p → H' b = some o) → FlA K H' fl fh fw fb as := fun H' k' =>
    ⟨⟨dxF, k' _ _ hf flp⟩, F.bk.keep (fun b o hb e => k' b o e (by
      rcases hb with rfl | hb
      · exact lp F.bk.held
      · obtain ⟨i, hi⟩ := List.mem_iff_getElem?.mp hb
        exact lp (F.bk.blks _ _ hi))), k' _ _ F.wr (lp F.wr), F.wo⟩
  refine ⟨_, rfl, fl, _, dxF, _, _, rfl, fB _ _ hf flp, cls_Flash T, at_Flash_blocks T, rfl, 8, rfl, by decide, by decide, ?_⟩
  refine for_range (lo := 0) (n := 8) (fun i σ H' => ∃ v2, σ = [some (.ref p), some (.ref fl), v2, none, none] ∧ (∀ b o, H b = some o → b ≠ p → H' b = some o) ∧ H' p = some (.ins (He.ga K "Log") dx [("flash", .ref fl), ("held", .ref lh)]) ∧
    ∃ lb : List Addr, H' lh = some (.lst (lb.map V.ref)) ∧ lb.length = i ∧ lb.Nodup ∧ lh ∉ lb ∧ ∀ k b, lb[k]? = some b → H' b = some (.lst (pgs (blk as k))) ∧ H b = none ∧ b ≠ p) ?_ ?_ ?_
  · exact ⟨none, rfl, fB, hpB, [], hlB, rfl, .nil, by simp, fun k b e => by simp at e⟩
  · rintro i σ H' hi ⟨v2, rfl, fr, hp', lb, hl, ll, nd, nl, hb⟩
    have ei : (0 : Int) + (i : Nat) = ((i : Nat) : Int) := Int.zero_add _
    have p8 := pgs_len (blk_le as i)
    refine ⟨_, rfl, p, _, dx, _, _, rfl, hp', cls_Log T, at_Log_held T, rfl, .inl ⟨rfl, _, SqL.of hl⟩, 8, rfl, by decide, by decide, fun D hD => ?_⟩
    have Dl : D ≠ lh := (ne_of_none hl hD).symm
    have HD : H D = none := by
      cases g : H D with
      | none => rfl
      | some o =>
        have : D ≠ p := (ne_of_none hp' hD).symm
        rw [fr _ _ g this] at hD
        cases hD
    refine lc_range (lo := 0) (n := 8) (fun j H2 => H2 = upd H' D (.lst ((pgs (blk as i)).take j))) rfl ?_ ?_
    · rintro j H2 hj rfl
      have ej : (0 : Int) + (j : Nat) = ((j : Nat) : Int) := Int.zero_add _
      have jl : j < (pgs (blk as i)).length := by omega
      have hv : (pgs (blk as i))[j]? = some (pgs (blk as i))[j] := List.getElem?_eq_getElem jl
      refine ⟨rfl, yesT ⟨_, rfl, fl, dxF, _, rfl, upd_old (fr _ _ hf flp) hD, rfl, _, rfl, _, rfl, fl, fh, fw, fb, as, i, j, (pgs (blk as i))[j], by rw [ei, ej] <;> rfl, (FK _ fr).keep (same_upd hD), hi, hv, _, upd_same, ?_, ?_⟩⟩
      · rw [List.length_take]; exact small1000 (by omega)
      · rw [upd_upd, List.take_add_one, hv] <;> rfl
    · rintro H2 rfl
      rw [List.take_of_length_le (by omega)]
      refine ⟨lh, _, .ref D, rfl, rfl, upd_old hl hD, small1000 (by rw [List.length_map]; omega), ?_⟩
      have k2 : ∀ b o, H' b = some o → b ≠ lh → (upd (upd H' D (.lst (pgs (blk as i)))) lh (.lst (lb.map V.ref ++ [.ref D]))) b = some o := fun b o e z => by rw [upd_ne z]; exact upd_old e hD
      refine ⟨_, rfl, fun b o e z => k2 _ _ (fr _ _ e z) (fun q => by rw [q, hHl] at e; cases e), k2 _ _ hp' lhp.symm, lb ++ [D], ?_, ?_, ?_, ?_, ?_⟩
      · rw [List.map_append]; exact upd_same
      · rw [List.length_append, ll] <;> rfl
      · rw [List.nodup_append]
        refine ⟨nd, by simp, fun a ha b hb' e => ?_⟩
        obtain rfl := List.mem_singleton.mp hb'
        subst e
        obtain ⟨q, hq⟩ := List.mem_iff_getElem?.mp ha
        rw [(hb q _ hq).1] at hD
        cases hD
      · intro z
        rcases List.mem_append.mp z with z | z
        · exact nl z
        · exact Dl (List.mem_singleton.mp z).symm
      · intro q b e
        by_cases c : q < lb.length
        · rw [List.getElem?_append_left c] at e
          obtain ⟨a1, a2⟩ := hb q b e
          have : b ≠ lh := fun z => by rw [z] at e; exact nl (List.mem_of_getElem? e)
          exact ⟨k2 _ _ a1 this, a2⟩
        · rw [List.getElem?_append_right (by omega)] at e
          have q0 : q - lb.length = 0 := by
            have := (List.getElem?_eq_some_iff.mp e).1
            simp at this
            omega
          rw [q0] at e
          obtain rfl := Option.some.inj e
          have qi : q = i := by omega
          subst qi
          exact ⟨by rw [upd_ne Dl]; exact upd_same, HD, (ne_of_none hp' hD).symm⟩
  rintro σ H2 ⟨v2, rfl, fr, hp', lb, hl, ll, nd, nl, hb⟩
  have BK : BlkAt H2 lh lb as := ⟨hl, fun i b e => (hb i b e).1, ll, nd, nl⟩
  have hf2 := fr _ _ hf flp
  refine ⟨_, rfl, fl, _, dxF, _, _, rfl, hf2, cls_Flash T, at_Flash_blocks T, rfl, 8, rfl, by decide, by decide, fun D hD => ?_⟩
  refine lc_range (lo := 0) (n := 8) (fun i H' => H' = upd H2 D (.lst (if as.length % 8 ≠ 0 ∧ as.length / 8 < i then [.int (as.length / 8 : Nat)] else []))) (by rw [if_neg (by omega)]) ?_ ?_
  · rintro i H' hi rfl
    have ei : (0 : Int) + (i : Nat) = ((i : Nat) : Int) := Int.zero_add _
    obtain ⟨c, hcb, hc, hcl⟩ := BK.get hi
    have bl := blk_len as i
    refine ⟨rfl, _, rfl, p, _, dx, _, _, rfl, upd_old hp' hD, cls_Log T, at_Log_held T, rfl, _, rfl, lh, _, _, _, rfl, rfl, SqL.of (upd_old hl hD), at_of (j := i) ei hc, c, _, rfl, SqL.of (upd_old hcl hD), blk_le _ _, _, _, rfl, rfl, _, rfl, ?_⟩
    by_cases c0 : as.length % 8 ≠ 0 ∧ i = as.length / 8
    · have n1 : 0 < ((blk as i).length : Int) := by omega
      have n2 : ((blk as i).length : Int) < 8 := by omega
      refine ite_of n1 ⟨_, _, rfl, rfl, _, rfl, ite_of n2 ⟨_, rfl, _, upd_same, ?_, ?_⟩⟩
      · rw [if_neg (by omega)]; exact small1000 (Nat.zero_le _)
      · rw [upd_upd, if_neg (by omega), if_pos (by omega), ei, c0.2] <;> rfl
    · have e0 : (as.length % 8 ≠ 0 ∧ as.length / 8 < i + 1) ↔ (as.length % 8 ≠ 0 ∧ as.length / 8 < i) := by omega
      by_cases n1 : 0 < ((blk as i).length : Int)
      · have n2 : ¬ ((blk as i).length : Int) < 8 := by omega
        refine ite_of n1 ⟨_, _, rfl, rfl, _, rfl, ite_no n2 ?_⟩
        by_cases q : as.length % 8 ≠ 0 ∧ as.length / 8 < i
        · rw [if_pos q, if_pos (e0.mpr q)]
        · rw [if_neg q, if_neg (fun z => q (e0.mp z))]
      · refine ite_no n1 ⟨_, rfl, iteF ?_⟩
        by_cases q : as.length % 8 ≠ 0 ∧ as.length / 8 < i
        · rw [if_pos q, if_pos (e0.mpr q)]
        · rw [if_neg q, if_neg (fun z => q (e0.mp z))]
  rintro H' rfl
  have b8 : as.length / 8 < 8 := by omega
  have fin : ∀ xs Z, (∀ b o, H2 b = some o → b ≠ p → Z b = some o) → Z p = some (.ins (He.ga K "Log") dx (lgF fl lh (curV as))) → xs = D → LgA K Z p lh fl fh fw fb lb as ∧ ∀ b o, H b = some o → b ≠ p → Z b = some o ∧ b ∉ lb := fun _ Z k1 k2 _ => by
    have lbp : ∀ b ∈ lb, H b = none ∧ b ≠ p := fun b hbm => by
      obtain ⟨q, hq⟩ := List.mem_iff_getElem?.mp hbm
      exact (hb q _ hq).2
    have nn : ∀ {b o}, H b = some o → b ∉ lb := fun e hbm => by rw [(lbp _ hbm).1] at e; cases e
    refine ⟨⟨⟨dx, k2⟩, BK.keep fun b o hbm e => k1 b o e ?_, FK _ fun b o e z => k1 _ _ (fr _ _ e z) z, fun b hbm => ⟨fun z => ?_, fun z => ?_, fun z => ?_⟩, fun z => ?_⟩, fun b o e z => ⟨k1 _ _ (fr _ _ e z) z, nn e⟩⟩
    · rcases hbm with rfl | hbm
      · exact lhp
      · exact (lbp b hbm).2
    · obtain ⟨q, hq⟩ := List.mem_iff_getElem?.mp z
      exact nn (F.bk.blks q b hq) hbm
    · exact nn F.bk.held (z ▸ hbm)
    · exact nn F.wr (z ▸ hbm)
    · obtain ⟨q, hq⟩ := List.mem_iff_getElem?.mp z
      have := F.bk.blks q lh hq
      rw [hHl] at this
      cases this
  by_cases z : as.length % 8 = 0
  · rw [if_neg (by omega)]
    refine ⟨_, rfl, _, _, rfl, .inl ⟨_, SqL.of upd_same, rfl⟩, _, _, rfl, rfl, _, rfl, iteF ?_⟩
    refine ⟨_, rfl, p, _, dx, _, rfl, upd_old hp' hD, cls_Log T, at_Log_current T, by show 2 < 1000; decide, ?_⟩
    have Dp' : D ≠ p := (ne_of_none hp' hD).symm
    refine ⟨_, rfl, false, .inl ⟨[], SqL.of (by rw [upd_ne Dp']; exact upd_same), rfl⟩, iteF ?_⟩
    obtain ⟨g1, g2⟩ := fin D (upd (upd H2 D (.lst [])) p (.ins (He.ga K "Log") dx (lgF fl lh .non))) (fun b o e q => by rw [upd_ne q]; exact upd_old e hD) (by rw [curN z]; exact upd_same) rfl
    exact k _ lh lb g1 g2
  · rw [if_pos ⟨z, b8⟩]
    refine ⟨_, rfl, _, _, rfl, .inl ⟨_, SqL.of upd_same, rfl⟩, _, _, rfl, rfl, _, rfl, iteF ?_⟩
    refine ⟨_, rfl, p, _, dx, _, rfl, upd_old hp' hD, cls_Log T, at_Log_current T, by show 2 < 1000; decide, ?_⟩
    have Dp' : D ≠ p := (ne_of_none hp' hD).symm
    refine ⟨_, rfl, true, .inl ⟨_, SqL.of (by rw [upd_ne Dp']; exact upd_same), rfl⟩, iteT ?_⟩
    refine ⟨_, rfl, D, _, 0, _, rfl, rfl, SqL.of (by rw [upd_ne Dp']; exact upd_same), at_of (j := 0) rfl rfl, _, rfl, p, _, dx, _, rfl, upd_same, cls_Log T, at_Log_current T, by show 3 < 1000; decide, ?_⟩
    obtain ⟨g1, g2⟩ := fin D (upd (upd (upd H2 D (.lst [.int (as.length / 8 : Nat)])) p (.ins (He.ga K "Log") dx (lgF fl lh .non))) p (.ins (He.ga K "Log") dx (lgF fl lh (.int (as.length / 8 : Nat))))) (fun b o e q => by rw [upd_ne q, upd_ne q]; exact upd_old e hD) (by rw [curI z]; exact upd_same) rfl
    exact k _ lh lb g1 g2
end
end L2.Sg
set_option Elab.async false
set_option linter.all false
set_option maxRecDepth 100000
set_option maxHeartbeats 4000000
namespace L2.Sg
open PySem PySem.Spec PyProof.Rows
open C8 (Cal Met Mak pe_c pe_mt pe_mt0 pe_mk tCut pss_cut)
local macro_rules | `(tactic| walk_at "len") => `(tactic| (intro vs H Q E h; first | (obtain ⟨e, _⟩ := h; subst e; rfl) | (obtain ⟨_, e, _⟩ := h; subst e; rfl) | (obtain ⟨_, _, e, _⟩ := h; subst e; rfl) | (obtain ⟨_, _, _, e, _⟩ := h; subst e; rfl) | (obtain ⟨_, _, _, _, e, _⟩ := h; subst e; rfl) | (obtain ⟨_, _, _, _, _, e, _⟩ := h; subst e; rfl) | (obtain ⟨_, _, _, _, _, _, e, _⟩ := h; subst e; rfl) | (obtain ⟨_, _, _, _, _, _, _, e, _⟩ := h; subst e; rfl) | (obtain ⟨_, _, _, _, _, _, _, _, e, _⟩ := h; subst e; rfl) | (obtain ⟨_, _, _, _, _, _, _, _, _, e, _⟩ := h; subst e; rfl) | (obtain ⟨_, _, _, _, _, _, _, _, _, _, e, _⟩ := h; subst e; rfl) | (obtain ⟨_, _, _, _, _, _, _, _, _, _, _, e, _⟩ := h; subst e; rfl) | (obtain ⟨_, _, _, _, _, _, _, _, _, _, _, _, e, _⟩ := h; subst e; rfl) | (obtain ⟨_, _, _, _, _, _, _, _, _, _, _, _, _, e, _⟩ := h; subst e; rfl) | (obtain ⟨_, _, _, _, _, _, _, _, _, _, _, _, _, _, e, _⟩ := h; subst e; rfl) | (obtain ⟨_, _, _, _, _, _, _, _, _, _, _, _, _, _, _, e, _⟩ := h; subst e; rfl)))
local macro_rules | `(tactic| walk_at "ns") => `(tactic| (try dsimp only [Op.kind, Tp.word, Rec.top]); decide +kernel)
theorem op_neDK {X : Cx} {K : PySem.W.Frag} (h : X.K = K) (hu : X.A.units + 64 < cLine) : OpR X (compareOp .NotEq) (rNeD K) := h ▸ op_neD hu
/-- a dict comprehension over a walk -/
theorem dc_it {J : It} {n : Nat} {G : Hp → Prop} {Y : Nat → Hp → V → Hp → Prop} (w : Walk J n G Y) {g : TG} {tt : TT} {tk tv : TE} {vs : List Nat} {σ : L2.St} {H1 : Hp} {D : Addr} {Qd : Hp → Prop} (Pv : Nat → Hp → Prop) (h0 : Pv 0 (upd H1 D (.dK []))) (hG : ∀ i H, i ≤ n → Pv i H → G H)
    (hs : ∀ i x H H', i < n → Pv i H → Y i H x H' → g x (wipe σ vs) H' fun σ2 H2 => wipe σ2 vs = wipe σ vs ∧ tt σ2 H2 fun b H3 => if b = true then tk σ2 H3 fun y H4 => tv σ2 H4 fun z H5 => ∃ kvs k, y = kV k ∧ H5 D = some (.dK kvs) ∧ kvs.length < sizeLine ∧ Pv (i + 1) (upd H5 D (.dK (putK kvs k z))) else Pv (i + 1) H3) (hd : ∀ H, Pv n H → Qd H) :
    ∃ W : Nat → Nat → Hp → Prop, (∃ m, W 0 m (upd H1 D (.dK []))) ∧ ∀ i m H, W i m H → (J.stop i H ∧ Qd H) ∨ (J.go i H ∧ ∃ Nx : Hp → Prop, (∀ H', Nx H' → ∃ m', m' < m ∧ W (i + 1) m' H') ∧ ∀ x H', J.yld i H x H' → g x (wipe σ vs) H' fun σ2 H2 => wipe σ2 vs = wipe σ vs ∧ tt σ2 H2 fun b H3 => if b = true then tk σ2 H3 fun y H4 => tv σ2 H4 fun z H5 => ∃ kvs k, y = kV k ∧ H5 D = some (.dK kvs) ∧ kvs.length < sizeLine ∧ Nx (upd H5 D (.dK (putK kvs k z))) else Nx H3) := by
  refine ⟨fun i m H => i ≤ n ∧ m = n - i ∧ Pv i H, ⟨n, Nat.zero_le _, rfl, h0⟩, ?_⟩
  rintro i m H ⟨hi, rfl, p⟩
  have q := hG i H hi p
  by_cases hlt : i < n
  · refine .inr ⟨w.goes i H hlt q, Pv (i + 1), fun H' p' => ⟨n - (i + 1), by omega, hlt, rfl, p'⟩, fun x H' y => hs i x H H' hlt p (w.yields i H x H' hlt q y)⟩
  · have e : i = n := by omega
    subst e
    exact Or.inl ⟨w.stops H q, hd H p⟩
/-! ### keys, compared -/
def kD : Key → PyData
  | .inl i => .int i
  | .inr x => .str x
theorem kD_dp {K : PySem.W.Frag} (H : Hp) (k : Key) : Dp K H (kV k) (kD k) := by cases k <;> constructor
theorem kD_eqv (a b : Key) : PyData.eqv (kD a) (kD b) = decide (a = b) := by
  cases a with
  | inl i => cases b with
    | inl j =>
      rw [key_ll]
      exact PyData.eqv.eq_5 i j
    | inr y => rw [key_lr]; rfl
  | inr x => cases b with
    | inl j => rw [key_rl]; rfl
    | inr y =>
      rw [key_rr]
      by_cases e : x = y
      · rw [decide_eq_true e, e]; exact beq_self_eq_true y
      · rw [decide_eq_false e]; exact beq_eq_false_iff_ne.mpr e
def outK {κ : Type} [DecidableEq κ] (kvs : List (κ × V)) (k : κ) : List (κ × V) := kvs.filter fun p => decide (p.1 ≠ k)
def newK {κ : Type} [DecidableEq κ] (kvs : List (κ × V)) (k : κ) (v : V) : List (κ × V) := if v = .non then outK kvs k else outK kvs k ++ [(k, v)]
theorem outK_none {κ : Type} [DecidableEq κ] (kvs : List (κ × V)) (k : κ) : valV (outK kvs k) k = none := val_none fun p hp => of_decide_eq_true (List.mem_filter.mp hp).2
theorem outK_nodup {κ : Type} [DecidableEq κ] {kvs : List (κ × V)} (nd : (kvs.map (·.1)).Nodup) (k : κ) : ((outK kvs k).map (·.1)).Nodup := nd.sublist (List.filter_sublist.map _)
theorem put_step {κ : Type} [DecidableEq κ] {kvs : List (κ × V)} (nd : (kvs.map (·.1)).Nodup) {i : Nat} {k k0 : κ} {v : V} (e : kvs[i]? = some (k, v)) : (if decide (k ≠ k0) = true then putK (outK (kvs.take i) k0) k v else outK (kvs.take i) k0) = outK (kvs.take (i + 1)) k0 := by
  unfold outK
  rw [List.take_add_one, e, List.filter_append]
  by_cases c : k = k0
  · rw [if_neg (by simp [c]), Option.toList_some, List.filter_cons_of_neg (by simp [c]), List.filter_nil, List.append_nil]
  · rw [if_pos (by simp [c]), Option.toList_some, List.filter_cons_of_pos (by simp [c]), List.filter_nil]
    refine putK_new _ (val_none fun p hp z => ?_)
    have hp := (List.mem_filter.mp hp).1
    obtain ⟨j, hj⟩ := List.mem_iff_getElem?.mp hp
    have jl : j < i := by
      have := (List.getElem?_eq_some_iff.mp hj).1
      rw [List.length_take] at this
      omega
    rw [List.getElem?_take, if_pos jl] at hj
    have e1 : (kvs.map (·.1))[j]? = some p.1 := by rw [List.getElem?_map, hj] <;> rfl
    have e2 : (kvs.map (·.1))[i]? = some k := by rw [List.getElem?_map, e] <;> rfl
    have := (List.getElem?_inj (List.getElem?_eq_some_iff.mp e1).1 nd).mp (e1.trans ((congrArg some z).trans e2.symm))
    omega
section
variable {P : Program} {w : World} {K : PySem.W.Frag} {base : Heap} {mg : Str → Option Value}
def sp_collect (K : PySem.W.Frag) : Sp := fun vs H Q _ => ∃ (lg lh fl fh fw : Addr) (fb lb as : List Addr) (n : Nat), vs = [.ref lg, .int n] ∧ LgA K H lg lh fl fh fw fb lb as ∧ as.length + n ≤ 56 ∧ ∀ v H', Same H H' → Q v H'
theorem sc_collect : FnScope ["log", "many", "erased", "block", "records"] ["log", "many"] (defScope s_collect) := C8.fnScope_by (by decide +kernel)
theorem c_collect (T : Tx w K mg) : Cal P w K mg base 7 "collect" (sp_collect K) [] := by
  refine K_collect T sc_collect (fun _ _ _ _ _ _ us hl => match us, hl with | [_, _], _ => rfl) (by walk_at "len") (fun cdv A outer s H vs Q E hr h => ?_)
  have nd := sc_collect.nd
  have hu := hu_of hr
  refine ⟨_, (pss_cons (ps_set (i := 2) nd rfl (Or.inl rfl) (pe_lst pa_nil))
      (pss_cons (ps_while PassesOwn.never (pt_cmpR op_lt (C8.pe_mt (c_Log_room T) hr (by decide) (pv 0) (pa_cons pe_bl pa_nil)) (pv 1) (nomark _)) pss_never)
      (pss_one (ps_ret (pv 2))))), ?_⟩
  obtain ⟨lg, lh, fl, fh, fw, fb, lb, as, n, rfl, G, h56, k⟩ := h
  obtain ⟨dx, hp⟩ := G.ins
  refine ⟨by decide, fun l hl => ?_⟩
  have s1 := same_upd hl (o := .lst [])
  refine ⟨fun m σ H' => H' = upd H l (.lst []) ∧ ∃ v3, σ = [some (.ref lg), some (.int n), some (.ref l), v3, none], ⟨0, rfl, _, rfl⟩, ?_⟩
  rintro m σ H' ⟨rfl, v3, rfl⟩
  refine ⟨_, rfl, lg, dx, _, rfl, s1 _ _ hp, rfl, lg, lh, fl, fh, fw, fb, lb, as, rfl, G.keep s1, by omega, fun H2 s2 => ?_⟩
  refine ⟨_, rfl, _, _, rfl, rfl, _, rfl, ite_no (by omega) ⟨_, rfl, k _ _ (s1.trans s2)⟩⟩
def sp_withK : Sp := fun vs H Q _ => ∃ (t : Addr) (kvs : List (Key × V)) (k : Key) (v : V), vs = [.ref t, kV k, v] ∧ H t = some (.dK kvs) ∧ (kvs.map (·.1)).Nodup ∧ kvs.length ≤ 1000 ∧ (∀ p ∈ kvs, SeqAt.shaped (kD p.1) = true) ∧ SeqAt.shaped (kD k) = true ∧
  Mk1 H Q fun p H' => H' p = some (.dK (newK kvs k v))
theorem sc_with_entry : FnScope ["table", "key", "value", "changed", "other"] ["table", "key", "value"] (defScope s_with_entry) := C8.fnScope_by (by decide +kernel)
theorem c_with_entry (T : Tx w K mg) : Cal P w K mg base 1 "with_entry" sp_withK [] := by
  refine K_with_entry T sc_with_entry (fun _ _ _ _ _ _ us hl => match us, hl with | [_, _, _], _ => rfl) (by walk_at "len") (fun cdv A outer s H vs Q E hr h => ?_)
  have nd := sc_with_entry.nd
  have hu := hu_of hr
  refine ⟨_, (pss_cons (ps_lock (ps_setDc (i := 3) (own := [("other", 4)]) rfl nd rfl rfl (sw_trueD rfl rfl rfl (by decide +kernel)) (pi_keys (pv 0)) (blkOk_by (N := (["table", "key", "value", "changed", "other"] : List Str)) (sc := (defScope s_with_entry)) (by decide +kernel)) (fun _ _ _ _ _ => (pg_name (i := 4) nd rfl (Or.inl rfl))) (fun _ _ _ _ _ => (pts_one (pt_cmpR (op_neDK (K := K) rfl hr.units) (pv 4) (pv 1) (nomark _)))) (fun _ _ _ _ _ => (pv 4)) (fun _ _ _ _ _ => (pe_dget hu (pv 0) (pv 4) (fun _ _ => rfl)))))
      (pss_cons (ps_if (pt_cmp (pc_notN (pv 2))) (pss_one (ps_dput hu (pv 3) (pv 1) (pv 2) rfl)) pss_nil)
      (pss_one (ps_ret (pv 3))))), ?_⟩
  obtain ⟨t, kvs, k0, v, rfl, ht, nd0, hl, hs, hk, k⟩ := h
  refine ⟨t, .dK kvs, ht, trivial, fun od => ?_⟩
  have hGt : (upd H t (.frz od (.dK kvs))) t = some (.frz od (.dK kvs)) := upd_same
  refine ⟨_, rfl, t, od, rfl, .inl ⟨kvs, hGt, fun D hD => ?_⟩⟩
  have Dt : D ≠ t := (ne_of_none hGt hD).symm
  have hHD : H D = none := by rw [upd_ne Dt] at hD; exact hD
  refine dc_it walk_keys (fun i H' => H' = upd (upd H t (.frz od (.dK kvs))) D (.dK (outK (kvs.take i) k0))) rfl ?_ ?_ ?_
  · rintro i H' _ rfl
    exact upd_old hGt hD
  · rintro i x H' H2 hi rfl ⟨rfl, k1, v1, hkv, rfl⟩
    have st := put_step nd0 (k0 := k0) hkv
    refine ⟨rfl, _, rfl, _, rfl, kD k1, kD k0, kD_dp _ _, kD_dp _ _, hs _ (List.mem_of_getElem? hkv), hk, _, rfl, ?_⟩
    rw [kD_eqv]
    by_cases c : k1 = k0
    · rw [if_neg (by simp [c])] at st
      rw [decide_eq_true c]
      refine iteF ?_
      rw [st]
    · rw [if_pos (by simp [c])] at st
      rw [decide_eq_false c]
      refine iteT ⟨_, rfl, _, rfl, _, rfl, t, v1, rfl, .inl ⟨kvs, k1, .inr ⟨od, upd_old hGt hD⟩, rfl, (val_mem nd0 (List.mem_of_getElem? hkv)).symm⟩, _, k1, rfl, upd_same, ?_, ?_⟩
      · have h1 : (outK (kvs.take i) k0).length ≤ (kvs.take i).length := List.length_filter_le _ _
        rw [List.length_take] at h1
        exact small1000 (by omega)
      · rw [upd_upd, st]
  rintro H' rfl
  rw [List.take_length]
  refine ⟨upd_old hGt hD, ?_⟩
  have sF : Same H (upd (upd (upd H t (.frz od (.dK kvs))) D (.dK (outK kvs k0))) t (.dK kvs)) := fun b o e => by
    by_cases z : b = t
    · subst z; rw [ht] at e; rw [upd_same]; exact e
    · rw [upd_ne z, upd_ne (ne_of_none e hHD), upd_ne z]; exact e
  have fD : (upd (upd (upd H t (.frz od (.dK kvs))) D (.dK (outK kvs k0))) t (.dK kvs)) D = some (.dK (outK kvs k0)) := by rw [upd_ne Dt]; exact upd_same
  revert sF fD
  generalize (upd (upd (upd H t (.frz od (.dK kvs))) D (.dK (outK kvs k0))) t (.dK kvs)) = F
  intro sF fD
  refine ⟨_, rfl, _, rfl, ?_⟩
  by_cases c : v = .non
  · rw [decide_eq_true c]
    refine iteF ⟨_, rfl, k D F sF hHD ?_⟩
    unfold newK
    rw [if_pos c]
    exact fD
  · rw [decide_eq_false c]
    refine iteT ⟨_, rfl, _, rfl, _, rfl, D, _, rfl, DPut.k fD ?_, _, rfl, k D _ (fun b o e => by rw [upd_ne (ne_of_none e hHD)]; exact sF _ _ e) hHD ?_⟩
    · have h1 : (outK kvs k0).length ≤ kvs.length := List.length_filter_le _ _
      exact small1000 (by omega)
    · unfold newK
      rw [if_neg c, ← putK_new _ (outK_none kvs k0)]
      exact upd_same
def kDs (ks : List Key) : PyData := .tuple (ks.map kD)
theorem kDs_all {K : PySem.W.Frag} (H : Hp) : ∀ ks : List Key, DpAll K H (ks.map kV) (ks.map kD)
  | [] => .nil
  | k :: ks => .cons (kD_dp H k) (kDs_all H ks)
theorem kDs_dp {K : PySem.W.Frag} {H : Hp} {q : Addr} {ks : List Key} (h : H q = some (.tup (ks.map kV))) : Dp K H (.ref q) (kDs ks) := .tup (SqT.of h) (kDs_all H ks)
theorem two_eqv (a b c d : Int) : PyData.eqv (kDs [.inl a, .inl b]) (kDs [.inl c, .inl d]) = decide (([.inl a, .inl b] : List Key) = [.inl c, .inl d]) := by
  have e : PyData.eqv (kDs [.inl a, .inl b]) (kDs [.inl c, .inl d]) = (PyData.eqv (kD (.inl a)) (kD (.inl c)) && (PyData.eqv (kD (.inl b)) (kD (.inl d)) && true)) := by kernel_rfl
  rw [e, kD_eqv, kD_eqv, Bool.and_true]
  by_cases h1 : (Sum.inl a : Key) = .inl c
  · by_cases h2 : (Sum.inl b : Key) = .inl d
    · rw [decide_eq_true h1, decide_eq_true h2, h1, h2]; simp
    · rw [decide_eq_false h2, Bool.and_false]
      exact (decide_eq_false fun z => h2 (by injection z with _ z; injection z)).symm
  · rw [decide_eq_false h1, Bool.false_and]
    exact (decide_eq_false fun z => h1 (by injection z)).symm
theorem two_shaped (a b : Int) : SeqAt.shaped (kDs [.inl a, .inl b]) = true := by kernel_rfl
def sp_withT : Sp := fun vs H Q _ => ∃ (t q : Addr) (kvs : List (List Key × V)) (a0 b0 : Int) (v : V), vs = [.ref t, .ref q, v] ∧ H t = some (.dT kvs) ∧ H q = some (.tup (([.inl a0, .inl b0] : List Key).map kV)) ∧ (kvs.map (·.1)).Nodup ∧ kvs.length ≤ 1000 ∧ (∀ p ∈ kvs, ∃ a b, p.1 = [.inl a, .inl b]) ∧
  Mk1 H Q fun p H' => H' p = some (.dT (newK kvs [.inl a0, .inl b0] v))
theorem c_with_entryT (T : Tx w K mg) : Cal P w K mg base 1 "with_entry" sp_withT [] := by
  refine K_with_entry T sc_with_entry (fun _ _ _ _ _ _ us hl => match us, hl with | [_, _, _], _ => rfl) (by walk_at "len") (fun cdv A outer s H vs Q E hr h => ?_)
  have nd := sc_with_entry.nd
  have hu := hu_of hr
  refine ⟨_, (pss_cons (ps_lock (ps_setDcT (i := 3) (own := [("other", 4)]) rfl hu nd rfl rfl (sw_trueD rfl rfl rfl (by decide +kernel)) (pi_keys (pv 0)) (blkOk_by (N := (["table", "key", "value", "changed", "other"] : List Str)) (sc := (defScope s_with_entry)) (by decide +kernel)) (fun _ _ _ _ _ => (pg_name (i := 4) nd rfl (Or.inl rfl))) (fun _ _ _ _ _ => (pts_one (pt_cmpR (op_neDK (K := K) rfl hr.units) (pv 4) (pv 1) (nomark _)))) (fun _ _ _ _ _ => (pv 4)) (fun _ _ _ _ _ => (pe_dget hu (pv 0) (pv 4) (fun _ _ => rfl)))))
      (pss_cons (ps_if (pt_cmp (pc_notN (pv 2))) (pss_one (ps_dput hu (pv 3) (pv 1) (pv 2) rfl)) pss_nil)
      (pss_one (ps_ret (pv 3))))), ?_⟩
  obtain ⟨t, q, kvs, a0, b0, v, rfl, ht, hq, nd0, hl, hs, k⟩ := h
  refine ⟨t, .dT kvs, ht, trivial, fun od => ?_⟩
  have hGt : (upd H t (.frz od (.dT kvs))) t = some (.frz od (.dT kvs)) := upd_same
  have hGq : (upd H t (.frz od (.dT kvs))) q = some (.tup (([.inl a0, .inl b0] : List Key).map kV)) := by rw [upd_ne (ne_of hq ht fun z => nomatch z)]; exact hq
  refine ⟨_, rfl, t, od, rfl, .inr ⟨kvs, hGt, fun D hD => ?_⟩⟩
  have Dt : D ≠ t := (ne_of_none hGt hD).symm
  have hHD : H D = none := by rw [upd_ne Dt] at hD; exact hD
  refine dc_keysT (fun i H' => H' = upd (upd H t (.frz od (.dT kvs))) D (.dT (outK (kvs.take i) [.inl a0, .inl b0]))) rfl ?_ ?_ ?_
  · rintro i H' _ rfl
    exact upd_old hGt hD
  · rintro i k1 v1 q1 H2 hkv hq1 rfl
    have st := put_step nd0 (k0 := [.inl a0, .inl b0]) hkv
    obtain ⟨a1, b1, ek⟩ := hs _ (List.mem_of_getElem? hkv)
    obtain rfl : k1 = [.inl a1, .inl b1] := ek
    refine ⟨rfl, _, rfl, _, rfl, kDs [.inl a1, .inl b1], kDs [.inl a0, .inl b0], kDs_dp hq1, kDs_dp (upd_old hGq hD), two_shaped _ _, two_shaped _ _, _, rfl, ?_⟩
    rw [two_eqv]
    by_cases c : ([.inl a1, .inl b1] : List Key) = [.inl a0, .inl b0]
    · rw [if_neg (by rw [decide_eq_true_eq]; exact fun z => z c)] at st
      rw [decide_eq_true c]
      refine iteF ?_
      rw [st]
    · rw [if_pos (decide_eq_true c)] at st
      rw [decide_eq_false c]
      refine iteT ⟨_, rfl, _, rfl, _, rfl, t, v1, rfl, .inr ⟨kvs, _, q1, .inr ⟨od, upd_old hGt hD⟩, rfl, hq1, (val_mem nd0 (List.mem_of_getElem? hkv)).symm⟩, _, _, q1, rfl, hq1, upd_same, ?_, ?_⟩
      · have h1 : (outK (kvs.take i) [.inl a0, .inl b0]).length ≤ (kvs.take i).length := List.length_filter_le _ _
        rw [List.length_take] at h1
        exact small1000 (by omega)
      · rw [upd_upd, st]
  rintro H' rfl
  rw [List.take_length]
  refine ⟨upd_old hGt hD, ?_⟩
  have sF : Same H (upd (upd (upd H t (.frz od (.dT kvs))) D (.dT (outK kvs [.inl a0, .inl b0]))) t (.dT kvs)) := fun b o e => by
    by_cases z : b = t
    · subst z; rw [ht] at e; rw [upd_same]; exact e
    · rw [upd_ne z, upd_ne (ne_of_none e hHD), upd_ne z]; exact e
  have fD : (upd (upd (upd H t (.frz od (.dT kvs))) D (.dT (outK kvs [.inl a0, .inl b0]))) t (.dT kvs)) D = some (.dT (outK kvs [.inl a0, .inl b0])) := by rw [upd_ne Dt]; exact upd_same
  revert sF fD
  generalize (upd (upd (upd H t (.frz od (.dT kvs))) D (.dT (outK kvs [.inl a0, .inl b0]))) t (.dT kvs)) = F
  intro sF fD
  refine ⟨_, rfl, _, rfl, ?_⟩
  by_cases c : v = .non
  · rw [decide_eq_true c]
    refine iteF ⟨_, rfl, k D F sF hHD ?_⟩
    unfold newK
    rw [if_pos c]
    exact fD
  · rw [decide_eq_false c]
    refine iteT ⟨_, rfl, _, rfl, _, rfl, D, _, rfl, .inr ⟨_, _, q, fD, rfl, sF _ _ hq, ?_, rfl⟩, _, rfl, k D _ (fun b o e => by rw [upd_ne (ne_of_none e hHD)]; exact sF _ _ e) hHD ?_⟩
    · have h1 : (outK kvs [.inl a0, .inl b0]).length ≤ kvs.length := List.length_filter_le _ _
      exact small1000 (by omega)
    · unfold newK
      rw [if_neg c, ← putK_new _ (outK_none kvs _)]
      exact upd_same
end
end L2.Sg
set_option Elab.async false
set_option linter.all false
set_option maxRecDepth 100000
set_option maxHeartbeats 4000000
namespace L2.Sg
open PySem PySem.Spec PyProof.Rows
open C8 (Cal Met Mak pe_c pe_mt pe_mt0 pe_mk tCut pss_cut)
local macro_rules | `(tactic| walk_at "len") => `(tactic| (intro vs H Q E h; first | (obtain ⟨e, _⟩ := h; subst e; rfl) | (obtain ⟨_, e, _⟩ := h; subst e; rfl) | (obtain ⟨_, _, e, _⟩ := h; subst e; rfl) | (obtain ⟨_, _, _, e, _⟩ := h; subst e; rfl) | (obtain ⟨_, _, _, _, e, _⟩ := h; subst e; rfl) | (obtain ⟨_, _, _, _, _, e, _⟩ := h; subst e; rfl) | (obtain ⟨_, _, _, _, _, _, e, _⟩ := h; subst e; rfl) | (obtain ⟨_, _, _, _, _, _, _, e, _⟩ := h; subst e; rfl) | (obtain ⟨_, _, _, _, _, _, _, _, e, _⟩ := h; subst e; rfl) | (obtain ⟨_, _, _, _, _, _, _, _, _, e, _⟩ := h; subst e; rfl) | (obtain ⟨_, _, _, _, _, _, _, _, _, _, e, _⟩ := h; subst e; rfl) | (obtain ⟨_, _, _, _, _, _, _, _, _, _, _, e, _⟩ := h; subst e; rfl) | (obtain ⟨_, _, _, _, _, _, _, _, _, _, _, _, e, _⟩ := h; subst e; rfl) | (obtain ⟨_, _, _, _, _, _, _, _, _, _, _, _, _, e, _⟩ := h; subst e; rfl) | (obtain ⟨_, _, _, _, _, _, _, _, _, _, _, _, _, _, e, _⟩ := h; subst e; rfl) | (obtain ⟨_, _, _, _, _, _, _, _, _, _, _, _, _, _, _, e, _⟩ := h; subst e; rfl)))
local macro_rules | `(tactic| walk_at "ns") => `(tactic| (try dsimp only [Op.kind, Tp.word, Rec.top]); decide +kernel)
section
variable {X : Cx} {k j : Nat} {x : Str} {sp : Sp} {dvs : List V} {p pos : Pos}
theorem pe_c0 (c : Cal X.prog X.w X.K X.mg X.base k x sp dvs) (hr : Room j X.A) (hk : k ≤ j) (hg : Gl X x) (hdb : (x == ("__debug__" : Str)) = false := by decide) : PE X (.Call (.Name x p) [] [] pos) (tCall sp dvs C8.E0 tNil) := by
  rcases c.ex with ⟨f, fd, ps, ds, F, hm, kp, b, d⟩
  exact pe_call0 F (hr.mono hk) hg hm kp b d C8.pass0 hdb
end
def stK : List Key := [.inr "order", .inr "spaces", .inr "snaps", .inr "marks"]
/-- a state's dict -/
structure StaA (K : PySem.W.Frag) (H : Hp) (a : Addr) (S : Sta) : Prop where
  ex : ∃ (kvs : List (Key × V)) (ds dn dm : Addr), H a = some (.dK kvs) ∧ (kvs.map (·.1)).Perm stK ∧ valV kvs (.inr "order") = some (.int S.order) ∧ valV kvs (.inr "spaces") = some (.ref ds) ∧ valV kvs (.inr "snaps") = some (.ref dn) ∧ valV kvs (.inr "marks") = some (.ref dm) ∧
    SpacesAt K H ds S.cells ∧ SnapsAt H dn S.snaps ∧ MarksAt H dm S.marks
theorem StaA.keep {K : PySem.W.Frag} {H H' : Hp} {a : Addr} {S : Sta} (k : Imm H H') (h : StaA K H a S) : StaA K H' a S := by
  obtain ⟨kvs, ds, dn, dm, e1, e2, e3, e4, e5, e6, e7, e8, e9⟩ := h
  exact ⟨kvs, ds, dn, dm, k.dK e1, e2, e3, e4, e5, e6, SpacesAt.keep k e7, SnapsAt.keep k e8, MarksAt.keep k e9⟩
theorem newK_val {κ : Type} [DecidableEq κ] {kvs : List (κ × V)} {k k' : κ} {v : V} (hv : v ≠ .non) : valV (newK kvs k v) k' = if k' = k then some v else valV kvs k' := by
  unfold newK
  rw [if_neg hv, ← putK_new _ (outK_none kvs k), valV_put]
  by_cases e : k' = k
  · rw [if_pos e, if_pos e]
  · rw [if_neg e, if_neg e]
    unfold valV outK
    rw [List.find?_filter]
    congr 1
    refine congrArg (fun f => List.find? f kvs) (funext fun p => ?_)
    by_cases z : p.1 = k'
    · rw [decide_eq_true z]; simp [z, e]
    · rw [decide_eq_false z]; simp
theorem newK_perm {kvs : List (Key × V)} {k : Key} {v : V} (hv : v ≠ .non) (h : (kvs.map (·.1)).Perm stK) (hk : k ∈ stK) : ((newK kvs k v).map (·.1)).Perm stK := by
  unfold newK outK
  rw [if_neg hv, List.map_append]
  have e : (kvs.filter fun p => decide (p.1 ≠ k)).map (·.1) = (kvs.map (·.1)).filter fun q => decide (q ≠ k) := by rw [List.filter_map] <;> rfl
  rw [e]
  refine ((h.filter _).append_right _).trans ?_
  have all : ∀ q ∈ stK, (stK.filter (fun x => decide (x ≠ q)) ++ [q]).Perm stK := by
    intro q hq
    unfold stK at hq
    rcases List.mem_cons.mp hq with rfl | hq
    · decide +kernel
    · rcases List.mem_cons.mp hq with rfl | hq
      · decide +kernel
      · rcases List.mem_cons.mp hq with rfl | hq
        · decide +kernel
        · obtain rfl := List.mem_singleton.mp hq
          decide +kernel
  exact all k hk
theorem stK_shaped : ∀ q ∈ stK, SeqAt.shaped (kD q) = true := by
  intro q hq
  unfold stK at hq
  rcases List.mem_cons.mp hq with rfl | hq
  · kernel_rfl
  · rcases List.mem_cons.mp hq with rfl | hq
    · kernel_rfl
    · rcases List.mem_cons.mp hq with rfl | hq
      · kernel_rfl
      · obtain rfl := List.mem_singleton.mp hq
        kernel_rfl
theorem stK_nodup : stK.Nodup := by decide +kernel
/-- what with_entry asks of a state's dict -/
theorem st_with {kvs : List (Key × V)} (h : (kvs.map (·.1)).Perm stK) : (kvs.map (·.1)).Nodup ∧ kvs.length ≤ 1000 ∧ ∀ p ∈ kvs, SeqAt.shaped (kD p.1) = true :=
  ⟨h.nodup_iff.mpr stK_nodup, by have := h.length_eq; rw [List.length_map] at this; have : kvs.length = 4 := this; omega, fun p hp => stK_shaped _ (h.mem_iff.mp (List.mem_map_of_mem hp))⟩
theorem so_sp : ((.inr "order" : Key) = .inr "spaces") = False := eq_false (by decide +kernel)
theorem so_sn : ((.inr "order" : Key) = .inr "snaps") = False := eq_false (by decide +kernel)
theorem so_sm : ((.inr "order" : Key) = .inr "marks") = False := eq_false (by decide +kernel)
theorem sp_so : ((.inr "spaces" : Key) = .inr "order") = False := eq_false (by decide +kernel)
theorem sp_sn : ((.inr "spaces" : Key) = .inr "snaps") = False := eq_false (by decide +kernel)
theorem sp_sm : ((.inr "spaces" : Key) = .inr "marks") = False := eq_false (by decide +kernel)
theorem sn_so : ((.inr "snaps" : Key) = .inr "order") = False := eq_false (by decide +kernel)
theorem sn_sp : ((.inr "snaps" : Key) = .inr "spaces") = False := eq_false (by decide +kernel)
theorem sn_sm : ((.inr "snaps" : Key) = .inr "marks") = False := eq_false (by decide +kernel)
theorem sm_so : ((.inr "marks" : Key) = .inr "order") = False := eq_false (by decide +kernel)
theorem sm_sp : ((.inr "marks" : Key) = .inr "spaces") = False := eq_false (by decide +kernel)
theorem sm_sn : ((.inr "marks" : Key) = .inr "snaps") = False := eq_false (by decide +kernel)
/-- keys of a list of pairs -/
abbrev ndK {α : Type} (l : List (Int × α)) : Prop := (l.map (·.1)).Nodup
structure Sta.Ok (n : Nat) (S : Sta) : Prop where
  cl : ∀ cs, S.cells = some cs → ndK cs ∧ cs.length ≤ n
  sn : ndK S.snaps ∧ S.snaps.length ≤ n ∧ ∀ s ∈ S.snaps, ndK s.2 ∧ s.2.length ≤ n
  mr : ndK S.marks ∧ S.marks.length ≤ n
theorem outE_nd {α : Type} {l : List (Int × α)} (h : ndK l) (k : Int) : ndK (outE l k) := h.sublist (List.filter_sublist.map _)
theorem outE_len {α : Type} (l : List (Int × α)) (k : Int) : (outE l k).length ≤ l.length := List.length_filter_le _ _
theorem withE_nd {α : Type} {l : List (Int × α)} (h : ndK l) (k : Int) (v : α) : ndK (withE l k v) := by
  unfold withE ndK
  rw [List.map_append, List.nodup_append]
  refine ⟨outE_nd h k, by simp, fun a ha b hb e => ?_⟩
  obtain ⟨p, hp, rfl⟩ := List.mem_map.mp ha
  have := of_decide_eq_true (List.mem_filter.mp hp).2
  simp at hb
  exact this (e.trans hb)
theorem withE_len {α : Type} (l : List (Int × α)) (k : Int) (v : α) : (withE l k v).length ≤ l.length + 1 := by
  unfold withE
  rw [List.length_append]
  have := outE_len l k
  show _ + 1 ≤ _
  omega
theorem Sta.Ok.mono {n m : Nat} {S : Sta} (h : S.Ok n) (l : n ≤ m) : S.Ok m := ⟨fun cs e => ⟨(h.cl cs e).1, Nat.le_trans (h.cl cs e).2 l⟩, ⟨h.sn.1, Nat.le_trans h.sn.2.1 l, fun s hs => ⟨(h.sn.2.2 s hs).1, Nat.le_trans (h.sn.2.2 s hs).2 l⟩⟩, ⟨h.mr.1, Nat.le_trans h.mr.2 l⟩⟩
theorem Sta.Ok.op {n : Nat} {S : Sta} (h : S.Ok n) (ord : Int) (o : Op) : (S.op ord o).Ok (n + 1) := by
  have h1 := h.mono (Nat.le_succ n)
  cases o with
  | make => exact ⟨fun cs e => by cases e; exact ⟨.nil, Nat.zero_le _⟩, h1.sn, h1.mr⟩
  | write p v =>
    refine ⟨fun cs e => ?_, h1.sn, h1.mr⟩
    obtain ⟨c0, e0, rfl⟩ := Option.map_eq_some_iff.mp (show S.cells.map (fun cs => withE cs p v) = some cs from e)
    exact ⟨withE_nd (h.cl c0 e0).1 _ _, Nat.le_trans (withE_len _ _ _) (Nat.succ_le_succ (h.cl c0 e0).2)⟩
  | trim p =>
    refine ⟨fun cs e => ?_, h1.sn, h1.mr⟩
    obtain ⟨c0, e0, rfl⟩ := Option.map_eq_some_iff.mp (show S.cells.map (fun cs => outE cs p) = some cs from e)
    exact ⟨outE_nd (h.cl c0 e0).1 _, Nat.le_trans (outE_len _ _) (h1.cl c0 e0).2⟩
  | snap =>
    refine ⟨h1.cl, ⟨withE_nd h.sn.1 _ _, Nat.le_trans (withE_len _ _ _) (Nat.succ_le_succ h.sn.2.1), fun s hs => ?_⟩, h1.mr⟩
    rcases List.mem_append.mp (show s ∈ outE S.snaps ord ++ [(ord, S.cells.getD [])] from hs) with hs | hs
    · exact h1.sn.2.2 s (List.mem_filter.mp hs).1
    · obtain rfl := List.mem_singleton.mp hs
      cases e : S.cells with
      | none => exact ⟨.nil, Nat.zero_le _⟩
      | some cs => exact h1.cl cs e
  | drop m =>
    exact ⟨h1.cl, ⟨outE_nd h.sn.1 _, Nat.le_trans (outE_len _ _) h1.sn.2.1, fun s hs => h1.sn.2.2 s (List.mem_filter.mp hs).1⟩, h1.mr⟩
theorem Sta.Ok.app {n : Nat} {S : Sta} (h : S.Ok n) (r : Rec) : (S.app r).Ok (n + 1) := by
  have a := h.op r.ord r.op
  exact ⟨a.cl, a.sn, withE_nd h.mr.1 _ _, Nat.le_trans (withE_len _ _ _) (Nat.succ_le_succ h.mr.2)⟩
theorem foldS_ok (rs : List Rec) : (foldS rs).Ok rs.length := by
  have go : ∀ (rs : List Rec) (S : Sta) (n : Nat), S.Ok n → (rs.foldl Sta.app S).Ok (n + rs.length) := by
    intro rs
    induction rs with
    | nil => intro S n h; exact h
    | cons r rs ih =>
      intro S n h
      have := ih _ _ (h.app r)
      rw [List.length_cons, show n + (rs.length + 1) = n + 1 + rs.length by omega]
      exact this
  have := go rs sta0 0 ⟨fun cs e => (by cases e), ⟨.nil, Nat.le_refl _, fun s hs => (List.not_mem_nil hs).elim⟩, ⟨.nil, Nat.le_refl _⟩⟩
  rw [Nat.zero_add] at this
  exact this
theorem paired_out {α κ : Type} [DecidableEq κ] {F : (κ × V) → (Int × α) → Prop} {f : Int → κ} (fi : ∀ a b, f a = f b → a = b) (hF : ∀ kv m, F kv m → kv.1 = f m.1) {kvs : List (κ × V)} {ms : List (Int × α)} (h : Paired F kvs ms) (k : Int) : Paired F (outK kvs (f k)) (outE ms k) :=
  paired_filter (fun a b e => by
    rw [hF a b e]
    by_cases c : b.1 = k
    · rw [decide_eq_false (p := f b.1 ≠ f k) (by rw [c]; exact fun z => z rfl), decide_eq_false (p := b.1 ≠ k) (fun z => z c)]
    · rw [decide_eq_true (p := f b.1 ≠ f k) (fun z => c (fi _ _ z)), decide_eq_true (p := b.1 ≠ k) c]) h
theorem paired_keys {α κ : Type} {F : (κ × V) → (Int × α) → Prop} {f : Int → κ} (hF : ∀ kv m, F kv m → kv.1 = f m.1) : ∀ {kvs : List (κ × V)} {ms : List (Int × α)}, Paired F kvs ms → kvs.map (·.1) = (ms.map (·.1)).map f
  | _, _, .nil => rfl
  | _, _, .cons h t => by rw [List.map_cons, List.map_cons, List.map_cons, paired_keys hF t, hF _ _ h]
theorem keys_nd {α κ : Type} {f : Int → κ} (fi : ∀ a b, f a = f b → a = b) {ms : List (Int × α)} (h : ndK ms) : ((ms.map (·.1)).map f).Nodup := List.Pairwise.map _ (fun a b e z => e (fi a b z)) h
theorem paired_new {α κ : Type} [DecidableEq κ] {F : (κ × V) → (Int × α) → Prop} {f : Int → κ} (fi : ∀ a b, f a = f b → a = b) (hF : ∀ kv m, F kv m → kv.1 = f m.1) {kvs : List (κ × V)} {ms : List (Int × α)} (h : Paired F kvs ms) {k : Int} {v : V} {x : α} (hv : v ≠ .non) (hx : F (f k, v) (k, x)) :
    Paired F (newK kvs (f k) v) (withE ms k x) := by
  unfold newK withE
  rw [if_neg hv]
  exact Paired.snoc (paired_out fi hF h k) hx
theorem inl_inj : ∀ a b : Int, (Sum.inl a : Key) = Sum.inl b → a = b := fun _ _ e => Sum.inl.inj e
def snK (n : Int) : List Key := [.inl 5, .inl n]
theorem snK_inj : ∀ a b : Int, snK a = snK b → a = b := fun _ _ e => by
  unfold snK at e
  injection e with _ e
  injection e with e _
  exact Sum.inl.inj e
theorem ref_non (a : Addr) : V.ref a ≠ .non := fun z => nomatch z
section
variable {K : PySem.W.Frag} {H : Hp} {p : Addr} {S : Sta} {kvs : List (Key × V)} {ds dn dm : Addr}
/-- a state's dict with one thing changed -/
theorem StaA.order (e2 : (kvs.map (·.1)).Perm stK) (e4 : valV kvs (.inr "spaces") = some (.ref ds)) (e5 : valV kvs (.inr "snaps") = some (.ref dn)) (e6 : valV kvs (.inr "marks") = some (.ref dm)) (o : Int) (hp : H p = some (.dK (newK kvs (.inr "order") (.int o))))
    (e7 : SpacesAt K H ds S.cells) (e8 : SnapsAt H dn S.snaps) (e9 : MarksAt H dm S.marks) : StaA K H p { S with order := o } := by
  have hv : V.int o ≠ .non := fun z => nomatch z
  refine ⟨_, ds, dn, dm, hp, newK_perm hv e2 (by unfold stK; simp), ?_, ?_, ?_, ?_, e7, e8, e9⟩
  · rw [newK_val hv, if_pos rfl]
  · rw [newK_val hv, if_neg (fun z => sp_so.mp z), e4]
  · rw [newK_val hv, if_neg (fun z => sn_so.mp z), e5]
  · rw [newK_val hv, if_neg (fun z => sm_so.mp z), e6]
theorem StaA.spaces (e2 : (kvs.map (·.1)).Perm stK) (e3 : valV kvs (.inr "order") = some (.int S.order)) (e5 : valV kvs (.inr "snaps") = some (.ref dn)) (e6 : valV kvs (.inr "marks") = some (.ref dm)) {d : Addr} (hp : H p = some (.dK (newK kvs (.inr "spaces") (.ref d)))) {cs : Option (List (Int × Int))}
    (e7 : SpacesAt K H d cs) (e8 : SnapsAt H dn S.snaps) (e9 : MarksAt H dm S.marks) : StaA K H p { S with cells := cs } := by
  have hv := ref_non d
  refine ⟨_, d, dn, dm, hp, newK_perm hv e2 (by unfold stK; simp), ?_, ?_, ?_, ?_, e7, e8, e9⟩
  · rw [newK_val hv, if_neg (fun z => so_sp.mp z), e3]
  · rw [newK_val hv, if_pos rfl]
  · rw [newK_val hv, if_neg (fun z => sn_sp.mp z), e5]
  · rw [newK_val hv, if_neg (fun z => sm_sp.mp z), e6]
theorem StaA.snaps (e2 : (kvs.map (·.1)).Perm stK) (e3 : valV kvs (.inr "order") = some (.int S.order)) (e4 : valV kvs (.inr "spaces") = some (.ref ds)) (e6 : valV kvs (.inr "marks") = some (.ref dm)) {d : Addr} (hp : H p = some (.dK (newK kvs (.inr "snaps") (.ref d)))) {sn : List (Int × List (Int × Int))}
    (e7 : SpacesAt K H ds S.cells) (e8 : SnapsAt H d sn) (e9 : MarksAt H dm S.marks) : StaA K H p { S with snaps := sn } := by
  have hv := ref_non d
  refine ⟨_, ds, d, dm, hp, newK_perm hv e2 (by unfold stK; simp), ?_, ?_, ?_, ?_, e7, e8, e9⟩
  · rw [newK_val hv, if_neg (fun z => so_sn.mp z), e3]
  · rw [newK_val hv, if_neg (fun z => sp_sn.mp z), e4]
  · rw [newK_val hv, if_pos rfl]
  · rw [newK_val hv, if_neg (fun z => sm_sn.mp z), e6]
theorem StaA.marks (e2 : (kvs.map (·.1)).Perm stK) (e3 : valV kvs (.inr "order") = some (.int S.order)) (e4 : valV kvs (.inr "spaces") = some (.ref ds)) (e5 : valV kvs (.inr "snaps") = some (.ref dn)) {d : Addr} (hp : H p = some (.dK (newK kvs (.inr "marks") (.ref d)))) {ms : List (Int × Int × Option Int)}
    (e7 : SpacesAt K H ds S.cells) (e8 : SnapsAt H dn S.snaps) (e9 : MarksAt H d ms) : StaA K H p { S with marks := ms } := by
  have hv := ref_non d
  refine ⟨_, ds, dn, d, hp, newK_perm hv e2 (by unfold stK; simp), ?_, ?_, ?_, ?_, e7, e8, e9⟩
  · rw [newK_val hv, if_neg (fun z => so_sm.mp z), e3]
  · rw [newK_val hv, if_neg (fun z => sp_sm.mp z), e4]
  · rw [newK_val hv, if_neg (fun z => sn_sm.mp z), e5]
  · rw [newK_val hv, if_pos rfl]
end
theorem get_st {H : Hp} {st : Addr} {kvs : List (Key × V)} {x : Str} {v : V} (e1 : H st = some (.dK kvs)) (e : valV kvs (.inr x) = some v) : DGet H st (.str x) (some v) := e ▸ DGet.k (k := .inr x) e1
theorem shaped_int (n : Int) : SeqAt.shaped (kD (.inl n)) = true := by kernel_rfl
section
variable {P : Program} {w : World} {K : PySem.W.Frag} {base : Heap} {mg : Str → Option Value}
def sp_new_state (K : PySem.W.Frag) : Sp := fun vs H Q _ => vs = [] ∧ Mk1 H Q fun p H' => StaA K H' p sta0
theorem sc_new_state : FnScope [] [] (defScope s_new_state) := C8.fnScope_by (by decide +kernel)
theorem c_new_state (T : Tx w K mg) : Cal P w K mg base 1 "new_state" (sp_new_state K) [] := by
  refine K_new_state T sc_new_state (fun _ _ _ _ _ _ us hl => match us, hl with | [], _ => rfl) (by walk_at "len") (fun cdv A outer s H vs Q E hr h => ?_)
  have nd := sc_new_state.nd
  have hu := hu_of hr
  refine ⟨_, (pss_one (ps_ret (pe_disp (pps_cons pe_str pe_int (pps_cons pe_str pe_dnewK (pps_cons pe_str pe_dnewT (pps_cons pe_str pe_dnewK pps_nil)))) (by rfl) (by rfl) (fun z => by cases z) (by decide)))), ?_⟩
  obtain ⟨rfl, k⟩ := h
  have sz0 : 0 ≤ sizeLine := by decide
  refine fun p hp ds hds dn hdn dm hdm => ?_
  have a1 := upd_old (o := .dK []) (upd_old (o := .dT []) (upd_old (o := .dK []) (upd_same (H := H) (a := p) (o := .dK [])) hds) hdn) hdm
  have s0 : Same H (upd (upd (upd (upd H p (.dK [])) ds (.dK [])) dn (.dT [])) dm (.dK [])) := same_upd' (same_upd' (same_upd' (same_upd hp) hds) hdn) hdm
  refine ⟨a1, [(.inr "order", .int 0), (.inr "spaces", .ref ds), (.inr "snaps", .ref dn), (.inr "marks", .ref dm)], rfl, by show 4 ≤ 15; decide, ?_⟩
  have em : mergeK [] [(.inr "order", .int 0), (.inr "spaces", .ref ds), (.inr "snaps", .ref dn), (.inr "marks", .ref dm)] = ([(.inr "order", .int 0), (.inr "spaces", .ref ds), (.inr "snaps", .ref dn), (.inr "marks", .ref dm)] : List (Key × V)) := by kernel_rfl
  rw [em]
  have q1 : ds ≠ p := (ne_of_none upd_same hds).symm
  have q2 : dn ≠ p := (ne_of_none (upd_old (o := .dK []) upd_same hds) hdn).symm
  have q3 : dm ≠ p := (ne_of_none (upd_old (o := .dT []) (upd_old (o := .dK []) upd_same hds) hdn) hdm).symm
  refine k p _ (fun b o e => by rw [upd_ne (ne_of_none e hp)]; exact s0 _ _ e) hp ⟨_, ds, dn, dm, upd_same, .refl _, by kernel_rfl, by kernel_rfl, by kernel_rfl, by kernel_rfl, ?_, ⟨[], ?_, .nil⟩, ⟨[], ?_, .nil⟩⟩
  · show (upd _ p _) ds = some (.dK [])
    rw [upd_ne q1]; exact upd_old (upd_old upd_same hdn) hdm
  · rw [upd_ne q2]; exact upd_old upd_same hdm
  · rw [upd_ne q3]; exact upd_same
def sp_with_mark (K : PySem.W.Frag) : Sp := fun vs H Q _ => ∃ (st u n : Addr) (S : Sta) (h c : Int) (an : Option Int), vs = [.ref st, .int h, .ref u, .non] ∧ StaA K H st S ∧ S.Ok 900 ∧ H u = some (.tup [.int 1, .int c, .ref n]) ∧ AnsAt H n an ∧
  Mk1 H Q fun p H' => StaA K H' p { S with marks := withE S.marks h (c, an) }
theorem sc_with_mark : FnScope ["state", "host", "start", "told"] ["state", "host", "start", "told"] (defScope s_with_mark) := C8.fnScope_by (by decide +kernel)
theorem c_with_mark (T : Tx w K mg) : Cal P w K mg base 2 "with_mark" (sp_with_mark K) [] := by
  refine K_with_mark T sc_with_mark (fun _ _ _ _ _ _ us hl => match us, hl with | [_, _, _, _], _ => rfl) (by walk_at "len") (fun cdv A outer s H vs Q E hr h => ?_)
  have nd := sc_with_mark.nd
  have hu := hu_of hr
  refine ⟨_, (pss_one (ps_ret (C8.pe_c (c_with_entry T) hr (by decide) (by rfl) (pa_cons (pv 0) (pa_cons pe_str (pa_cons (C8.pe_c (c_with_entry T) hr (by decide) (by rfl) (pa_cons (pe_dget hu (pv 0) pe_str (fun _ _ => rfl)) (pa_cons (pv 1) (pa_cons (pe_op op_catT (pv 2) (pe_tup (pa_cons (pv 3) pa_nil))) pa_nil)))) pa_nil)))))), ?_⟩
  obtain ⟨st, u, n, S, h, c, an, rfl, SA, ok, hu1, hn, k⟩ := h
  obtain ⟨kvs, ds, dn, dm, e1, e2, e3, e4, e5, e6, e7, e8, mkv, em, pm⟩ := SA
  obtain ⟨q1, q2, q3⟩ := st_with e2
  have sz1 : 1 ≤ sizeLine := by decide
  have sz4 : 3 + 1 ≤ sizeLine := by decide
  have mF : ∀ (H : Hp) (kv : Key × V) (m : Int × Int × Option Int), (kv.1 = Sum.inl m.1 ∧ ∃ q, kv.2 = .ref q ∧ MarkAt H q m.2) → kv.1 = Sum.inl m.1 := fun _ _ _ z => z.1
  have mk := paired_keys (f := Sum.inl) (mF H) pm
  refine ⟨_, rfl, _, rfl, st, _, rfl, get_st e1 e6, _, rfl, _, rfl, _, rfl, sz1, fun t ht => ?_⟩
  have s1 := same_upd ht (o := .tup [.non])
  refine ⟨u, t, _, _, rfl, rfl, SqT.of (s1 _ _ hu1), SqT.of upd_same, by simp, sz4, fun z => absurd z (by simp), fun _ u2 hu2 => ?_⟩
  have s2 := same_upd' s1 hu2 (o := .tup ([.int 1, .int c, .ref n] ++ [.non]))
  refine ⟨dm, mkv, .inl h, .ref u2, rfl, s2 _ _ em, by rw [mk]; exact keys_nd inl_inj ok.mr.1, by rw [Paired.length pm]; have := ok.mr.2; omega, fun p hp => ?_, shaped_int h, fun d H3 s3 f3 e3' => ?_⟩
  · have : p.1 ∈ mkv.map (·.1) := List.mem_map_of_mem hp
    rw [mk] at this
    obtain ⟨i, _, ei⟩ := List.mem_map.mp this
    rw [← ei]
    exact shaped_int i
  have s13 := s2.trans s3
  refine ⟨st, kvs, .inr "marks", .ref d, rfl, s13 _ _ e1, q1, q2, q3, stK_shaped _ (by unfold stK; simp), fun p H4 s4 f4 e4' => ?_⟩
  have s14 := s13.trans s4
  have im := same_imm s14
  refine k p H4 s14 (s13.free f4) (StaA.marks e2 e3 e4 e5 e4' (SpacesAt.keep im e7) (SnapsAt.keep im e8) ⟨_, s4 _ _ e3', ?_⟩)
  refine paired_new inl_inj (mF H4) (mapP pm fun kv m ⟨a, q, b, d⟩ => ⟨a, q, b, MarkAt.keep im d⟩) (ref_non u2) ⟨rfl, u2, rfl, n, ?_, im.tup hn⟩
  exact s4 _ _ (s3 _ _ upd_same)
def sp_host_effect (K : PySem.W.Frag) : Sp := fun vs H Q _ => ∃ (st q u n : Addr) (S : Sta) (h c : Int) (an : Option Int), vs = [.ref st, .ref q, .ref u] ∧ H q = some (.tup ((Tp.host h).key.map kV)) ∧ StaA K H st S ∧ S.Ok 900 ∧ H u = some (.tup [.int 1, .int c, .ref n]) ∧ AnsAt H n an ∧
  Mk1 H Q fun p H' => StaA K H' p { S with marks := withE S.marks h (c, an) }
theorem sc_apply_host_effect : FnScope ["state", "topic", "value", "mark"] ["state", "topic", "value"] (defScope s_apply_host_effect) := C8.fnScope_by (by decide +kernel)
theorem c_apply_host_effect (T : Tx w K mg) : Cal P w K mg base 3 "apply_host_effect" (sp_host_effect K) [] := by
  refine K_apply_host_effect T sc_apply_host_effect (fun _ _ _ _ _ _ us hl => match us, hl with | [_, _, _], _ => rfl) (by walk_at "len") (fun cdv A outer s H vs Q E hr h => ?_)
  have nd := sc_apply_host_effect.nd
  have hu := hu_of hr
  refine ⟨_, (pss_cons (ps_set (i := 3) nd rfl (Or.inl rfl) (pe_dget2 hu (pe_dget hu (pv 0) pe_str (fun _ _ => rfl)) (pe_ix ix_tup (pv 1) pe_int (fun _ _ => rfl)) (pe_tup (pa_cons pe_int (pa_cons pe_int (pa_cons pe_non (pa_cons pe_non pa_nil))))) ⟨rfl, rfl, rfl, rfl⟩))
      (pss_cons (ps_if (pt_cmpR op_eq (pe_ix ix_tup (pv 1) pe_int (fun _ _ => rfl)) pe_str (nomark _)) (pss_one (ps_ret (C8.pe_c (c_with_mark T) hr (by decide) (by rfl) (pa_cons (pv 0) (pa_cons (pe_ix ix_tup (pv 1) pe_int (fun _ _ => rfl)) (pa_cons (pv 2) (pa_cons (pe_ix ix_tup (pv 3) pe_int (fun _ _ => rfl)) pa_nil))))))) pss_nil)
      (pss_one ps_never))), ?_⟩
  obtain ⟨st, q, u, n, S, h, c, an, rfl, hq, SA, ok, hu1, hn, k⟩ := h
  have SA0 := SA
  obtain ⟨kvs, ds, dn, dm, e1, e2, e3, e4, e5, e6, e7, e8, mkv, em, pm⟩ := SA
  have sz4 : 4 ≤ sizeLine := by decide
  refine ⟨_, rfl, st, _, rfl, get_st e1 e6, dm, rfl, .inl ⟨_, .inl em⟩, _, rfl, q, _, 1, _, rfl, rfl, SqT.of hq, at_of (j := 1) rfl rfl, sz4, fun t ht => ?_⟩
  have s1 := same_upd ht (o := .tup [.int 0, .int 0, .non, .non])
  have im := same_imm s1
  have key : ∃ m a b d', (valV mkv (.inl h)).getD (.ref t) = .ref m ∧ (upd H t (.tup [.int 0, .int 0, .non, .non])) m = some (.tup [a, b, d', .non]) := by
    cases e : valV mkv (.inl h) with
    | none => exact ⟨t, _, _, _, rfl, upd_same⟩
    | some v =>
      obtain ⟨i, hi⟩ : ∃ i, mkv[i]? = some (Sum.inl h, v) := by
        unfold valV at e
        obtain ⟨kv, hkv, rfl⟩ := Option.map_eq_some_iff.mp e
        have h1 := List.find?_some hkv
        obtain ⟨i, hi⟩ := List.mem_iff_getElem?.mp (List.mem_of_find?_eq_some hkv)
        refine ⟨i, ?_⟩
        rw [hi]
        congr 1
        exact Prod.ext (by simpa using h1) rfl
      obtain ⟨m, _, _, x, ex, n', b, _⟩ := L2.paired_get pm hi
      exact ⟨x, _, _, _, ex, s1 _ _ b⟩
  obtain ⟨m, a, b, d', em2, hm⟩ := key
  refine ⟨_, .inl ⟨mkv, .inl h, .inl (s1 _ _ em), rfl, rfl⟩, ?_⟩
  rw [em2]
  refine ⟨_, rfl, q, _, 0, _, rfl, rfl, SqT.of (s1 _ _ hq), at_of (j := 0) rfl rfl, rfl, _, rfl, eqS_T rfl ?_⟩
  refine ⟨_, rfl, _, rfl, q, _, 1, _, rfl, rfl, SqT.of (s1 _ _ hq), at_of (j := 1) rfl rfl, _, rfl, _, rfl, m, _, 3, _, rfl, rfl, SqT.of hm, at_of (j := 3) rfl rfl, ?_⟩
  exact ⟨st, u, n, S, h, c, an, rfl, SA0.keep im, ok, s1 _ _ hu1, s1 _ _ hn, fun p H' s f e => k p H' (s1.trans s) (s1.free f) e⟩
end
end L2.Sg
set_option Elab.async false
set_option linter.all false
set_option maxRecDepth 100000
set_option maxHeartbeats 4000000
namespace L2.Sg
open PySem PySem.Spec PyProof.Rows
open C8 (Cal Met Mak pe_c pe_mt pe_mt0 pe_mk tCut pss_cut)
local macro_rules | `(tactic| walk_at "len") => `(tactic| (intro vs H Q E h; first | (obtain ⟨e, _⟩ := h; subst e; rfl) | (obtain ⟨_, e, _⟩ := h; subst e; rfl) | (obtain ⟨_, _, e, _⟩ := h; subst e; rfl) | (obtain ⟨_, _, _, e, _⟩ := h; subst e; rfl) | (obtain ⟨_, _, _, _, e, _⟩ := h; subst e; rfl) | (obtain ⟨_, _, _, _, _, e, _⟩ := h; subst e; rfl) | (obtain ⟨_, _, _, _, _, _, e, _⟩ := h; subst e; rfl) | (obtain ⟨_, _, _, _, _, _, _, e, _⟩ := h; subst e; rfl) | (obtain ⟨_, _, _, _, _, _, _, _, e, _⟩ := h; subst e; rfl) | (obtain ⟨_, _, _, _, _, _, _, _, _, e, _⟩ := h; subst e; rfl) | (obtain ⟨_, _, _, _, _, _, _, _, _, _, e, _⟩ := h; subst e; rfl) | (obtain ⟨_, _, _, _, _, _, _, _, _, _, _, e, _⟩ := h; subst e; rfl) | (obtain ⟨_, _, _, _, _, _, _, _, _, _, _, _, e, _⟩ := h; subst e; rfl) | (obtain ⟨_, _, _, _, _, _, _, _, _, _, _, _, _, e, _⟩ := h; subst e; rfl) | (obtain ⟨_, _, _, _, _, _, _, _, _, _, _, _, _, _, e, _⟩ := h; subst e; rfl) | (obtain ⟨_, _, _, _, _, _, _, _, _, _, _, _, _, _, _, e, _⟩ := h; subst e; rfl)))
local macro_rules | `(tactic| walk_at "ns") => `(tactic| (try dsimp only [Op.kind, Tp.word, Rec.top]); decide +kernel)
theorem cell_out (cs : List (Int × Int)) (p : Int) : outK (cellKV cs) (.inl p) = cellKV (outE cs p) := by
  unfold outK cellKV outE
  rw [List.filter_map]
  congr 1
  refine congrArg (fun f => List.filter f cs) (funext fun x => ?_)
  show decide ((Sum.inl x.1 : Key) ≠ Sum.inl p) = decide (x.1 ≠ p)
  by_cases c : x.1 = p
  · rw [decide_eq_false (p := (Sum.inl x.1 : Key) ≠ Sum.inl p) (fun z => z (congrArg Sum.inl c)), decide_eq_false (p := x.1 ≠ p) (fun z => z c)]
  · rw [decide_eq_true (p := (Sum.inl x.1 : Key) ≠ Sum.inl p) (fun z => c (Sum.inl.inj z)), decide_eq_true (p := x.1 ≠ p) c]
theorem cell_new (cs : List (Int × Int)) (p v : Int) : newK (cellKV cs) (.inl p) (.int v) = cellKV (withE cs p v) := by
  unfold newK
  rw [if_neg (fun z => nomatch z), cell_out]
  unfold withE cellKV
  rw [List.map_append] <;> rfl
theorem cell_non (cs : List (Int × Int)) (p : Int) : newK (cellKV cs) (.inl p) .non = cellKV (outE cs p) := by
  unfold newK
  rw [if_pos rfl, cell_out]
theorem cell_keys (cs : List (Int × Int)) : (cellKV cs).map (·.1) = (cs.map (·.1)).map Sum.inl := by
  unfold cellKV
  rw [List.map_map, List.map_map] <;> rfl
theorem cell_shaped (cs : List (Int × Int)) : ∀ p ∈ cellKV cs, SeqAt.shaped (kD p.1) = true := fun p hp => by
  obtain ⟨x, _, rfl⟩ := List.mem_map.mp hp
  exact shaped_int _
/-- something made, nothing changed -/
abbrev Mk0 (H : Hp) (Q : VK) (P : Addr → Hp → Prop) : Prop := ∀ (p : Addr) (H' : Hp), Same H H' → P p H' → Q (.ref p) H'
theorem sn_F {H : Hp} : ∀ (kv : List Key × V) (s : Int × List (Int × Int)), (kv.1 = [Sum.inl 5, Sum.inl s.1] ∧ ∃ c, kv.2 = .ref c ∧ H c = some (.dK (cellKV s.2))) → kv.1 = snK s.1 := fun _ _ z => z.1
section
variable {P : Program} {w : World} {K : PySem.W.Frag} {base : Heap} {mg : Str → Option Value}
def sp_with_space (K : PySem.W.Frag) : Sp := fun vs H Q _ => ∃ (st q : Addr) (S : Sta) (cs : List (Int × Int)), vs = [.ref st, .int 5, .ref q] ∧ StaA K H st S ∧ SpaceAt K H q cs ∧ Mk0 H Q fun p H' => StaA K H' p { S with cells := some cs }
theorem sc_with_space : FnScope ["state", "namespace", "space"] ["state", "namespace", "space"] (defScope s_with_space) := C8.fnScope_by (by decide +kernel)
theorem c_with_space (T : Tx w K mg) : Cal P w K mg base 2 "with_space" (sp_with_space K) [] := by
  refine K_with_space T sc_with_space (fun _ _ _ _ _ _ us hl => match us, hl with | [_, _, _], _ => rfl) (by walk_at "len") (fun cdv A outer s H vs Q E hr h => ?_)
  have nd := sc_with_space.nd
  have hu := hu_of hr
  refine ⟨_, (pss_one (ps_ret (C8.pe_c (c_with_entry T) hr (by decide) (by rfl) (pa_cons (pv 0) (pa_cons pe_str (pa_cons (C8.pe_c (c_with_entry T) hr (by decide) (by rfl) (pa_cons (pe_dget hu (pv 0) pe_str (fun _ _ => rfl)) (pa_cons (pv 1) (pa_cons (pv 2) pa_nil)))) pa_nil)))))), ?_⟩
  obtain ⟨st, q, S, cs, rfl, SA, SQ, k⟩ := h
  obtain ⟨kvs, ds, dn, dm, e1, e2, e3, e4, e5, e6, e7, e8, e9⟩ := SA
  obtain ⟨q1, q2, q3⟩ := st_with e2
  obtain ⟨skv, hs, ns, ls, ss, en⟩ : ∃ skv : List (Key × V), H ds = some (.dK skv) ∧ (skv.map (·.1)).Nodup ∧ skv.length ≤ 1000 ∧ (∀ p ∈ skv, SeqAt.shaped (kD p.1) = true) ∧ newK skv (.inl 5) (.ref q) = [(Sum.inl 5, .ref q)] := by
    cases hc : S.cells with
    | none =>
      rw [hc] at e7
      exact ⟨[], e7, .nil, by decide, fun p h => (List.not_mem_nil h).elim, by unfold newK; rw [if_neg (ref_non q)] <;> rfl⟩
    | some c0 =>
      rw [hc] at e7
      obtain ⟨q0, a, _⟩ := e7
      refine ⟨[(Sum.inl 5, .ref q0)], a, by simp, by show 1 ≤ 1000; decide, fun p h => ?_, ?_⟩
      · obtain rfl := List.mem_singleton.mp h
        exact shaped_int 5
      · unfold newK outK
        rw [if_neg (ref_non q), List.filter_cons_of_neg (by simp)] <;> rfl
  refine ⟨_, rfl, _, rfl, st, _, rfl, get_st e1 e4, _, rfl, _, rfl, ds, skv, .inl 5, .ref q, rfl, hs, ns, ls, ss, shaped_int 5, fun d H1 s1 f1 h1 => ?_⟩
  refine ⟨st, kvs, .inr "spaces", .ref d, rfl, s1 _ _ e1, q1, q2, q3, stK_shaped _ (by unfold stK; simp), fun p H2 s2 f2 h2 => ?_⟩
  have s12 := s1.trans s2
  have im := same_imm s12
  rw [en] at h1
  exact k p H2 s12 (StaA.spaces e2 e3 e5 e6 h2 (cs := some cs) ⟨q, s2 _ _ h1, SpaceAt.keep im SQ⟩ (SnapsAt.keep im e8) (MarksAt.keep im e9))
def sp_with_snapshot (K : PySem.W.Frag) : Sp := fun vs H Q _ => ∃ (st nm : Addr) (S : Sta) (cs : List (Int × Int)) (n : Int) (v : V), vs = [.ref st, .ref nm, v] ∧ StaA K H st S ∧ S.Ok 900 ∧ S.cells = some cs ∧ H nm = some (.tup [.int 5, .int n]) ∧
  Mk0 H Q fun p H' => StaA K H' p { S with snaps := if v = .non then outE S.snaps n else withE S.snaps n cs }
theorem sc_with_snapshot : FnScope ["state", "name", "value", "cells"] ["state", "name", "value"] (defScope s_with_snapshot) := C8.fnScope_by (by decide +kernel)
theorem c_with_snapshot (T : Tx w K mg) : Cal P w K mg base 2 "with_snapshot" (sp_with_snapshot K) [] := by
  refine K_with_snapshot T sc_with_snapshot (fun _ _ _ _ _ _ us hl => match us, hl with | [_, _, _], _ => rfl) (by walk_at "len") (fun cdv A outer s H vs Q E hr h => ?_)
  have nd := sc_with_snapshot.nd
  have hu := hu_of hr
  refine ⟨_, (pss_cons (ps_set (i := 3) nd rfl (Or.inl rfl) pe_non)
      (pss_cons (ps_if (pt_cmp (pc_notN (pv 2))) (pss_one (ps_set (i := 3) nd rfl (Or.inl rfl) (pe_callTy (call_dictD) (by rfl) (b_dict T) boot_dict (pa_cons (pe_ix ix_tup (pe_dget hu (pe_dget hu (pv 0) pe_str (fun _ _ => rfl)) (pe_ix ix_tup (pv 1) pe_int (fun _ _ => rfl)) (fun _ _ => rfl)) pe_int (fun _ _ => rfl)) pa_nil)))) pss_nil)
      (pss_one (ps_ret (C8.pe_c (c_with_entry T) hr (by decide) (by rfl) (pa_cons (pv 0) (pa_cons pe_str (pa_cons (C8.pe_c (c_with_entryT T) hr (by decide) (by rfl) (pa_cons (pe_dget hu (pv 0) pe_str (fun _ _ => rfl)) (pa_cons (pv 1) (pa_cons (pv 3) pa_nil)))) pa_nil)))))))), ?_⟩
  obtain ⟨st, nm, S, cs, n, v, rfl, SA, ok, hc, hnm, k⟩ := h
  obtain ⟨kvs, ds, dn, dm, e1, e2, e3, e4, e5, e6, e7, ⟨nkv, en, pn⟩, e9⟩ := SA
  obtain ⟨q1, q2, q3⟩ := st_with e2
  have nk := paired_keys (f := snK) sn_F pn
  have nnd : (nkv.map (·.1)).Nodup := by rw [nk]; exact keys_nd snK_inj ok.sn.1
  have nln : nkv.length ≤ 1000 := by rw [Paired.length pn]; have := ok.sn.2.1; omega
  have nky : ∀ p ∈ nkv, ∃ a b, p.1 = [Sum.inl a, Sum.inl b] := fun p hp => by
    have : p.1 ∈ nkv.map (·.1) := List.mem_map_of_mem hp
    rw [nk] at this
    obtain ⟨i, _, ei⟩ := List.mem_map.mp this
    exact ⟨5, i, ei.symm⟩
  rw [hc] at e7
  have e7' := e7
  obtain ⟨q, hq0, c, f, hq, hcq, hf⟩ := e7
  rw [← hc] at e7'
  have e7 := e7'
  refine ⟨_, rfl, _, rfl, ?_⟩
  by_cases cv : v = .non
  · rw [decide_eq_true cv]
    refine iteF ?_
    have s0 := Same.refl H
    refine ⟨_, rfl, _, rfl, st, _, rfl, get_st (s0 _ _ e1) e5, _, rfl, _, rfl, dn, nm, nkv, 5, n, .non, rfl, s0 _ _ en, s0 _ _ hnm, nnd, nln, nky, fun d H2 s2 f2 h2 => ?_⟩
    have s12 := s0.trans s2
    refine ⟨st, kvs, .inr "snaps", .ref d, rfl, s12 _ _ e1, q1, q2, q3, stK_shaped _ (by unfold stK; simp), fun p H3 s3 f3 h3 => ?_⟩
    have s13 := s12.trans s3
    have im := same_imm s13
    have pn' : Paired (fun (kv : List Key × V) s => kv.1 = [Sum.inl 5, Sum.inl s.1] ∧ ∃ c, kv.2 = .ref c ∧ H3 c = some (.dK (cellKV s.2))) nkv S.snaps := mapP pn fun kv m ⟨a, c, b, d⟩ => ⟨a, c, b, im.dK d⟩
    refine k p H3 s13 (StaA.snaps e2 e3 e4 e6 h3 (SpacesAt.keep im e7) ⟨_, s3 _ _ h2, ?_⟩ (MarksAt.keep im e9))
    rw [if_pos cv]
    have := paired_out snK_inj sn_F pn' n
    unfold newK
    rw [if_pos rfl]
    exact this
  · rw [decide_eq_false cv]
    refine iteT ⟨_, rfl, st, _, rfl, get_st e1 e4, _, rfl, nm, _, 0, _, rfl, rfl, SqT.of hnm, at_of (j := 0) rfl rfl, ds, .ref q, rfl, .inl ⟨_, .inl 5, .inl hq0, rfl, rfl⟩, q, _, 1, .ref c, rfl, rfl, SqT.of hq, at_of (j := 1) rfl rfl, c, _, rfl, .inl hcq, fun c2 hc2 => ?_⟩
    have s1 := same_upd hc2 (o := .dK (cellKV cs))
    refine ⟨_, rfl, _, rfl, st, _, rfl, get_st (s1 _ _ e1) e5, _, rfl, _, rfl, dn, nm, nkv, 5, n, .ref c2, rfl, s1 _ _ en, s1 _ _ hnm, nnd, nln, nky, fun d H2 s2 f2 h2 => ?_⟩
    have s12 := s1.trans s2
    refine ⟨st, kvs, .inr "snaps", .ref d, rfl, s12 _ _ e1, q1, q2, q3, stK_shaped _ (by unfold stK; simp), fun p H3 s3 f3 h3 => ?_⟩
    have s13 := s12.trans s3
    have im := same_imm s13
    have pn' : Paired (fun (kv : List Key × V) s => kv.1 = [Sum.inl 5, Sum.inl s.1] ∧ ∃ c, kv.2 = .ref c ∧ H3 c = some (.dK (cellKV s.2))) nkv S.snaps := mapP pn fun kv m ⟨a, c, b, d⟩ => ⟨a, c, b, im.dK d⟩
    refine k p H3 s13 (StaA.snaps e2 e3 e4 e6 h3 (SpacesAt.keep im e7) ⟨_, s3 _ _ h2, ?_⟩ (MarksAt.keep im e9))
    rw [if_neg cv]
    exact paired_new snK_inj sn_F pn' (ref_non c2) ⟨rfl, c2, rfl, s3 _ _ (s2 _ _ upd_same)⟩
def sp_space_effect (K : PySem.W.Frag) : Sp := fun vs H Q _ => ∃ (st q : Addr) (S : Sta) (r : Rec), vs = [.ref st, .ref q, r.val] ∧ StaA K H st S ∧ S.Ok 900 ∧ S.cells ≠ none ∧ r.op ≠ .make ∧ H q = some (.tup (r.top.key.map kV)) ∧ Mk0 H Q fun p H' => StaA K H' p (S.op r.ord r.op)
theorem sc_apply_space_effect : FnScope ["state", "topic", "value", "size", "cells", "fence"] ["state", "topic", "value"] (defScope s_apply_space_effect) := C8.fnScope_by (by decide +kernel)
theorem c_apply_space_effect (T : Tx w K mg) : Cal P w K mg base 3 "apply_space_effect" (sp_space_effect K) [] := by
  refine K_apply_space_effect T sc_apply_space_effect (fun _ _ _ _ _ _ us hl => match us, hl with | [_, _, _], _ => rfl) (by walk_at "len") (fun cdv A outer s H vs Q E hr h => ?_)
  have nd := sc_apply_space_effect.nd
  have hu := hu_of hr
  refine ⟨_, (pss_cons (ps_asg (pe_dget hu (pe_dget hu (pv 0) pe_str (fun _ _ => rfl)) (pe_ix ix_tup (pv 1) pe_int (fun _ _ => rfl)) (fun _ _ => rfl)) (pg_tup rfl (pgs_cons (pg_name (i := 3) nd rfl (Or.inl rfl)) (pgs_cons (pg_name (i := 4) nd rfl (Or.inl rfl)) (pgs_cons (pg_name (i := 5) nd rfl (Or.inl rfl)) pgs_nil)))))
      (pss_cons (ps_if (pt_cmpR op_eq (pe_ix ix_tup (pv 1) pe_int (fun _ _ => rfl)) pe_str (nomark _)) (pss_one ps_never) pss_nil)
      (pss_cons (ps_if (pt_cmpR op_eq (pe_ix ix_tup (pv 1) pe_int (fun _ _ => rfl)) pe_str (nomark _)) (pss_one (ps_ret (C8.pe_c (c_with_snapshot T) hr (by decide) (by rfl) (pa_cons (pv 0) (pa_cons (pe_tup (pa_cons (pe_ix ix_tup (pv 1) pe_int (fun _ _ => rfl)) (pa_cons (pe_ix ix_tup (pv 1) pe_int (fun _ _ => rfl)) pa_nil))) (pa_cons (pv 2) pa_nil)))))) pss_nil)
      (pss_cons (ps_if (pt_cmpR op_eq (pe_ix ix_tup (pv 1) pe_int (fun _ _ => rfl)) pe_str (nomark _)) (pss_one (ps_set (i := 4) nd rfl (Or.inl rfl) (C8.pe_c (c_with_entry T) hr (by decide) (by rfl) (pa_cons (pv 4) (pa_cons (pe_ix ix_tup (pv 1) pe_int (fun _ _ => rfl)) (pa_cons (pv 2) pa_nil)))))) pss_never)
      (pss_one (ps_ret (C8.pe_c (c_with_space T) hr (by decide) (by rfl) (pa_cons (pv 0) (pa_cons (pe_ix ix_tup (pv 1) pe_int (fun _ _ => rfl)) (pa_cons (pe_tup (pa_cons (pv 3) (pa_cons (pv 4) (pa_cons (pv 5) pa_nil)))) pa_nil)))))))))), ?_⟩
  obtain ⟨st, q, S, r, rfl, SA, ok, hc, hm, hq, k⟩ := h
  have SA0 := SA
  obtain ⟨kvs, ds, dn, dm, e1, e2, e3, e4, e5, e6, e7, e8, e9⟩ := SA
  obtain ⟨cs, hcs⟩ := Option.ne_none_iff_exists'.mp hc
  rw [hcs] at e7
  obtain ⟨sq, hq0, c, f, hsq, hcq, hf⟩ := e7
  have t5 : (r.top.key.map kV)[1]? = some (.int 5) := key_five _ (fun i e => by
    obtain ⟨_, _, _, o⟩ := r
    cases o <;> cases e)
  refine ⟨_, rfl, st, _, rfl, get_st e1 e4, _, rfl, q, _, 1, _, rfl, rfl, SqT.of hq, at_of (j := 1) rfl t5, ds, .ref sq, rfl, .inl ⟨_, .inl 5, .inl hq0, rfl, rfl⟩, sq, _, rfl, SqT.of hsq, rfl, _, _, rfl, _, _, rfl, _, _, rfl, rfl, ?_⟩
  have sz2 : 2 ≤ sizeLine := by decide
  have sz3 : 3 ≤ sizeLine := by decide
  have cnd : ((cellKV cs).map (·.1)).Nodup := by rw [cell_keys]; exact keys_nd inl_inj (ok.cl cs hcs).1
  have cln : (cellKV cs).length ≤ 1000 := by
    have := (ok.cl cs hcs).2
    unfold cellKV
    rw [List.length_map]
    omega
  refine ⟨_, rfl, q, _, 0, _, rfl, rfl, SqT.of hq, at_of (j := 0) rfl (key_word _), rfl, _, rfl, eqS_F (word_gone _) ?_⟩
  obtain ⟨ord, ho, ct, op⟩ := r
  cases op with
  | make => exact absurd rfl hm
  | snap =>
    refine ⟨_, rfl, q, _, 0, _, rfl, rfl, SqT.of hq, at_of (j := 0) rfl rfl, rfl, _, rfl, eqS_T rfl ?_⟩
    refine ⟨_, rfl, _, rfl, q, _, 1, _, rfl, rfl, SqT.of hq, at_of (j := 1) rfl rfl, _, rfl, q, _, 2, _, rfl, rfl, SqT.of hq, at_of (j := 2) rfl rfl, sz2, fun nm hnm => ?_⟩
    have s1 := same_upd hnm (o := .tup [.int 5, .int ord])
    refine ⟨_, rfl, st, nm, S, cs, ord, .int ord, rfl, SA0.keep (same_imm s1), ok, hcs, upd_same, fun p H' s2 e => k p H' (s1.trans s2) ?_⟩
    rw [if_neg (fun z => nomatch z)] at e
    show StaA K H' p { S with snaps := withE S.snaps ord (S.cells.getD []) }
    have e9 : S.cells.getD [] = cs := by rw [hcs] <;> rfl
    rw [e9]
    exact e
  | drop n =>
    refine ⟨_, rfl, q, _, 0, _, rfl, rfl, SqT.of hq, at_of (j := 0) rfl rfl, rfl, _, rfl, eqS_T rfl ?_⟩
    refine ⟨_, rfl, _, rfl, q, _, 1, _, rfl, rfl, SqT.of hq, at_of (j := 1) rfl rfl, _, rfl, q, _, 2, _, rfl, rfl, SqT.of hq, at_of (j := 2) rfl rfl, sz2, fun nm hnm => ?_⟩
    have s1 := same_upd hnm (o := .tup [.int 5, .int n])
    refine ⟨_, rfl, st, nm, S, cs, n, .non, rfl, SA0.keep (same_imm s1), ok, hcs, upd_same, fun p H' s2 e => k p H' (s1.trans s2) ?_⟩
    rw [if_pos rfl] at e
    exact e
  | write p v =>
    refine ⟨_, rfl, q, _, 0, _, rfl, rfl, SqT.of hq, at_of (j := 0) rfl rfl, rfl, _, rfl, eqS_F (show ¬ ("place" : Str) = "snap" by decide +kernel) ?_⟩
    refine ⟨_, rfl, q, _, 0, _, rfl, rfl, SqT.of hq, at_of (j := 0) rfl rfl, rfl, _, rfl, eqS_T rfl ?_⟩
    refine ⟨_, rfl, _, rfl, q, _, 2, _, rfl, rfl, SqT.of hq, at_of (j := 2) rfl rfl, _, rfl, c, cellKV cs, .inl p, .int v, rfl, hcq, cnd, cln, cell_shaped cs, shaped_int p, fun c2 H1 s1 f1 h1 => ?_⟩
    rw [cell_new] at h1
    refine ⟨_, rfl, _, rfl, q, _, 1, _, rfl, rfl, SqT.of (s1 _ _ hq), at_of (j := 1) rfl rfl, _, rfl, _, rfl, _, rfl, sz3, fun sq2 hsq2 => ?_⟩
    have s2 := same_upd' s1 hsq2 (o := .tup [.int 64, .ref c2, .ref f])
    refine ⟨st, sq2, S, (withE cs p v), rfl, SA0.keep (same_imm s2), ⟨c2, f, upd_same, upd_old h1 hsq2, FenceAt.keep (same_imm s2) hf⟩, fun p' H' s3 e => k p' H' (s2.trans s3) ?_⟩
    show StaA K H' _ { S with cells := S.cells.map fun cs => withE cs _ v }
    rw [hcs]
    exact e
  | trim p =>
    refine ⟨_, rfl, q, _, 0, _, rfl, rfl, SqT.of hq, at_of (j := 0) rfl rfl, rfl, _, rfl, eqS_F (show ¬ ("place" : Str) = "snap" by decide +kernel) ?_⟩
    refine ⟨_, rfl, q, _, 0, _, rfl, rfl, SqT.of hq, at_of (j := 0) rfl rfl, rfl, _, rfl, eqS_T rfl ?_⟩
    refine ⟨_, rfl, _, rfl, q, _, 2, _, rfl, rfl, SqT.of hq, at_of (j := 2) rfl rfl, _, rfl, c, cellKV cs, .inl p, .non, rfl, hcq, cnd, cln, cell_shaped cs, shaped_int p, fun c2 H1 s1 f1 h1 => ?_⟩
    rw [cell_non] at h1
    refine ⟨_, rfl, _, rfl, q, _, 1, _, rfl, rfl, SqT.of (s1 _ _ hq), at_of (j := 1) rfl rfl, _, rfl, _, rfl, _, rfl, sz3, fun sq2 hsq2 => ?_⟩
    have s2 := same_upd' s1 hsq2 (o := .tup [.int 64, .ref c2, .ref f])
    refine ⟨st, sq2, S, (outE cs p), rfl, SA0.keep (same_imm s2), ⟨c2, f, upd_same, upd_old h1 hsq2, FenceAt.keep (same_imm s2) hf⟩, fun p' H' s3 e => k p' H' (s2.trans s3) ?_⟩
    show StaA K H' _ { S with cells := S.cells.map fun cs => outE cs _ }
    rw [hcs]
    exact e
def sp_apply_effect (K : PySem.W.Frag) : Sp := fun vs H Q _ => ∃ (st q : Addr) (v : V) (S S' : Sta), vs = [.ref st, .ref q, v] ∧ StaA K H st S ∧ S.Ok 900 ∧ ((∃ (u n : Addr) (h c : Int) (an : Option Int), v = .ref u ∧ H q = some (.tup ((Tp.host h).key.map kV)) ∧ H u = some (.tup [.int 1, .int c, .ref n]) ∧ AnsAt H n an ∧ S' = { S with marks := withE S.marks h (c, an) }) ∨
  ∃ r : Rec, v = r.val ∧ H q = some (.tup (r.top.key.map kV)) ∧ (r.op = .make ∨ S.cells ≠ none) ∧ S' = S.op r.ord r.op) ∧ Mk0 H Q fun p H' => StaA K H' p S'
theorem sc_apply_effect : FnScope ["state", "topic", "value"] ["state", "topic", "value"] (defScope s_apply_effect) := C8.fnScope_by (by decide +kernel)
theorem c_apply_effect (T : Tx w K mg) : Cal P w K mg base 4 "apply_effect" (sp_apply_effect K) [] := by
  refine K_apply_effect T sc_apply_effect (fun _ _ _ _ _ _ us hl => match us, hl with | [_, _, _], _ => rfl) (by walk_at "len") (fun cdv A outer s H vs Q E hr h => ?_)
  have nd := sc_apply_effect.nd
  have hu := hu_of hr
  refine ⟨_, (pss_cons (ps_if (PW.pt (pw_or (pt_cmpR op_eq (pe_ix ix_tup (pv 1) pe_int (fun _ _ => rfl)) pe_str (nomark _)) (pw_or1 (pt_cmpR op_eq (pe_ix ix_tup (pv 1) pe_int (fun _ _ => rfl)) pe_str (nomark _))))) (pss_one (ps_ret (C8.pe_c (c_apply_host_effect T) hr (by decide) (by rfl) (pa_cons (pv 0) (pa_cons (pv 1) (pa_cons (pv 2) pa_nil)))))) pss_nil)
      (pss_cons (ps_if (pt_cmpR op_eq (pe_ix ix_tup (pv 1) pe_int (fun _ _ => rfl)) pe_str (nomark _)) (pss_one (ps_ret (C8.pe_c (c_with_space T) hr (by decide) (by rfl) (pa_cons (pv 0) (pa_cons (pe_ix ix_tup (pv 1) pe_int (fun _ _ => rfl)) (pa_cons (pe_tup (pa_cons (pv 2) (pa_cons pe_dnewK (pa_cons (C8.pe_gc (by rfl) (g_NO_FENCE T)) pa_nil)))) pa_nil)))))) pss_nil)
      (pss_cons (ps_if (pt_cmp (pc_dnotin hu (pe_ix ix_tup (pv 1) pe_int (fun _ _ => rfl)) (pe_dget hu (pv 0) pe_str (fun _ _ => rfl)))) (pss_one (ps_ret (pv 0))) pss_nil)
      (pss_one (ps_ret (C8.pe_c (c_apply_space_effect T) hr (by decide) (by rfl) (pa_cons (pv 0) (pa_cons (pv 1) (pa_cons (pv 2) pa_nil))))))))), ?_⟩
  obtain ⟨st, q, v, S, S', rfl, SA, ok, ef, k⟩ := h
  have sz3 : 3 ≤ sizeLine := by decide
  rcases ef with ⟨u, n, h, c, an, rfl, hq, hu1, hn, rfl⟩ | ⟨r, rfl, hq, hm, rfl⟩
  · refine ⟨_, rfl, q, _, 0, _, rfl, rfl, SqT.of hq, at_of (j := 0) rfl rfl, rfl, _, rfl, eqS_T rfl ?_⟩
    exact ⟨_, rfl, _, rfl, _, rfl, st, q, u, n, S, h, c, an, rfl, hq, SA, ok, hu1, hn, fun p H' s _ e => k p H' s e⟩
  have hh : ∀ i, r.top ≠ .host i := fun i e => by
    obtain ⟨_, _, _, o⟩ := r
    cases o <;> cases e
  have told : ¬ r.top.word = "told" := by
    cases r.top with
    | host i => exact (show ¬ ("host" : Str) = "told" by decide +kernel)
    | place n => exact (show ¬ ("place" : Str) = "told" by decide +kernel)
    | space => exact (show ¬ ("space" : Str) = "told" by decide +kernel)
    | snap n => exact (show ¬ ("snap" : Str) = "told" by decide +kernel)
  refine ⟨_, rfl, q, _, 0, _, rfl, rfl, SqT.of hq, at_of (j := 0) rfl (key_word _), rfl, _, rfl, eqS_F (word_host _ hh) ?_⟩
  refine ⟨_, rfl, q, _, 0, _, rfl, rfl, SqT.of hq, at_of (j := 0) rfl (key_word _), rfl, _, rfl, eqS_F told ?_⟩
  refine ⟨_, rfl, q, _, 0, _, rfl, rfl, SqT.of hq, at_of (j := 0) rfl (key_word _), rfl, _, rfl, ?_⟩
  by_cases c : r.op = .make
  · obtain ⟨ord, ho, ct, op⟩ := r
    obtain rfl : op = .make := c
    refine eqS_T rfl ⟨_, rfl, _, rfl, q, _, 1, _, rfl, rfl, SqT.of hq, at_of (j := 1) rfl rfl, _, rfl, fun cc hcc => ⟨sz3, fun sq hsq => ?_⟩⟩
    have s2 := same_upd' (same_upd hcc (o := .dK [])) hsq (o := .tup [.int 64, .ref cc, .ref (He.ga K "NO_FENCE")])
    exact ⟨st, sq, S, [], rfl, SA.keep (same_imm s2), ⟨cc, _, upd_same, upd_old upd_same hsq, k_FENCE T _⟩, fun p H' s3 e => k p H' (s2.trans s3) e⟩
  have hc := hm.resolve_left c
  have sp : ¬ r.top.word = "space" := by
    obtain ⟨_, _, _, o⟩ := r
    cases o with
    | make => exact absurd rfl c
    | write p v => exact (show ¬ ("place" : Str) = "space" by decide +kernel)
    | trim p => exact (show ¬ ("place" : Str) = "space" by decide +kernel)
    | snap => exact (show ¬ ("snap" : Str) = "space" by decide +kernel)
    | drop n => exact (show ¬ ("snap" : Str) = "space" by decide +kernel)
  refine eqS_F sp ?_
  have SA0 := SA
  obtain ⟨kvs, ds, dn, dm, e1, e2, e3, e4, e5, e6, e7, e8, e9⟩ := SA
  obtain ⟨cs, hcs⟩ := Option.ne_none_iff_exists'.mp hc
  rw [hcs] at e7
  obtain ⟨sq, hq0, _⟩ := e7
  refine ⟨_, rfl, q, _, 1, _, rfl, rfl, SqT.of hq, at_of (j := 1) rfl (key_five _ hh), _, rfl, st, _, rfl, get_st e1 e4, ds, _, rfl, .inl ⟨_, .inl 5, .inl hq0, rfl, rfl⟩, _, rfl, iteF ?_⟩
  exact ⟨_, rfl, _, rfl, _, rfl, st, q, S, r, rfl, SA0, ok, hc, c, hq, fun p H' s e => k p H' s e⟩
def sp_apply_record (K : PySem.W.Frag) : Sp := fun vs H Q _ => ∃ (st a : Addr) (S : Sta) (r : Rec), vs = [.ref st, .ref a] ∧ StaA K H st S ∧ S.Ok 800 ∧ RecAt H a r ∧ (r.op = .make ∨ S.cells ≠ none) ∧ Mk0 H Q fun p H' => StaA K H' p (S.app r)
theorem sc_apply_record : FnScope ["state", "record", "topic", "value"] ["state", "record"] (defScope s_apply_record) := C8.fnScope_by (by decide +kernel)
theorem c_apply_record (T : Tx w K mg) : Cal P w K mg base 5 "apply_record" (sp_apply_record K) [] := by
  refine K_apply_record T sc_apply_record (fun _ _ _ _ _ _ us hl => match us, hl with | [_, _], _ => rfl) (by walk_at "len") (fun cdv A outer s H vs Q E hr h => ?_)
  have nd := sc_apply_record.nd
  have hu := hu_of hr
  refine ⟨_, (pss_cons (ps_set (i := 0) nd rfl (Or.inl rfl) (C8.pe_c (c_with_entry T) hr (by decide) (by rfl) (pa_cons (pv 0) (pa_cons pe_str (pa_cons (pe_ix ix_tup (pv 1) pe_int (fun _ _ => rfl)) pa_nil)))))
      (pss_cons (ps_for PassesOwn.never rfl (pi_list (C8.pe_c (c_effects T) hr (by decide) (by rfl) (pa_cons (pv 1) pa_nil))) (pg_tup rfl (pgs_cons (pg_name (i := 2) nd rfl (Or.inl rfl)) (pgs_cons (pg_name (i := 3) nd rfl (Or.inl rfl)) pgs_nil))) (pss_one (ps_set (i := 0) nd rfl (Or.inl rfl) (C8.pe_c (c_apply_effect T) hr (by decide) (by rfl) (pa_cons (pv 0) (pa_cons (pv 2) (pa_cons (pv 3) pa_nil)))))))
      (pss_one (ps_ret (pv 0))))), ?_⟩
  obtain ⟨st, a, S, r, rfl, SA, ok, hR, hm, k⟩ := h
  obtain ⟨v0, _⟩ := vals_at r
  obtain ⟨kvs, ds, dn, dm, e1, e2, e3, e4, e5, e6, e7, e8, e9⟩ := SA
  obtain ⟨q1, q2, q3⟩ := st_with e2
  refine ⟨_, rfl, _, rfl, a, _, 0, _, rfl, rfl, SqT.of hR, at_of (j := 0) rfl v0, st, kvs, .inr "order", .int r.ord, rfl, e1, q1, q2, q3, stK_shaped _ (by unfold stK; simp), fun p1 H1 s1 f1 h1 => ?_⟩
  have im := same_imm s1
  have SA1 : StaA K H1 p1 { S with order := r.ord } := StaA.order e2 e4 e5 e6 r.ord h1 (SpacesAt.keep im e7) (SnapsAt.keep im e8) (MarksAt.keep im e9)
  refine ⟨_, rfl, a, r, rfl, s1 _ _ hR, fun l H2 s2 f2 ⟨w1, w2, hv, n, el, ef1, ehv, en, ef2⟩ => ⟨l, rfl, ⟨_, SqL.of el⟩, ?_⟩⟩
  have s12 := s1.trans s2
  have SA2 := SA1.keep (same_imm s2)
  have ok0 : Sta.Ok 900 { S with order := r.ord } := Sta.Ok.mono (n := 800) ⟨ok.cl, ok.sn, ok.mr⟩ (by decide)
  have ok1 : Sta.Ok 900 { S with order := r.ord, marks := withE S.marks r.host (r.ctr, r.ans) } := Sta.Ok.mono (n := 801) ⟨(ok.mono (Nat.le_succ 800)).cl, (ok.mono (Nat.le_succ 800)).sn, withE_nd ok.mr.1 _ _, Nat.le_trans (withE_len _ _ _) (Nat.succ_le_succ ok.mr.2)⟩ (by decide)
  have e2' : Sta.op { S with order := r.ord, marks := withE S.marks r.host (r.ctr, r.ans) } r.ord r.op = S.app r := by
    unfold Sta.app
    cases r.op <;> rfl
  refine for_list (K := K) (a := l) (xs := [.ref w1, .ref w2]) (fun j σ H' => ∃ st' v2 v3 S', σ = [some (.ref st'), some (.ref a), v2, v3] ∧ Same H2 H' ∧ StaA K H' st' S' ∧ [({ S with order := r.ord } : Sta), { S with order := r.ord, marks := withE S.marks r.host (r.ctr, r.ans) }, S.app r][j]? = some S') ?_ ?_ ?_ ?_
  · exact ⟨p1, _, _, _, rfl, Same.refl H2, SA2, rfl⟩
  · rintro j σ H' _ ⟨_, _, _, _, _, s, _⟩
    exact SqL.of (s _ _ el)
  · rintro j x σ H' hx ⟨st', v2, v3, S', rfl, s, SA', eS⟩
    have im' := same_imm s
    match j, hx with
    | 0, hx =>
      obtain rfl := Option.some.inj eS
      obtain rfl := Option.some.inj hx
      obtain ⟨q, hp, hq⟩ := ef1.keep im'
      refine ⟨w1, _, rfl, SqT.of hp, rfl, _, _, rfl, _, _, rfl, rfl, ?_⟩
      refine ⟨_, rfl, _, rfl, _, rfl, st', q, _, _, _, rfl, SA', ok0, .inl ⟨hv, n, r.host, r.ctr, r.ans, rfl, hq, s _ _ ehv, s _ _ en, rfl⟩, fun p H4 s4 e => ?_⟩
      exact ⟨p, _, _, _, rfl, s.trans s4, e, rfl⟩
    | 1, hx =>
      obtain rfl := Option.some.inj eS
      obtain rfl := Option.some.inj hx
      obtain ⟨q, hp, hq⟩ := ef2.keep im'
      refine ⟨w2, _, rfl, SqT.of hp, rfl, _, _, rfl, _, _, rfl, rfl, ?_⟩
      refine ⟨_, rfl, _, rfl, _, rfl, st', q, _, _, _, rfl, SA', ok1, .inr ⟨r, rfl, hq, hm, rfl⟩, fun p H4 s4 e => ?_⟩
      exact ⟨p, _, _, _, rfl, s.trans s4, e2' ▸ e, rfl⟩
  · rintro σ H' ⟨st', v2, v3, S', rfl, s, SA', eS⟩
    obtain rfl := Option.some.inj eS
    exact ⟨_, rfl, k st' H' (s12.trans s) SA'⟩
/-- a chain of records: only makes where nothing is made -/
def Chain (rs : List Rec) : Prop := ∀ i r, rs[i]? = some r → r.op = .make ∨ (foldS (rs.take i)).cells ≠ none
theorem foldS_succ {rs : List Rec} {i : Nat} {r : Rec} (h : rs[i]? = some r) : foldS (rs.take (i + 1)) = (foldS (rs.take i)).app r := by
  unfold foldS
  rw [List.take_add_one, h, List.foldl_append] <;> rfl
def sp_fold (K : PySem.W.Frag) : Sp := fun vs H Q _ => ∃ (l : Addr) (rs : List Rec), vs = [.ref l] ∧ RecL H l rs ∧ Asc rs ∧ rs.length < 64 ∧ Chain rs ∧ Mk0 H Q fun p H' => StaA K H' p (foldS rs)
theorem sc_fold : FnScope ["records", "by_order", "record", "state", "order"] ["records"] (defScope s_fold) := C8.fnScope_by (by decide +kernel)
theorem c_fold (T : Tx w K mg) : Cal P w K mg base 6 "fold" (sp_fold K) [] := by
  refine K_fold T sc_fold (fun _ _ _ _ _ _ us hl => match us, hl with | [_], _ => rfl) (by walk_at "len") (fun cdv A outer s H vs Q E hr h => ?_)
  have nd := sc_fold.nd
  have hu := hu_of hr
  refine ⟨_, (pss_cons (ps_setDc (i := 1) (own := [("record", 2)]) rfl nd rfl rfl (sw_trueD rfl rfl rfl (by decide +kernel)) (pi_list (pv 0)) (blkOk_by (N := (["records", "by_order", "record", "state", "order"] : List Str)) (sc := (defScope s_fold)) (by decide +kernel)) (fun _ _ _ _ _ => (pg_name (i := 2) nd rfl (Or.inl rfl))) (fun _ _ _ _ _ => pts_nil) (fun _ _ _ _ _ => (pe_ix (ix_tupK (K := K) rfl) (pv 2) pe_int (fun _ _ => rfl))) (fun _ _ _ _ _ => (pv 2)))
      (pss_cons (ps_set (i := 3) nd rfl (Or.inl rfl) (pe_c0 (c_new_state T) hr (by decide) (by rfl)))
      (pss_cons (ps_for PassesOwn.never rfl (pi_list (pe_callB (call_sortedDI rfl) (by rfl) (b_sorted T) (by decide +kernel) (pa_cons (pv 1) pa_nil))) (pg_name (i := 4) nd rfl (Or.inl rfl)) (pss_one (ps_set (i := 3) nd rfl (Or.inl rfl) (C8.pe_c (c_apply_record T) hr (by decide) (by rfl) (pa_cons (pv 3) (pa_cons (pe_dget hu (pv 1) (pv 4) (fun _ _ => rfl)) pa_nil))))))
      (pss_one (ps_ret (pv 3)))))), ?_⟩
  obtain ⟨l, rs, rfl, ⟨as, hl, hrs⟩, asc, h64, ch, k⟩ := h
  have hlen : as.length = rs.length := Paired.length hrs
  have hlO : (ordKV as rs).length = rs.length := by unfold ordKV; rw [List.length_zipWith]; omega
  refine ⟨_, rfl, l, rfl, ⟨_, SqL.of hl⟩, fun D hD => dc_list (K := K) (a := l) (xs := as.map V.ref) (fun i H' => H' = upd H D (.dK ((ordKV as rs).take i))) rfl (fun i H' _ e => by rw [e]; exact SqL.of (upd_old hl hD)) ?_ ?_⟩
  · rintro i x H' hx rfl
    obtain ⟨a, ha, rfl⟩ := refs_i hx
    obtain ⟨r, hr, hR⟩ := L2.paired_get hrs ha
    obtain ⟨v0, _⟩ := vals_at r
    refine ⟨rfl, yesT ?_⟩
    refine ⟨_, rfl, a, _, 0, _, rfl, rfl, SqT.of (upd_old hR hD), at_of (j := 0) rfl v0, _, rfl, (ordKV as rs).take i, Sum.inl r.ord, rfl, upd_same, ?_, ?_⟩
    · have : ((ordKV as rs).take i).length ≤ (ordKV as rs).length := by rw [List.length_take]; exact Nat.min_le_right _ _
      exact small1000 (by omega)
    · rw [upd_upd, ordKV_put hlen asc ha hr]
  rintro H' rfl
  rw [List.length_map, hlen, List.take_of_length_le (by omega)]
  have s1 := same_upd hD (o := .dK (ordKV as rs))
  have hD1 := upd_same (H := H) (a := D) (o := .dK (ordKV as rs))
  revert s1 hD1
  generalize (upd H D (.dK (ordKV as rs))) = H1
  intro s1 hD1
  refine ⟨rfl, fun st H2 s2 _ SA => ?_⟩
  refine ⟨_, rfl, D, ordKV as rs, rs.map (·.ord), rfl, .inl (s2 _ _ hD1), ordKV_keys hlen, by rw [List.length_map]; exact h64, fun ys c perm srt hc => ?_⟩
  obtain rfl : ys = rs.map (·.ord) := List.Perm.eq_of_pairwise (fun a b _ _ h1 h2 => Int.le_antisymm h1 h2) srt (asc.ords.imp fun e => Int.le_of_lt e) perm
  have s3 := same_upd hc (o := .lst ((rs.map (·.ord)).map V.int))
  have s13 := s2.trans s3
  refine ⟨c, rfl, ⟨_, SqL.of upd_same⟩, ?_⟩
  have ll : ((rs.map (·.ord)).map V.int).length = rs.length := by rw [List.length_map, List.length_map]
  have hc1 := upd_same (H := H2) (a := c) (o := .lst ((rs.map (·.ord)).map V.int))
  have SA3 := SA.keep (same_imm s3)
  revert s3 s13 hc1 SA3
  generalize (upd H2 c (.lst ((rs.map (·.ord)).map V.int))) = H3
  intro s3 s13 hc1 SA3
  refine for_list (K := K) (a := c) (xs := (rs.map (·.ord)).map V.int) (fun i σ H' => ∃ st' v4, σ = [some (.ref l), some (.ref D), none, some (.ref st'), v4] ∧ Same H3 H' ∧ StaA K H' st' (foldS (rs.take i))) ?_ ?_ ?_ ?_
  · exact ⟨st, _, rfl, Same.refl _, SA3⟩
  · rintro i σ H' _ ⟨_, _, _, s, _⟩
    exact SqL.of (s _ _ hc1)
  · rintro i x σ H' hx ⟨st', v4, rfl, s, SA'⟩
    obtain ⟨m, hm, rfl⟩ := ints_i hx
    rw [List.getElem?_map] at hm
    obtain ⟨r, hr, rfl⟩ := Option.map_eq_some_iff.mp hm
    have hil : i < as.length := by rw [hlen]; exact (List.getElem?_eq_some_iff.mp hr).1
    have ha : as[i]? = some as[i] := List.getElem?_eq_getElem hil
    have hR := paired_two hrs ha hr
    have ok : (foldS (rs.take i)).Ok 800 := (foldS_ok (rs.take i)).mono (by rw [List.length_take]; omega)
    refine ⟨_, rfl, _, rfl, _, rfl, D, .ref as[i], rfl, ?_, st', as[i], _, r, rfl, SA', ok, s _ _ (s13 _ _ (s1 _ _ hR)), ch i r hr, fun p H4 s4 e => ?_⟩
    · rw [← val_mem (ordKV_nodup hlen asc) (List.mem_of_getElem? (ordKV_at ha hr))]
      exact DGet.k (k := .inl r.ord) (s _ _ (s13 _ _ hD1))
    · exact ⟨p, _, rfl, s.trans s4, by rw [foldS_succ hr]; exact e⟩
  · rintro σ H' ⟨st', v4, rfl, s, SA'⟩
    rw [ll, List.take_length] at SA'
    exact ⟨_, rfl, k st' H' ((s1.trans s13).trans s) SA'⟩
end
end L2.Sg
set_option Elab.async false
set_option linter.all false
set_option maxRecDepth 100000
set_option maxHeartbeats 4000000
namespace L2.Sg
open PySem PySem.Spec PyProof.Rows
open C8 (Cal Met Mak pe_c pe_mt pe_mt0 pe_mk tCut pss_cut)
local macro_rules | `(tactic| walk_at "len") => `(tactic| (intro vs H Q E h; first | (obtain ⟨e, _⟩ := h; subst e; rfl) | (obtain ⟨_, e, _⟩ := h; subst e; rfl) | (obtain ⟨_, _, e, _⟩ := h; subst e; rfl) | (obtain ⟨_, _, _, e, _⟩ := h; subst e; rfl) | (obtain ⟨_, _, _, _, e, _⟩ := h; subst e; rfl) | (obtain ⟨_, _, _, _, _, e, _⟩ := h; subst e; rfl) | (obtain ⟨_, _, _, _, _, _, e, _⟩ := h; subst e; rfl) | (obtain ⟨_, _, _, _, _, _, _, e, _⟩ := h; subst e; rfl) | (obtain ⟨_, _, _, _, _, _, _, _, e, _⟩ := h; subst e; rfl) | (obtain ⟨_, _, _, _, _, _, _, _, _, e, _⟩ := h; subst e; rfl) | (obtain ⟨_, _, _, _, _, _, _, _, _, _, e, _⟩ := h; subst e; rfl) | (obtain ⟨_, _, _, _, _, _, _, _, _, _, _, e, _⟩ := h; subst e; rfl) | (obtain ⟨_, _, _, _, _, _, _, _, _, _, _, _, e, _⟩ := h; subst e; rfl) | (obtain ⟨_, _, _, _, _, _, _, _, _, _, _, _, _, e, _⟩ := h; subst e; rfl) | (obtain ⟨_, _, _, _, _, _, _, _, _, _, _, _, _, _, e, _⟩ := h; subst e; rfl) | (obtain ⟨_, _, _, _, _, _, _, _, _, _, _, _, _, _, _, e, _⟩ := h; subst e; rfl)))
local macro_rules | `(tactic| walk_at "ns") => `(tactic| (try dsimp only [Op.kind, Tp.word, Rec.top]); decide +kernel)
structure Adr where
  st : Addr
  lg : Addr
  lh : Addr
  fl : Addr
  fh : Addr
  fw : Addr
  fb : List Addr
  lb : List Addr
def stF (z : Adr) (sd wl : Addr) : List (Str × V) := [("flash", .ref z.fl), ("log", .ref z.lg), ("state", .ref sd), ("waiting", .ref wl)]
abbrev LgZ (K : PySem.W.Frag) (H : Hp) (z : Adr) (as : List Addr) : Prop := LgA K H z.lg z.lh z.fl z.fh z.fw z.fb z.lb as
/-- a store: as the records in the flash, ws those that wait, rs what they are -/
structure StoA (K : PySem.W.Frag) (H : Hp) (z : Adr) (wl : Addr) (as ws : List Addr) (rs : List Rec) : Prop where
  ins : ∃ dx sd, H z.st = some (.ins (He.ga K "Store") dx (stF z sd wl)) ∧ StaA K H sd (foldS rs)
  wt : H wl = some (.lst (ws.map V.ref))
  lg : LgZ K H z as
  recs : RecsAt H (as ++ ws) rs
  wo : wl ∉ z.fb ∧ wl ∉ z.lb ∧ wl ≠ z.lh ∧ wl ≠ z.fh ∧ wl ≠ z.fw
def Fr (z : Adr) (wl : Addr) (H H' : Hp) : Prop := ∀ b o, H b = some o → b ≠ z.st → b ≠ z.lg → b ∉ z.fb → b ∉ z.lb → b ≠ wl → H' b = some o
theorem LgZ.lst {K : PySem.W.Frag} {H : Hp} {z : Adr} {as : List Addr} (G : LgZ K H z as) : (∀ b ∈ z.fb, ∃ xs, H b = some (.lst xs)) ∧ ∀ b ∈ z.lb, ∃ xs, H b = some (.lst xs) := by
  refine ⟨fun b hb => ?_, fun b hb => ?_⟩
  · obtain ⟨i, hi⟩ := List.mem_iff_getElem?.mp hb
    exact ⟨_, G.fl.bk.blks _ _ hi⟩
  · obtain ⟨i, hi⟩ := List.mem_iff_getElem?.mp hb
    exact ⟨_, G.bk.blks _ _ hi⟩
theorem ins_ne {H : Hp} {a b C D dx dy : Addr} {fs gs : List (Str × V)} (e : H a = some (.ins C dx fs)) (f : H b = some (.ins D dy gs)) (d : fs.length ≠ gs.length) : a ≠ b := fun z => by
  rw [z, f] at e
  have := congrArg (fun o : Option HO => match o with | some (.ins _ _ fs) => fs.length | _ => 0) e
  exact d this.symm
/-- what is no list and no instance stays -/
theorem Fr.imm {K : PySem.W.Frag} {H H' : Hp} {z : Adr} {wl : Addr} {as ws : List Addr} {rs : List Rec} (S : StoA K H z wl as ws rs) (f : Fr z wl H H') : Imm H H' := by
  intro b o e d
  obtain ⟨dx, sd, hst, _⟩ := S.ins
  obtain ⟨dx2, hlg⟩ := S.lg.ins
  obtain ⟨l1, l2⟩ := LgZ.lst S.lg
  have nl : ∀ {c xs}, H c = some (.lst xs) → b ≠ c := fun h => ne_of e h fun q => by rw [q] at d; cases d
  refine f b o e (ne_of e hst fun q => by rw [q] at d; cases d) (ne_of e hlg fun q => by rw [q] at d; cases d) (fun h => ?_) (fun h => ?_) (nl S.wt)
  · obtain ⟨xs, hx⟩ := l1 b h
    exact nl hx rfl
  · obtain ⟨xs, hx⟩ := l2 b h
    exact nl hx rfl
theorem StoA.keep {K : PySem.W.Frag} {H H' : Hp} {z : Adr} {wl : Addr} {as ws : List Addr} {rs : List Rec} (S : StoA K H z wl as ws rs) (s : Same H H') : StoA K H' z wl as ws rs := by
  obtain ⟨dx, sd, hst, sa⟩ := S.ins
  exact ⟨⟨dx, sd, s _ _ hst, sa.keep (same_imm s)⟩, s _ _ S.wt, S.lg.keep s, S.recs.keep (same_imm s), S.wo⟩
theorem StoA.recL {K : PySem.W.Frag} {H : Hp} {z : Adr} {wl l : Addr} {as ws : List Addr} {rs : List Rec} (S : StoA K H z wl as ws rs) (e : H l = some (.lst ((as ++ ws).map V.ref))) : RecL H l rs := ⟨_, e, S.recs⟩
theorem paired_split {α β : Type} {F : α → β → Prop} {xs xs' : List α} {ys : List β} (h : Paired F (xs ++ xs') ys) : Paired F xs (ys.take xs.length) ∧ Paired F xs' (ys.drop xs.length) := by
  have a := paired_take xs.length h
  have b := paired_drop xs.length h
  rw [List.take_left] at a
  rw [List.drop_left] at b
  exact ⟨a, b⟩
theorem Asc.take {rs : List Rec} (h : Asc rs) (n : Nat) : Asc (rs.take n) := h.sublist (List.take_sublist _ _)
theorem FlA.at_ {K : PySem.W.Frag} {H H' : Hp} {fl fh fw p C dx : Addr} {fb as : List Addr} {fs : List (Str × V)} (F : FlA K H fl fh fw fb as) (hp : H p = some (.ins C dx fs)) (hl : fs.length ≠ 6) (k : ∀ b o, H b = some o → b ≠ p → H' b = some o) : FlA K H' fl fh fw fb as := by
  obtain ⟨dxF, hf⟩ := F.ins
  have lp : ∀ {b xs}, H b = some (.lst xs) → b ≠ p := fun e => ne_of e hp fun z => nomatch z
  refine ⟨⟨dxF, k _ _ hf (ins_ne hf hp fun z => hl z.symm)⟩, F.bk.keep (fun b o hb e => k b o e ?_), k _ _ F.wr (lp F.wr), F.wo⟩
  rcases hb with rfl | hb
  · exact lp F.bk.held
  · obtain ⟨i, hi⟩ := List.mem_iff_getElem?.mp hb
    exact lp (F.bk.blks _ _ hi)
theorem LgA.at_ {K : PySem.W.Frag} {H H' : Hp} {lg lh fl fh fw p C dx : Addr} {fb lb as : List Addr} {fs : List (Str × V)} (G : LgA K H lg lh fl fh fw fb lb as) (hp : H p = some (.ins C dx fs)) (hl : fs.length ≠ 6) (hn : lg ≠ p) (k : ∀ b o, H b = some o → b ≠ p → H' b = some o) : LgA K H' lg lh fl fh fw fb lb as := by
  obtain ⟨dx2, h⟩ := G.ins
  have lp : ∀ {b xs}, H b = some (.lst xs) → b ≠ p := fun e => ne_of e hp fun z => nomatch z
  refine ⟨⟨dx2, k _ _ h hn⟩, G.bk.keep (fun b o hb e => k b o e ?_), G.fl.at_ hp hl k, G.dj, G.dh⟩
  rcases hb with rfl | hb
  · exact lp G.bk.held
  · obtain ⟨i, hi⟩ := List.mem_iff_getElem?.mp hb
    exact lp (G.bk.blks _ _ hi)
def fitsN (rs : List Rec) (r : Rec) : Bool := match r.op with
  | .trim _ => true
  | .drop _ => true
  | _ => decide (2 * (rs.length + 1) ≤ 23) || decide (needN (rs ++ [r]) ≤ 23)
section
variable {P : Program} {w : World} {K : PySem.W.Frag} {base : Heap} {mg : Str → Option Value}
theorem c_need_ix (T : Tx w K mg) : Cal P w K mg base 7 "need_index" sp_need [] := by
  obtain ⟨f, fd, ps, ds, F, hm, kp, b, d⟩ := (c_need (P := P) (base := base) T).ex
  obtain ⟨_, X, G⟩ := T.h
  have e1 := He.glo_ok X G (T.f 13 (f := .glo "need"))
  have e2 := He.glo_ok X G (T.f 38 (f := .glo "need_index"))
  rw [k_need T, ← e1] at e2
  exact ⟨f, fd, ps, ds, F, e2.trans hm, kp, b, d⟩
def sp_Store_init (K : PySem.W.Frag) : Sp := fun vs H Q _ => ∃ (p dx fl fh fw : Addr) (fb as : List Addr) (rs : List Rec), vs = [.ref p, .ref fl] ∧ H p = some (.ins (He.ga K "Store") dx []) ∧ FlA K H fl fh fw fb as ∧ RecsAt H as rs ∧ Asc rs ∧ rs.length < 64 ∧ Chain rs ∧
  ∀ H' lg lh lb wl, StoA K H' ⟨p, lg, lh, fl, fh, fw, fb, lb⟩ wl as [] rs → (∀ b o, H b = some o → b ≠ p → H' b = some o ∧ b ≠ lg ∧ b ∉ lb ∧ b ≠ wl) → Q .non H'
theorem sc_Store_init : FnScope ["self", "flash"] ["self", "flash"] (defScope s_Store_init) := C8.fnScope_by (by decide +kernel)
theorem c_Store_init (T : Tx w K mg) : Mak P w K mg base 7 "Store" (He.ga K "Store") (sp_Store_init K) [] := by
  refine K_Store_init T sc_Store_init (fun _ _ _ _ _ _ us hl => match us, hl with | [_, _], _ => rfl) (by walk_at "len") (fun cdv A outer s H vs Q E hr h => ?_)
  have nd := sc_Store_init.nd
  have hu := hu_of hr
  refine ⟨_, (pss_cons (ps_fld (pv 0) (pv 1) rfl)
      (pss_cons (ps_fld (pv 0) (C8.pe_mk (c_Log_init T) hr (by decide) (by rfl) (pa_cons (pv 1) pa_nil)) rfl)
      (pss_cons (ps_fld (pv 0) (C8.pe_c (c_fold T) hr (by decide) (by rfl) (pa_cons (C8.pe_mt0 (c_Log_records T) hr (by decide) (pe_fld (pv 0) rfl)) pa_nil)) rfl)
      (pss_one (ps_fld (pv 0) (pe_lst pa_nil) rfl))))), ?_⟩
  obtain ⟨p, dx, fl, fh, fw, fb, as, rs, rfl, hp, F, hrs, asc, h64, ch, k⟩ := h
  obtain ⟨dxF, hf⟩ := F.ins
  have sz0 : 0 ≤ sizeLine := by decide
  have hlen : as.length = rs.length := Paired.length hrs
  refine ⟨_, rfl, _, rfl, p, _, dx, [], rfl, hp, cls_Store T, at_Store_flash T, by decide, ?_⟩
  have f1 : ∀ b o, H b = some o → b ≠ p → (upd H p (.ins (He.ga K "Store") dx (putF "flash" (.ref fl) []))) b = some o := fun b o e z => by rw [upd_ne z]; exact e
  have hp1 := upd_same (H := H) (a := p) (o := .ins (He.ga K "Store") dx (putF "flash" (.ref fl) []))
  have F1 := F.at_ hp (by decide) f1
  revert f1 hp1 F1
  generalize (upd H p (.ins (He.ga K "Store") dx (putF "flash" (.ref fl) []))) = H1
  intro f1 hp1 F1
  refine ⟨_, rfl, fun lg dxl hlg hdxl dne => ?_⟩
  have sA := same_upd hdxl (o := .own lg)
  have hlgA : (upd H1 dxl (.own lg)) lg = none := by rw [upd_ne dne.symm]; exact hlg
  have sB := same_upd' sA hlgA (o := .ins (He.ga K "Log") dxl [])
  refine ⟨lg, dxl, fl, fh, fw, fb, as, rfl, upd_same, F1.keep sB, by omega, fun H2 lh lb G fr => ⟨rfl, ?_⟩⟩
  have lgp : lg ≠ p := (ne_of_none hp1 hlg).symm
  have fr2 : ∀ b o, H1 b = some o → H2 b = some o ∧ b ∉ lb := fun b o e => fr b o (sB _ _ e) (ne_of_none e hlg)
  have hp2 := (fr2 _ _ hp1).1
  refine ⟨_, rfl, p, _, dx, _, rfl, hp2, cls_Store T, at_Store_log T, by show 1 < 1000; decide, ?_⟩
  have f3 : ∀ b o, H2 b = some o → b ≠ p → (upd H2 p (.ins (He.ga K "Store") dx (putF "log" (.ref lg) (putF "flash" (.ref fl) [])))) b = some o := fun b o e z => by rw [upd_ne z]; exact e
  have hp3 := upd_same (H := H2) (a := p) (o := .ins (He.ga K "Store") dx (putF "log" (.ref lg) (putF "flash" (.ref fl) [])))
  have G3 := G.at_ hp2 (by show 1 ≠ 6; decide) lgp f3
  revert f3 hp3 G3
  generalize (upd H2 p (.ins (He.ga K "Store") dx (putF "log" (.ref lg) (putF "flash" (.ref fl) [])))) = H3
  intro f3 hp3 G3
  have g3 : ∀ b o, H b = some o → b ≠ p → H3 b = some o := fun b o e z => f3 _ _ (fr2 _ _ (f1 _ _ e z)).1 z
  have hrs3 : RecsAt H3 as rs := mapP hrs fun a r e => g3 _ _ e (ne_of e hp fun z => nomatch z)
  obtain ⟨dxl3, hlg3⟩ := G3.ins
  refine ⟨_, rfl, p, _, dx, _, _, rfl, hp3, cls_Store T, at_Store_log T, rfl, lg, dxl3, _, rfl, hlg3, rfl, lg, lh, fl, fh, fw, fb, lb, as, rs, rfl, G3, hrs3, asc, h64, fun l H4 s4 f4 e4 => ?_⟩
  refine ⟨l, rs, rfl, ⟨as, e4, hrs3.keep (same_imm s4)⟩, asc, h64, ch, fun sd H5 s5 sa => ?_⟩
  have s45 := s4.trans s5
  have hp5 := s45 _ _ hp3
  refine ⟨_, rfl, p, _, dx, _, rfl, hp5, cls_Store T, at_Store_state T, by show 2 < 1000; decide, ?_⟩
  refine ⟨sz0, fun wl hwl => ⟨_, rfl, p, _, dx, _, rfl, upd_old upd_same hwl, cls_Store T, at_Store_waiting T, by show 3 < 1000; decide, ?_⟩⟩
  have wlp : wl ≠ p := (ne_of_none upd_same hwl).symm
  have h5w : H5 wl = none := by rw [upd_ne wlp] at hwl; exact hwl
  have f6 : ∀ b o, H5 b = some o → b ≠ p → (upd (upd (upd H5 p (.ins (He.ga K "Store") dx (putF "state" (.ref sd) (putF "log" (.ref lg) (putF "flash" (.ref fl) []))))) wl (.lst [])) p (.ins (He.ga K "Store") dx (putF "waiting" (.ref wl) (putF "state" (.ref sd) (putF "log" (.ref lg) (putF "flash" (.ref fl) [])))))) b = some o := fun b o e z => by
    rw [upd_ne z]
    exact upd_old (by rw [upd_ne z]; exact e) hwl
  have imp : ∀ b o, H5 b = some o → isDat o = true → b ≠ p := fun b o e d => ne_of e hp5 fun q => by rw [q] at d; cases d
  have h5 : ∀ b o, H b = some o → b ≠ p → H5 b = some o := fun b o e z => s45 _ _ (g3 _ _ e z)
  have G5 := G3.keep s45
  obtain ⟨l1, l2⟩ := LgZ.lst (z := ⟨p, lg, lh, fl, fh, fw, fb, lb⟩) G5
  have wn : ∀ {b o}, H5 b = some o → wl ≠ b := fun e q => by rw [← q, h5w] at e; cases e
  refine k _ lg lh lb wl ⟨⟨dx, sd, upd_same, sa.keep fun b o e d => f6 b o e (imp b o e d)⟩, ?_, G5.at_ hp5 (by show 2 ≠ 6; decide) lgp f6, ?_, ⟨fun h => ?_, fun h => ?_, wn G5.bk.held, wn G5.fl.bk.held, wn G5.fl.wr⟩⟩ fun b o e z => ⟨f6 _ _ (h5 _ _ e z) z, ?_, ?_, ?_⟩
  · rw [upd_ne wlp]; exact upd_same
  · rw [List.append_nil]
    exact mapP hrs fun a r e => f6 _ _ (h5 _ _ e (ne_of e hp fun z => nomatch z)) (ne_of e hp fun z => nomatch z)
  · obtain ⟨xs, hx⟩ := l1 wl h
    exact wn hx rfl
  · obtain ⟨xs, hx⟩ := l2 wl h
    exact wn hx rfl
  · exact ne_of_none (f1 _ _ e z) hlg
  · exact (fr2 _ _ (f1 _ _ e z)).2
  · exact (wn (h5 _ _ e z)).symm
def sp_next_order (K : PySem.W.Frag) : Sp := fun vs H Q _ => ∃ (z : Adr) (wl : Addr) (as ws : List Addr) (rs : List Rec), vs = [.ref z.st] ∧ StoA K H z wl as ws rs ∧ Q (.int ((foldS rs).order + 1)) H
theorem sc_Store_next_order : FnScope ["self"] ["self"] (defScope s_Store_next_order) := C8.fnScope_by (by decide +kernel)
theorem c_Store_next_order (T : Tx w K mg) : Met P w K mg base 1 (He.ga K "Store") "next_order" (sp_next_order K) [] := by
  refine K_Store_next_order T sc_Store_next_order (fun _ _ _ _ _ _ us hl => match us, hl with | [_], _ => rfl) (by walk_at "len") (fun cdv A outer s H vs Q E hr h => ?_)
  have nd := sc_Store_next_order.nd
  have hu := hu_of hr
  refine ⟨_, (pss_one (ps_ret (pe_op op_add (pe_dget hu (pe_fld (pv 0) rfl) pe_str (fun _ _ => rfl)) pe_int))), ?_⟩
  obtain ⟨z, wl, as, ws, rs, rfl, S, k⟩ := h
  obtain ⟨dx, sd, hst, sa⟩ := S.ins
  obtain ⟨kvs, ds, dn, dm, e1, e2, e3, _⟩ := sa
  exact ⟨_, rfl, z.st, _, dx, _, _, rfl, hst, cls_Store T, at_Store_state T, rfl, sd, _, rfl, get_st e1 e3, _, _, rfl, rfl, k⟩
def sp_Store_records (K : PySem.W.Frag) : Sp := fun vs H Q _ => ∃ (z : Adr) (wl : Addr) (as ws : List Addr) (rs : List Rec), vs = [.ref z.st] ∧ StoA K H z wl as ws rs ∧ Asc rs ∧ rs.length < 64 ∧ Mk1 H Q fun l H' => H' l = some (.lst ((as ++ ws).map V.ref))
theorem sc_Store_records : FnScope ["self"] ["self"] (defScope s_Store_records) := C8.fnScope_by (by decide +kernel)
theorem c_Store_records (T : Tx w K mg) : Met P w K mg base 2 (He.ga K "Store") "records" (sp_Store_records K) [] := by
  refine K_Store_records T sc_Store_records (fun _ _ _ _ _ _ us hl => match us, hl with | [_], _ => rfl) (by walk_at "len") (fun cdv A outer s H vs Q E hr h => ?_)
  have nd := sc_Store_records.nd
  have hu := hu_of hr
  refine ⟨_, (pss_one (ps_ret (pe_op op_cat (C8.pe_mt0 (c_Log_records T) hr (by decide) (pe_fld (pv 0) rfl)) (pe_callTy (call_list_of) (by rfl) (b_list T) boot_list (pa_cons (pe_fld (pv 0) rfl) pa_nil))))), ?_⟩
  obtain ⟨z, wl, as, ws, rs, rfl, S, asc, h64, k⟩ := h
  obtain ⟨dx, sd, hst, sa⟩ := S.ins
  obtain ⟨dxl, hlg⟩ := S.lg.ins
  obtain ⟨ra, rb⟩ := paired_split S.recs
  have hl := Paired.length S.recs
  rw [List.length_append] at hl
  refine ⟨_, rfl, z.st, _, dx, _, _, rfl, hst, cls_Store T, at_Store_log T, rfl, z.lg, dxl, _, rfl, hlg, rfl, z.lg, z.lh, z.fl, z.fh, z.fw, z.fb, z.lb, as, rs.take as.length, rfl, S.lg, ra, asc.take _, by rw [List.length_take]; omega, fun l H1 s1 f1 e1 => ?_⟩
  refine ⟨_, rfl, z.st, _, dx, _, _, rfl, s1 _ _ hst, cls_Store T, at_Store_waiting T, rfl, wl, _, rfl, .inl (SqL.of (s1 _ _ S.wt)), fun l2 h2 => ?_⟩
  refine ⟨l, l2, _, _, rfl, rfl, upd_old e1 h2, upd_same, ?_, fun l3 h3 => ?_⟩
  · rw [List.length_map, List.length_map]
    exact Nat.le_of_lt (small1000 (by omega))
  · have s2 := same_upd' s1 h2 (o := .lst (ws.map V.ref))
    exact k l3 _ (same_upd' s2 h3) (s2.free h3) (upd_same.trans (by rw [List.map_append]))
def sp_limit (K : PySem.W.Frag) : Sp := fun vs H Q _ => ∃ (z : Adr) (wl : Addr) (as ws : List Addr) (rs : List Rec), vs = [.ref z.st] ∧ StoA K H z wl as ws rs ∧ Q (.int 32) H
theorem sc_Store_limit : FnScope ["self"] ["self"] (defScope s_Store_limit) := C8.fnScope_by (by decide +kernel)
theorem c_Store_limit (T : Tx w K mg) : Met P w K mg base 1 (He.ga K "Store") "limit" (sp_limit K) [] := by
  refine K_Store_limit T sc_Store_limit (fun _ _ _ _ _ _ us hl => match us, hl with | [_], _ => rfl) (by walk_at "len") (fun cdv A outer s H vs Q E hr h => ?_)
  have nd := sc_Store_limit.nd
  have hu := hu_of hr
  refine ⟨_, (pss_one (ps_ret (pe_op op_mul (pe_op op_sub (pe_fld (pe_fld (pv 0) rfl) rfl) pe_int) pe_int))), ?_⟩
  obtain ⟨z, wl, as, ws, rs, rfl, S, k⟩ := h
  obtain ⟨dx, sd, hst, sa⟩ := S.ins
  obtain ⟨dxF, hf⟩ := S.lg.fl.ins
  exact ⟨_, rfl, z.st, _, dx, _, _, rfl, hst, cls_Store T, at_Store_flash T, rfl, z.fl, _, dxF, _, _, rfl, hf, cls_Flash T, at_Flash_blocks T, rfl, _, _, rfl, rfl, _, _, rfl, rfl, .inl ⟨by decide, by decide⟩, k⟩
def sp_Store_need (K : PySem.W.Frag) : Sp := fun vs H Q _ => ∃ (z : Adr) (wl : Addr) (as ws : List Addr) (rs : List Rec), vs = [.ref z.st] ∧ StoA K H z wl as ws rs ∧ Asc rs ∧ rs.length < 64 ∧ ∀ H', Same H H' → Q (.int (needN rs)) H'
theorem sc_Store_need : FnScope ["self"] ["self"] (defScope s_Store_need) := C8.fnScope_by (by decide +kernel)
theorem c_Store_need (T : Tx w K mg) : Met P w K mg base 8 (He.ga K "Store") "need" (sp_Store_need K) [] := by
  refine K_Store_need T sc_Store_need (fun _ _ _ _ _ _ us hl => match us, hl with | [_], _ => rfl) (by walk_at "len") (fun cdv A outer s H vs Q E hr h => ?_)
  have nd := sc_Store_need.nd
  have hu := hu_of hr
  refine ⟨_, (pss_one (ps_ret (C8.pe_c (c_need_ix T) hr (by decide) (by rfl) (pa_cons (C8.pe_mt0 (c_Store_records T) hr (by decide) (pv 0)) pa_nil)))), ?_⟩
  obtain ⟨z, wl, as, ws, rs, rfl, S, asc, h64, k⟩ := h
  obtain ⟨dx, sd, hst, sa⟩ := S.ins
  exact ⟨_, rfl, z.st, dx, _, rfl, hst, rfl, z, wl, as, ws, rs, rfl, S, asc, h64, fun l H1 s1 _ e1 => ⟨l, rs, rfl, (S.keep s1).recL e1, asc, h64, fun H2 s2 => k H2 (s1.trans s2)⟩⟩
/-- the record that is to be written next -/
structure NextR (rs : List Rec) (r : Rec) : Prop where
  ord : r.ord = (foldS rs).order + 1
  ok : r.ok
  asc : Asc (rs ++ [r])
  chain : r.op = .make ∨ (foldS rs).cells ≠ none
def sp_need_with (K : PySem.W.Frag) : Sp := fun vs H Q _ => ∃ (z : Adr) (wl fa : Addr) (as ws : List Addr) (rs : List Rec) (r : Rec), vs = [.ref z.st, .str r.op.kind, .int r.host, .int 1, .int r.ctr, .ref fa] ∧ StoA K H z wl as ws rs ∧ NextR rs r ∧ rs.length < 63 ∧ H fa = some (.tup r.op.flds) ∧ ∀ H', Same H H' → Q (.int (needN (rs ++ [r]))) H'
theorem sc_Store_need_with : FnScope ["self", "kind", "host", "session", "counter", "fields", "record"] ["self", "kind", "host", "session", "counter", "fields"] (defScope s_Store_need_with) := C8.fnScope_by (by decide +kernel)
theorem c_Store_need_with (T : Tx w K mg) : Met P w K mg base 8 (He.ga K "Store") "need_with" (sp_need_with K) [] := by
  refine K_Store_need_with T sc_Store_need_with (fun _ _ _ _ _ _ us hl => match us, hl with | [_, _, _, _, _, _], _ => rfl) (by walk_at "len") (fun cdv A outer s H vs Q E hr h => ?_)
  have nd := sc_Store_need_with.nd
  have hu := hu_of hr
  refine ⟨_, (pss_cons (ps_set (i := 6) nd rfl (Or.inl rfl) (C8.pe_c (c_make_record T) hr (by decide) (by rfl) (pa_cons (C8.pe_mt0 (c_Store_next_order T) hr (by decide) (pv 0)) (pa_cons (pv 1) (pa_cons (pv 2) (pa_cons (pv 3) (pa_cons (pv 4) (pa_cons (pv 5) pa_nil))))))))
      (pss_one (ps_ret (C8.pe_c (c_need_ix T) hr (by decide) (by rfl) (pa_cons (pe_op op_cat (C8.pe_mt0 (c_Store_records T) hr (by decide) (pv 0)) (pe_lst (pa_cons (pv 6) pa_nil))) pa_nil))))), ?_⟩
  obtain ⟨z, wl, fa, as, ws, rs, r, rfl, S, N, h63, hf, k⟩ := h
  obtain ⟨dx, sd, hst, sa⟩ := S.ins
  have asc : Asc rs := N.asc.sublist (List.sublist_append_left _ _)
  have sz1 : 1 ≤ sizeLine := by decide
  refine ⟨_, rfl, z.st, dx, _, rfl, hst, rfl, z, wl, as, ws, rs, rfl, S, ?_⟩
  rw [← N.ord]
  refine ⟨_, rfl, _, rfl, _, rfl, _, rfl, _, rfl, r, fa, rfl, hf, N.ok, fun a H1 s1 f1 hR => ?_⟩
  refine ⟨_, rfl, z.st, dx, _, rfl, s1 _ _ hst, rfl, z, wl, as, ws, rs, rfl, S.keep s1, asc, by omega, fun l H2 s2 f2 e2 => ?_⟩
  refine ⟨_, rfl, sz1, fun l2 h2 => ?_⟩
  refine ⟨l, l2, _, _, rfl, rfl, upd_old e2 h2, upd_same, ?_, fun l3 h3 => ?_⟩
  · have := Paired.length S.recs
    rw [List.length_map]
    show _ + 1 ≤ _
    have : (1000 : Nat) ≤ sizeLine := by decide
    omega
  have s3 := same_upd' (same_upd' ((s1.trans s2)) h2 (o := .lst [.ref a])) h3 (o := .lst ((as ++ ws).map V.ref ++ [.ref a]))
  have s23 := same_upd' (same_upd' s2 h2 (o := .lst [.ref a])) h3 (o := .lst ((as ++ ws).map V.ref ++ [.ref a]))
  refine ⟨l3, rs ++ [r], rfl, ⟨(as ++ ws) ++ [a], ?_, ?_⟩, N.asc, by rw [List.length_append]; show _ + 1 < 64; omega, fun H4 s4 => k H4 (s3.trans s4)⟩
  · exact upd_same.trans (congrArg (fun l => some (HO.lst l)) (List.map_append (f := V.ref) (l₁ := as ++ ws) (l₂ := [a])).symm)
  · exact paired_app (S.recs.keep (same_imm s3)) (.cons (s23 _ _ hR) .nil)
def opNever : Op → Bool
  | .trim _ => true
  | .drop _ => true
  | _ => false
theorem in_NEVER {K : PySem.W.Frag} (o : Op) : inV (.str o.kind) (cNEVER.map (He.Dv.v K)) = opNever o := by cases o <;> rfl
theorem flat_NEVER {K : PySem.W.Frag} : (cNEVER.map (He.Dv.v K)).all flatV = true := rfl
def sp_fits (K : PySem.W.Frag) : Sp := fun vs H Q _ => ∃ (z : Adr) (wl fa : Addr) (as ws : List Addr) (rs : List Rec) (r : Rec), vs = [.ref z.st, .str r.op.kind, .int r.host, .int 1, .int r.ctr, .ref fa] ∧ StoA K H z wl as ws rs ∧ NextR rs r ∧ rs.length < 63 ∧ H fa = some (.tup r.op.flds) ∧ ∀ H', Same H H' → Q (.bl (fitsN rs r)) H'
theorem sc_Store_fits : FnScope ["self", "kind", "host", "session", "counter", "fields", "most"] ["self", "kind", "host", "session", "counter", "fields"] (defScope s_Store_fits) := C8.fnScope_by (by decide +kernel)
theorem c_Store_fits (T : Tx w K mg) : Met P w K mg base 9 (He.ga K "Store") "fits" (sp_fits K) [] := by
  refine K_Store_fits T sc_Store_fits (fun _ _ _ _ _ _ us hl => match us, hl with | [_, _, _, _, _, _], _ => rfl) (by walk_at "len") (fun cdv A outer s H vs Q E hr h => ?_)
  have nd := sc_Store_fits.nd
  have hu := hu_of hr
  refine ⟨_, (pss_cons (ps_if (pt_cmpR op_in_seq (pv 1) (C8.pe_gc (by rfl) (g_NEVER_REFUSED T)) (by rfl)) (pss_one (ps_ret pe_bl)) pss_nil)
      (pss_cons (ps_set (i := 6) nd rfl (Or.inl rfl) (pe_op op_sub (C8.pe_mt0 (c_Store_limit T) hr (by decide) (pv 0)) (C8.pe_gc (by rfl) (i_SPARE T))))
      (pss_cons (ps_if (pt_cmpR op_le (pe_op op_mul pe_int (pe_op op_add (pe_callB (call_len) (by rfl) (b_len T) PySem.boot_len (pa_cons (C8.pe_mt0 (c_Store_records T) hr (by decide) (pv 0)) pa_nil)) pe_int)) (pv 6) (nomark _)) (pss_one (ps_ret pe_bl)) pss_nil)
      (pss_one (ps_ret (pe_cmpR op_le (C8.pe_mt (c_Store_need_with T) hr (by decide) (pv 0) (pa_cons (pv 1) (pa_cons (pv 2) (pa_cons (pv 3) (pa_cons (pv 4) (pa_cons (pv 5) pa_nil)))))) (pv 6) (nomark _))))))), ?_⟩
  obtain ⟨z, wl, fa, as, ws, rs, r, rfl, S, N, h63, hf, k⟩ := h
  obtain ⟨dx, sd, hst, sa⟩ := S.ins
  have asc : Asc rs := N.asc.sublist (List.sublist_append_left _ _)
  refine ⟨_, rfl, _, _, rfl, .inr (k_NEVER T _), rfl, flat_NEVER, _, rfl, ?_⟩
  rw [if_neg Bool.false_ne_true, in_NEVER]
  cases hn : opNever r.op with
  | true =>
    have ef : fitsN rs r = true := by
      unfold fitsN
      cases e : r.op <;> rw [e] at hn <;> first | rfl | cases hn
    rw [ef] at k
    exact iteT (k H (Same.refl H))
  | false =>
    have ef : fitsN rs r = (decide (2 * (rs.length + 1) ≤ 23) || decide (needN (rs ++ [r]) ≤ 23)) := by
      unfold fitsN
      cases e : r.op <;> rw [e] at hn <;> first | rfl | cases hn
    rw [ef] at k
    refine iteF ⟨_, rfl, z.st, dx, _, rfl, hst, rfl, z, wl, as, ws, rs, rfl, S, _, _, rfl, rfl, ?_⟩
    refine ⟨_, rfl, z.st, dx, _, rfl, hst, rfl, z, wl, as, ws, rs, rfl, S, asc, by omega, fun l H1 s1 f1 e1 => ?_⟩
    have ll := Paired.length S.recs
    refine ⟨_, _, rfl, .inl ⟨_, SqL.of e1, rfl⟩, _, _, rfl, rfl, _, _, rfl, rfl, .inl ⟨by decide, by decide⟩, ?_⟩
    rw [List.length_map, ll]
    refine ⟨_, rfl, _, _, rfl, rfl, _, rfl, ?_⟩
    by_cases c : 2 * (rs.length + 1) ≤ 23
    · rw [decide_eq_true c, Bool.true_or] at k
      exact ite_of (by omega) (k H1 s1)
    · rw [decide_eq_false c, Bool.false_or] at k
      refine ite_no (by omega) ?_
      refine ⟨_, rfl, z.st, dx, _, rfl, s1 _ _ hst, rfl, _, rfl, _, rfl, _, rfl, _, rfl, _, rfl, z, wl, fa, as, ws, rs, r, rfl, S.keep s1, N, h63, s1 _ _ hf, fun H2 s2 => ?_⟩
      refine ⟨_, rfl, _, _, rfl, rfl, ?_⟩
      have := k H2 (s1.trans s2)
      have e9 : decide (needN (rs ++ [r]) ≤ 23) = decide (((needN (rs ++ [r]) : Nat) : Int) ≤ 32 - 9) := by
        by_cases q : needN (rs ++ [r]) ≤ 23
        · rw [decide_eq_true q, decide_eq_true (by omega)]
        · rw [decide_eq_false q, decide_eq_false (by omega)]
      rw [e9] at this
      exact this
def sp_flush (K : PySem.W.Frag) : Sp := fun vs H Q _ => ∃ (z : Adr) (wl : Addr) (as ws : List Addr) (rs : List Rec), vs = [.ref z.st] ∧ StoA K H z wl as ws rs ∧ (as ++ ws).length ≤ 56 ∧
  ∀ H' wl', StoA K H' z wl' (as ++ ws) [] rs → Fr z wl H H' → (wl' = wl ∨ H wl' = none) → Q .non H'
theorem sc_Store_flush : FnScope ["self", "record"] ["self"] (defScope s_Store_flush) := C8.fnScope_by (by decide +kernel)
theorem c_Store_flush (T : Tx w K mg) : Met P w K mg base 8 (He.ga K "Store") "flush" (sp_flush K) [] := by
  refine K_Store_flush T sc_Store_flush (fun _ _ _ _ _ _ us hl => match us, hl with | [_], _ => rfl) (by walk_at "len") (fun cdv A outer s H vs Q E hr h => ?_)
  have nd := sc_Store_flush.nd
  have hu := hu_of hr
  refine ⟨_, (pss_cons (ps_if (pt_not (pt_truth (pe_fld (pv 0) rfl) (by intro _; rfl))) (pss_one ps_retN) pss_nil)
      (pss_cons (ps_expr (C8.pe_c (c_collect T) hr (by decide) (by rfl) (pa_cons (pe_fld (pv 0) rfl) (pa_cons (pe_callB (call_len) (by rfl) (b_len T) PySem.boot_len (pa_cons (pe_fld (pv 0) rfl) pa_nil)) pa_nil))))
      (pss_cons (ps_for PassesOwn.never rfl (pi_list (pe_fld (pv 0) rfl)) (pg_name (i := 1) nd rfl (Or.inl rfl)) (pss_one (ps_expr (C8.pe_mt (c_Log_append T) hr (by decide) (pe_fld (pv 0) rfl) (pa_cons (pv 1) (pa_cons pe_bl pa_nil))))))
      (pss_one (ps_fld (pv 0) (pe_lst pa_nil) rfl))))), ?_⟩
  obtain ⟨z, wl, as, ws, rs, rfl, S, h56, k⟩ := h
  obtain ⟨dx, sd, hst, sa⟩ := S.ins
  obtain ⟨dxl, hlg⟩ := S.lg.ins
  have lgst : z.lg ≠ z.st := ins_ne hlg hst (by show 3 ≠ 4; decide)
  have sz0 : 0 ≤ sizeLine := by decide
  refine ⟨_, rfl, z.st, _, dx, _, _, rfl, hst, cls_Store T, at_Store_waiting T, rfl, !(ws.map V.ref).isEmpty, .inl ⟨_, SqL.of S.wt, rfl⟩, ?_⟩
  cases ws with
  | nil =>
    refine iteT ?_
    have S' := S
    rw [← List.append_nil as] at S'
    exact k H wl S' (fun b o e _ _ _ _ _ => e) (.inl rfl)
  | cons w0 wr =>
    refine iteF ?_
    generalize hws : w0 :: wr = ws at S k h56
    have wt0 := S.wt
    have l56 : as.length + ws.length ≤ 56 := by rw [List.length_append] at h56; exact h56
    refine ⟨_, rfl, z.st, _, dx, _, _, rfl, hst, cls_Store T, at_Store_log T, rfl, _, rfl, z.st, _, dx, _, _, rfl, hst, cls_Store T, at_Store_waiting T, rfl, _, _, rfl, .inl ⟨_, SqL.of wt0, rfl⟩, z.lg, z.lh, z.fl, z.fh, z.fw, z.fb, z.lb, as, ws.length, by rw [List.length_map] <;> rfl, S.lg, l56, fun v0 H1 s1 => ?_⟩
    have hst1 := s1 _ _ hst
    have wt1 := s1 _ _ S.wt
    have lg1 := S.lg.keep s1
    have lst1 := LgZ.lst lg1
    have recs1 := S.recs.keep (same_imm s1)
    have nO : ∀ {b o}, H1 b = some o → (∀ xs, o ≠ .lst xs) → b ∉ z.fb ∧ b ∉ z.lb := fun e d => ⟨fun h => by
      obtain ⟨xs, hx⟩ := lst1.1 _ h
      rw [hx] at e
      exact d _ (Option.some.inj e).symm, fun h => by
      obtain ⟨xs, hx⟩ := lst1.2 _ h
      rw [hx] at e
      exact d _ (Option.some.inj e).symm⟩
    have hst1n := nO hst1 fun _ q => nomatch q
    have wlg : wl ≠ z.lg := ne_of S.wt hlg fun q => nomatch q
    refine ⟨_, rfl, z.st, _, dx, _, _, rfl, hst1, cls_Store T, at_Store_waiting T, rfl, wl, rfl, ⟨_, SqL.of wt1⟩, ?_⟩
    refine for_list (K := K) (a := wl) (xs := ws.map V.ref) (fun i σ H' => ∃ v1, σ = [some (.ref z.st), v1] ∧ LgZ K H' z (as ++ ws.take i) ∧ ∀ b o, H1 b = some o → b ≠ z.lg → b ∉ z.fb → b ∉ z.lb → H' b = some o) ?_ ?_ ?_ ?_
    · exact ⟨none, rfl, by rw [List.take_zero, List.append_nil]; exact lg1, fun b o e _ _ _ => e⟩
    · rintro i σ H' _ ⟨_, _, _, fr⟩
      exact SqL.of (fr _ _ wt1 wlg S.wo.1 S.wo.2.1)
    · rintro i x σ H' hx ⟨v1, rfl, lg', fr⟩
      obtain ⟨a, ha, rfl⟩ := refs_i hx
      have il := (List.getElem?_eq_some_iff.mp ha).1
      have hst' := fr _ _ hst1 lgst.symm hst1n.1 hst1n.2
      obtain ⟨dxl', hlg'⟩ := lg'.ins
      obtain ⟨r, _, hR⟩ := L2.paired_get (paired_split recs1).2 ha
      have nR := nO hR fun _ q => nomatch q
      have hR' := fr _ _ hR (ne_of hR (s1 _ _ hlg) fun q => nomatch q) nR.1 nR.2
      refine ⟨_, rfl, z.st, _, dx, _, _, rfl, hst', cls_Store T, at_Store_log T, rfl, z.lg, dxl', _, rfl, hlg', rfl, _, rfl, z.lg, z.lh, z.fl, z.fh, z.fw, a, z.fb, z.lb, as ++ ws.take i, _, rfl, lg', by rw [List.length_append, List.length_take]; omega, hR', fun H2 lg2 fr2 => ?_⟩
      refine ⟨_, rfl, ?_, fun b o e q1 q2 q3 => fr2 _ _ (fr _ _ e q1 q2 q3) q1 q2 q3⟩
      have e9 : as ++ ws.take (i + 1) = as ++ ws.take i ++ [a] := by rw [List.take_add_one, ha, List.append_assoc] <;> rfl
      rw [e9]
      exact lg2
    rintro σ H2 ⟨v1, rfl, lg2, fr⟩
    rw [List.length_map, List.take_length] at lg2
    have hst2 := fr _ _ hst1 lgst.symm hst1n.1 hst1n.2
    refine ⟨sz0, fun w2 hw2 => ⟨_, rfl, z.st, _, dx, _, rfl, upd_old hst2 hw2, cls_Store T, at_Store_waiting T, by show 4 < 1000; decide, ?_⟩⟩
    have w2st : w2 ≠ z.st := (ne_of_none hst2 hw2).symm
    have n4 : ∀ b o, H2 b = some o → b ≠ z.st → (upd (upd H2 w2 (.lst [])) z.st (.ins (He.ga K "Store") dx (stF z sd w2))) b = some o := fun b o e q => by
      rw [upd_ne q]; exact upd_old e hw2
    have hall : ∀ b o, H b = some o → b ≠ z.st → b ≠ z.lg → b ∉ z.fb → b ∉ z.lb → (upd (upd H2 w2 (.lst [])) z.st (.ins (He.ga K "Store") dx (stF z sd w2))) b = some o := fun b o e q1 q2 q3 q4 => n4 _ _ (fr _ _ (s1 _ _ e) q2 q3 q4) q1
    have FR : Fr z wl H (upd (upd H2 w2 (.lst [])) z.st (.ins (He.ga K "Store") dx (stF z sd w2))) := fun b o e q1 q2 q3 q4 _ => hall b o e q1 q2 q3 q4
    have im := Fr.imm S FR
    have lst2 := LgZ.lst lg2
    have wf : ∀ {b o}, H2 b = some o → w2 ≠ b := fun e q => by rw [← q, hw2] at e; cases e
    have hw0 : H w2 = none := by
      cases g : H w2 with
      | none => rfl
      | some o =>
        by_cases q2 : w2 = z.lg
        · obtain ⟨_, hh⟩ := lg2.ins
          rw [q2, hh] at hw2
          cases hw2
        by_cases q3 : w2 ∈ z.fb
        · obtain ⟨xs, hx⟩ := lst2.1 _ q3
          rw [hx] at hw2
          cases hw2
        by_cases q4 : w2 ∈ z.lb
        · obtain ⟨xs, hx⟩ := lst2.2 _ q4
          rw [hx] at hw2
          cases hw2
        rw [fr _ _ (s1 _ _ g) q2 q3 q4] at hw2
        cases hw2
    refine k _ w2 ⟨⟨dx, sd, upd_same, sa.keep im⟩, by rw [upd_ne w2st]; exact upd_same, lg2.at_ hst2 (by show 4 ≠ 6; decide) lgst n4, ?_, ⟨fun q => ?_, fun q => ?_, wf lg2.bk.held, wf lg2.fl.bk.held, wf lg2.fl.wr⟩⟩ FR (.inr hw0)
    · rw [List.append_nil]
      exact S.recs.keep im
    · obtain ⟨xs, hx⟩ := lst2.1 _ q
      exact wf hx rfl
    · obtain ⟨xs, hx⟩ := lst2.2 _ q
      exact wf hx rfl
def sp_add (K : PySem.W.Frag) : Sp := fun vs H Q _ => ∃ (z : Adr) (wl fa : Addr) (as ws : List Addr) (rs : List Rec) (r : Rec), vs = [.ref z.st, .str r.op.kind, .int r.host, .int 1, .int r.ctr, .ref fa] ∧ StoA K H z wl as ws rs ∧ NextR rs r ∧ rs.length < 56 ∧ ws.length ≤ 8 ∧ H fa = some (.tup r.op.flds) ∧
  ∀ H' wl' as' ws', StoA K H' z wl' as' ws' (rs ++ [r]) → Fr z wl H H' → (wl' = wl ∨ H wl' = none) → (as' ++ ws').length = rs.length + 1 → ws'.length ≤ 8 → Q (.int r.ord) H'
theorem sc_Store_add : FnScope ["self", "kind", "host", "session", "counter", "fields", "record"] ["self", "kind", "host", "session", "counter", "fields"] (defScope s_Store_add) := C8.fnScope_by (by decide +kernel)
theorem c_Store_add (T : Tx w K mg) : Met P w K mg base 9 (He.ga K "Store") "add" (sp_add K) [] := by
  refine K_Store_add T sc_Store_add (fun _ _ _ _ _ _ us hl => match us, hl with | [_, _, _, _, _, _], _ => rfl) (by walk_at "len") (fun cdv A outer s H vs Q E hr h => ?_)
  have nd := sc_Store_add.nd
  have hu := hu_of hr
  refine ⟨_, (pss_cons (ps_set (i := 6) nd rfl (Or.inl rfl) (C8.pe_c (c_make_record T) hr (by decide) (by rfl) (pa_cons (C8.pe_mt0 (c_Store_next_order T) hr (by decide) (pv 0)) (pa_cons (pv 1) (pa_cons (pv 2) (pa_cons (pv 3) (pa_cons (pv 4) (pa_cons (pv 5) pa_nil))))))))
      (pss_cons (ps_if (pt_cmpR op_ge (pe_callB (call_len) (by rfl) (b_len T) PySem.boot_len (pa_cons (pe_fld (pv 0) rfl) pa_nil)) (C8.pe_gc (by rfl) (i_MOST_WAITING T)) (nomark _)) (pss_one (ps_expr (C8.pe_mt0 (c_Store_flush T) hr (by decide) (pv 0)))) pss_nil)
      (pss_cons (ps_expr (pe_bm PySem.F.plainAttrs_list PySem.F.slot_list_append PySem.F.type_list_append mt_append (pe_fld (pv 0) rfl) (pa_cons (pv 6) pa_nil)))
      (pss_cons (ps_fld (pv 0) (C8.pe_c (c_apply_record T) hr (by decide) (by rfl) (pa_cons (pe_fld (pv 0) rfl) (pa_cons (pv 6) pa_nil))) rfl)
      (pss_one (ps_ret (pe_ix ix_tup (pv 6) pe_int (fun _ _ => rfl)))))))), ?_⟩
  obtain ⟨z, wl, fa, as, ws, rs, r, rfl, S, N, h56, h8, hf, k⟩ := h
  obtain ⟨dx, sd, hst, sa⟩ := S.ins
  obtain ⟨v0, _⟩ := vals_at r
  have ll := Paired.length S.recs
  refine ⟨_, rfl, z.st, dx, _, rfl, hst, rfl, z, wl, as, ws, rs, rfl, S, ?_⟩
  rw [← N.ord]
  refine ⟨_, rfl, _, rfl, _, rfl, _, rfl, _, rfl, r, fa, rfl, hf, N.ok, fun a H1 s1 f1 hR => ?_⟩
  have hst1' := s1 _ _ hst
  have SS := S.keep s1
  refine ⟨_, rfl, z.st, _, dx, _, _, rfl, hst1', cls_Store T, at_Store_waiting T, rfl, _, _, rfl, .inl ⟨_, SqL.of SS.wt, rfl⟩, _, _, rfl, rfl, _, rfl, ?_⟩
  rw [List.length_map]
  by_cases c : 8 ≤ ws.length
  · refine ite_of (by omega) ⟨_, rfl, z.st, dx, _, rfl, hst1', rfl, z, wl, as, ws, rs, rfl, SS, by omega, fun H2 wl1 S1 FR wn => ?_⟩
    · have wn1 : wl1 = wl ∨ H wl1 = none := by
        rcases wn with q | q
        · exact .inl q
        · right
          cases g : H wl1 with
          | none => rfl
          | some o => rw [s1 _ _ g] at q; cases q
      have fr1 : Fr z wl H H2 := fun b o e q1 q2 q3 q4 q5 => FR b o (s1 _ _ e) q1 q2 q3 q4 q5
      have hR1 := (Fr.imm SS FR).tup hR
      obtain ⟨as1, eas⟩ : ∃ as1, as1 = as ++ ws := ⟨_, rfl⟩
      obtain ⟨ws1, ews⟩ : ∃ ws1 : List Addr, ws1 = [] := ⟨_, rfl⟩
      rw [← eas, ← ews] at S1
      have wlen : (ws1 ++ [a]).length ≤ 8 := by rw [ews]; show 1 ≤ 8; decide
      have wl8 : ws1.length ≤ 8 := by rw [ews]; show 0 ≤ 8; decide
      obtain ⟨dx1, sd1, hst1, sa1⟩ := S1.ins
      have wt1 := S1.wt
      have lg1 := S1.lg
      have recs1 := S1.recs
      have wo1 := S1.wo
      have s01 := S1
      refine ⟨_, rfl, z.st, _, dx1, _, _, rfl, hst1, cls_Store T, at_Store_waiting T, rfl, .inl ⟨rfl, _, SqL.of wt1⟩, _, rfl, wl1, _, .ref a, rfl, rfl, wt1, small1000 (by rw [List.length_map]; omega), ?_⟩
      have nw : ∀ {b o}, H2 b = some o → (∀ xs, o ≠ .lst xs) → b ≠ wl1 := fun e d => ne_of e wt1 (d _)
      have up : ∀ b o, H2 b = some o → b ≠ wl1 → (upd H2 wl1 (.lst (ws1.map V.ref ++ [.ref a]))) b = some o := fun b o e q => by rw [upd_ne q]; exact e
      have upD : Imm H2 (upd H2 wl1 (.lst (ws1.map V.ref ++ [.ref a]))) := fun b o e d => up b o e (nw e fun xs q => by rw [q] at d; cases d)
      have hst3 := up _ _ hst1 (nw hst1 fun _ q => nomatch q)
      have wt3 := upd_same (H := H2) (a := wl1) (o := .lst (ws1.map V.ref ++ [.ref a]))
      refine ⟨_, rfl, z.st, _, dx1, _, _, rfl, hst3, cls_Store T, at_Store_state T, rfl, _, rfl, sd1, a, foldS rs, r, rfl, sa1.keep upD, (foldS_ok rs).mono (by omega), upD.tup hR1, N.chain, fun p H4 s4 e4 => ?_⟩
      have hst4 := s4 _ _ hst3
      refine ⟨_, rfl, z.st, _, dx1, _, rfl, hst4, cls_Store T, at_Store_state T, by show 4 < 1000; decide, ?_⟩
      have n5 : ∀ b o, H4 b = some o → b ≠ z.st → (upd H4 z.st (.ins (He.ga K "Store") dx1 (stF z p wl1))) b = some o := fun b o e q => by rw [upd_ne q]; exact e
      have im5 : Imm H4 (upd H4 z.st (.ins (He.ga K "Store") dx1 (stF z p wl1))) := fun b o e d => n5 b o e (ne_of e hst4 fun q => by rw [q] at d; cases d)
      refine ⟨_, rfl, a, _, 0, _, rfl, rfl, SqT.of (im5.tup (s4 _ _ (upD.tup hR1))), at_of (j := 0) rfl v0, ?_⟩
      have im : Imm H2 (upd H4 z.st (.ins (He.ga K "Store") dx1 (stF z p wl1))) := upD.trans ((same_imm s4).trans im5)
      obtain ⟨dxl, hlg⟩ := lg1.ins
      have lgst : z.lg ≠ z.st := ins_ne hlg hst1 (by show 3 ≠ 4; decide)
      have lg3 : LgZ K (upd H2 wl1 (.lst (ws1.map V.ref ++ [.ref a]))) z as1 := by
        obtain ⟨dxF, hF⟩ := lg1.fl.ins
        refine ⟨⟨dxl, up _ _ hlg (nw hlg fun _ q => nomatch q)⟩, lg1.bk.keep fun b o hb e => up b o e ?_, ⟨⟨dxF, up _ _ hF (nw hF fun _ q => nomatch q)⟩, lg1.fl.bk.keep fun b o hb e => up b o e ?_, up _ _ lg1.fl.wr wo1.2.2.2.2.symm, lg1.fl.wo⟩, lg1.dj, lg1.dh⟩
        · rcases hb with rfl | hb
          · exact wo1.2.2.1.symm
          · exact fun q => wo1.2.1 (q ▸ hb)
        · rcases hb with rfl | hb
          · exact wo1.2.2.2.1.symm
          · exact fun q => wo1.1 (q ▸ hb)
      have lg5 := (lg3.keep s4).at_ hst4 (by show 4 ≠ 6; decide) lgst n5
      have rr : RecsAt (upd H4 z.st (.ins (He.ga K "Store") dx1 (stF z p wl1))) (as1 ++ (ws1 ++ [a])) (rs ++ [r]) := by
        rw [← List.append_assoc]
        exact paired_app (mapP recs1 fun b q e => im.tup e) (.cons (im.tup hR1) .nil)
      have ef : foldS (rs ++ [r]) = (foldS rs).app r := by unfold foldS; rw [List.foldl_append] <;> rfl
      refine k _ wl1 as1 (ws1 ++ [a]) ⟨⟨dx1, p, upd_same, by rw [ef]; exact e4.keep im5⟩, ?_, lg5, rr, wo1⟩ ?_ wn1 (by rw [List.length_append, List.length_append]; show _ + (_ + 1) = _; have := Paired.length recs1; rw [List.length_append] at this; omega) ?_
      · rw [List.map_append]
        exact n5 _ _ (s4 _ _ wt3) (ne_of wt1 hst1 fun q => nomatch q)
      · intro b o e q1 q2 q3 q4 q5
        have e2 := fr1 b o e q1 q2 q3 q4 q5
        refine n5 _ _ (s4 _ _ (up _ _ e2 ?_)) q1
        rcases wn1 with rfl | q
        · exact q5
        · exact ne_of_none e q
      · exact wlen
  · refine ite_no (by omega) ?_
    · have S1 := SS
      obtain ⟨H2, eH⟩ : ∃ H2, H2 = H1 := ⟨_, rfl⟩
      obtain ⟨wl1, ewl⟩ : ∃ wl1, wl1 = wl := ⟨_, rfl⟩
      obtain ⟨as1, eas⟩ : ∃ as1, as1 = as := ⟨_, rfl⟩
      obtain ⟨ws1, ews⟩ : ∃ ws1 : List Addr, ws1 = ws := ⟨_, rfl⟩
      have wn1 : wl1 = wl ∨ H wl1 = none := .inl ewl
      have fr1 : Fr z wl H H2 := fun b o e q1 q2 q3 q4 q5 => by rw [eH]; exact s1 _ _ e
      have hR1 : RecAt H2 a r := by rw [eH]; exact hR
      rw [← eH, ← ewl, ← eas, ← ews] at S1
      have wlen : (ws1 ++ [a]).length ≤ 8 := by rw [ews, List.length_append]; show _ + 1 ≤ 8; omega
      have wl8 : ws1.length ≤ 8 := by rw [ews]; exact h8
      obtain ⟨dx1, sd1, hst1, sa1⟩ := S1.ins
      have wt1 := S1.wt
      have lg1 := S1.lg
      have recs1 := S1.recs
      have wo1 := S1.wo
      show tSeq _ _ _ _ _
      rw [← eH]
      have s01 := S1
      refine ⟨_, rfl, z.st, _, dx1, _, _, rfl, hst1, cls_Store T, at_Store_waiting T, rfl, .inl ⟨rfl, _, SqL.of wt1⟩, _, rfl, wl1, _, .ref a, rfl, rfl, wt1, small1000 (by rw [List.length_map]; omega), ?_⟩
      have nw : ∀ {b o}, H2 b = some o → (∀ xs, o ≠ .lst xs) → b ≠ wl1 := fun e d => ne_of e wt1 (d _)
      have up : ∀ b o, H2 b = some o → b ≠ wl1 → (upd H2 wl1 (.lst (ws1.map V.ref ++ [.ref a]))) b = some o := fun b o e q => by rw [upd_ne q]; exact e
      have upD : Imm H2 (upd H2 wl1 (.lst (ws1.map V.ref ++ [.ref a]))) := fun b o e d => up b o e (nw e fun xs q => by rw [q] at d; cases d)
      have hst3 := up _ _ hst1 (nw hst1 fun _ q => nomatch q)
      have wt3 := upd_same (H := H2) (a := wl1) (o := .lst (ws1.map V.ref ++ [.ref a]))
      refine ⟨_, rfl, z.st, _, dx1, _, _, rfl, hst3, cls_Store T, at_Store_state T, rfl, _, rfl, sd1, a, foldS rs, r, rfl, sa1.keep upD, (foldS_ok rs).mono (by omega), upD.tup hR1, N.chain, fun p H4 s4 e4 => ?_⟩
      have hst4 := s4 _ _ hst3
      refine ⟨_, rfl, z.st, _, dx1, _, rfl, hst4, cls_Store T, at_Store_state T, by show 4 < 1000; decide, ?_⟩
      have n5 : ∀ b o, H4 b = some o → b ≠ z.st → (upd H4 z.st (.ins (He.ga K "Store") dx1 (stF z p wl1))) b = some o := fun b o e q => by rw [upd_ne q]; exact e
      have im5 : Imm H4 (upd H4 z.st (.ins (He.ga K "Store") dx1 (stF z p wl1))) := fun b o e d => n5 b o e (ne_of e hst4 fun q => by rw [q] at d; cases d)
      refine ⟨_, rfl, a, _, 0, _, rfl, rfl, SqT.of (im5.tup (s4 _ _ (upD.tup hR1))), at_of (j := 0) rfl v0, ?_⟩
      have im : Imm H2 (upd H4 z.st (.ins (He.ga K "Store") dx1 (stF z p wl1))) := upD.trans ((same_imm s4).trans im5)
      obtain ⟨dxl, hlg⟩ := lg1.ins
      have lgst : z.lg ≠ z.st := ins_ne hlg hst1 (by show 3 ≠ 4; decide)
      have lg3 : LgZ K (upd H2 wl1 (.lst (ws1.map V.ref ++ [.ref a]))) z as1 := by
        obtain ⟨dxF, hF⟩ := lg1.fl.ins
        refine ⟨⟨dxl, up _ _ hlg (nw hlg fun _ q => nomatch q)⟩, lg1.bk.keep fun b o hb e => up b o e ?_, ⟨⟨dxF, up _ _ hF (nw hF fun _ q => nomatch q)⟩, lg1.fl.bk.keep fun b o hb e => up b o e ?_, up _ _ lg1.fl.wr wo1.2.2.2.2.symm, lg1.fl.wo⟩, lg1.dj, lg1.dh⟩
        · rcases hb with rfl | hb
          · exact wo1.2.2.1.symm
          · exact fun q => wo1.2.1 (q ▸ hb)
        · rcases hb with rfl | hb
          · exact wo1.2.2.2.1.symm
          · exact fun q => wo1.1 (q ▸ hb)
      have lg5 := (lg3.keep s4).at_ hst4 (by show 4 ≠ 6; decide) lgst n5
      have rr : RecsAt (upd H4 z.st (.ins (He.ga K "Store") dx1 (stF z p wl1))) (as1 ++ (ws1 ++ [a])) (rs ++ [r]) := by
        rw [← List.append_assoc]
        exact paired_app (mapP recs1 fun b q e => im.tup e) (.cons (im.tup hR1) .nil)
      have ef : foldS (rs ++ [r]) = (foldS rs).app r := by unfold foldS; rw [List.foldl_append] <;> rfl
      refine k _ wl1 as1 (ws1 ++ [a]) ⟨⟨dx1, p, upd_same, by rw [ef]; exact e4.keep im5⟩, ?_, lg5, rr, wo1⟩ ?_ wn1 (by rw [List.length_append, List.length_append]; show _ + (_ + 1) = _; have := Paired.length recs1; rw [List.length_append] at this; omega) ?_
      · rw [List.map_append]
        exact n5 _ _ (s4 _ _ wt3) (ne_of wt1 hst1 fun q => nomatch q)
      · intro b o e q1 q2 q3 q4 q5
        have e2 := fr1 b o e q1 q2 q3 q4 q5
        refine n5 _ _ (s4 _ _ (up _ _ e2 ?_)) q1
        rcases wn1 with rfl | q
        · exact q5
        · exact ne_of_none e q
      · exact wlen
end
end L2.Sg
set_option Elab.async false
set_option linter.all false
set_option maxRecDepth 100000
set_option maxHeartbeats 4000000
namespace L2.Sg
open PySem PySem.Spec PyProof.Rows
open C8 (Cal Met Mak pe_c pe_mt pe_mt0 pe_mk tCut pss_cut)
local macro_rules | `(tactic| walk_at "len") => `(tactic| (intro vs H Q E h; first | (obtain ⟨e, _⟩ := h; subst e; rfl) | (obtain ⟨_, e, _⟩ := h; subst e; rfl) | (obtain ⟨_, _, e, _⟩ := h; subst e; rfl) | (obtain ⟨_, _, _, e, _⟩ := h; subst e; rfl) | (obtain ⟨_, _, _, _, e, _⟩ := h; subst e; rfl) | (obtain ⟨_, _, _, _, _, e, _⟩ := h; subst e; rfl) | (obtain ⟨_, _, _, _, _, _, e, _⟩ := h; subst e; rfl) | (obtain ⟨_, _, _, _, _, _, _, e, _⟩ := h; subst e; rfl) | (obtain ⟨_, _, _, _, _, _, _, _, e, _⟩ := h; subst e; rfl) | (obtain ⟨_, _, _, _, _, _, _, _, _, e, _⟩ := h; subst e; rfl) | (obtain ⟨_, _, _, _, _, _, _, _, _, _, e, _⟩ := h; subst e; rfl) | (obtain ⟨_, _, _, _, _, _, _, _, _, _, _, e, _⟩ := h; subst e; rfl) | (obtain ⟨_, _, _, _, _, _, _, _, _, _, _, _, e, _⟩ := h; subst e; rfl) | (obtain ⟨_, _, _, _, _, _, _, _, _, _, _, _, _, e, _⟩ := h; subst e; rfl) | (obtain ⟨_, _, _, _, _, _, _, _, _, _, _, _, _, _, e, _⟩ := h; subst e; rfl) | (obtain ⟨_, _, _, _, _, _, _, _, _, _, _, _, _, _, _, e, _⟩ := h; subst e; rfl)))
local macro_rules | `(tactic| walk_at "ns") => `(tactic| (try dsimp only [Op.kind, Tp.word, Rec.top]); decide +kernel)
theorem merge_nd : ∀ (kvs acc : List (Key × V)), ((acc ++ kvs).map (·.1)).Nodup → mergeK acc kvs = acc ++ kvs
  | [], acc, _ => by rw [List.append_nil] <;> rfl
  | p :: kvs, acc, h => by
    have hn : valV acc p.1 = none := val_none fun q hq e => by
      rw [List.map_append, List.nodup_append] at h
      exact h.2.2 _ (List.mem_map_of_mem hq) _ (List.mem_map_of_mem List.mem_cons_self) e
    have e : mergeK acc (p :: kvs) = mergeK (putK acc p.1 p.2) kvs := rfl
    rw [e, putK_new _ hn, merge_nd kvs _ (by rw [List.append_assoc]; exact h), List.append_assoc] <;> rfl
theorem outK_take {κ : Type} [DecidableEq κ] {kvs : List (κ × V)} {i : Nat} {k k0 : κ} {v : V} (e : kvs[i]? = some (k, v)) : outK (kvs.take (i + 1)) k0 = if k ≠ k0 then outK (kvs.take i) k0 ++ [(k, v)] else outK (kvs.take i) k0 := by
  unfold outK
  rw [List.take_add_one, e, List.filter_append]
  by_cases c : k = k0
  · rw [if_neg (fun z => z c), Option.toList_some, List.filter_cons_of_neg (by simp [c]), List.filter_nil, List.append_nil]
  · rw [if_pos c, Option.toList_some, List.filter_cons_of_pos (by simp [c]), List.filter_nil]
section
variable {P : Program} {w : World} {K : PySem.W.Frag} {base : Heap} {mg : Str → Option Value}
def sp_law_cell (K : PySem.W.Frag) : Sp := fun vs H Q _ => ∃ (a : Addr) (ns : List Int) (j : Nat), vs = [.ref a, .int j] ∧ SqL K H a (ns.map V.int) ∧ ∀ c, Q (.int c) H
theorem sc_law_cell : FnScope ["_law_script", "_law_k"] ["_law_script", "_law_k"] (defScope s_law_cell) := C8.fnScope_by (by decide +kernel)
theorem c_law_cell (T : Tx w K mg) : Cal P w K mg base 1 "_law_cell" (sp_law_cell K) [] := by
  refine K_law_cell T sc_law_cell (fun _ _ _ _ _ _ us hl => match us, hl with | [_, _], _ => rfl) (by walk_at "len") (fun cdv A outer s H vs Q E hr h => ?_)
  have nd := sc_law_cell.nd
  have hu := hu_of hr
  refine ⟨_, (pss_cons (ps_if (pt_cmpR op_lt (pv 1) (pe_callB (call_len) (by rfl) (b_len T) PySem.boot_len (pa_cons (pv 0) pa_nil)) (nomark _)) (pss_one (ps_ret (pe_callTy (call_int1) (by rfl) (b_int T) boot_int (pa_cons (pe_ix ix_list (pv 0) (pv 1) (fun _ _ => rfl)) pa_nil)))) pss_nil)
      (pss_one (ps_ret pe_int))), ?_⟩
  obtain ⟨a, ns, j, rfl, hS, k⟩ := h
  refine ⟨_, rfl, _, rfl, _, _, rfl, .inl ⟨_, hS, rfl⟩, _, _, rfl, rfl, _, rfl, ?_⟩
  rw [List.length_map]
  by_cases c : j < ns.length
  · refine ite_of (by omega) ⟨_, rfl, _, rfl, a, _, _, _, rfl, rfl, hS, at_of (j := j) rfl (by rw [List.getElem?_map, List.getElem?_eq_getElem c] <;> rfl), .inl ⟨_, rfl, k _⟩⟩
  · exact ite_no (by omega) (k 0)
def sp_law_digits (K : PySem.W.Frag) : Sp := fun vs H Q _ => ∃ (c : Int) (b : Addr) (bs : List Int), vs = [.int c, .ref b] ∧ H b = some (.lst (bs.map V.int)) ∧ (∀ x ∈ bs, 0 < x ∧ x < 1000) ∧ bs.length ≤ 20 ∧
  ∀ ds : List Int, Paired (fun d x => 0 ≤ d ∧ d < x) ds bs → Mk1 H Q fun l H' => H' l = some (.lst (ds.map V.int))
theorem sc_law_digits : FnScope ["_law_cell_here", "_law_bases", "_law_digits_here", "_law_rest", "_law_base", "_law_mixed"] ["_law_cell_here", "_law_bases"] (defScope s_law_digits) := C8.fnScope_by (by decide +kernel)
theorem c_law_digits (T : Tx w K mg) : Cal P w K mg base 1 "_law_digits" (sp_law_digits K) [] := by
  refine K_law_digits T sc_law_digits (fun _ _ _ _ _ _ us hl => match us, hl with | [_, _], _ => rfl) (by walk_at "len") (fun cdv A outer s H vs Q E hr h => ?_)
  have nd := sc_law_digits.nd
  have hu := hu_of hr
  refine ⟨_, (pss_cons (ps_set (i := 2) nd rfl (Or.inl rfl) (pe_lst pa_nil))
      (pss_cons (ps_set (i := 3) nd rfl (Or.inl rfl) (pe_callTy (call_int1) (by rfl) (b_int T) boot_int (pa_cons (pv 0) pa_nil)))
      (pss_cons (ps_for PassesOwn.never rfl (pi_list (pv 1)) (pg_name (i := 4) nd rfl (Or.inl rfl)) (pss_one (ps_if (pt_cmpR op_ge (pv 0) (pe_op op_pow pe_int pe_int) (nomark _)) (pss_cons (ps_expr (pe_bm PySem.F.plainAttrs_list PySem.F.slot_list_append PySem.F.type_list_append mt_append (pv 2) (pa_cons (pe_op op_mod (pe_callTy (call_int1) (by rfl) (b_int T) boot_int (pa_cons (pv 3) pa_nil)) (pv 4)) pa_nil)))
      (pss_one (ps_set (i := 3) nd rfl (Or.inl rfl) (pe_op op_fdiv (pv 3) (pv 4))))) (pss_cons (ps_set (i := 3) nd rfl (Or.inl rfl) (pe_op op_mod (pe_op op_add (pe_op op_add (pe_op op_mul (pe_callTy (call_int1) (by rfl) (b_int T) boot_int (pa_cons (pv 3) pa_nil)) pe_int) (pe_op op_mul pe_int (pe_callB (call_len) (by rfl) (b_len T) PySem.boot_len (pa_cons (pv 2) pa_nil)))) pe_int) pe_int))
      (pss_cons (ps_set (i := 5) nd rfl (Or.inl rfl) (pe_op op_mod (pe_op op_mul (pe_callTy (call_int1) (by rfl) (b_int T) boot_int (pa_cons (pv 3) pa_nil)) (pe_callTy (call_int1) (by rfl) (b_int T) boot_int (pa_cons (pv 3) pa_nil))) pe_int))
      (pss_one (ps_expr (pe_bm PySem.F.plainAttrs_list PySem.F.slot_list_append PySem.F.type_list_append mt_append (pv 2) (pa_cons (pe_op op_mod (pe_op op_fdiv (pe_callTy (call_int1) (by rfl) (b_int T) boot_int (pa_cons (pv 5) pa_nil)) pe_int) (pv 4)) pa_nil)))))))))
      (pss_one (ps_ret (pv 2)))))), ?_⟩
  obtain ⟨c, b, bs, rfl, hb, hx, hl, k⟩ := h
  have sz0 : 0 ≤ sizeLine := by decide
  refine ⟨sz0, fun l hll => ⟨_, rfl, .inl ⟨c, rfl, ?_⟩⟩⟩
  have hbl : b ≠ l := ne_of_none hb hll
  refine ⟨_, rfl, b, rfl, ⟨_, SqL.of (upd_old hb hll)⟩, ?_⟩
  refine for_list (K := K) (a := b) (xs := bs.map V.int) (fun i σ H' => ∃ r v4 v5 ds, σ = [some (.int c), some (.ref b), some (.ref l), some (.int r), v4, v5] ∧ H' = upd H l (.lst (ds.map V.int)) ∧ Paired (fun d x => 0 ≤ d ∧ d < x) ds (bs.take i)) ?_ ?_ ?_ ?_
  · exact ⟨_, _, _, [], rfl, rfl, .nil⟩
  · rintro i σ H' _ ⟨_, _, _, _, _, rfl, _⟩
    exact SqL.of (upd_old hb hll)
  · rintro i x σ H' hxi ⟨r, v4, v5, ds, rfl, rfl, pr⟩
    obtain ⟨n, hn, rfl⟩ := ints_i hxi
    obtain ⟨p0, p1⟩ := hx n (List.mem_of_getElem? hn)
    have dl : ds.length ≤ 20 := by
      rw [Paired.length pr, List.length_take]
      omega
    have fin : ∀ d, 0 ≤ d → d < n → Paired (fun d x => 0 ≤ d ∧ d < x) (ds ++ [d]) (bs.take (i + 1)) := fun d h0 h1 => by
      rw [List.take_add_one, hn]
      exact Paired.snoc pr ⟨h0, h1⟩
    have cp : CPow 10 18 := ⟨by decide, by decide, by decide⟩
    have lim : (ds.map V.int).length < sizeLine := small1000 (by rw [List.length_map]; omega)
    refine ⟨_, rfl, _, _, rfl, rfl, cp, _, _, rfl, rfl, _, rfl, ?_⟩
    by_cases cc : (10 : Int) ^ (18 : Int).toNat ≤ c
    · refine ite_of cc ⟨_, rfl, .inl ⟨rfl, _, SqL.of upd_same⟩, _, rfl, .inl ⟨_, rfl, _, rfl, _, _, rfl, rfl, p0, l, _, _, rfl, rfl, upd_same, lim, _, rfl, _, rfl, _, _, rfl, rfl, ⟨p0, by omega⟩, ?_⟩⟩
      refine ⟨_, _, _, ds ++ [r % n], rfl, ?_, fin _ (Int.emod_nonneg _ (by omega)) (Int.emod_lt_of_pos _ p0)⟩
      rw [upd_upd, List.map_append] <;> rfl
    · have c1 : CMul r 48271 := .inr ⟨by decide, by decide⟩
      have c2 : CMul 1009 ((ds.map V.int).length : Nat) := .inl ⟨by decide, by decide⟩
      have m0 : (0 : Int) < 2147483647 := by decide
      have m1 : (0 : Int) < 2147483629 := by decide
      refine ite_no cc ⟨_, rfl, .inl ⟨_, rfl, _, _, rfl, rfl, c1, _, rfl, _, _, rfl, .inl ⟨_, SqL.of upd_same, rfl⟩, _, _, rfl, rfl, c2, _, _, rfl, rfl, _, _, rfl, rfl, _, _, rfl, rfl, m0, ?_⟩⟩
      have b0 := Int.emod_nonneg (r * 48271 + 1009 * ((ds.map V.int).length : Nat) + 12345) (show (2147483647 : Int) ≠ 0 by decide)
      have b1 := Int.emod_lt_of_pos (r * 48271 + 1009 * ((ds.map V.int).length : Nat) + 12345) m0
      have c3 : CMul ((r * 48271 + 1009 * ((ds.map V.int).length : Nat) + 12345) % 2147483647) ((r * 48271 + 1009 * ((ds.map V.int).length : Nat) + 12345) % 2147483647) := .inl ⟨by omega, by omega⟩
      have c4 : CDiv (((r * 48271 + 1009 * ((ds.map V.int).length : Nat) + 12345) % 2147483647) * ((r * 48271 + 1009 * ((ds.map V.int).length : Nat) + 12345) % 2147483647) % 2147483629) 13 := ⟨by decide, by decide⟩
      refine ⟨_, rfl, .inl ⟨_, rfl, _, rfl, .inl ⟨_, rfl, _, _, rfl, rfl, c3, _, _, rfl, rfl, m1, ?_⟩⟩⟩
      refine ⟨_, rfl, .inl ⟨rfl, _, SqL.of upd_same⟩, _, rfl, .inl ⟨_, rfl, _, _, rfl, rfl, c4, _, rfl, _, _, rfl, rfl, p0, l, _, _, rfl, rfl, upd_same, lim, ?_⟩⟩
      refine ⟨_, _, _, ds ++ [((r * 48271 + 1009 * ((ds.map V.int).length : Nat) + 12345) % 2147483647) * ((r * 48271 + 1009 * ((ds.map V.int).length : Nat) + 12345) % 2147483647) % 2147483629 / 13 % n], rfl, ?_, fin _ (Int.emod_nonneg _ (by omega)) (Int.emod_lt_of_pos _ p0)⟩
      rw [upd_upd, List.map_append] <;> rfl
  rintro σ H' ⟨r, v4, v5, ds, rfl, rfl, pr⟩
  rw [List.length_map, List.take_length] at pr
  exact ⟨_, rfl, k ds pr l _ (same_upd hll) hll upd_same⟩
def sp_law_answer : Sp := fun vs H Q _ => ∃ (r : Rec), vs = [.int r.ord, .str r.op.kind] ∧ Mk1 H Q fun p H' => AnsAt H' p r.ans
theorem sc_law_answer : FnScope ["_law_order", "_law_kind"] ["_law_order", "_law_kind"] (defScope s_law_answer) := C8.fnScope_by (by decide +kernel)
theorem c_law_answer (T : Tx w K mg) : Cal P w K mg base 1 "_law_answer" sp_law_answer [] := by
  refine K_law_answer T sc_law_answer (fun _ _ _ _ _ _ us hl => match us, hl with | [_, _], _ => rfl) (by walk_at "len") (fun cdv A outer s H vs Q E hr h => ?_)
  have nd := sc_law_answer.nd
  have hu := hu_of hr
  refine ⟨_, (pss_cons (ps_if (pt_cmpR op_eq (pv 1) pe_str (nomark _)) (pss_one ps_never) pss_nil)
      (pss_cons (ps_if (PW.pt (pw_or (pt_cmpR op_eq (pv 1) pe_str (nomark _)) (pw_or1 (pt_cmpR op_eq (pv 1) pe_str (nomark _))))) (pss_one (ps_ret (pe_tup (pa_cons pe_str (pa_cons (pv 0) pa_nil))))) pss_nil)
      (pss_one (ps_ret (pe_tup (pa_cons pe_str (pa_cons pe_non pa_nil))))))), ?_⟩
  obtain ⟨r, rfl, q⟩ := h
  refine ⟨_, rfl, rfl, _, rfl, eqS_F (no_mark _) ?_⟩
  refine ⟨_, rfl, rfl, _, rfl, ?_⟩
  by_cases c : r.op = .snap
  · have e : r.ans = some r.ord := by unfold Rec.ans; rw [c]
    rw [e] at q
    refine eqS_T (by rw [c] <;> rfl) (iteT ?_)
    refine ⟨_, rfl, by show 2 ≤ sizeLine; decide, fun p hp => ?_⟩
    exact q p _ (same_upd hp) hp upd_same
  · have e : r.ans = none := by
      unfold Rec.ans
      cases o : r.op <;> first | rfl | exact absurd o c
    rw [e] at q
    refine eqS_F (fun z => ?_) ?_
    · cases o : r.op <;> first | exact c o | (rw [o] at z; exact absurd z (by walk_at "ns"))
    refine ⟨_, rfl, rfl, _, rfl, ?_⟩
    refine eqS_F (fun z => ?_) ?_
    · cases o : r.op <;> (rw [o] at z; exact absurd z (by walk_at "ns"))
    refine ⟨(by decide : 2 ≤ sizeLine), fun p hp => ?_⟩
    exact q p _ (same_upd hp) hp upd_same
def sp_withoutK : Sp := fun vs H Q _ => ∃ (t : Addr) (kvs : List (Key × V)) (k : Key), vs = [.ref t, kV k] ∧ H t = some (.dK kvs) ∧ (kvs.map (·.1)).Nodup ∧ kvs.length ≤ 1000 ∧ (∀ p ∈ kvs, SeqAt.shaped (kD p.1) = true) ∧ SeqAt.shaped (kD k) = true ∧
  Mk1 H Q fun p H' => H' p = some (.dK (outK kvs k))
theorem sc_law_without : FnScope ["_law_table", "_law_key_here", "_law_other"] ["_law_table", "_law_key_here"] (defScope s_law_without) := C8.fnScope_by (by decide +kernel)
theorem c_law_without (T : Tx w K mg) : Cal P w K mg base 1 "_law_without" sp_withoutK [] := by
  refine K_law_without T sc_law_without (fun _ _ _ _ _ _ us hl => match us, hl with | [_, _], _ => rfl) (by walk_at "len") (fun cdv A outer s H vs Q E hr h => ?_)
  have nd := sc_law_without.nd
  have hu := hu_of hr
  refine ⟨_, (pss_one (ps_ret (pe_callTy (call_dictP rfl) (by rfl) (b_dict T) boot_dict (pa_cons (pe_lock (pe_lc (own := [("_law_other", 2)]) rfl nd (pi_keys (pv 0)) (blkOk_by (N := (["_law_table", "_law_key_here", "_law_other"] : List Str)) (sc := (defScope s_law_without)) (by decide +kernel)) (fun _ _ _ _ _ => (pg_name (i := 2) nd rfl (Or.inl rfl))) (fun _ _ _ _ _ => (pts_one (pt_cmpR (op_neDK (K := K) rfl hr.units) (pv 2) (pv 1) (nomark _)))) (fun _ _ _ _ _ => (pe_tup (pa_cons (pv 2) (pa_cons (pe_dget hu (pv 0) (pv 2) (fun _ _ => rfl)) pa_nil)))))) pa_nil)))), ?_⟩
  obtain ⟨t, kvs, k0, rfl, ht, nd0, hl, hs, hk, k⟩ := h
  have sz2 : 2 ≤ sizeLine := by decide
  refine ⟨t, .dK kvs, ht, trivial, fun od => ?_⟩
  have hGt : (upd H t (.frz od (.dK kvs))) t = some (.frz od (.dK kvs)) := upd_same
  have gf : ∀ b o, H b = some o → b ≠ t → (upd H t (.frz od (.dK kvs))) b = some o := fun b o e z => by rw [upd_ne z]; exact e
  have gn : ∀ b, (upd H t (.frz od (.dK kvs))) b = none → H b = none ∧ b ≠ t := fun b e => by
    by_cases z : b = t
    · rw [z, upd_same] at e; cases e
    · rw [upd_ne z] at e; exact ⟨e, z⟩
  revert hGt gf gn
  generalize (upd H t (.frz od (.dK kvs))) = G
  intro hGt gf gn
  refine ⟨_, rfl, t, od, rfl, .inl ⟨kvs, hGt, fun D hD => ?_⟩⟩
  have hDn := gn D hD
  refine lc_it walk_keys (fun i H' => Same G H' ∧ ∃ ps : List Addr, H' D = some (.lst (ps.map V.ref)) ∧ Paired (fun p kv => H' p = some (.tup [kV kv.1, kv.2])) ps (outK (kvs.take i) k0)) ?_ ?_ ?_ ?_
  · exact ⟨same_upd hD, [], upd_same, .nil⟩
  · rintro i H' _ ⟨s, _⟩
    exact s _ _ hGt
  · rintro i x H' H2 hi ⟨s, ps, eD, pr⟩ ⟨rfl, k1, v1, hkv, rfl⟩
    have st := outK_take (k0 := k0) hkv
    refine ⟨rfl, _, rfl, _, rfl, kD k1, kD k0, kD_dp _ _, kD_dp _ _, hs _ (List.mem_of_getElem? hkv), hk, _, rfl, ?_⟩
    rw [kD_eqv]
    by_cases c : k1 = k0
    · rw [if_neg (fun z => z c)] at st
      rw [decide_eq_true c]
      refine iteF ⟨s, ps, eD, ?_⟩
      rw [st]
      exact pr
    · rw [if_pos c] at st
      rw [decide_eq_false c]
      refine iteT ⟨_, rfl, _, rfl, _, rfl, t, v1, rfl, .inl ⟨kvs, k1, .inr ⟨od, s _ _ hGt⟩, rfl, (val_mem nd0 (List.mem_of_getElem? hkv)).symm⟩, sz2, fun q hq => ?_⟩
      have eD2 := upd_old (o := .tup [kV k1, v1]) eD hq
      have qD : q ≠ D := (ne_of_none eD hq).symm
      refine ⟨_, eD2, ?_, fun b o e => ?_, ps ++ [q], ?_, ?_⟩
      · have h1 : (outK (kvs.take i) k0).length ≤ (kvs.take i).length := List.length_filter_le _ _
        rw [List.length_take] at h1
        rw [List.length_map, Paired.length pr]
        exact small1000 (by omega)
      · rw [upd_ne (ne_of_none e hD)]; exact upd_old (s _ _ e) hq
      · rw [List.map_append]; exact upd_same
      · rw [st]
        refine Paired.snoc (mapP pr fun p kv e => ?_) ?_
        · rw [upd_ne (ne_of (upd_old e hq) eD2 fun z => nomatch z)]; exact upd_old e hq
        · rw [upd_ne qD]; exact upd_same
  rintro H' ⟨s, ps, eD, pr⟩
  rw [List.take_length] at pr
  refine ⟨s _ _ hGt, ?_⟩
  have sF : Same H (upd H' t (.dK kvs)) := fun b o e => by
    by_cases z : b = t
    · subst z; rw [ht] at e; rw [upd_same]; exact e
    · rw [upd_ne z]; exact s _ _ (gf _ _ e z)
  refine ⟨D, ps, _, rfl, SqL.of (by rw [upd_ne hDn.2]; exact eD), mapP pr (fun p kv e => SqT.of (by rw [upd_ne (ne_of e (s _ _ hGt) fun z => nomatch z)]; exact e)), fun p hp => ?_⟩
  rw [merge_nd _ [] (by rw [List.nil_append]; exact outK_nodup nd0 k0)]
  exact k p _ (same_upd' sF hp) (sF.free hp) upd_same
def sp_withoutT : Sp := fun vs H Q _ => ∃ (t q : Addr) (kvs : List (List Key × V)) (a0 b0 : Int), vs = [.ref t, .ref q] ∧ H t = some (.dT kvs) ∧ H q = some (.tup (([.inl a0, .inl b0] : List Key).map kV)) ∧ (kvs.map (·.1)).Nodup ∧ kvs.length ≤ 1000 ∧ (∀ p ∈ kvs, ∃ a b, p.1 = [.inl a, .inl b]) ∧
  Mk1 H Q fun p H' => H' p = some (.dT (outK kvs [.inl a0, .inl b0]))
theorem c_law_withoutT (T : Tx w K mg) : Cal P w K mg base 1 "_law_without" sp_withoutT [] := by
  refine K_law_without T sc_law_without (fun _ _ _ _ _ _ us hl => match us, hl with | [_, _], _ => rfl) (by walk_at "len") (fun cdv A outer s H vs Q E hr h => ?_)
  have nd := sc_law_without.nd
  have hu := hu_of hr
  refine ⟨_, (pss_one (ps_ret (pe_callTy (call_dictPT rfl hr.units) (by rfl) (b_dict T) boot_dict (pa_cons (pe_lock (pe_lc (own := [("_law_other", 2)]) rfl nd (pi_keys (pv 0)) (blkOk_by (N := (["_law_table", "_law_key_here", "_law_other"] : List Str)) (sc := (defScope s_law_without)) (by decide +kernel)) (fun _ _ _ _ _ => (pg_name (i := 2) nd rfl (Or.inl rfl))) (fun _ _ _ _ _ => (pts_one (pt_cmpR (op_neDK (K := K) rfl hr.units) (pv 2) (pv 1) (nomark _)))) (fun _ _ _ _ _ => (pe_tup (pa_cons (pv 2) (pa_cons (pe_dget hu (pv 0) (pv 2) (fun _ _ => rfl)) pa_nil)))))) pa_nil)))), ?_⟩
  obtain ⟨t, q0, kvs, a0, b0, rfl, ht, hq0, nd0, hl, hs, k⟩ := h
  have sz2 : 2 ≤ sizeLine := by decide
  refine ⟨t, .dT kvs, ht, trivial, fun od => ?_⟩
  have hGt : (upd H t (.frz od (.dT kvs))) t = some (.frz od (.dT kvs)) := upd_same
  have gf : ∀ b o, H b = some o → b ≠ t → (upd H t (.frz od (.dT kvs))) b = some o := fun b o e z => by rw [upd_ne z]; exact e
  have gn : ∀ b, (upd H t (.frz od (.dT kvs))) b = none → H b = none ∧ b ≠ t := fun b e => by
    by_cases z : b = t
    · rw [z, upd_same] at e; cases e
    · rw [upd_ne z] at e; exact ⟨e, z⟩
  have hGq := gf _ _ hq0 (ne_of hq0 ht fun z => nomatch z)
  revert hGt gf gn hGq
  generalize (upd H t (.frz od (.dT kvs))) = G
  intro hGt gf gn hGq
  refine ⟨_, rfl, t, od, rfl, .inr ⟨kvs, hGt, fun D hD => ?_⟩⟩
  have hDn := gn D hD
  refine lc_it walk_keysT (fun i H' => Same G H' ∧ ∃ ps : List Addr, H' D = some (.lst (ps.map V.ref)) ∧ Paired (fun p (kv : List Key × V) => ∃ q, H' p = some (.tup [.ref q, kv.2]) ∧ H' q = some (.tup (kv.1.map kV))) ps (outK (kvs.take i) [.inl a0, .inl b0])) ?_ ?_ ?_ ?_
  · exact ⟨same_upd hD, [], upd_same, .nil⟩
  · rintro i H' _ ⟨s, _⟩
    exact s _ _ hGt
  · rintro i x H' H2 hi ⟨s, ps, eD, pr⟩ ⟨rfl, k1, v1, q1, hkv, rfl, hq1⟩
    have st := outK_take (k0 := [.inl a0, .inl b0]) hkv
    obtain ⟨a1, b1, ek⟩ := hs _ (List.mem_of_getElem? hkv)
    obtain rfl : k1 = [.inl a1, .inl b1] := ek
    refine ⟨rfl, _, rfl, _, rfl, kDs [.inl a1, .inl b1], kDs [.inl a0, .inl b0], kDs_dp hq1, kDs_dp (s _ _ hGq), two_shaped _ _, two_shaped _ _, _, rfl, ?_⟩
    rw [two_eqv]
    by_cases c : ([.inl a1, .inl b1] : List Key) = [.inl a0, .inl b0]
    · rw [if_neg (fun z => z c)] at st
      rw [decide_eq_true c]
      refine iteF ⟨s, ps, eD, ?_⟩
      rw [st]
      exact pr
    · rw [if_pos c] at st
      rw [decide_eq_false c]
      refine iteT ⟨_, rfl, _, rfl, _, rfl, t, v1, rfl, .inr ⟨kvs, _, q1, .inr ⟨od, s _ _ hGt⟩, rfl, hq1, (val_mem nd0 (List.mem_of_getElem? hkv)).symm⟩, sz2, fun q hq => ?_⟩
      have eD2 := upd_old (o := .tup [.ref q1, v1]) eD hq
      have qD : q ≠ D := (ne_of_none eD hq).symm
      refine ⟨_, eD2, ?_, fun b o e => ?_, ps ++ [q], ?_, ?_⟩
      · have h1 : (outK (kvs.take i) [.inl a0, .inl b0]).length ≤ (kvs.take i).length := List.length_filter_le _ _
        rw [List.length_take] at h1
        rw [List.length_map, Paired.length pr]
        exact small1000 (by omega)
      · rw [upd_ne (ne_of_none e hD)]; exact upd_old (s _ _ e) hq
      · rw [List.map_append]; exact upd_same
      · rw [st]
        have k2 : ∀ {b xs}, H2 b = some (.tup xs) → (upd (upd H2 q (.tup [.ref q1, v1])) D (.lst (ps.map V.ref ++ [.ref q]))) b = some (.tup xs) := fun e => by rw [upd_ne (ne_of (upd_old e hq) eD2 fun z => nomatch z)]; exact upd_old e hq
        refine Paired.snoc (mapP pr fun p kv ⟨q', e, e2⟩ => ⟨q', k2 e, k2 e2⟩) ⟨q1, ?_, k2 hq1⟩
        rw [upd_ne qD]; exact upd_same
  rintro H' ⟨s, ps, eD, pr⟩
  rw [List.take_length] at pr
  refine ⟨s _ _ hGt, ?_⟩
  have sF : Same H (upd H' t (.dT kvs)) := fun b o e => by
    by_cases z : b = t
    · subst z; rw [ht] at e; rw [upd_same]; exact e
    · rw [upd_ne z]; exact s _ _ (gf _ _ e z)
  have k3 : ∀ {b xs}, H' b = some (.tup xs) → (upd H' t (.dT kvs)) b = some (.tup xs) := fun e => by rw [upd_ne (ne_of e (s _ _ hGt) fun z => nomatch z)]; exact e
  refine ⟨D, ps, _, rfl, SqL.of (by rw [upd_ne hDn.2]; exact eD), mapP pr (fun p kv ⟨q', e, e2⟩ => ⟨q', SqT.of (k3 e), k3 e2⟩), outK_nodup nd0 _, fun p hp => ?_⟩
  exact k p _ (same_upd' sF hp) (sF.free hp) upd_same
end
end L2.Sg
set_option Elab.async false
set_option linter.all false
set_option maxRecDepth 100000
set_option maxHeartbeats 4000000
namespace L2.Sg
open PySem PySem.Spec PyProof.Rows
open C8 (Cal Met Mak pe_c pe_mt pe_mt0 pe_mk tCut pss_cut)
local macro_rules | `(tactic| walk_at "len") => `(tactic| (intro vs H Q E h; first | (obtain ⟨e, _⟩ := h; subst e; rfl) | (obtain ⟨_, e, _⟩ := h; subst e; rfl) | (obtain ⟨_, _, e, _⟩ := h; subst e; rfl) | (obtain ⟨_, _, _, e, _⟩ := h; subst e; rfl) | (obtain ⟨_, _, _, _, e, _⟩ := h; subst e; rfl) | (obtain ⟨_, _, _, _, _, e, _⟩ := h; subst e; rfl) | (obtain ⟨_, _, _, _, _, _, e, _⟩ := h; subst e; rfl) | (obtain ⟨_, _, _, _, _, _, _, e, _⟩ := h; subst e; rfl) | (obtain ⟨_, _, _, _, _, _, _, _, e, _⟩ := h; subst e; rfl) | (obtain ⟨_, _, _, _, _, _, _, _, _, e, _⟩ := h; subst e; rfl) | (obtain ⟨_, _, _, _, _, _, _, _, _, _, e, _⟩ := h; subst e; rfl) | (obtain ⟨_, _, _, _, _, _, _, _, _, _, _, e, _⟩ := h; subst e; rfl) | (obtain ⟨_, _, _, _, _, _, _, _, _, _, _, _, e, _⟩ := h; subst e; rfl) | (obtain ⟨_, _, _, _, _, _, _, _, _, _, _, _, _, e, _⟩ := h; subst e; rfl) | (obtain ⟨_, _, _, _, _, _, _, _, _, _, _, _, _, _, e, _⟩ := h; subst e; rfl) | (obtain ⟨_, _, _, _, _, _, _, _, _, _, _, _, _, _, _, e, _⟩ := h; subst e; rfl)))
local macro_rules | `(tactic| walk_at "ns") => `(tactic| (try dsimp only [Op.kind, Tp.word, Rec.top]); decide +kernel)
def ctrOf (S : Sta) (h : Int) : Int := match S.marks.find? fun m => decide (m.1 = h) with
  | some m => m.2.1
  | none => 0
theorem marks_get {H : Hp} {h : Int} : ∀ {mkv : List (Key × V)} {ms : List (Int × Int × Option Int)}, Paired (fun (kv : Key × V) m => kv.1 = Sum.inl m.1 ∧ ∃ q, kv.2 = .ref q ∧ MarkAt H q m.2) mkv ms →
    (valV mkv (.inl h) = none ∧ ms.find? (fun m => decide (m.1 = h)) = none) ∨ ∃ q n c an, valV mkv (.inl h) = some (.ref q) ∧ H q = some (.tup [.int 1, .int c, .ref n, .non]) ∧ ms.find? (fun m => decide (m.1 = h)) = some (h, c, an)
  | _, _, .nil => .inl ⟨rfl, rfl⟩
  | _, _, .cons (a := kv) (b := m) e t => by
    obtain ⟨e1, q, e2, n, e3, e4⟩ := e
    by_cases c : m.1 = h
    · right
      refine ⟨q, n, m.2.1, m.2.2, by rw [valV_pos (by rw [e1, c]), e2], e3, ?_⟩
      rw [List.find?_cons_of_pos (by simp [c])]
      exact congrArg some (Prod.ext c rfl)
    · rcases marks_get (h := h) t with ⟨a, b⟩ | ⟨q', n', c', an', a, b, d⟩
      · exact .inl ⟨by rw [valV_neg (fun z => c (Sum.inl.inj (e1.symm.trans z))), a], by rw [List.find?_cons_of_neg (by simp [c]), b]⟩
      · exact .inr ⟨q', n', c', an', by rw [valV_neg (fun z => c (Sum.inl.inj (e1.symm.trans z))), a], b, by rw [List.find?_cons_of_neg (by simp [c]), d]⟩
def cellsOp (o : Op) (cs : List (Int × Int)) : List (Int × Int) := match o with
  | .write p v => withE cs p v
  | .trim p => outE cs p
  | _ => cs
def isCell : Op → Bool
  | .write _ _ => true
  | .trim _ => true
  | _ => false
section
variable {P : Program} {w : World} {K : PySem.W.Frag} {base : Heap} {mg : Str → Option Value}
theorem sc_law_with : FnScope ["_law_table", "_law_key_here", "_law_value", "_law_changed"] ["_law_table", "_law_key_here", "_law_value"] (defScope s_law_with) := C8.fnScope_by (by decide +kernel)
theorem c_law_with (T : Tx w K mg) : Cal P w K mg base 2 "_law_with" sp_withK [] := by
  refine K_law_with T sc_law_with (fun _ _ _ _ _ _ us hl => match us, hl with | [_, _, _], _ => rfl) (by walk_at "len") (fun cdv A outer s H vs Q E hr h => ?_)
  have nd := sc_law_with.nd
  have hu := hu_of hr
  refine ⟨_, (pss_cons (ps_set (i := 3) nd rfl (Or.inl rfl) (C8.pe_c (c_law_without T) hr (by decide) (by rfl) (pa_cons (pv 0) (pa_cons (pv 1) pa_nil))))
      (pss_cons (ps_if (pt_cmp (pc_notN (pv 2))) (pss_one (ps_dput hu (pv 3) (pv 1) (pv 2) rfl)) pss_nil)
      (pss_one (ps_ret (pv 3))))), ?_⟩
  obtain ⟨t, kvs, k0, v, rfl, ht, nd0, hl, hs, hk, k⟩ := h
  refine ⟨_, rfl, _, rfl, t, kvs, k0, rfl, ht, nd0, hl, hs, hk, fun D F sF hHD fD => ?_⟩
  refine ⟨_, rfl, _, rfl, ?_⟩
  by_cases c : v = .non
  · rw [decide_eq_true c]
    refine iteF ⟨_, rfl, k D F sF hHD ?_⟩
    unfold newK
    rw [if_pos c]
    exact fD
  · rw [decide_eq_false c]
    refine iteT ⟨_, rfl, _, rfl, _, rfl, D, _, rfl, DPut.k fD ?_, _, rfl, k D _ (fun b o e => by rw [upd_ne (ne_of_none e hHD)]; exact sF _ _ e) hHD ?_⟩
    · have h1 : (outK kvs k0).length ≤ kvs.length := List.length_filter_le _ _
      exact small1000 (by omega)
    · unfold newK
      rw [if_neg c, ← putK_new _ (outK_none kvs k0)]
      exact upd_same
theorem c_law_withT (T : Tx w K mg) : Cal P w K mg base 2 "_law_with" sp_withT [] := by
  refine K_law_with T sc_law_with (fun _ _ _ _ _ _ us hl => match us, hl with | [_, _, _], _ => rfl) (by walk_at "len") (fun cdv A outer s H vs Q E hr h => ?_)
  have nd := sc_law_with.nd
  have hu := hu_of hr
  refine ⟨_, (pss_cons (ps_set (i := 3) nd rfl (Or.inl rfl) (C8.pe_c (c_law_withoutT T) hr (by decide) (by rfl) (pa_cons (pv 0) (pa_cons (pv 1) pa_nil))))
      (pss_cons (ps_if (pt_cmp (pc_notN (pv 2))) (pss_one (ps_dput hu (pv 3) (pv 1) (pv 2) rfl)) pss_nil)
      (pss_one (ps_ret (pv 3))))), ?_⟩
  obtain ⟨t, q, kvs, a0, b0, v, rfl, ht, hq, nd0, hl, hs, k⟩ := h
  refine ⟨_, rfl, _, rfl, t, q, kvs, a0, b0, rfl, ht, hq, nd0, hl, hs, fun D F sF hHD fD => ?_⟩
  refine ⟨_, rfl, _, rfl, ?_⟩
  by_cases c : v = .non
  · rw [decide_eq_true c]
    refine iteF ⟨_, rfl, k D F sF hHD ?_⟩
    unfold newK
    rw [if_pos c]
    exact fD
  · rw [decide_eq_false c]
    refine iteT ⟨_, rfl, _, rfl, _, rfl, D, _, rfl, .inr ⟨_, _, q, fD, rfl, sF _ _ hq, ?_, rfl⟩, _, rfl, k D _ (fun b o e => by rw [upd_ne (ne_of_none e hHD)]; exact sF _ _ e) hHD ?_⟩
    · have h1 : (outK kvs [.inl a0, .inl b0]).length ≤ kvs.length := List.length_filter_le _ _
      exact small1000 (by omega)
    · unfold newK
      rw [if_neg c, ← putK_new _ (outK_none kvs _)]
      exact upd_same
theorem sc_law_start : FnScope [] [] (defScope s_law_start) := C8.fnScope_by (by decide +kernel)
theorem c_law_start (T : Tx w K mg) : Cal P w K mg base 1 "_law_start" (sp_new_state K) [] := by
  refine K_law_start T sc_law_start (fun _ _ _ _ _ _ us hl => match us, hl with | [], _ => rfl) (by walk_at "len") (fun cdv A outer s H vs Q E hr h => ?_)
  have nd := sc_law_start.nd
  have hu := hu_of hr
  refine ⟨_, (pss_one (ps_ret (pe_disp (pps_cons pe_str pe_int (pps_cons pe_str pe_dnewK (pps_cons pe_str pe_dnewT (pps_cons pe_str pe_dnewK pps_nil)))) (by rfl) (by rfl) (fun z => by cases z) (by decide)))), ?_⟩
  obtain ⟨rfl, k⟩ := h
  have sz0 : 0 ≤ sizeLine := by decide
  refine fun p hp ds hds dn hdn dm hdm => ?_
  have a1 := upd_old (o := .dK []) (upd_old (o := .dT []) (upd_old (o := .dK []) (upd_same (H := H) (a := p) (o := .dK [])) hds) hdn) hdm
  have s0 : Same H (upd (upd (upd (upd H p (.dK [])) ds (.dK [])) dn (.dT [])) dm (.dK [])) := same_upd' (same_upd' (same_upd' (same_upd hp) hds) hdn) hdm
  refine ⟨a1, [(.inr "order", .int 0), (.inr "spaces", .ref ds), (.inr "snaps", .ref dn), (.inr "marks", .ref dm)], rfl, by show 4 ≤ 15; decide, ?_⟩
  have em : mergeK [] [(.inr "order", .int 0), (.inr "spaces", .ref ds), (.inr "snaps", .ref dn), (.inr "marks", .ref dm)] = ([(.inr "order", .int 0), (.inr "spaces", .ref ds), (.inr "snaps", .ref dn), (.inr "marks", .ref dm)] : List (Key × V)) := by kernel_rfl
  rw [em]
  have q1 : ds ≠ p := (ne_of_none upd_same hds).symm
  have q2 : dn ≠ p := (ne_of_none (upd_old (o := .dK []) upd_same hds) hdn).symm
  have q3 : dm ≠ p := (ne_of_none (upd_old (o := .dT []) (upd_old (o := .dK []) upd_same hds) hdn) hdm).symm
  refine k p _ (fun b o e => by rw [upd_ne (ne_of_none e hp)]; exact s0 _ _ e) hp ⟨_, ds, dn, dm, upd_same, .refl _, by kernel_rfl, by kernel_rfl, by kernel_rfl, by kernel_rfl, ?_, ⟨[], ?_, .nil⟩, ⟨[], ?_, .nil⟩⟩
  · show (upd _ p _) ds = some (.dK [])
    rw [upd_ne q1]; exact upd_old (upd_old upd_same hdn) hdm
  · rw [upd_ne q2]; exact upd_old upd_same hdm
  · rw [upd_ne q3]; exact upd_same
def sp_law_space (K : PySem.W.Frag) : Sp := fun vs H Q _ => ∃ (wd fa : Addr) (S : Sta) (cs : List (Int × Int)) (o : Op) (x y : Int), vs = [.ref wd, .int x, .int y, .str o.kind, .ref fa] ∧ StaA K H wd S ∧ S.Ok 900 ∧ S.cells = some cs ∧ isCell o = true ∧ H fa = some (.tup o.flds) ∧
  Mk0 H Q fun p H' => SpaceAt K H' p (cellsOp o cs)
theorem sc_law_space : FnScope ["_law_world", "_law_order", "_law_host", "_law_kind", "_law_fields", "_law_size", "_law_cells", "_law_fence"] ["_law_world", "_law_order", "_law_host", "_law_kind", "_law_fields"] (defScope s_law_space) := C8.fnScope_by (by decide +kernel)
theorem c_law_space (T : Tx w K mg) : Cal P w K mg base 3 "_law_space" (sp_law_space K) [] := by
  refine K_law_space T sc_law_space (fun _ _ _ _ _ _ us hl => match us, hl with | [_, _, _, _, _], _ => rfl) (by walk_at "len") (fun cdv A outer s H vs Q E hr h => ?_)
  have nd := sc_law_space.nd
  have hu := hu_of hr
  refine ⟨_, (pss_cons (ps_asg (pe_dget hu (pe_dget hu (pv 0) pe_str (fun _ _ => rfl)) (pe_ix ix_tup (pv 4) pe_int (fun _ _ => rfl)) (fun _ _ => rfl)) (pg_tup rfl (pgs_cons (pg_name (i := 5) nd rfl (Or.inl rfl)) (pgs_cons (pg_name (i := 6) nd rfl (Or.inl rfl)) (pgs_cons (pg_name (i := 7) nd rfl (Or.inl rfl)) pgs_nil)))))
      (pss_cons (ps_if (pt_cmpR op_eq (pv 3) pe_str (nomark _)) (pss_one (ps_set (i := 6) nd rfl (Or.inl rfl) (C8.pe_c (c_law_with T) hr (by decide) (by rfl) (pa_cons (pv 6) (pa_cons (pe_ix ix_tup (pv 4) pe_int (fun _ _ => rfl)) (pa_cons (pe_ix ix_tup (pv 4) pe_int (fun _ _ => rfl)) pa_nil)))))) (pss_one (ps_if (pt_cmpR op_eq (pv 3) pe_str (nomark _)) (pss_one (ps_set (i := 6) nd rfl (Or.inl rfl) (C8.pe_c (c_law_without T) hr (by decide) (by rfl) (pa_cons (pv 6) (pa_cons (pe_ix ix_tup (pv 4) pe_int (fun _ _ => rfl)) pa_nil))))) pss_never)))
      (pss_one (ps_ret (pe_tup (pa_cons (pv 5) (pa_cons (pv 6) (pa_cons (pv 7) pa_nil)))))))), ?_⟩
  obtain ⟨wd, fa, S, cs, o, x, y, rfl, SA, ok, hcs, hc, hf, k⟩ := h
  obtain ⟨kvs, ds, dn, dm, e1, e2, e3, e4, e5, e6, e7, e8, e9⟩ := SA
  have sz3 : 3 ≤ sizeLine := by decide
  rw [hcs] at e7
  obtain ⟨sq, hq0, c, f, hsq, hcq, hf0⟩ := e7
  have cnd : ((cellKV cs).map (·.1)).Nodup := by rw [cell_keys]; exact keys_nd inl_inj (ok.cl cs hcs).1
  have cln : (cellKV cs).length ≤ 1000 := by
    have := (ok.cl cs hcs).2
    unfold cellKV
    rw [List.length_map]
    omega
  have f0 : o.flds[0]? = some (.int 5) := by cases o <;> rfl
  refine ⟨_, rfl, wd, _, rfl, get_st e1 e4, _, rfl, fa, _, 0, _, rfl, rfl, SqT.of hf, at_of (j := 0) rfl f0, ds, .ref sq, rfl, .inl ⟨_, .inl 5, .inl hq0, rfl, rfl⟩, sq, _, rfl, SqT.of hsq, rfl, _, _, rfl, _, _, rfl, _, _, rfl, rfl, ?_⟩
  cases o with
  | write p v =>
    refine ⟨_, rfl, rfl, _, rfl, eqS_T rfl ?_⟩
    refine ⟨_, rfl, _, rfl, fa, _, 1, _, rfl, rfl, SqT.of hf, at_of (j := 1) rfl rfl, _, rfl, fa, _, 2, _, rfl, rfl, SqT.of hf, at_of (j := 2) rfl rfl, c, cellKV cs, .inl p, .int v, rfl, hcq, cnd, cln, cell_shaped cs, shaped_int p, fun c2 H1 s1 f1 h1 => ?_⟩
    rw [cell_new] at h1
    refine ⟨_, rfl, _, rfl, _, rfl, sz3, fun sq2 hsq2 => ?_⟩
    have s2 := same_upd' s1 hsq2 (o := .tup [.int 64, .ref c2, .ref f])
    exact k sq2 _ s2 ⟨c2, f, upd_same, upd_old h1 hsq2, FenceAt.keep (same_imm s2) hf0⟩
  | trim p =>
    refine ⟨_, rfl, rfl, _, rfl, eqS_F (show ¬ ("trim" : Str) = "write" by decide +kernel) ?_⟩
    refine ⟨_, rfl, rfl, _, rfl, eqS_T rfl ?_⟩
    refine ⟨_, rfl, _, rfl, fa, _, 1, _, rfl, rfl, SqT.of hf, at_of (j := 1) rfl rfl, c, cellKV cs, .inl p, rfl, hcq, cnd, cln, cell_shaped cs, shaped_int p, fun c2 H1 s1 f1 h1 => ?_⟩
    rw [cell_out] at h1
    refine ⟨_, rfl, _, rfl, _, rfl, sz3, fun sq2 hsq2 => ?_⟩
    have s2 := same_upd' s1 hsq2 (o := .tup [.int 64, .ref c2, .ref f])
    exact k sq2 _ s2 ⟨c2, f, upd_same, upd_old h1 hsq2, FenceAt.keep (same_imm s2) hf0⟩
  | make => cases hc
  | snap => cases hc
  | drop n => cases hc
def sp_law_named (K : PySem.W.Frag) : Sp := fun vs H Q _ => ∃ (wd fa : Addr) (S : Sta) (o : Op) (h : Int), vs = [.ref wd, .str o.kind, .int h, .ref fa] ∧ StaA K H wd S ∧ Mk1 H Q fun t H' => H' t = some (.tup [.str o.kind, .int h, .int 1, .int (ctrOf S h + 1), .ref fa])
theorem sc_law_named : FnScope ["_law_world", "_law_kind", "_law_host", "_law_fields", "_law_mark"] ["_law_world", "_law_kind", "_law_host", "_law_fields"] (defScope s_law_named) := C8.fnScope_by (by decide +kernel)
theorem c_law_named (T : Tx w K mg) : Cal P w K mg base 1 "_law_named" (sp_law_named K) [] := by
  refine K_law_named T sc_law_named (fun _ _ _ _ _ _ us hl => match us, hl with | [_, _, _, _], _ => rfl) (by walk_at "len") (fun cdv A outer s H vs Q E hr h => ?_)
  have nd := sc_law_named.nd
  have hu := hu_of hr
  refine ⟨_, (pss_cons (ps_set (i := 4) nd rfl (Or.inl rfl) (pe_dget2 hu (pe_dget hu (pv 0) pe_str (fun _ _ => rfl)) (pv 2) (pe_tup (pa_cons pe_int (pa_cons pe_int (pa_cons pe_non (pa_cons pe_non pa_nil))))) ⟨rfl, rfl, rfl, rfl⟩))
      (pss_cons (ps_if (pt_cmpR op_eq (pv 1) pe_str (nomark _)) (pss_one ps_never) pss_nil)
      (pss_one (ps_ret (pe_tup (pa_cons (pv 1) (pa_cons (pv 2) (pa_cons (pe_ix ix_tup (pv 4) pe_int (fun _ _ => rfl)) (pa_cons (pe_op op_add (pe_ix ix_tup (pv 4) pe_int (fun _ _ => rfl)) pe_int) (pa_cons (pv 3) pa_nil)))))))))), ?_⟩
  obtain ⟨wd, fa, S, o, h, rfl, SA, k⟩ := h
  obtain ⟨kvs, ds, dn, dm, e1, e2, e3, e4, e5, e6, e7, e8, mkv, em, pm⟩ := SA
  have sz4 : 4 ≤ sizeLine := by decide
  have sz5 : 5 ≤ sizeLine := by decide
  refine ⟨_, rfl, wd, _, rfl, get_st e1 e6, dm, rfl, .inl ⟨_, .inl em⟩, _, rfl, sz4, fun t ht => ?_⟩
  have s1 := same_upd ht (o := .tup [.int 1, .int 0, .non, .non])
  refine ⟨_, .inl ⟨mkv, .inl h, .inl (s1 _ _ em), rfl, rfl⟩, ?_⟩
  obtain ⟨m, d', x, em2, hm⟩ : ∃ m d' x, (valV mkv (.inl h)).getD (.ref t) = .ref m ∧ (upd H t (.tup [.int 1, .int 0, .non, .non])) m = some (.tup [.int 1, .int (ctrOf S h), d', x]) := by
    rcases marks_get (h := h) pm with ⟨a, b⟩ | ⟨q, n, c, an, a, b, d⟩
    · refine ⟨t, .non, .non, by rw [a] <;> rfl, ?_⟩
      have : ctrOf S h = 0 := by unfold ctrOf; rw [b]
      rw [this]
      exact upd_same
    · refine ⟨q, .ref n, .non, by rw [a] <;> rfl, ?_⟩
      have : ctrOf S h = c := by unfold ctrOf; rw [d]
      rw [this]
      exact s1 _ _ b
  rw [em2]
  refine ⟨_, rfl, rfl, _, rfl, eqS_F (no_mark o) ?_⟩
  refine ⟨_, rfl, _, rfl, _, rfl, m, _, 0, _, rfl, rfl, SqT.of hm, at_of (j := 0) rfl rfl, _, rfl, m, _, 1, _, rfl, rfl, SqT.of hm, at_of (j := 1) rfl rfl, _, _, rfl, rfl, _, rfl, sz5, fun q hq => ?_⟩
  exact k q _ (same_upd' s1 hq) (s1.free hq) upd_same
end
end L2.Sg
set_option Elab.async false
set_option linter.all false
set_option maxRecDepth 100000
set_option maxHeartbeats 4000000
namespace L2.Sg
open PySem PySem.Spec PyProof.Rows
open C8 (Cal Met Mak pe_c pe_mt pe_mt0 pe_mk tCut pss_cut)
local macro_rules | `(tactic| walk_at "len") => `(tactic| (intro vs H Q E h; first | (obtain ⟨e, _⟩ := h; subst e; rfl) | (obtain ⟨_, e, _⟩ := h; subst e; rfl) | (obtain ⟨_, _, e, _⟩ := h; subst e; rfl) | (obtain ⟨_, _, _, e, _⟩ := h; subst e; rfl) | (obtain ⟨_, _, _, _, e, _⟩ := h; subst e; rfl) | (obtain ⟨_, _, _, _, _, e, _⟩ := h; subst e; rfl) | (obtain ⟨_, _, _, _, _, _, e, _⟩ := h; subst e; rfl) | (obtain ⟨_, _, _, _, _, _, _, e, _⟩ := h; subst e; rfl) | (obtain ⟨_, _, _, _, _, _, _, _, e, _⟩ := h; subst e; rfl) | (obtain ⟨_, _, _, _, _, _, _, _, _, e, _⟩ := h; subst e; rfl) | (obtain ⟨_, _, _, _, _, _, _, _, _, _, e, _⟩ := h; subst e; rfl) | (obtain ⟨_, _, _, _, _, _, _, _, _, _, _, e, _⟩ := h; subst e; rfl) | (obtain ⟨_, _, _, _, _, _, _, _, _, _, _, _, e, _⟩ := h; subst e; rfl) | (obtain ⟨_, _, _, _, _, _, _, _, _, _, _, _, _, e, _⟩ := h; subst e; rfl) | (obtain ⟨_, _, _, _, _, _, _, _, _, _, _, _, _, _, e, _⟩ := h; subst e; rfl) | (obtain ⟨_, _, _, _, _, _, _, _, _, _, _, _, _, _, _, e, _⟩ := h; subst e; rfl)))
local macro_rules | `(tactic| walk_at "ns") => `(tactic| (try dsimp only [Op.kind, Tp.word, Rec.top]); decide +kernel)
theorem spaces_kv {K : PySem.W.Frag} {H : Hp} {ds : Addr} {c : Option (List (Int × Int))} (h : SpacesAt K H ds c) : ∃ skv : List (Key × V), H ds = some (.dK skv) ∧ (skv.map (·.1)).Nodup ∧ skv.length ≤ 1000 ∧ (∀ p ∈ skv, SeqAt.shaped (kD p.1) = true) ∧ ∀ q, newK skv (.inl 5) (.ref q) = [(Sum.inl 5, V.ref q)] := by
  cases c with
  | none =>
    exact ⟨[], h, .nil, by decide, fun p h => (List.not_mem_nil h).elim, fun q => by unfold newK; rw [if_neg (ref_non q)] <;> rfl⟩
  | some c0 =>
    obtain ⟨q0, a, _⟩ := h
    refine ⟨[(Sum.inl 5, .ref q0)], a, by simp, by show 1 ≤ 1000; decide, fun p h => ?_, fun q => ?_⟩
    · obtain rfl := List.mem_singleton.mp h
      exact shaped_int 5
    · unfold newK outK
      rw [if_neg (ref_non q), List.filter_cons_of_neg (by simp)] <;> rfl
/-- a new state's dict over its parts -/
theorem StaA.disp {K : PySem.W.Frag} {H : Hp} {p ds dn dm : Addr} {o : Int} {c : Option (List (Int × Int))} {sn : List (Int × List (Int × Int))} {ms : List (Int × Int × Option Int)} (hp : H p = some (.dK (mergeK [] [(.inr "order", .int o), (.inr "spaces", .ref ds), (.inr "snaps", .ref dn), (.inr "marks", .ref dm)])))
    (h1 : SpacesAt K H ds c) (h2 : SnapsAt H dn sn) (h3 : MarksAt H dm ms) : StaA K H p ⟨o, c, sn, ms⟩ := by
  have em : mergeK [] [(.inr "order", .int o), (.inr "spaces", .ref ds), (.inr "snaps", .ref dn), (.inr "marks", .ref dm)] = ([(.inr "order", .int o), (.inr "spaces", .ref ds), (.inr "snaps", .ref dn), (.inr "marks", .ref dm)] : List (Key × V)) := by kernel_rfl
  rw [em] at hp
  exact ⟨_, ds, dn, dm, hp, .refl _, by kernel_rfl, by kernel_rfl, by kernel_rfl, by kernel_rfl, h1, h2, h3⟩
section
variable {P : Program} {w : World} {K : PySem.W.Frag} {base : Heap} {mg : Str → Option Value}
def sp_law_after (K : PySem.W.Frag) : Sp := fun vs H Q _ => ∃ (wd t fa : Addr) (S : Sta) (r : Rec), vs = [.ref wd, .int r.ord, .ref t] ∧ StaA K H wd S ∧ S.Ok 800 ∧ H t = some (.tup [.str r.op.kind, .int r.host, .int 1, .int r.ctr, .ref fa]) ∧ H fa = some (.tup r.op.flds) ∧ (r.op = .make ∨ S.cells ≠ none) ∧
  Mk0 H Q fun p H' => StaA K H' p (S.app r)
theorem sc_law_after : FnScope ["_law_world", "_law_order", "_law_step_here", "_law_kind", "_law_host", "_law_session", "_law_counter", "_law_fields", "_law_told_here", "_law_mark", "_law_spaces", "_law_snaps", "_law_name"] ["_law_world", "_law_order", "_law_step_here"] (defScope s_law_after) := C8.fnScope_by (by decide +kernel)
theorem c_law_after (T : Tx w K mg) : Cal P w K mg base 4 "_law_after" (sp_law_after K) [] := by
  refine K_law_after T sc_law_after (fun _ _ _ _ _ _ us hl => match us, hl with | [_, _, _], _ => rfl) (by walk_at "len") (fun cdv A outer s H vs Q E hr h => ?_)
  have nd := sc_law_after.nd
  have hu := hu_of hr
  refine ⟨_, (pss_cons (ps_asg (pv 2) (pg_tup rfl (pgs_cons (pg_name (i := 3) nd rfl (Or.inl rfl)) (pgs_cons (pg_name (i := 4) nd rfl (Or.inl rfl)) (pgs_cons (pg_name (i := 5) nd rfl (Or.inl rfl)) (pgs_cons (pg_name (i := 6) nd rfl (Or.inl rfl)) (pgs_cons (pg_name (i := 7) nd rfl (Or.inr rfl)) pgs_nil)))))))
      (pss_cons (ps_set (i := 8) nd rfl (Or.inl rfl) (pe_ix ix_tup (pe_dget2 hu (pe_dget hu (pv 0) pe_str (fun _ _ => rfl)) (pv 4) (pe_tup (pa_cons pe_int (pa_cons pe_int (pa_cons pe_non (pa_cons pe_non pa_nil))))) ⟨rfl, rfl, rfl, rfl⟩) pe_int (fun _ _ => rfl)))
      (pss_cons (ps_if (pt_cmpR op_eq (pv 3) pe_str (nomark _)) pss_never pss_nil)
      (pss_cons (ps_set (i := 9) nd rfl (Or.inl rfl) (pe_tup (pa_cons (pv 5) (pa_cons (pv 6) (pa_cons (C8.pe_c (c_law_answer T) hr (by decide) (by rfl) (pa_cons (pv 1) (pa_cons (pv 3) pa_nil))) (pa_cons (pv 8) pa_nil))))))
      (pss_cons (ps_set (i := 10) nd rfl (Or.inl rfl) (pe_dget hu (pv 0) pe_str (fun _ _ => rfl)))
      (pss_cons (ps_set (i := 11) nd rfl (Or.inr rfl) (pe_dget hu (pv 0) pe_str (fun _ _ => rfl)))
      (pss_cons (ps_if (pt_cmpR op_eq (pv 3) pe_str (nomark _)) (pss_one (ps_set (i := 10) nd rfl (Or.inl rfl) (C8.pe_c (c_law_with T) hr (by decide) (by rfl) (pa_cons (pv 10) (pa_cons (pe_ix ix_tup (pv 7) pe_int (fun _ _ => rfl)) (pa_cons (pe_tup (pa_cons (pe_ix ix_tup (pv 7) pe_int (fun _ _ => rfl)) (pa_cons pe_dnewK (pa_cons (pe_tup (pa_cons (pe_tup pa_nil) (pa_cons pe_non pa_nil))) pa_nil)))) pa_nil)))))) (pss_one (ps_if (PW.pt (pw_and (pt_cmpR op_ne (pv 3) pe_str (nomark _)) (pw_and1 (pt_cmp (pc_din hu (pe_ix ix_tup (pv 7) pe_int (fun _ _ => rfl)) (pv 10)))))) (pss_one (ps_if (pt_cmpR op_eq (pv 3) pe_str (nomark _)) pss_never (pss_one (ps_if (pt_cmpR op_eq (pv 3) pe_str (nomark _)) (pss_one (ps_set (i := 11) nd rfl (Or.inr rfl) (C8.pe_c (c_law_withT T) hr (by decide) (by rfl) (pa_cons (pv 11) (pa_cons (pe_tup (pa_cons (pe_ix ix_tup (pv 7) pe_int (fun _ _ => rfl)) (pa_cons (pv 1) pa_nil))) (pa_cons (pe_callTy (call_dictD) (by rfl) (b_dict T) boot_dict (pa_cons (pe_ix ix_tup (pe_dget hu (pv 10) (pe_ix ix_tup (pv 7) pe_int (fun _ _ => rfl)) (fun _ _ => rfl)) pe_int (fun _ _ => rfl)) pa_nil)) pa_nil)))))) (pss_one (ps_if (pt_cmpR op_eq (pv 3) pe_str (nomark _)) (pss_one (ps_set (i := 11) nd rfl (Or.inr rfl) (C8.pe_c (c_law_withoutT T) hr (by decide) (by rfl) (pa_cons (pv 11) (pa_cons (pe_tup (pa_cons (pe_ix ix_tup (pv 7) pe_int (fun _ _ => rfl)) (pa_cons (pe_ix ix_tup (pv 7) pe_int (fun _ _ => rfl)) pa_nil))) pa_nil))))) (pss_one (ps_set (i := 10) nd rfl (Or.inl rfl) (C8.pe_c (c_law_with T) hr (by decide) (by rfl) (pa_cons (pv 10) (pa_cons (pe_ix ix_tup (pv 7) pe_int (fun _ _ => rfl)) (pa_cons (C8.pe_c (c_law_space T) hr (by decide) (by rfl) (pa_cons (pv 0) (pa_cons (pv 1) (pa_cons (pv 4) (pa_cons (pv 3) (pa_cons (pv 7) pa_nil)))))) pa_nil)))))))))))) pss_nil)))
      (pss_one (ps_ret (pe_disp (pps_cons pe_str (pv 1) (pps_cons pe_str (pv 10) (pps_cons pe_str (pv 11) (pps_cons pe_str (C8.pe_c (c_law_with T) hr (by decide) (by rfl) (pa_cons (pe_dget hu (pv 0) pe_str (fun _ _ => rfl)) (pa_cons (pv 4) (pa_cons (pv 9) pa_nil)))) pps_nil)))) (by rfl) (by rfl) (fun z => by cases z) (by decide))))))))))), ?_⟩
  obtain ⟨wd, t, fa, S, r, rfl, SA, ok, ht, hf, hm, k⟩ := h
  have SA0 := SA
  obtain ⟨kvs, ds, dn, dm, e1, e2, e3, e4, e5, e6, e7, ⟨nkv, en, pn⟩, mkv, em, pm⟩ := SA
  have sz4 : 4 ≤ sizeLine := by decide
  have mF : ∀ (H : Hp) (kv : Key × V) (m : Int × Int × Option Int), (kv.1 = Sum.inl m.1 ∧ ∃ q, kv.2 = .ref q ∧ MarkAt H q m.2) → kv.1 = Sum.inl m.1 := fun _ _ _ z => z.1
  have mk := paired_keys (f := Sum.inl) (mF H) pm
  have f0 : r.op.flds[0]? = some (.int 5) := by cases r.op <;> rfl
  refine ⟨_, rfl, t, _, rfl, SqT.of ht, rfl, _, _, rfl, _, _, rfl, _, _, rfl, _, _, rfl, _, _, rfl, rfl, ?_⟩
  refine ⟨_, rfl, wd, _, rfl, get_st e1 e6, dm, rfl, .inl ⟨_, .inl em⟩, _, rfl, sz4, fun dt hdt => ?_⟩
  have s1 := same_upd hdt (o := .tup [.int 0, .int 0, .non, .non])
  refine ⟨_, .inl ⟨mkv, .inl r.host, .inl (s1 _ _ em), rfl, rfl⟩, ?_⟩
  obtain ⟨m, a', b', d', em2, hm2⟩ : ∃ m a b d', (valV mkv (.inl r.host)).getD (.ref dt) = .ref m ∧ (upd H dt (.tup [.int 0, .int 0, .non, .non])) m = some (.tup [a, b, d', .non]) := by
    rcases marks_get (h := r.host) pm with ⟨a, b⟩ | ⟨q, n, c, an, a, b, d⟩
    · exact ⟨dt, _, _, _, by rw [a] <;> rfl, upd_same⟩
    · exact ⟨q, _, _, _, by rw [a] <;> rfl, s1 _ _ b⟩
  rw [em2]
  refine ⟨m, _, 3, _, rfl, rfl, SqT.of hm2, at_of (j := 3) rfl rfl, ?_⟩
  refine ⟨_, rfl, rfl, _, rfl, eqS_F (no_mark _) ?_⟩
  refine ⟨_, rfl, _, rfl, _, rfl, _, rfl, r, rfl, fun n H2 s2 f2 hn => ⟨_, rfl, sz4, fun u hu2 => ?_⟩⟩
  have s12 := s1.trans s2
  have s3 := same_upd' s12 hu2 (o := .tup [.int 1, .int r.ctr, .ref n, .non])
  have hu3 : MarkAt (upd H2 u (.tup [.int 1, .int r.ctr, .ref n, .non])) u (r.ctr, r.ans) := ⟨n, upd_same, upd_old hn hu2⟩
  revert s3 hu3
  generalize (upd H2 u (.tup [.int 1, .int r.ctr, .ref n, .non])) = H3
  intro s3 hu3
  refine ⟨_, rfl, wd, _, rfl, get_st (s3 _ _ e1) e4, _, rfl, wd, _, rfl, get_st (s3 _ _ e1) e5, ?_⟩
  have mnd : (mkv.map (·.1)).Nodup := by rw [mk]; exact keys_nd inl_inj ok.mr.1
  have mln : mkv.length ≤ 1000 := by rw [Paired.length pm]; have := ok.mr.2; omega
  have msh : ∀ p ∈ mkv, SeqAt.shaped (kD p.1) = true := fun p hp => by
    have : p.1 ∈ mkv.map (·.1) := List.mem_map_of_mem hp
    rw [mk] at this
    obtain ⟨i, _, ei⟩ := List.mem_map.mp this
    rw [← ei]
    exact shaped_int i
  have nk := paired_keys (f := snK) sn_F pn
  have nnd : (nkv.map (·.1)).Nodup := by rw [nk]; exact keys_nd snK_inj ok.sn.1
  have nln : nkv.length ≤ 1000 := by rw [Paired.length pn]; have := ok.sn.2.1; omega
  have nky : ∀ p ∈ nkv, ∃ a b, p.1 = [Sum.inl a, Sum.inl b] := fun p hp => by
    have : p.1 ∈ nkv.map (·.1) := List.mem_map_of_mem hp
    rw [nk] at this
    obtain ⟨i, _, ei⟩ := List.mem_map.mp this
    exact ⟨5, i, ei.symm⟩
  have sz0 : 0 ≤ sizeLine := by decide
  have sz2 : 2 ≤ sizeLine := by decide
  have sz3 : 3 ≤ sizeLine := by decide
  have hf3 := s3 _ _ hf
  have e73 := SpacesAt.keep (same_imm s3) e7
  have en3 := s3 _ _ en
  refine ⟨_, rfl, rfl, _, rfl, ?_⟩
  by_cases cm : r.op = .make
  · obtain ⟨ord, ho, ct, op⟩ := r
    obtain rfl : op = .make := cm
    obtain ⟨skv, hs, ns, ls, ss, enw⟩ := spaces_kv e73
    refine eqS_T rfl ⟨_, rfl, _, rfl, fa, _, 0, _, rfl, rfl, SqT.of hf3, at_of (j := 0) rfl f0, _, rfl, fa, _, 1, _, rfl, rfl, SqT.of hf3, at_of (j := 1) rfl rfl, fun cc hcc => ⟨sz0, fun e he => ⟨sz2, fun f hf' => ⟨sz3, fun sq hsq => ?_⟩⟩⟩⟩
    have a1 := upd_same (H := H3) (a := cc) (o := .dK [])
    have a2 := upd_same (H := upd H3 cc (.dK [])) (a := e) (o := .tup [])
    have a3 := upd_same (H := upd (upd H3 cc (.dK [])) e (.tup [])) (a := f) (o := .tup [.ref e, .non])
    have sq4 := same_upd' (same_upd' (same_upd' (same_upd hcc (o := .dK [])) he (o := .tup [])) hf' (o := .tup [.ref e, .non])) hsq (o := .tup [.int 64, .ref cc, .ref f])
    have SQ : SpaceAt K (upd (upd (upd (upd H3 cc (.dK [])) e (.tup [])) f (.tup [.ref e, .non])) sq (.tup [.int 64, .ref cc, .ref f])) sq [] := ⟨cc, f, upd_same, upd_old (upd_old (upd_old a1 he) hf') hsq, e, SqT.of (upd_old a3 hsq), SqT.of (upd_old (upd_old a2 hf') hsq)⟩
    revert sq4 SQ
    generalize (upd (upd (upd (upd H3 cc (.dK [])) e (.tup [])) f (.tup [.ref e, .non])) sq (.tup [.int 64, .ref cc, .ref f])) = H4
    intro sq4 SQ
    refine ⟨ds, skv, .inl 5, .ref sq, rfl, sq4 _ _ hs, ns, ls, ss, shaped_int 5, fun d H5 s5 f5 h5 => ?_⟩
    rw [enw] at h5
    have c1 : SpacesAt K H5 d (some []) := ⟨sq, h5, SpaceAt.keep (same_imm s5) SQ⟩
    have s35 := sq4.trans s5
    have hu4 := MarkAt.keep (same_imm s35) hu3
    have sG : Same H H5 := s3.trans s35
    refine fun p hp => ?_
    have sP := same_upd hp (o := .dK [])
    have hpH : H p = none := sG.free hp
    refine ⟨_, rfl, _, rfl, _, rfl, _, rfl, wd, _, rfl, get_st (sP _ _ (sG _ _ e1)) e6, _, rfl, _, rfl, dm, mkv, .inl ho, .ref u, rfl, sP _ _ (sG _ _ em), mnd, mln, msh, shaped_int _, fun dm2 Z sZ fZ hZ => ?_⟩
    have pZ := sZ _ _ (upd_same (H := H5) (a := p) (o := .dK []))
    have dmp : dm2 ≠ p := (ne_of_none upd_same fZ).symm
    have sE : Same H5 (upd Z p (.dK (mergeK [] [(.inr "order", .int ord), (.inr "spaces", .ref d), (.inr "snaps", .ref dn), (.inr "marks", .ref dm2)]))) := fun b o e => by rw [upd_ne (ne_of_none e hp)]; exact sZ _ _ (upd_old e hp)
    refine ⟨pZ, [(.inr "order", .int ord), (.inr "spaces", .ref d), (.inr "snaps", .ref dn), (.inr "marks", .ref dm2)], rfl, by show 4 ≤ 15; decide, ?_⟩
    refine k p _ (sG.trans sE) ?_
    refine StaA.disp upd_same (SpacesAt.keep (same_imm sE) c1) (SnapsAt.keep (same_imm sE) ⟨nkv, s35 _ _ en3, mapP pn fun kv m ⟨a, c, b, q⟩ => ⟨a, c, b, s35 _ _ (s3 _ _ q)⟩⟩) ⟨_, by rw [upd_ne dmp]; exact hZ, ?_⟩
    exact paired_new inl_inj (mF _) (mapP pm fun kv m ⟨a, q, b, d⟩ => ⟨a, q, b, MarkAt.keep (same_imm (sG.trans sE)) d⟩) (ref_non u) ⟨rfl, u, rfl, MarkAt.keep (same_imm sE) hu4⟩
  refine eqS_F (fun z => ?_) ?_
  · cases o : r.op <;> first | exact cm o | (rw [o] at z; exact absurd z (by walk_at "ns"))
  have hc := hm.resolve_left cm
  obtain ⟨cs, hcs⟩ := Option.ne_none_iff_exists'.mp hc
  have e7c := e73
  rw [hcs] at e7c
  obtain ⟨sq, hq0, c, f, hsq, hcq, hf0⟩ := e7c
  refine ⟨_, rfl, rfl, _, rfl, notS_T (no_mark _) ⟨_, rfl, fa, _, 0, _, rfl, rfl, SqT.of hf3, at_of (j := 0) rfl f0, _, rfl, ds, _, rfl, .inl ⟨_, .inl 5, .inl hq0, rfl, rfl⟩, _, rfl, iteT ?_⟩⟩
  refine ⟨_, rfl, rfl, _, rfl, eqS_F (fun z => ?_) ?_⟩
  · cases o : r.op <;> (rw [o] at z; exact absurd z (by walk_at "ns"))
  refine ⟨_, rfl, rfl, _, rfl, ?_⟩
  obtain ⟨ord, ho, ct, op⟩ := r
  cases op with
  | make => exact absurd rfl cm
  | snap =>
    refine eqS_T rfl ⟨_, rfl, _, rfl, fa, _, 0, _, rfl, rfl, SqT.of hf3, at_of (j := 0) rfl rfl, _, rfl, sz2, fun nm hnm => ?_⟩
    have s4 := same_upd hnm (o := .tup [.int 5, .int ord])
    refine ⟨_, rfl, _, rfl, fa, _, 0, _, rfl, rfl, SqT.of (s4 _ _ hf3), at_of (j := 0) rfl rfl, ds, .ref sq, rfl, .inl ⟨_, .inl 5, .inl (s4 _ _ hq0), rfl, rfl⟩, sq, _, 1, .ref c, rfl, rfl, SqT.of (s4 _ _ hsq), at_of (j := 1) rfl rfl, c, _, rfl, .inl (s4 _ _ hcq), fun c2 hc2 => ?_⟩
    have s5 := same_upd' s4 hc2 (o := .dK (cellKV cs))
    refine ⟨dn, nm, nkv, 5, ord, .ref c2, rfl, s5 _ _ en3, upd_old upd_same hc2, nnd, nln, nky, fun d H5 s6 f6 h6 => ?_⟩
    have s35 := s5.trans s6
    have c2' : SnapsAt H5 d (withE S.snaps ord cs) := by
      refine ⟨_, h6, ?_⟩
      exact paired_new snK_inj sn_F (mapP pn fun kv m ⟨a, c, b, q⟩ => ⟨a, c, b, s35 _ _ (s3 _ _ q)⟩) (ref_non c2) ⟨rfl, c2, rfl, s6 _ _ upd_same⟩
    have eS : Sta.app S ⟨ord, ho, ct, .snap⟩ = ⟨ord, S.cells, withE S.snaps ord cs, withE S.marks ho (ct, some ord)⟩ := by
      have : S.cells.getD [] = cs := by rw [hcs] <;> rfl
      show (⟨ord, S.cells, withE S.snaps ord (S.cells.getD []), _⟩ : Sta) = _
      rw [this] <;> rfl
    rw [eS] at k
    have hu4 := MarkAt.keep (same_imm s35) hu3
    have sG : Same H H5 := s3.trans s35
    refine fun p hp => ?_
    have sP := same_upd hp (o := .dK [])
    have hpH : H p = none := sG.free hp
    refine ⟨_, rfl, _, rfl, _, rfl, _, rfl, wd, _, rfl, get_st (sP _ _ (sG _ _ e1)) e6, _, rfl, _, rfl, dm, mkv, .inl ho, .ref u, rfl, sP _ _ (sG _ _ em), mnd, mln, msh, shaped_int _, fun dm2 Z sZ fZ hZ => ?_⟩
    have pZ := sZ _ _ (upd_same (H := H5) (a := p) (o := .dK []))
    have dmp : dm2 ≠ p := (ne_of_none upd_same fZ).symm
    have sE : Same H5 (upd Z p (.dK (mergeK [] [(.inr "order", .int ord), (.inr "spaces", .ref ds), (.inr "snaps", .ref d), (.inr "marks", .ref dm2)]))) := fun b o e => by rw [upd_ne (ne_of_none e hp)]; exact sZ _ _ (upd_old e hp)
    refine ⟨pZ, [(.inr "order", .int ord), (.inr "spaces", .ref ds), (.inr "snaps", .ref d), (.inr "marks", .ref dm2)], rfl, by show 4 ≤ 15; decide, ?_⟩
    refine k p _ (sG.trans sE) ?_
    refine StaA.disp upd_same (SpacesAt.keep (same_imm sE) (SpacesAt.keep (same_imm s35) e73)) (SnapsAt.keep (same_imm sE) c2') ⟨_, by rw [upd_ne dmp]; exact hZ, ?_⟩
    exact paired_new inl_inj (mF _) (mapP pm fun kv m ⟨a, q, b, d⟩ => ⟨a, q, b, MarkAt.keep (same_imm (sG.trans sE)) d⟩) (ref_non u) ⟨rfl, u, rfl, MarkAt.keep (same_imm sE) hu4⟩
  | drop n0 =>
    refine eqS_F (show ¬ ("drop" : Str) = "snap" by decide +kernel) ⟨_, rfl, rfl, _, rfl, eqS_T rfl ⟨_, rfl, _, rfl, fa, _, 0, _, rfl, rfl, SqT.of hf3, at_of (j := 0) rfl rfl, _, rfl, fa, _, 1, _, rfl, rfl, SqT.of hf3, at_of (j := 1) rfl rfl, sz2, fun nm hnm => ?_⟩⟩
    have s5 := same_upd hnm (o := .tup [.int 5, .int n0])
    refine ⟨dn, nm, nkv, 5, n0, rfl, s5 _ _ en3, upd_same, nnd, nln, nky, fun d H5 s6 f6 h6 => ?_⟩
    have s35 := s5.trans s6
    have c2' : SnapsAt H5 d (outE S.snaps n0) := ⟨_, h6, paired_out snK_inj sn_F (mapP pn fun kv m ⟨a, c, b, q⟩ => ⟨a, c, b, s35 _ _ (s3 _ _ q)⟩) n0⟩
    have hu4 := MarkAt.keep (same_imm s35) hu3
    have sG : Same H H5 := s3.trans s35
    refine fun p hp => ?_
    have sP := same_upd hp (o := .dK [])
    have hpH : H p = none := sG.free hp
    refine ⟨_, rfl, _, rfl, _, rfl, _, rfl, wd, _, rfl, get_st (sP _ _ (sG _ _ e1)) e6, _, rfl, _, rfl, dm, mkv, .inl ho, .ref u, rfl, sP _ _ (sG _ _ em), mnd, mln, msh, shaped_int _, fun dm2 Z sZ fZ hZ => ?_⟩
    have pZ := sZ _ _ (upd_same (H := H5) (a := p) (o := .dK []))
    have dmp : dm2 ≠ p := (ne_of_none upd_same fZ).symm
    have sE : Same H5 (upd Z p (.dK (mergeK [] [(.inr "order", .int ord), (.inr "spaces", .ref ds), (.inr "snaps", .ref d), (.inr "marks", .ref dm2)]))) := fun b o e => by rw [upd_ne (ne_of_none e hp)]; exact sZ _ _ (upd_old e hp)
    refine ⟨pZ, [(.inr "order", .int ord), (.inr "spaces", .ref ds), (.inr "snaps", .ref d), (.inr "marks", .ref dm2)], rfl, by show 4 ≤ 15; decide, ?_⟩
    refine k p _ (sG.trans sE) ?_
    refine StaA.disp upd_same (SpacesAt.keep (same_imm sE) (SpacesAt.keep (same_imm s35) e73)) (SnapsAt.keep (same_imm sE) c2') ⟨_, by rw [upd_ne dmp]; exact hZ, ?_⟩
    exact paired_new inl_inj (mF _) (mapP pm fun kv m ⟨a, q, b, d⟩ => ⟨a, q, b, MarkAt.keep (same_imm (sG.trans sE)) d⟩) (ref_non u) ⟨rfl, u, rfl, MarkAt.keep (same_imm sE) hu4⟩
  | write p0 v0 =>
    refine eqS_F (show ¬ ("write" : Str) = "snap" by decide +kernel) ⟨_, rfl, rfl, _, rfl, eqS_F (show ¬ ("write" : Str) = "drop" by decide +kernel) ⟨_, rfl, _, rfl, fa, _, 0, _, rfl, rfl, SqT.of hf3, at_of (j := 0) rfl rfl, _, rfl, _, rfl, _, rfl, _, rfl, _, rfl, wd, fa, S, cs, _, ord, ho, rfl, SA0.keep (same_imm s3), ok.mono (by decide), hcs, rfl, hf3, fun q H4 s4 SQ => ?_⟩⟩
    refine ⟨ds, _, .inl 5, .ref q, rfl, s4 _ _ hq0, by simp, by show 1 ≤ 1000; decide, fun p h => ?_, shaped_int 5, fun d H5 s5 f5 h5 => ?_⟩
    · obtain rfl := List.mem_singleton.mp h
      exact shaped_int 5
    have enw : newK [(Sum.inl 5, V.ref sq)] (.inl 5 : Key) (.ref q) = [(Sum.inl 5, V.ref q)] := by
      unfold newK outK
      rw [if_neg (ref_non q), List.filter_cons_of_neg (by simp)] <;> rfl
    rw [enw] at h5
    have s35 := s4.trans s5
    have c1 : SpacesAt K H5 d (S.cells.map fun cs => withE cs p0 v0) := by
      rw [hcs]
      exact ⟨q, h5, SpaceAt.keep (same_imm s5) SQ⟩
    have hu4 := MarkAt.keep (same_imm s35) hu3
    have sG : Same H H5 := s3.trans s35
    refine fun p hp => ?_
    have sP := same_upd hp (o := .dK [])
    have hpH : H p = none := sG.free hp
    refine ⟨_, rfl, _, rfl, _, rfl, _, rfl, wd, _, rfl, get_st (sP _ _ (sG _ _ e1)) e6, _, rfl, _, rfl, dm, mkv, .inl ho, .ref u, rfl, sP _ _ (sG _ _ em), mnd, mln, msh, shaped_int _, fun dm2 Z sZ fZ hZ => ?_⟩
    have pZ := sZ _ _ (upd_same (H := H5) (a := p) (o := .dK []))
    have dmp : dm2 ≠ p := (ne_of_none upd_same fZ).symm
    have sE : Same H5 (upd Z p (.dK (mergeK [] [(.inr "order", .int ord), (.inr "spaces", .ref d), (.inr "snaps", .ref dn), (.inr "marks", .ref dm2)]))) := fun b o e => by rw [upd_ne (ne_of_none e hp)]; exact sZ _ _ (upd_old e hp)
    refine ⟨pZ, [(.inr "order", .int ord), (.inr "spaces", .ref d), (.inr "snaps", .ref dn), (.inr "marks", .ref dm2)], rfl, by show 4 ≤ 15; decide, ?_⟩
    refine k p _ (sG.trans sE) ?_
    refine StaA.disp upd_same (SpacesAt.keep (same_imm sE) c1) (SnapsAt.keep (same_imm sE) ⟨nkv, s35 _ _ en3, mapP pn fun kv m ⟨a, c, b, q⟩ => ⟨a, c, b, s35 _ _ (s3 _ _ q)⟩⟩) ⟨_, by rw [upd_ne dmp]; exact hZ, ?_⟩
    exact paired_new inl_inj (mF _) (mapP pm fun kv m ⟨a, q, b, d⟩ => ⟨a, q, b, MarkAt.keep (same_imm (sG.trans sE)) d⟩) (ref_non u) ⟨rfl, u, rfl, MarkAt.keep (same_imm sE) hu4⟩
  | trim p0 =>
    refine eqS_F (show ¬ ("trim" : Str) = "snap" by decide +kernel) ⟨_, rfl, rfl, _, rfl, eqS_F (show ¬ ("trim" : Str) = "drop" by decide +kernel) ⟨_, rfl, _, rfl, fa, _, 0, _, rfl, rfl, SqT.of hf3, at_of (j := 0) rfl rfl, _, rfl, _, rfl, _, rfl, _, rfl, _, rfl, wd, fa, S, cs, _, ord, ho, rfl, SA0.keep (same_imm s3), ok.mono (by decide), hcs, rfl, hf3, fun q H4 s4 SQ => ?_⟩⟩
    refine ⟨ds, _, .inl 5, .ref q, rfl, s4 _ _ hq0, by simp, by show 1 ≤ 1000; decide, fun p h => ?_, shaped_int 5, fun d H5 s5 f5 h5 => ?_⟩
    · obtain rfl := List.mem_singleton.mp h
      exact shaped_int 5
    have enw : newK [(Sum.inl 5, V.ref sq)] (.inl 5 : Key) (.ref q) = [(Sum.inl 5, V.ref q)] := by
      unfold newK outK
      rw [if_neg (ref_non q), List.filter_cons_of_neg (by simp)] <;> rfl
    rw [enw] at h5
    have s35 := s4.trans s5
    have c1 : SpacesAt K H5 d (S.cells.map fun cs => outE cs p0) := by
      rw [hcs]
      exact ⟨q, h5, SpaceAt.keep (same_imm s5) SQ⟩
    have hu4 := MarkAt.keep (same_imm s35) hu3
    have sG : Same H H5 := s3.trans s35
    refine fun p hp => ?_
    have sP := same_upd hp (o := .dK [])
    have hpH : H p = none := sG.free hp
    refine ⟨_, rfl, _, rfl, _, rfl, _, rfl, wd, _, rfl, get_st (sP _ _ (sG _ _ e1)) e6, _, rfl, _, rfl, dm, mkv, .inl ho, .ref u, rfl, sP _ _ (sG _ _ em), mnd, mln, msh, shaped_int _, fun dm2 Z sZ fZ hZ => ?_⟩
    have pZ := sZ _ _ (upd_same (H := H5) (a := p) (o := .dK []))
    have dmp : dm2 ≠ p := (ne_of_none upd_same fZ).symm
    have sE : Same H5 (upd Z p (.dK (mergeK [] [(.inr "order", .int ord), (.inr "spaces", .ref d), (.inr "snaps", .ref dn), (.inr "marks", .ref dm2)]))) := fun b o e => by rw [upd_ne (ne_of_none e hp)]; exact sZ _ _ (upd_old e hp)
    refine ⟨pZ, [(.inr "order", .int ord), (.inr "spaces", .ref d), (.inr "snaps", .ref dn), (.inr "marks", .ref dm2)], rfl, by show 4 ≤ 15; decide, ?_⟩
    refine k p _ (sG.trans sE) ?_
    refine StaA.disp upd_same (SpacesAt.keep (same_imm sE) c1) (SnapsAt.keep (same_imm sE) ⟨nkv, s35 _ _ en3, mapP pn fun kv m ⟨a, c, b, q⟩ => ⟨a, c, b, s35 _ _ (s3 _ _ q)⟩⟩) ⟨_, by rw [upd_ne dmp]; exact hZ, ?_⟩
    exact paired_new inl_inj (mF _) (mapP pm fun kv m ⟨a, q, b, d⟩ => ⟨a, q, b, MarkAt.keep (same_imm (sG.trans sE)) d⟩) (ref_non u) ⟨rfl, u, rfl, MarkAt.keep (same_imm sE) hu4⟩
end
end L2.Sg
set_option Elab.async false
set_option linter.all false
set_option maxRecDepth 100000
set_option maxHeartbeats 4000000
namespace L2.Sg
open PySem PySem.Spec PyProof.Rows
open C8 (Cal Met Mak pe_c pe_mt pe_mt0 pe_mk tCut pss_cut)
local macro_rules | `(tactic| walk_at "len") => `(tactic| (intro vs H Q E h; first | (obtain ⟨e, _⟩ := h; subst e; rfl) | (obtain ⟨_, e, _⟩ := h; subst e; rfl) | (obtain ⟨_, _, e, _⟩ := h; subst e; rfl) | (obtain ⟨_, _, _, e, _⟩ := h; subst e; rfl) | (obtain ⟨_, _, _, _, e, _⟩ := h; subst e; rfl) | (obtain ⟨_, _, _, _, _, e, _⟩ := h; subst e; rfl) | (obtain ⟨_, _, _, _, _, _, e, _⟩ := h; subst e; rfl) | (obtain ⟨_, _, _, _, _, _, _, e, _⟩ := h; subst e; rfl) | (obtain ⟨_, _, _, _, _, _, _, _, e, _⟩ := h; subst e; rfl) | (obtain ⟨_, _, _, _, _, _, _, _, _, e, _⟩ := h; subst e; rfl) | (obtain ⟨_, _, _, _, _, _, _, _, _, _, e, _⟩ := h; subst e; rfl) | (obtain ⟨_, _, _, _, _, _, _, _, _, _, _, e, _⟩ := h; subst e; rfl) | (obtain ⟨_, _, _, _, _, _, _, _, _, _, _, _, e, _⟩ := h; subst e; rfl) | (obtain ⟨_, _, _, _, _, _, _, _, _, _, _, _, _, e, _⟩ := h; subst e; rfl) | (obtain ⟨_, _, _, _, _, _, _, _, _, _, _, _, _, _, e, _⟩ := h; subst e; rfl) | (obtain ⟨_, _, _, _, _, _, _, _, _, _, _, _, _, _, _, e, _⟩ := h; subst e; rfl)))
local macro_rules | `(tactic| walk_at "ns") => `(tactic| (try dsimp only [Op.kind, Tp.word, Rec.top]); decide +kernel)
/-- the record that is written next by this host -/
def nextR (rs : List Rec) (h : Int) (o : Op) : Rec := ⟨(foldS rs).order + 1, h, ctrOf (foldS rs) h + 1, o⟩
theorem nextR_chain {rs : List Rec} (r : Rec) : foldS (rs ++ [r]) = (foldS rs).app r := by
  unfold foldS
  rw [List.foldl_append] <;> rfl
section
variable {P : Program} {w : World} {K : PySem.W.Frag} {base : Heap} {mg : Str → Option Value}
def sp_law_added (K : PySem.W.Frag) : Sp := fun vs H Q _ => ∃ (z : Adr) (wl wd fa : Addr) (as ws : List Addr) (rs : List Rec) (o : Op) (h : Int), vs = [.ref z.st, .ref wd, .str o.kind, .int h, .ref fa] ∧ StoA K H z wl as ws rs ∧ StaA K H wd (foldS rs) ∧ NextR rs (nextR rs h o) ∧ rs.length < 56 ∧ ws.length ≤ 8 ∧ H fa = some (.tup o.flds) ∧
  (fitsN rs (nextR rs h o) = false → ∀ H', Same H H' → Q .non H') ∧
  (fitsN rs (nextR rs h o) = true → ∀ p H' wl' as' ws', StoA K H' z wl' as' ws' (rs ++ [nextR rs h o]) → StaA K H' p (foldS (rs ++ [nextR rs h o])) → Fr z wl H H' → (wl' = wl ∨ H wl' = none) → ws'.length ≤ 8 → Q (.ref p) H')
theorem sc_law_added : FnScope ["_law_store", "_law_world", "_law_kind", "_law_host", "_law_fields", "_law_step_here"] ["_law_store", "_law_world", "_law_kind", "_law_host", "_law_fields"] (defScope s_law_added) := C8.fnScope_by (by decide +kernel)
theorem c_law_added (T : Tx w K mg) : Cal P w K mg base 10 "_law_added" (sp_law_added K) [] := by
  refine K_law_added T sc_law_added (fun _ _ _ _ _ _ us hl => match us, hl with | [_, _, _, _, _], _ => rfl) (by walk_at "len") (fun cdv A outer s H vs Q E hr h => ?_)
  have nd := sc_law_added.nd
  have hu := hu_of hr
  refine ⟨_, (pss_cons (ps_set (i := 5) nd rfl (Or.inl rfl) (C8.pe_c (c_law_named T) hr (by decide) (by rfl) (pa_cons (pv 1) (pa_cons (pv 2) (pa_cons (pv 3) (pa_cons (pv 4) pa_nil))))))
      (pss_cons (ps_if (pt_not (pt_val (C8.pe_mt (c_Store_fits T) hr (by decide) (pv 0) (pa_cons (pe_ix ix_tup (pv 5) pe_int (fun _ _ => rfl)) (pa_cons (pe_ix ix_tup (pv 5) pe_int (fun _ _ => rfl)) (pa_cons (pe_ix ix_tup (pv 5) pe_int (fun _ _ => rfl)) (pa_cons (pe_ix ix_tup (pv 5) pe_int (fun _ _ => rfl)) (pa_cons (pe_ix ix_tup (pv 5) pe_int (fun _ _ => rfl)) pa_nil)))))))) (pss_one (ps_ret pe_non)) pss_nil)
      (pss_one (ps_ret (C8.pe_c (c_law_after T) hr (by decide) (by rfl) (pa_cons (pv 1) (pa_cons (C8.pe_mt (c_Store_add T) hr (by decide) (pv 0) (pa_cons (pe_ix ix_tup (pv 5) pe_int (fun _ _ => rfl)) (pa_cons (pe_ix ix_tup (pv 5) pe_int (fun _ _ => rfl)) (pa_cons (pe_ix ix_tup (pv 5) pe_int (fun _ _ => rfl)) (pa_cons (pe_ix ix_tup (pv 5) pe_int (fun _ _ => rfl)) (pa_cons (pe_ix ix_tup (pv 5) pe_int (fun _ _ => rfl)) pa_nil)))))) (pa_cons (pv 5) pa_nil)))))))), ?_⟩
  obtain ⟨z, wl, wd, fa, as, ws, rs, o, h, rfl, S, SA, N, h56, h8, hf, kn, ky⟩ := h
  obtain ⟨dx, sd, hst, sa⟩ := S.ins
  refine ⟨_, rfl, _, rfl, _, rfl, _, rfl, wd, fa, foldS rs, o, h, rfl, SA, fun t H1 s1 f1 ht => ?_⟩
  have at_ : ∀ {G : Hp}, Same H1 G → SqT K G t [.str o.kind, .int h, .int 1, .int (ctrOf (foldS rs) h + 1), .ref fa] := fun s => SqT.of (s _ _ ht)
  have S1 := S.keep s1
  have q1 := at_ (Same.refl H1)
  refine ⟨_, rfl, z.st, dx, _, rfl, s1 _ _ hst, rfl, _, rfl, t, _, 0, _, rfl, rfl, q1, at_of (j := 0) rfl rfl, _, rfl, t, _, 1, _, rfl, rfl, q1, at_of (j := 1) rfl rfl, _, rfl, t, _, 2, _, rfl, rfl, q1, at_of (j := 2) rfl rfl, _, rfl, t, _, 3, _, rfl, rfl, q1, at_of (j := 3) rfl rfl, _, rfl, t, _, 4, _, rfl, rfl, q1, at_of (j := 4) rfl rfl, ?_⟩
  refine ⟨z, wl, fa, as, ws, rs, nextR rs h o, rfl, S1, N, by omega, s1 _ _ hf, fun H2 s2 => ⟨_, rfl, ?_⟩⟩
  have s12 := s1.trans s2
  cases ef : fitsN rs (nextR rs h o) with
  | false => exact iteT (kn ef H2 s12)
  | true =>
    have q2 := at_ s2
    have S2 := S1.keep s2
    refine iteF ⟨_, rfl, _, rfl, z.st, dx, _, rfl, s12 _ _ hst, rfl, _, rfl, t, _, 0, _, rfl, rfl, q2, at_of (j := 0) rfl rfl, _, rfl, t, _, 1, _, rfl, rfl, q2, at_of (j := 1) rfl rfl, _, rfl, t, _, 2, _, rfl, rfl, q2, at_of (j := 2) rfl rfl, _, rfl, t, _, 3, _, rfl, rfl, q2, at_of (j := 3) rfl rfl, _, rfl, t, _, 4, _, rfl, rfl, q2, at_of (j := 4) rfl rfl, ?_⟩
    refine ⟨z, wl, fa, as, ws, rs, nextR rs h o, rfl, S2, N, h56, h8, s12 _ _ hf, fun H3 wl' as' ws' S3 FR wn hl hw => ?_⟩
    have im := Fr.imm S2 FR
    have ok := (foldS_ok rs).mono (show rs.length ≤ 800 by omega)
    refine ⟨_, rfl, wd, t, fa, foldS rs, nextR rs h o, rfl, (SA.keep (same_imm s12)).keep im, ok, im.tup (s2 _ _ ht), im.tup (s12 _ _ hf), N.chain, fun p H4 s4 e => ?_⟩
    rw [← nextR_chain] at e
    refine ky ef p H4 wl' as' ws' (S3.keep s4) e (fun b o e q1 q2 q3 q4 q5 => s4 _ _ (FR b o (s12 _ _ e) q1 q2 q3 q4 q5)) ?_ hw
    rcases wn with q | q
    · exact .inl q
    · right
      cases g : H wl' with
      | none => rfl
      | some o => rw [s12 _ _ g] at q; cases q
end
end L2.Sg
set_option Elab.async false
set_option linter.all false
set_option maxRecDepth 100000
set_option maxHeartbeats 4000000
namespace L2.Sg
open PySem PySem.Spec PyProof.Rows
open C8 (Cal Met Mak pe_c pe_mt pe_mt0 pe_mk tCut pss_cut)
local macro_rules | `(tactic| walk_at "len") => `(tactic| (intro vs H Q E h; first | (obtain ⟨e, _⟩ := h; subst e; rfl) | (obtain ⟨_, e, _⟩ := h; subst e; rfl) | (obtain ⟨_, _, e, _⟩ := h; subst e; rfl) | (obtain ⟨_, _, _, e, _⟩ := h; subst e; rfl) | (obtain ⟨_, _, _, _, e, _⟩ := h; subst e; rfl) | (obtain ⟨_, _, _, _, _, e, _⟩ := h; subst e; rfl) | (obtain ⟨_, _, _, _, _, _, e, _⟩ := h; subst e; rfl) | (obtain ⟨_, _, _, _, _, _, _, e, _⟩ := h; subst e; rfl) | (obtain ⟨_, _, _, _, _, _, _, _, e, _⟩ := h; subst e; rfl) | (obtain ⟨_, _, _, _, _, _, _, _, _, e, _⟩ := h; subst e; rfl) | (obtain ⟨_, _, _, _, _, _, _, _, _, _, e, _⟩ := h; subst e; rfl) | (obtain ⟨_, _, _, _, _, _, _, _, _, _, _, e, _⟩ := h; subst e; rfl) | (obtain ⟨_, _, _, _, _, _, _, _, _, _, _, _, e, _⟩ := h; subst e; rfl) | (obtain ⟨_, _, _, _, _, _, _, _, _, _, _, _, _, e, _⟩ := h; subst e; rfl) | (obtain ⟨_, _, _, _, _, _, _, _, _, _, _, _, _, _, e, _⟩ := h; subst e; rfl) | (obtain ⟨_, _, _, _, _, _, _, _, _, _, _, _, _, _, _, e, _⟩ := h; subst e; rfl)))
local macro_rules | `(tactic| walk_at "ns") => `(tactic| (try dsimp only [Op.kind, Tp.word, Rec.top]); decide +kernel)
/-! ### the lists of records that a run makes -/
def OpOk (rs : List Rec) (o : Op) : Prop := match o with
  | .make => False
  | .write p _ => 0 ≤ p ∧ p < 64
  | .trim p => 0 ≤ p ∧ p < 64 ∧ ∃ cs v, (foldS rs).cells = some cs ∧ (p, v) ∈ cs
  | .snap => True
  | .drop n => ∃ cs, (n, cs) ∈ (foldS rs).snaps
inductive Good : List Rec → Prop
  | make : Good [nextR [] 0 .make]
  | step {rs : List Rec} {h : Int} {o : Op} (g : Good rs) (h0 : 0 ≤ h) (h4 : h < 4) (ok : OpOk rs o) : Good (rs ++ [nextR rs h o])
inductive FillP : Nat → Bool → List Rec → Prop
  | zero : FillP 0 false [nextR [] 0 .make]
  | snap {i : Nat} {rs : List Rec} {h : Int} (f : FillP i false rs) (h0 : 0 ≤ h) (h4 : h < 4) (fit : fitsN rs (nextR rs h .snap) = true) : FillP i true (rs ++ [nextR rs h .snap])
  | write {i : Nat} {b : Bool} {rs : List Rec} {h v : Int} (f : FillP i b rs) (h0 : 0 ≤ h) (h4 : h < 4) (hi : i < 40) (fit : fitsN rs (nextR rs h (.write i v)) = true) : FillP (i + 1) b (rs ++ [nextR rs h (.write i v)])
def isDown : Op → Bool
  | .trim _ => true
  | .drop _ => true
  | _ => false
def Trn (n : Nat) (rs : List Rec) : Prop := Good rs ∧ rs.length ≤ n ∧ ∃ rs0 ts, rs = rs0 ++ ts ∧ (∀ r ∈ ts, isDown r.op = true) ∧ needN rs0 ≤ 23
section
variable {P : Program} {w : World} {K : PySem.W.Frag} {base : Heap} {mg : Str → Option Value}
end
end L2.Sg
set_option Elab.async false
set_option linter.all false
set_option maxRecDepth 100000
set_option maxHeartbeats 4000000
namespace L2.Sg
open PySem PySem.Spec PyProof.Rows
open C8 (Cal Met Mak pe_c pe_mt pe_mt0 pe_mk tCut pss_cut)
local macro_rules | `(tactic| walk_at "len") => `(tactic| (intro vs H Q E h; first | (obtain ⟨e, _⟩ := h; subst e; rfl) | (obtain ⟨_, e, _⟩ := h; subst e; rfl) | (obtain ⟨_, _, e, _⟩ := h; subst e; rfl) | (obtain ⟨_, _, _, e, _⟩ := h; subst e; rfl) | (obtain ⟨_, _, _, _, e, _⟩ := h; subst e; rfl) | (obtain ⟨_, _, _, _, _, e, _⟩ := h; subst e; rfl) | (obtain ⟨_, _, _, _, _, _, e, _⟩ := h; subst e; rfl) | (obtain ⟨_, _, _, _, _, _, _, e, _⟩ := h; subst e; rfl) | (obtain ⟨_, _, _, _, _, _, _, _, e, _⟩ := h; subst e; rfl) | (obtain ⟨_, _, _, _, _, _, _, _, _, e, _⟩ := h; subst e; rfl) | (obtain ⟨_, _, _, _, _, _, _, _, _, _, e, _⟩ := h; subst e; rfl) | (obtain ⟨_, _, _, _, _, _, _, _, _, _, _, e, _⟩ := h; subst e; rfl) | (obtain ⟨_, _, _, _, _, _, _, _, _, _, _, _, e, _⟩ := h; subst e; rfl) | (obtain ⟨_, _, _, _, _, _, _, _, _, _, _, _, _, e, _⟩ := h; subst e; rfl) | (obtain ⟨_, _, _, _, _, _, _, _, _, _, _, _, _, _, e, _⟩ := h; subst e; rfl) | (obtain ⟨_, _, _, _, _, _, _, _, _, _, _, _, _, _, _, e, _⟩ := h; subst e; rfl)))
local macro_rules | `(tactic| walk_at "ns") => `(tactic| (try dsimp only [Op.kind, Tp.word, Rec.top]); decide +kernel)
theorem outE_mem {α : Type} {l : List (Int × α)} {k : Int} {p : Int × α} : p ∈ outE l k ↔ p ∈ l ∧ p.1 ≠ k := by
  unfold outE
  rw [List.mem_filter, decide_eq_true_eq]
theorem withE_mem {α : Type} {l : List (Int × α)} {k : Int} {v : α} {p : Int × α} : p ∈ withE l k v ↔ (p ∈ l ∧ p.1 ≠ k) ∨ p = (k, v) := by
  unfold withE
  rw [List.mem_append, outE_mem, List.mem_singleton]
theorem app_order (S : Sta) (r : Rec) : (S.app r).order = r.ord := rfl
theorem app_marks (S : Sta) (r : Rec) : (S.app r).marks = withE S.marks r.host (r.ctr, r.ans) := rfl
theorem app_cells (S : Sta) (r : Rec) : (S.app r).cells = match r.op with
    | .make => some []
    | .write p v => S.cells.map fun cs => withE cs p v
    | .trim p => S.cells.map fun cs => outE cs p
    | _ => S.cells := by
  unfold Sta.app
  cases r.op <;> rfl
theorem app_snaps (S : Sta) (r : Rec) : (S.app r).snaps = match r.op with
    | .snap => withE S.snaps r.ord (S.cells.getD [])
    | .drop n => outE S.snaps n
    | _ => S.snaps := by
  unfold Sta.app
  cases r.op <;> rfl
/-- what holds of every list that a run makes -/
structure GI (rs : List Rec) : Prop where
  order : (foldS rs).order = rs.length
  ords : ∀ (i : Nat) (r : Rec), rs[i]? = some r → r.ord = (i : Int) + 1
  cells : (foldS rs).cells ≠ none
  mks : ∀ m ∈ (foldS rs).marks, 1 ≤ m.2.1
  oks : ∀ r ∈ rs, r.ok
  mke : ∀ (i : Nat) (r : Rec), rs[i]? = some r → i ≠ 0 → r.op ≠ .make
  sn : ∀ n, (∃ cs, (n, cs) ∈ (foldS rs).snaps) ↔ ((∃ r ∈ rs, r.op = .snap ∧ r.ord = n) ∧ ∀ r ∈ rs, r.op ≠ .drop n)
  cl : ∀ cs p v, (foldS rs).cells = some cs → (p, v) ∈ cs → ∃ r ∈ rs, r.top = .place p ∧ r.has = true ∧ ∀ r' ∈ rs, r'.top = .place p → r'.ord ≤ r.ord
theorem ctr_ge {S : Sta} (h : ∀ m ∈ S.marks, 1 ≤ m.2.1) (x : Int) : 0 ≤ ctrOf S x := by
  unfold ctrOf
  split
  · rename_i m hm
    have := h m (List.mem_of_find?_eq_some hm)
    omega
  · exact Int.le_refl 0
theorem GI.ord_mem {rs : List Rec} (g : GI rs) {r : Rec} (h : r ∈ rs) : 1 ≤ r.ord ∧ r.ord ≤ rs.length := by
  obtain ⟨i, hi⟩ := List.mem_iff_getElem?.mp h
  have := g.ords i r hi
  have := (List.getElem?_eq_some_iff.mp hi).1
  omega
theorem GI.next_ok {rs : List Rec} (g : GI rs) {h : Int} {o : Op} (h0 : 0 ≤ h) (h4 : h < 4) (ok : OpOk rs o) : (nextR rs h o).ok := by
  have c := ctr_ge g.mks h
  refine ⟨?_, ⟨h0, h4⟩, ?_, ?_⟩
  · show 1 ≤ (foldS rs).order + 1
    rw [g.order]; omega
  · show 1 ≤ ctrOf (foldS rs) h + 1
    omega
  · show o.ok ((foldS rs).order + 1)
    cases o with
    | make => trivial
    | write p v => exact ok
    | trim p => exact ⟨ok.1, ok.2.1⟩
    | snap => trivial
    | drop n =>
      obtain ⟨⟨r, hr, _, e⟩, _⟩ := (g.sn n).mp ok
      have := g.ord_mem hr
      show 1 ≤ n ∧ n < _
      rw [g.order]; omega
theorem GI.asc {rs : List Rec} (g : GI rs) : Asc rs := by
  refine List.pairwise_iff_getElem.mpr fun i j hi hj ij => ?_
  have a := g.ords i _ (List.getElem?_eq_getElem hi)
  have b := g.ords j _ (List.getElem?_eq_getElem hj)
  omega
theorem snoc_cases {α : Type} {l : List α} {x : α} {i : Nat} {y : α} (h : (l ++ [x])[i]? = some y) : l[i]? = some y ∨ (i = l.length ∧ y = x) := by
  by_cases c : i < l.length
  · rw [List.getElem?_append_left c] at h
    exact .inl h
  · rw [List.getElem?_append_right (by omega)] at h
    have q0 : i - l.length = 0 := by
      have := (List.getElem?_eq_some_iff.mp h).1
      simp at this
      omega
    rw [q0] at h
    exact .inr ⟨by omega, (Option.some.inj h).symm⟩
theorem GI.step {rs : List Rec} (g : GI rs) (ne : rs ≠ []) {h : Int} {o : Op} (h0 : 0 ≤ h) (h4 : h < 4) (ok : OpOk rs o) : GI (rs ++ [nextR rs h o]) := by
  have ef : foldS (rs ++ [nextR rs h o]) = (foldS rs).app (nextR rs h o) := nextR_chain _
  have eo : (nextR rs h o).ord = (rs.length : Int) + 1 := by show (foldS rs).order + 1 = _; rw [g.order]
  have nm : o ≠ .make := fun z => by rw [z] at ok; exact ok
  have lp : rs.length ≠ 0 := fun z => ne (List.eq_nil_of_length_eq_zero z)
  refine ⟨?_, fun i r e => ?_, ?_, fun m hm => ?_, fun r hr => ?_, fun i r e i0 => ?_, fun n => ?_, fun cs p v ec hp => ?_⟩
  · rw [ef, app_order, eo, List.length_append] <;> rfl
  · rcases snoc_cases e with e | ⟨rfl, rfl⟩
    · exact g.ords i r e
    · exact eo
  · rw [ef, app_cells]
    show (match o with | .make => some [] | .write p v => (foldS rs).cells.map fun cs => withE cs p v | .trim p => (foldS rs).cells.map fun cs => outE cs p | _ => (foldS rs).cells) ≠ none
    have := g.cells
    cases o <;> first | exact Option.some_ne_none _ | exact this | (intro z; exact this (Option.map_eq_none_iff.mp z))
  · rw [ef, app_marks, withE_mem] at hm
    rcases hm with hm | rfl
    · exact g.mks m hm.1
    · have := ctr_ge g.mks h
      show 1 ≤ ctrOf (foldS rs) h + 1
      omega
  · rcases List.mem_append.mp hr with hr | hr
    · exact g.oks r hr
    · obtain rfl := List.mem_singleton.mp hr
      exact g.next_ok h0 h4 ok
  · rcases snoc_cases e with e | ⟨rfl, rfl⟩
    · exact g.mke i r e i0
    · exact nm
  · rw [ef, app_snaps]
    have mem : ∀ {p : Rec → Prop}, (∃ r ∈ rs ++ [nextR rs h o], p r) ↔ ((∃ r ∈ rs, p r) ∨ p (nextR rs h o)) := fun {p} => by
      constructor
      · rintro ⟨r, hr, q⟩
        rcases List.mem_append.mp hr with hr | hr
        · exact .inl ⟨r, hr, q⟩
        · exact .inr (List.mem_singleton.mp hr ▸ q)
      · rintro (⟨r, hr, q⟩ | q)
        · exact ⟨r, List.mem_append_left _ hr, q⟩
        · exact ⟨_, List.mem_append_right _ (List.mem_singleton.mpr rfl), q⟩
    have all : ∀ {p : Rec → Prop}, (∀ r ∈ rs ++ [nextR rs h o], p r) ↔ ((∀ r ∈ rs, p r) ∧ p (nextR rs h o)) := fun {p} =>
      ⟨fun q => ⟨fun r hr => q r (List.mem_append_left _ hr), q _ (List.mem_append_right _ (List.mem_singleton.mpr rfl))⟩, fun ⟨a, b⟩ r hr => (List.mem_append.mp hr).elim (a r) fun e => List.mem_singleton.mp e ▸ b⟩
    rw [mem, all]
    have gs := g.sn n
    show (∃ cs, (n, cs) ∈ (match o with | .snap => withE (foldS rs).snaps (nextR rs h o).ord ((foldS rs).cells.getD []) | .drop n => outE (foldS rs).snaps n | _ => (foldS rs).snaps)) ↔ ((∃ r ∈ rs, r.op = .snap ∧ r.ord = n) ∨ (o = .snap ∧ (nextR rs h o).ord = n)) ∧ (∀ r ∈ rs, r.op ≠ .drop n) ∧ o ≠ .drop n
    cases o with
    | make => exact absurd rfl nm
    | write p v => rw [gs]; simp
    | trim p => rw [gs]; simp
    | snap =>
      constructor
      · rintro ⟨cs, hc⟩
        rcases withE_mem.mp hc with ⟨hc, _⟩ | hc
        · have := gs.mp ⟨cs, hc⟩
          exact ⟨.inl this.1, this.2, fun z => by cases z⟩
        · have en : n = (nextR rs h .snap).ord := congrArg Prod.fst hc
          refine ⟨.inr ⟨rfl, en.symm⟩, fun r hr z => ?_, fun z => by cases z⟩
          have o1 := (g.oks r hr).op
          rw [z] at o1
          have := g.ord_mem hr
          have : n < r.ord := o1.2
          omega
      · rintro ⟨hq, hd, _⟩
        rcases hq with hq | ⟨_, hq⟩
        · obtain ⟨cs, hc⟩ := gs.mpr ⟨hq, hd⟩
          refine ⟨cs, withE_mem.mpr (.inl ⟨hc, fun z => ?_⟩)⟩
          obtain ⟨r, hr, _, e⟩ := hq
          have := g.ord_mem hr
          have : n = (nextR rs h .snap).ord := z
          omega
        · exact ⟨_, withE_mem.mpr (.inr (by rw [hq]))⟩
    | drop m =>
      constructor
      · rintro ⟨cs, hc⟩
        obtain ⟨hc, hn⟩ := outE_mem.mp hc
        have := gs.mp ⟨cs, hc⟩
        exact ⟨.inl this.1, this.2, fun z => hn (Op.drop.inj z).symm⟩
      · rintro ⟨hq, hd, hm⟩
        rcases hq with hq | ⟨z, _⟩
        · obtain ⟨cs, hc⟩ := gs.mpr ⟨hq, hd⟩
          exact ⟨cs, outE_mem.mpr ⟨hc, fun z => hm (by rw [show n = m from z])⟩⟩
        · cases z
  · rw [ef, app_cells] at ec
    have ec : (match (generalizing := false) o with | .make => some [] | .write p v => (foldS rs).cells.map fun cs => withE cs p v | .trim p => (foldS rs).cells.map fun cs => outE cs p | _ => (foldS rs).cells) = some cs := ec
    have up : ∀ (cs0 : List (Int × Int)), (foldS rs).cells = some cs0 → (p, v) ∈ cs0 → (nextR rs h o).top ≠ .place p → ∃ r ∈ rs ++ [nextR rs h o], r.top = .place p ∧ r.has = true ∧ ∀ r' ∈ rs ++ [nextR rs h o], r'.top = .place p → r'.ord ≤ r.ord := fun cs0 e0 hp0 nt => by
      obtain ⟨r, hr, a, b, d⟩ := g.cl cs0 p v e0 hp0
      refine ⟨r, List.mem_append_left _ hr, a, b, fun r' hr' ht => ?_⟩
      rcases List.mem_append.mp hr' with hr' | hr'
      · exact d r' hr' ht
      · exact absurd (List.mem_singleton.mp hr' ▸ ht) nt
    cases o with
    | make => exact absurd rfl nm
    | write p' v' =>
      obtain ⟨c0, e0, rfl⟩ := Option.map_eq_some_iff.mp ec
      rcases withE_mem.mp hp with ⟨hp, hn⟩ | hp
      · exact up c0 e0 hp fun z => hn (Tp.place.inj (show Tp.place p' = Tp.place p from z)).symm
      · have ep : p = p' := congrArg Prod.fst hp
        refine ⟨_, List.mem_append_right _ (List.mem_singleton.mpr rfl), by rw [ep] <;> rfl, rfl, fun r' hr' _ => ?_⟩
        rcases List.mem_append.mp hr' with hr' | hr'
        · have := g.ord_mem hr'
          omega
        · rw [List.mem_singleton.mp hr']; exact Int.le_refl _
    | trim p' =>
      obtain ⟨c0, e0, rfl⟩ := Option.map_eq_some_iff.mp ec
      obtain ⟨hp, hn⟩ := outE_mem.mp hp
      exact up c0 e0 hp fun z => hn (Tp.place.inj (show Tp.place p' = Tp.place p from z)).symm
    | snap => exact up cs ec hp fun z => by cases z
    | drop m => exact up cs ec hp fun z => by cases z
theorem GI.make : GI [nextR [] 0 .make] := by
  have e0 : ctrOf (foldS []) 0 = 0 := rfl
  have one : ∀ {i : Nat} {r : Rec}, [nextR [] 0 .make][i]? = some r → i = 0 ∧ r = nextR [] 0 .make := fun {i r} e => by
    cases i with
    | zero => exact ⟨rfl, (Option.some.inj e).symm⟩
    | succ i => simp at e
  refine ⟨rfl, fun i r e => ?_, fun z => (by cases z), fun m hm => ?_, fun r hr => ?_, fun i r e i0 => absurd (one e).1 i0, fun n => ⟨fun ⟨cs, hc⟩ => (List.not_mem_nil hc).elim, fun ⟨⟨r, hr, q, _⟩, _⟩ => ?_⟩, fun cs p v ec hp => ?_⟩
  · obtain ⟨rfl, rfl⟩ := one e
    rfl
  · obtain rfl := List.mem_singleton.mp (show m ∈ [(0, ctrOf (foldS []) 0 + 1, none)] from hm)
    exact Int.le_refl 1
  · obtain rfl := List.mem_singleton.mp hr
    exact ⟨Int.le_refl 1, ⟨Int.le_refl 0, by decide⟩, Int.le_refl 1, trivial⟩
  · obtain rfl := List.mem_singleton.mp hr
    cases q
  · cases ec
    exact (List.not_mem_nil hp).elim
theorem Good.ne {rs : List Rec} (g : Good rs) : rs ≠ [] := by
  cases g with
  | make => exact List.cons_ne_nil _ _
  | step => exact fun z => by simp at z
theorem Good.gi {rs : List Rec} (g : Good rs) : GI rs := by
  induction g with
  | make => exact GI.make
  | step g h0 h4 ok ih => exact ih.step g.ne h0 h4 ok
theorem Good.asc {rs : List Rec} (g : Good rs) : Asc rs := g.gi.asc
theorem Good.cells {rs : List Rec} (g : Good rs) : (foldS rs).cells ≠ none := g.gi.cells
theorem asc_snoc {rs : List Rec} {r : Rec} (g : Asc rs) (h : ∀ x ∈ rs, x.ord < r.ord) : Asc (rs ++ [r]) := by
  refine List.pairwise_append.mpr ⟨g, List.pairwise_singleton _ _, fun a ha b hb => ?_⟩
  rw [List.mem_singleton.mp hb]
  exact h a ha
theorem Good.next {rs : List Rec} (g : Good rs) {h : Int} {o : Op} (h0 : 0 ≤ h) (h4 : h < 4) (ok : OpOk rs o) : NextR rs (nextR rs h o) :=
  ⟨rfl, g.gi.next_ok h0 h4 ok, (g.gi.step g.ne h0 h4 ok).asc, .inr g.cells⟩
theorem next_make : NextR [] (nextR [] 0 .make) := ⟨rfl, GI.make.oks _ (List.mem_singleton.mpr rfl), GI.make.asc, .inl rfl⟩
theorem fits_make : fitsN [] (nextR [] 0 .make) = true := rfl
theorem Good.chain {rs : List Rec} (g : Good rs) : Chain rs := by
  induction g with
  | make =>
    intro i r e
    cases i with
    | zero => exact .inl (by rw [← Option.some.inj e] <;> rfl)
    | succ i => simp at e
  | @step rs h o g h0 h4 ok ih =>
    intro i r e
    rcases snoc_cases e with e | ⟨rfl, rfl⟩
    · have il := (List.getElem?_eq_some_iff.mp e).1
      rw [List.take_append_of_le_length (by omega)]
      exact ih i r e
    · right
      rw [List.take_append_of_le_length (Nat.le_refl _), List.take_length]
      exact g.cells
theorem Good.snapB {rs : List Rec} (g : Good rs) {s : Int × List (Int × Int)} (h : s ∈ (foldS rs).snaps) : 0 ≤ s.1 ∧ s.1 ≤ rs.length := by
  obtain ⟨⟨r, hr, _, e⟩, _⟩ := (g.gi.sn s.1).mp ⟨s.2, h⟩
  have := g.gi.ord_mem hr
  omega
section
variable {P : Program} {w : World} {K : PySem.W.Frag} {base : Heap} {mg : Str → Option Value}
end
end L2.Sg
set_option Elab.async false
set_option linter.all false
set_option maxRecDepth 100000
set_option maxHeartbeats 4000000
namespace L2.Sg
open PySem PySem.Spec PyProof.Rows
open C8 (Cal Met Mak pe_c pe_mt pe_mt0 pe_mk tCut pss_cut)
local macro_rules | `(tactic| walk_at "len") => `(tactic| (intro vs H Q E h; first | (obtain ⟨e, _⟩ := h; subst e; rfl) | (obtain ⟨_, e, _⟩ := h; subst e; rfl) | (obtain ⟨_, _, e, _⟩ := h; subst e; rfl) | (obtain ⟨_, _, _, e, _⟩ := h; subst e; rfl) | (obtain ⟨_, _, _, _, e, _⟩ := h; subst e; rfl) | (obtain ⟨_, _, _, _, _, e, _⟩ := h; subst e; rfl) | (obtain ⟨_, _, _, _, _, _, e, _⟩ := h; subst e; rfl) | (obtain ⟨_, _, _, _, _, _, _, e, _⟩ := h; subst e; rfl) | (obtain ⟨_, _, _, _, _, _, _, _, e, _⟩ := h; subst e; rfl) | (obtain ⟨_, _, _, _, _, _, _, _, _, e, _⟩ := h; subst e; rfl) | (obtain ⟨_, _, _, _, _, _, _, _, _, _, e, _⟩ := h; subst e; rfl) | (obtain ⟨_, _, _, _, _, _, _, _, _, _, _, e, _⟩ := h; subst e; rfl) | (obtain ⟨_, _, _, _, _, _, _, _, _, _, _, _, e, _⟩ := h; subst e; rfl) | (obtain ⟨_, _, _, _, _, _, _, _, _, _, _, _, _, e, _⟩ := h; subst e; rfl) | (obtain ⟨_, _, _, _, _, _, _, _, _, _, _, _, _, _, e, _⟩ := h; subst e; rfl) | (obtain ⟨_, _, _, _, _, _, _, _, _, _, _, _, _, _, _, e, _⟩ := h; subst e; rfl)))
local macro_rules | `(tactic| walk_at "ns") => `(tactic| (try dsimp only [Op.kind, Tp.word, Rec.top]); decide +kernel)
/-! ### what the table holds -/
def Rep (T : Tb) (f : Tp → Rows) : Prop := (T.map (·.1)).Nodup ∧ ∀ k rows, (k, rows) ∈ T ↔ rows = f k ∧ f k ≠ []
theorem Rep.add {T : Tb} {f : Tp → Rows} (R : Rep T f) (k : Tp) (o : Int) (b : Bool) : Rep (addRow T k o b) fun k' => if k' = k then f k ++ [(o, b)] else f k' := by
  obtain ⟨nd, mem⟩ := R
  unfold addRow
  by_cases c : T.any (fun t => decide (t.1 = k)) = true
  · rw [if_pos c]
    obtain ⟨t0, ht0, e0⟩ := List.any_eq_true.mp c
    have e0 : t0.1 = k := of_decide_eq_true e0
    refine ⟨?_, fun k' rows => ?_⟩
    · have q : (T.map fun t => if t.1 = k then (t.1, t.2 ++ [(o, b)]) else t).map (fun t => t.1) = T.map fun t => t.1 := by
        rw [List.map_map]
        refine List.map_congr_left fun t _ => ?_
        show (if t.1 = k then (t.1, t.2 ++ [(o, b)]) else t : Tp × Rows).1 = t.1
        split <;> rfl
      rw [q]
      exact nd
    · rw [List.mem_map]
      show _ ↔ rows = (if k' = k then f k ++ [(o, b)] else f k') ∧ (if k' = k then f k ++ [(o, b)] else f k') ≠ []
      by_cases ck : k' = k
      · subst ck
        rw [if_pos rfl]
        constructor
        · rintro ⟨t, ht, e⟩
          by_cases ct : t.1 = k'
          · rw [if_pos ct] at e
            obtain ⟨t1, t2⟩ := t
            obtain rfl : t1 = k' := ct
            have := (mem t1 t2).mp ht
            have e2 : t2 ++ [(o, b)] = rows := congrArg Prod.snd e
            exact ⟨by rw [← e2, this.1], by simp⟩
          · rw [if_neg ct] at e
            exact absurd (congrArg Prod.fst e) ct
        · rintro ⟨rfl, _⟩
          obtain ⟨t1, t2⟩ := t0
          obtain rfl : t1 = k' := e0
          refine ⟨(t1, t2), ht0, ?_⟩
          rw [if_pos rfl, ((mem t1 t2).mp ht0).1]
      · rw [if_neg ck]
        constructor
        · rintro ⟨t, ht, e⟩
          by_cases ct : t.1 = k
          · rw [if_pos ct] at e
            exact absurd ((congrArg Prod.fst e).symm.trans ct) ck
          · rw [if_neg ct] at e
            rw [e] at ht
            exact (mem k' rows).mp ht
        · intro h
          exact ⟨(k', rows), (mem k' rows).mpr h, by rw [if_neg (show ¬ (k', rows).1 = k from ck)]⟩
  · rw [if_neg c]
    have nk : ∀ rows, (k, rows) ∉ T := fun rows h => c (List.any_eq_true.mpr ⟨(k, rows), h, by simp⟩)
    have fk : f k = [] := Classical.byContradiction fun z => nk (f k) ((mem k (f k)).mpr ⟨rfl, z⟩)
    refine ⟨?_, fun k' rows => ?_⟩
    · rw [List.map_append, List.nodup_append]
      refine ⟨nd, by simp, fun a ha d hd e => ?_⟩
      obtain ⟨t, ht, rfl⟩ := List.mem_map.mp ha
      simp at hd
      obtain ⟨t1, t2⟩ := t
      exact nk t2 (by rw [← hd, ← e]; exact ht)
    · rw [List.mem_append, List.mem_singleton]
      show _ ↔ rows = (if k' = k then f k ++ [(o, b)] else f k') ∧ (if k' = k then f k ++ [(o, b)] else f k') ≠ []
      by_cases ck : k' = k
      · subst ck
        rw [if_pos rfl, fk]
        constructor
        · rintro (h | h)
          · exact absurd h (nk rows)
          · exact ⟨congrArg Prod.snd h, by simp⟩
        · rintro ⟨rfl, _⟩
          exact .inr rfl
      · rw [if_neg ck]
        constructor
        · rintro (h | h)
          · exact (mem k' rows).mp h
          · exact absurd (congrArg Prod.fst h) ck
        · exact fun h => .inl ((mem k' rows).mpr h)
def rowOf (k : Tp) (r : Rec) : Option (Int × Bool) := if k = .host r.host then some (r.ord, true) else if k = r.top then some (r.ord, r.has) else none
def rowsF (rs : List Rec) (k : Tp) : Rows := rs.filterMap (rowOf k)
theorem top_host (r : Rec) (i : Int) : r.top ≠ .host i := by
  intro e
  obtain ⟨_, _, _, o⟩ := r
  cases o <;> cases e
theorem Rep.tab (rs : List Rec) : Rep (tabOf rs) (rowsF rs) := by
  have go : ∀ (rs : List Rec) (T : Tb) (f : Tp → Rows), Rep T f → Rep (rs.foldl addRec T) fun k => f k ++ rowsF rs k := by
    intro rs
    induction rs with
    | nil =>
      intro T f R
      have e : (fun k => f k ++ rowsF [] k) = f := funext fun k => List.append_nil _
      rw [e]
      exact R
    | cons r rs ih =>
      intro T f R
      have R2 := ih (addRec T r) _ ((R.add (.host r.host) r.ord true).add r.top r.ord r.has)
      have e : (fun k => f k ++ rowsF (r :: rs) k) = fun k => (if k = r.top then (if r.top = .host r.host then f (.host r.host) ++ [(r.ord, true)] else f r.top) ++ [(r.ord, r.has)] else if k = .host r.host then f (.host r.host) ++ [(r.ord, true)] else f k) ++ rowsF rs k := by
        funext k
        unfold rowsF
        rw [List.filterMap_cons]
        by_cases c1 : k = .host r.host
        · have c2 : ¬ k = r.top := fun z => top_host r r.host (z.symm.trans c1)
          rw [if_neg c2, if_pos c1]
          have : rowOf k r = some (r.ord, true) := if_pos c1
          rw [this, c1, List.append_assoc] <;> rfl
        · by_cases c2 : k = r.top
          · rw [if_pos c2, if_neg (top_host r r.host)]
            have : rowOf k r = some (r.ord, r.has) := by unfold rowOf; rw [if_neg c1, if_pos c2]
            rw [this, c2, List.append_assoc] <;> rfl
          · rw [if_neg c2, if_neg c1]
            have : rowOf k r = none := by unfold rowOf; rw [if_neg c1, if_neg c2]
            rw [this]
      rw [e]
      exact R2
  have := go rs [] (fun _ => []) ⟨.nil, fun k rows => ⟨fun h => (List.not_mem_nil h).elim, fun h => absurd rfl h.2⟩⟩
  have e : (fun k => [] ++ rowsF rs k) = rowsF rs := funext fun k => List.nil_append _
  rw [e] at this
  exact this
theorem tab_mem {rs : List Rec} {k : Tp} {rows : Rows} : (k, rows) ∈ tabOf rs ↔ rows = rowsF rs k ∧ rowsF rs k ≠ [] := (Rep.tab rs).2 k rows
theorem lastHas_ne {rows : Rows} (h : lastHas rows = true) : rows ≠ [] := fun e => by rw [e] at h; cases h
theorem sn_mem {rs : List Rec} {n : Int} : n ∈ snapsOf (tabOf rs) ↔ lastHas (rowsF rs (.snap n)) = true := by
  unfold snapsOf
  rw [List.mem_filterMap]
  constructor
  · rintro ⟨⟨k, rows⟩, ht, e⟩
    unfold snapIf at e
    cases k with
    | snap m =>
      have e : (if lastHas rows = true then some m else none) = some n := e
      by_cases c : lastHas rows = true
      · rw [if_pos c] at e
        obtain rfl := Option.some.inj e
        rw [← (tab_mem.mp ht).1]
        exact c
      · rw [if_neg c] at e; cases e
    | host i => cases e
    | space => cases e
    | place p => cases e
  · intro h
    refine ⟨(.snap n, rowsF rs (.snap n)), tab_mem.mpr ⟨rfl, lastHas_ne h⟩, ?_⟩
    show (if lastHas (rowsF rs (.snap n)) = true then some n else none) = some n
    rw [if_pos h]
theorem fm_filter {α β : Type} {f : α → Option β} {p : α → Bool} {g : α → β} (h : ∀ x, f x = if p x = true then some (g x) else none) : ∀ l : List α, l.filterMap f = (l.filter p).map g
  | [] => rfl
  | x :: l => by
    rw [List.filterMap_cons, h x]
    cases c : p x with
    | true => rw [if_pos rfl, List.filter_cons_of_pos c, List.map_cons, fm_filter h l]
    | false => rw [if_neg Bool.false_ne_true, List.filter_cons_of_neg (by rw [c]; exact Bool.false_ne_true), fm_filter h l]
/-- the records of a topic -/
def recsOf (rs : List Rec) (k : Tp) : List Rec := rs.filter fun r => decide (r.top = k)
theorem rowsF_top {rs : List Rec} {k : Tp} (h : ∀ i, k ≠ .host i) : rowsF rs k = (recsOf rs k).map fun r => (r.ord, r.has) := by
  refine fm_filter (fun r => ?_) rs
  unfold rowOf
  rw [if_neg (h _)]
  by_cases c : k = r.top
  · rw [if_pos c, if_pos (decide_eq_true c.symm)]
  · rw [if_neg c, if_neg (by rw [decide_eq_true_eq]; exact fun z => c z.symm)]
theorem rowsF_host {rs : List Rec} {i : Int} : rowsF rs (.host i) = (rs.filter fun r => decide (r.host = i)).map fun r => (r.ord, true) := by
  refine fm_filter (fun r => ?_) rs
  unfold rowOf
  by_cases c : r.host = i
  · rw [if_pos (by rw [c]), if_pos (decide_eq_true c)]
  · rw [if_neg (fun z => c (Tp.host.inj z).symm), if_neg (fun z => top_host r i z.symm), if_neg (by rw [decide_eq_true_eq]; exact c)]
section
variable {P : Program} {w : World} {K : PySem.W.Frag} {base : Heap} {mg : Str → Option Value}
end
end L2.Sg
set_option Elab.async false
set_option linter.all false
set_option maxRecDepth 100000
set_option maxHeartbeats 4000000
namespace L2.Sg
open PySem PySem.Spec PyProof.Rows
open C8 (Cal Met Mak pe_c pe_mt pe_mt0 pe_mk tCut pss_cut)
local macro_rules | `(tactic| walk_at "len") => `(tactic| (intro vs H Q E h; first | (obtain ⟨e, _⟩ := h; subst e; rfl) | (obtain ⟨_, e, _⟩ := h; subst e; rfl) | (obtain ⟨_, _, e, _⟩ := h; subst e; rfl) | (obtain ⟨_, _, _, e, _⟩ := h; subst e; rfl) | (obtain ⟨_, _, _, _, e, _⟩ := h; subst e; rfl) | (obtain ⟨_, _, _, _, _, e, _⟩ := h; subst e; rfl) | (obtain ⟨_, _, _, _, _, _, e, _⟩ := h; subst e; rfl) | (obtain ⟨_, _, _, _, _, _, _, e, _⟩ := h; subst e; rfl) | (obtain ⟨_, _, _, _, _, _, _, _, e, _⟩ := h; subst e; rfl) | (obtain ⟨_, _, _, _, _, _, _, _, _, e, _⟩ := h; subst e; rfl) | (obtain ⟨_, _, _, _, _, _, _, _, _, _, e, _⟩ := h; subst e; rfl) | (obtain ⟨_, _, _, _, _, _, _, _, _, _, _, e, _⟩ := h; subst e; rfl) | (obtain ⟨_, _, _, _, _, _, _, _, _, _, _, _, e, _⟩ := h; subst e; rfl) | (obtain ⟨_, _, _, _, _, _, _, _, _, _, _, _, _, e, _⟩ := h; subst e; rfl) | (obtain ⟨_, _, _, _, _, _, _, _, _, _, _, _, _, _, e, _⟩ := h; subst e; rfl) | (obtain ⟨_, _, _, _, _, _, _, _, _, _, _, _, _, _, _, e, _⟩ := h; subst e; rfl)))
local macro_rules | `(tactic| walk_at "ns") => `(tactic| (try dsimp only [Op.kind, Tp.word, Rec.top]); decide +kernel)
/-! ### what is live -/
def below : Option Int → Int → Prop
  | none, _ => True
  | some s, o => o < s
def cnt (ks : List Rec) : Option Int → Nat
  | none => ks.length
  | some s => (ks.filter fun r => decide (r.ord < s)).length
theorem cnt_spec : ∀ {ks : List Rec} (_ : Asc ks) (v : Option Int) {i : Nat} {x : Rec}, ks[i]? = some x → (below v x.ord ↔ i < cnt ks v)
  | ks, _, none, i, x, e => ⟨fun _ => (List.getElem?_eq_some_iff.mp e).1, fun _ => trivial⟩
  | [], _, some s, i, x, e => by simp at e
  | a :: t, h, some s, i, x, e => by
    have ht := (List.pairwise_cons.mp h).2
    have ha := (List.pairwise_cons.mp h).1
    by_cases c : a.ord < s
    · have em : cnt (a :: t) (some s) = cnt t (some s) + 1 := by
        show (List.filter _ (a :: t)).length = _
        rw [List.filter_cons_of_pos (by exact decide_eq_true c)] <;> rfl
      rw [em]
      cases i with
      | zero =>
        obtain rfl := Option.some.inj e
        exact ⟨fun _ => Nat.succ_pos _, fun _ => c⟩
      | succ i =>
        have := cnt_spec ht (some s) (i := i) (x := x) (by simpa using e)
        rw [this]
        omega
    · have em : cnt (a :: t) (some s) = 0 := by
        show (List.filter _ (a :: t)).length = 0
        rw [List.filter_cons_of_neg (by rw [decide_eq_true_eq]; exact c)]
        rw [List.length_eq_zero_iff, List.filter_eq_nil_iff]
        intro y hy
        rw [decide_eq_true_eq]
        have := ha y hy
        omega
      rw [em]
      refine ⟨fun q => ?_, fun q => absurd q (Nat.not_lt_zero _)⟩
      have q : x.ord < s := q
      rcases List.mem_cons.mp (List.mem_of_getElem? e) with rfl | hx
      · exact absurd q c
      · have := ha x hx
        omega
theorem cnt_le (ks : List Rec) (v : Option Int) : cnt ks v ≤ ks.length := by
  cases v with
  | none => exact Nat.le_refl _
  | some s => exact List.length_filter_le _ _
def gRow (r : Rec) : Int × Bool := (r.ord, r.has)
theorem lastIx_cnt (ks : List Rec) (v : Option Int) : lastIx (ks.map gRow) v = (cnt ks v : Int) - 1 := by
  cases v with
  | none => show ((ks.map gRow).length : Int) - 1 = (ks.length : Int) - 1; rw [List.length_map]
  | some s =>
    show (((ks.map gRow).filter fun r => decide (r.1 < s)).length : Int) - 1 = ((ks.filter fun r => decide (r.ord < s)).length : Int) - 1
    rw [List.filter_map, List.length_map] <;> rfl
theorem asc_ix {ks : List Rec} (h : Asc ks) {i j : Nat} {x y : Rec} (e : ks[i]? = some x) (f : ks[j]? = some y) : x.ord < y.ord ↔ i < j := by
  obtain ⟨hi, ei⟩ := List.getElem?_eq_some_iff.mp e
  obtain ⟨hj, ej⟩ := List.getElem?_eq_some_iff.mp f
  have p := List.pairwise_iff_getElem.mp h
  constructor
  · intro q
    refine Classical.byContradiction fun z => ?_
    rcases Nat.lt_or_eq_of_le (Nat.le_of_not_lt z) with z | z
    · have := p j i hj hi z
      rw [ei, ej] at this
      omega
    · subst z
      rw [ei] at ej
      subst ej
      omega
  · intro q
    have := p i j hi hj q
    rw [ei, ej] at this
    exact this
theorem rowOrd_map {ks : List Rec} {i : Nat} {x : Rec} (e : ks[i]? = some x) : rowOrd (ks.map gRow) i = x.ord := by
  unfold rowOrd
  rw [List.getD_eq_getElem?_getD, List.getElem?_map, e] <;> rfl
theorem liveView_mem {ks : List Rec} (h : Asc ks) (v : Option Int) (n : Int) : n ∈ liveView (ks.map gRow) v ↔ ∃ e ∈ ks, e.ord = n ∧ below v e.ord ∧ (∀ x ∈ ks, below v x.ord → x.ord ≤ e.ord) ∧ (e.has = true ∨ ∃ x ∈ ks, x.ord < e.ord) := by
  have cl := cnt_le ks v
  have li := lastIx_cnt ks v
  have fh : firstHas (ks.map gRow) = true ↔ ∃ x, ks[0]? = some x ∧ x.has = true := by
    cases ks with
    | nil => exact ⟨fun q => (by cases q), fun ⟨x, q, _⟩ => (by simp at q)⟩
    | cons a t => exact ⟨fun q => ⟨a, rfl, q⟩, fun ⟨x, q, hx⟩ => by obtain rfl := Option.some.inj q; exact hx⟩
  unfold liveView
  constructor
  · intro hm
    by_cases c : 0 < lastIx (ks.map gRow) v ∨ (lastIx (ks.map gRow) v = 0 ∧ firstHas (ks.map gRow) = true)
    · rw [if_pos c] at hm
      have m1 : 1 ≤ cnt ks v := by omega
      have il : cnt ks v - 1 < ks.length := by omega
      have ee : ks[cnt ks v - 1]? = some ks[cnt ks v - 1] := List.getElem?_eq_getElem il
      have en : (lastIx (ks.map gRow) v).toNat = cnt ks v - 1 := by omega
      have hn := List.mem_singleton.mp hm
      rw [en, rowOrd_map ee] at hn
      refine ⟨ks[cnt ks v - 1], List.getElem_mem _, hn.symm, (cnt_spec h v ee).mpr (by omega), fun x hx bx => ?_, ?_⟩
      · obtain ⟨j, hj⟩ := List.mem_iff_getElem?.mp hx
        have jm := (cnt_spec h v hj).mp bx
        refine Int.le_of_not_gt fun q => ?_
        have := (asc_ix h ee hj).mp q
        omega
      · rcases c with c | ⟨c, f⟩
        · right
          have l0 : 0 < ks.length := by omega
          have e0 : ks[0]? = some ks[0] := List.getElem?_eq_getElem l0
          exact ⟨ks[0], List.getElem_mem _, (asc_ix h e0 ee).mpr (by omega)⟩
        · left
          obtain ⟨x, hx, hh⟩ := fh.mp f
          have z : cnt ks v - 1 = 0 := by omega
          have hx' : ks[cnt ks v - 1]? = some x := by rw [z]; exact hx
          rw [← Option.some.inj (hx'.symm.trans ee)]
          exact hh
    · rw [if_neg c] at hm
      exact (List.not_mem_nil hm).elim
  · rintro ⟨e, he, rfl, be, mx, hv⟩
    obtain ⟨i, hi⟩ := List.mem_iff_getElem?.mp he
    have im := (cnt_spec h v hi).mp be
    have il : cnt ks v - 1 < ks.length := by omega
    have ee : ks[cnt ks v - 1]? = some ks[cnt ks v - 1] := List.getElem?_eq_getElem il
    have le := mx _ (List.getElem_mem il) ((cnt_spec h v ee).mpr (by omega))
    have i1 : i = cnt ks v - 1 := by
      refine Classical.byContradiction fun z => ?_
      have : i < cnt ks v - 1 := by omega
      have := (asc_ix h hi ee).mpr this
      omega
    have c : 0 < lastIx (ks.map gRow) v ∨ (lastIx (ks.map gRow) v = 0 ∧ firstHas (ks.map gRow) = true) := by
      by_cases i0 : i = 0
      · right
        refine ⟨by omega, fh.mpr ⟨e, by rw [← i0]; exact hi, ?_⟩⟩
        rcases hv with hv | ⟨x, hx, hlt⟩
        · exact hv
        · obtain ⟨j, hj⟩ := List.mem_iff_getElem?.mp hx
          have := (asc_ix h hj hi).mp hlt
          omega
      · left
        omega
    rw [if_pos c]
    have en : (lastIx (ks.map gRow) v).toNat = i := by omega
    rw [en, rowOrd_map hi]
    exact List.mem_singleton.mpr rfl
theorem asc_inj {rs : List Rec} (h : Asc rs) {x y : Rec} (hx : x ∈ rs) (hy : y ∈ rs) (e : x.ord = y.ord) : x = y := by
  obtain ⟨i, hi⟩ := List.mem_iff_getElem?.mp hx
  obtain ⟨j, hj⟩ := List.mem_iff_getElem?.mp hy
  have a := asc_ix h hi hj
  have b := asc_ix h hj hi
  have : i = j := by omega
  subst this
  rw [hi] at hj
  exact Option.some.inj hj
/-- last of its host -/
def Hl (rs : List Rec) (r : Rec) : Prop := ∀ x ∈ rs, x.host = r.host → x.ord ≤ r.ord
/-- last of its topic before a view -/
def Vl (sn : List Int) (rs : List Rec) (r : Rec) : Prop := ∃ v ∈ viewsOf sn r.top, below v r.ord ∧ ∀ x ∈ rs, x.top = r.top → below v x.ord → x.ord ≤ r.ord
theorem liveOrds_top {sn : List Int} {k : Tp} {rows : Rows} (h : ∀ i, k ≠ .host i) : liveOrds sn (k, rows) = (viewsOf sn k).flatMap (liveView rows) := by
  unfold liveOrds
  cases k with
  | host i => exact absurd rfl (h i)
  | _ => rfl
theorem last_map {α : Type} {l : List α} {f : α → Int × Bool} (ne : l ≠ []) : lastOrd (l.map f) = (f (l.getLast ne)).1 := by
  unfold lastOrd rowOrd
  have lp : 0 < l.length := List.length_pos_iff.mpr ne
  rw [List.length_map, List.getD_eq_getElem?_getD, List.getElem?_map, List.getElem?_eq_getElem (by omega), List.getLast_eq_getElem] <;> rfl
theorem last_max {ks : List Rec} (h : Asc ks) (ne : ks ≠ []) : ∀ x ∈ ks, x.ord ≤ (ks.getLast ne).ord := by
  intro x hx
  obtain ⟨j, hj⟩ := List.mem_iff_getElem?.mp hx
  have lp : 0 < ks.length := List.length_pos_iff.mpr ne
  have il : ks.length - 1 < ks.length := by omega
  have ee : ks[ks.length - 1]? = some (ks.getLast ne) := by rw [List.getElem?_eq_getElem il, List.getLast_eq_getElem]
  have jl := (List.getElem?_eq_some_iff.mp hj).1
  refine Int.le_of_not_gt fun q => ?_
  have := (asc_ix h ee hj).mp q
  omega
theorem live_iff {rs : List Rec} (h : Asc rs) {r : Rec} (hr : r ∈ rs) : liveB (tabOf rs) r = true ↔ Hl rs r ∨ (Vl (snapsOf (tabOf rs)) rs r ∧ (r.has = true ∨ ∃ x ∈ rs, x.top = r.top ∧ x.ord < r.ord)) := by
  have rk : ∀ k, Asc (recsOf rs k) := fun k => h.filter _
  have mk : ∀ {k x}, x ∈ recsOf rs k ↔ x ∈ rs ∧ x.top = k := fun {k x} => by unfold recsOf; rw [List.mem_filter, decide_eq_true_eq]
  unfold liveB
  rw [List.any_eq_true]
  constructor
  · rintro ⟨⟨k, rows⟩, ht, hc⟩
    obtain ⟨er, ne⟩ := tab_mem.mp ht
    have hc := List.contains_iff_mem.mp hc
    by_cases ch : ∃ i, k = .host i
    · obtain ⟨i, rfl⟩ := ch
      left
      have hc : r.ord ∈ [lastOrd rows] := hc
      have e := List.mem_singleton.mp hc
      rw [er, rowsF_host] at e
      have ne2 : (rs.filter fun r => decide (r.host = i)) ≠ [] := fun z => ne (by rw [rowsF_host, z] <;> rfl)
      rw [last_map ne2] at e
      have lm := List.getLast_mem ne2
      obtain ⟨l1, l2⟩ := List.mem_filter.mp lm
      have l2 := of_decide_eq_true l2
      obtain rfl := asc_inj h hr l1 e
      intro x hx hh
      exact last_max (h.filter _) ne2 x (List.mem_filter.mpr ⟨hx, decide_eq_true (hh.trans l2)⟩)
    · right
      have ch : ∀ i, k ≠ .host i := fun i e => ch ⟨i, e⟩
      rw [liveOrds_top ch, List.mem_flatMap] at hc
      obtain ⟨v, hv, hm⟩ := hc
      rw [er, rowsF_top ch] at hm
      obtain ⟨e, he, eo, be, mx, hv2⟩ := (liveView_mem (rk k) v r.ord).mp hm
      obtain ⟨e1, e2⟩ := mk.mp he
      obtain rfl := asc_inj h e1 hr eo
      subst e2
      refine ⟨⟨v, hv, be, fun x hx ht bx => mx x (mk.mpr ⟨hx, ht⟩) bx⟩, hv2.imp id fun ⟨x, hx, hl⟩ => ⟨x, (mk.mp hx).1, (mk.mp hx).2, hl⟩⟩
  · rintro (hh | ⟨⟨v, hv, be, mx⟩, hl⟩)
    · have mr : r ∈ rs.filter fun x => decide (x.host = r.host) := List.mem_filter.mpr ⟨hr, decide_eq_true rfl⟩
      have ne2 : (rs.filter fun x => decide (x.host = r.host)) ≠ [] := List.ne_nil_of_mem mr
      refine ⟨(.host r.host, rowsF rs (.host r.host)), tab_mem.mpr ⟨rfl, by rw [rowsF_host]; exact fun z => ne2 (List.map_eq_nil_iff.mp z)⟩, List.contains_iff_mem.mpr ?_⟩
      show r.ord ∈ [lastOrd (rowsF rs (.host r.host))]
      rw [rowsF_host, last_map ne2]
      refine List.mem_singleton.mpr ?_
      have lm := List.getLast_mem ne2
      obtain ⟨l1, l2⟩ := List.mem_filter.mp lm
      have a := last_max (h.filter _) ne2 r mr
      have b := hh _ l1 (of_decide_eq_true l2)
      show r.ord = (List.getLast _ ne2).ord
      omega
    · have mr : r ∈ recsOf rs r.top := mk.mpr ⟨hr, rfl⟩
      have th : ∀ i, r.top ≠ .host i := top_host r
      refine ⟨(r.top, rowsF rs r.top), tab_mem.mpr ⟨rfl, by rw [rowsF_top th]; exact fun z => List.ne_nil_of_mem mr (List.map_eq_nil_iff.mp z)⟩, List.contains_iff_mem.mpr ?_⟩
      rw [liveOrds_top th, List.mem_flatMap]
      refine ⟨v, hv, ?_⟩
      rw [rowsF_top th]
      exact (liveView_mem (rk r.top) v r.ord).mpr ⟨r, mr, rfl, be, fun x hx bx => mx x (mk.mp hx).1 (mk.mp hx).2 bx, hl.imp id fun ⟨x, hx, ht, hlt⟩ => ⟨x, mk.mpr ⟨hx, ht⟩, hlt⟩⟩
section
variable {P : Program} {w : World} {K : PySem.W.Frag} {base : Heap} {mg : Str → Option Value}
end
end L2.Sg
set_option Elab.async false
set_option linter.all false
set_option maxRecDepth 100000
set_option maxHeartbeats 4000000
namespace L2.Sg
open PySem PySem.Spec PyProof.Rows
open C8 (Cal Met Mak pe_c pe_mt pe_mt0 pe_mk tCut pss_cut)
local macro_rules | `(tactic| walk_at "len") => `(tactic| (intro vs H Q E h; first | (obtain ⟨e, _⟩ := h; subst e; rfl) | (obtain ⟨_, e, _⟩ := h; subst e; rfl) | (obtain ⟨_, _, e, _⟩ := h; subst e; rfl) | (obtain ⟨_, _, _, e, _⟩ := h; subst e; rfl) | (obtain ⟨_, _, _, _, e, _⟩ := h; subst e; rfl) | (obtain ⟨_, _, _, _, _, e, _⟩ := h; subst e; rfl) | (obtain ⟨_, _, _, _, _, _, e, _⟩ := h; subst e; rfl) | (obtain ⟨_, _, _, _, _, _, _, e, _⟩ := h; subst e; rfl) | (obtain ⟨_, _, _, _, _, _, _, _, e, _⟩ := h; subst e; rfl) | (obtain ⟨_, _, _, _, _, _, _, _, _, e, _⟩ := h; subst e; rfl) | (obtain ⟨_, _, _, _, _, _, _, _, _, _, e, _⟩ := h; subst e; rfl) | (obtain ⟨_, _, _, _, _, _, _, _, _, _, _, e, _⟩ := h; subst e; rfl) | (obtain ⟨_, _, _, _, _, _, _, _, _, _, _, _, e, _⟩ := h; subst e; rfl) | (obtain ⟨_, _, _, _, _, _, _, _, _, _, _, _, _, e, _⟩ := h; subst e; rfl) | (obtain ⟨_, _, _, _, _, _, _, _, _, _, _, _, _, _, e, _⟩ := h; subst e; rfl) | (obtain ⟨_, _, _, _, _, _, _, _, _, _, _, _, _, _, _, e, _⟩ := h; subst e; rfl)))
local macro_rules | `(tactic| walk_at "ns") => `(tactic| (try dsimp only [Op.kind, Tp.word, Rec.top]); decide +kernel)
/-! ### the core -/
def SnP (rs : List Rec) (n : Int) : Prop := ∃ e ∈ rs, e.top = .snap n ∧ e.has = true ∧ ∀ x ∈ rs, x.top = .snap n → x.ord ≤ e.ord
def View (rs : List Rec) (k : Tp) (v : Option Int) : Prop := v = none ∨ ((∃ p, k = .place p) ∧ ∃ s, SnP rs s ∧ v = some s)
def VP (rs : List Rec) (r : Rec) : Prop := ∃ v, View rs r.top v ∧ below v r.ord ∧ ∀ x ∈ rs, x.top = r.top → below v x.ord → x.ord ≤ r.ord
def LiveP (rs : List Rec) (r : Rec) : Prop := Hl rs r ∨ (VP rs r ∧ (r.has = true ∨ ∃ x ∈ rs, x.top = r.top ∧ x.ord < r.ord))
theorem maxim {rs : List Rec} (h : Asc rs) {p : Rec → Prop} [DecidablePred p] {r : Rec} (hr : r ∈ rs) (pr : p r) : ∃ m ∈ rs, p m ∧ r.ord ≤ m.ord ∧ ∀ x ∈ rs, p x → x.ord ≤ m.ord := by
  have mr : r ∈ rs.filter fun x => decide (p x) := List.mem_filter.mpr ⟨hr, decide_eq_true pr⟩
  have ne := List.ne_nil_of_mem mr
  obtain ⟨l1, l2⟩ := List.mem_filter.mp (List.getLast_mem ne)
  have mx := last_max (h.filter _) ne
  exact ⟨_, l1, of_decide_eq_true l2, mx r mr, fun x hx px => mx x (List.mem_filter.mpr ⟨hx, decide_eq_true px⟩)⟩
theorem sn_iff {rs : List Rec} (h : Asc rs) {n : Int} : n ∈ snapsOf (tabOf rs) ↔ SnP rs n := by
  rw [sn_mem, rowsF_top (fun i e => by cases e)]
  have mk : ∀ {x}, x ∈ recsOf rs (.snap n) ↔ x ∈ rs ∧ x.top = .snap n := fun {x} => by unfold recsOf; rw [List.mem_filter, decide_eq_true_eq]
  have ak : Asc (recsOf rs (.snap n)) := h.filter _
  by_cases ne : recsOf rs (.snap n) = []
  · rw [ne]
    refine ⟨fun q => (by cases q), fun ⟨e, he, ht, _⟩ => ?_⟩
    have := mk.mpr ⟨he, ht⟩
    rw [ne] at this
    exact (List.not_mem_nil this).elim
  · have e1 : lastHas ((recsOf rs (.snap n)).map fun r => (r.ord, r.has)) = ((recsOf rs (.snap n)).getLast ne).has := by
      unfold lastHas
      rw [List.getLast?_map, List.getLast?_eq_some_getLast ne] <;> rfl
    rw [e1]
    obtain ⟨l1, l2⟩ := mk.mp (List.getLast_mem ne)
    have mx := last_max ak ne
    constructor
    · intro q
      exact ⟨_, l1, l2, q, fun x hx ht => mx x (mk.mpr ⟨hx, ht⟩)⟩
    · rintro ⟨e, he, ht, hh, hm⟩
      have a := mx e (mk.mpr ⟨he, ht⟩)
      have b := hm _ l1 l2
      rw [← asc_inj h he l1 (by omega)]
      exact hh
theorem view_iff {rs : List Rec} (h : Asc rs) {k : Tp} {v : Option Int} : v ∈ viewsOf (snapsOf (tabOf rs)) k ↔ View rs k v := by
  unfold viewsOf View
  cases k with
  | place p =>
    show v ∈ none :: (snapsOf (tabOf rs)).map some ↔ _
    rw [List.mem_cons, List.mem_map]
    constructor
    · rintro (e | ⟨s, hs, e⟩)
      · exact .inl e
      · exact .inr ⟨⟨p, rfl⟩, s, (sn_iff h).mp hs, e.symm⟩
    · rintro (e | ⟨_, s, hs, e⟩)
      · exact .inl e
      · exact .inr ⟨s, (sn_iff h).mpr hs, e.symm⟩
  | host i => exact ⟨fun q => .inl (List.mem_singleton.mp q), fun q => q.elim (fun e => List.mem_singleton.mpr e) fun ⟨⟨p, e⟩, _⟩ => by cases e⟩
  | space => exact ⟨fun q => .inl (List.mem_singleton.mp q), fun q => q.elim (fun e => List.mem_singleton.mpr e) fun ⟨⟨p, e⟩, _⟩ => by cases e⟩
  | snap i => exact ⟨fun q => .inl (List.mem_singleton.mp q), fun q => q.elim (fun e => List.mem_singleton.mpr e) fun ⟨⟨p, e⟩, _⟩ => by cases e⟩
theorem liveN_iff {rs : List Rec} (h : Asc rs) {r : Rec} : r ∈ liveN rs ↔ r ∈ rs ∧ LiveP rs r := by
  unfold liveN
  rw [List.mem_filter]
  refine and_congr_right fun hr => ?_
  rw [live_iff h hr]
  unfold LiveP Vl VP
  constructor
  · rintro (q | ⟨⟨v, a, b⟩, c⟩)
    · exact .inl q
    · exact .inr ⟨⟨v, (view_iff h).mp a, b⟩, c⟩
  · rintro (q | ⟨⟨v, a, b⟩, c⟩)
    · exact .inl q
    · exact .inr ⟨⟨v, (view_iff h).mpr a, b⟩, c⟩
section
variable {rs : List Rec} (h : Asc rs)
include h
theorem Hl.live {r : Rec} (hr : r ∈ rs) (q : Hl rs r) : r ∈ liveN rs := (liveN_iff h).mpr ⟨hr, .inl q⟩
theorem keep_H {r : Rec} (hr : r ∈ rs) : Hl (liveN rs) r ↔ Hl rs r := by
  constructor
  · intro q
    obtain ⟨m, hm, pm, le, mx⟩ := maxim h (p := fun x => x.host = r.host) hr rfl
    have ml : m ∈ liveN rs := Hl.live h hm fun x hx e => mx x hx (e.trans pm)
    intro x hx e
    exact Int.le_trans (mx x hx e) (q m ml pm)
  · exact fun q x hx e => q x ((liveN_iff h).mp hx).1 e
theorem keep_S {n : Int} : SnP (liveN rs) n ↔ SnP rs n := by
  constructor
  · rintro ⟨e, he, ht, hh, mx⟩
    have he' := ((liveN_iff h).mp he).1
    obtain ⟨m, hm, pm, le, mm⟩ := maxim h (p := fun x => x.top = .snap n) he' ht
    refine ⟨e, he', ht, hh, fun x hx px => ?_⟩
    by_cases c : e.ord < m.ord
    · have ml : m ∈ liveN rs := (liveN_iff h).mpr ⟨hm, .inr ⟨⟨none, .inl rfl, trivial, fun y hy ey _ => mm y hy (ey.trans pm)⟩, .inr ⟨e, he', ht.trans pm.symm, c⟩⟩⟩
      have := mx m ml pm
      omega
    · have := mm x hx px
      omega
  · rintro ⟨e, he, ht, hh, mx⟩
    refine ⟨e, (liveN_iff h).mpr ⟨he, .inr ⟨⟨none, .inl rfl, trivial, fun x hx ex _ => mx x hx (ex.trans ht)⟩, .inl hh⟩⟩, ht, hh, fun x hx ex => mx x ((liveN_iff h).mp hx).1 ex⟩
theorem keep_view {k : Tp} {v : Option Int} : View (liveN rs) k v ↔ View rs k v := by
  unfold View
  constructor
  · rintro (e | ⟨a, s, b, c⟩)
    · exact .inl e
    · exact .inr ⟨a, s, (keep_S h).mp b, c⟩
  · rintro (e | ⟨a, s, b, c⟩)
    · exact .inl e
    · exact .inr ⟨a, s, (keep_S h).mpr b, c⟩
theorem keep_V {r : Rec} (hr : r ∈ liveN rs) : VP (liveN rs) r ↔ VP rs r := by
  have hr' := ((liveN_iff h).mp hr).1
  constructor
  · rintro ⟨v, hv, hb, mx⟩
    have hv := (keep_view h).mp hv
    refine ⟨v, hv, hb, fun x hx ex bx => ?_⟩
    obtain ⟨m, hm, ⟨p1, p2⟩, le, mm⟩ : ∃ m ∈ rs, (m.top = r.top ∧ below v m.ord) ∧ r.ord ≤ m.ord ∧ ∀ x ∈ rs, (x.top = r.top ∧ below v x.ord) → x.ord ≤ m.ord := by
      have : DecidablePred fun x : Rec => x.top = r.top ∧ below v x.ord := fun x => Classical.propDecidable _
      exact maxim h (p := fun x : Rec => x.top = r.top ∧ below v x.ord) hr' ⟨rfl, hb⟩
    by_cases c : r.ord < m.ord
    · have ml : m ∈ liveN rs := (liveN_iff h).mpr ⟨hm, .inr ⟨⟨v, by rw [p1]; exact hv, p2, fun y hy ey b => mm y hy ⟨ey.trans p1, b⟩⟩, .inr ⟨r, hr', p1.symm, c⟩⟩⟩
      have := mx m ml p1 p2
      omega
    · have := mm x hx ⟨ex, bx⟩
      omega
  · rintro ⟨v, hv, hb, mx⟩
    exact ⟨v, (keep_view h).mpr hv, hb, fun x hx ex bx => mx x ((liveN_iff h).mp hx).1 ex bx⟩
end
/-- in the core -/
def KP (rs : List Rec) (r : Rec) : Prop := Hl rs r ∨ (VP rs r ∧ (r.has = true ∨ ∃ e ∈ rs, e.top = r.top ∧ e.ord < r.ord ∧ (Hl rs e ∨ (VP rs e ∧ e.has = true))))
structure Cl (rs L : List Rec) : Prop where
  sub : L.Sublist rs
  hl : ∀ r ∈ L, (Hl L r ↔ Hl rs r)
  vp : ∀ r ∈ L, (VP L r ↔ VP rs r)
  kp : ∀ r ∈ rs, KP rs r → r ∈ L
theorem liveN_sub (rs : List Rec) : (liveN rs).Sublist rs := List.filter_sublist
theorem Cl.step {rs L : List Rec} (h : Asc rs) (c : Cl rs L) : Cl rs (liveN L) := by
  have hL : Asc L := h.sublist c.sub
  refine ⟨(liveN_sub L).trans c.sub, fun r hr => ?_, fun r hr => ?_, fun r hr k => ?_⟩
  · have hr' := (liveN_sub L).subset hr
    exact (keep_H hL hr').trans (c.hl r hr')
  · have hr' := (liveN_sub L).subset hr
    exact (keep_V hL hr).trans (c.vp r hr')
  · have rl := c.kp r hr k
    refine (liveN_iff hL).mpr ⟨rl, ?_⟩
    rcases k with k | ⟨k, hh | ⟨e, he, et, eo, q⟩⟩
    · exact .inl ((c.hl r rl).mpr k)
    · exact .inr ⟨(c.vp r rl).mpr k, .inl hh⟩
    · refine .inr ⟨(c.vp r rl).mpr k, .inr ⟨e, c.kp e he ?_, et, eo⟩⟩
      rcases q with q | ⟨q1, q2⟩
      · exact .inl q
      · exact .inr ⟨q1, .inl q2⟩
theorem Cl.self {rs : List Rec} : Cl rs rs := ⟨.refl _, fun _ _ => Iff.rfl, fun _ _ => Iff.rfl, fun _ h _ => h⟩
theorem coreIt_cl {rs : List Rec} (h : Asc rs) : ∀ (n : Nat) (L : List Rec), Cl rs L → L.length < n → Cl rs (coreIt n L) ∧ ¬ (liveN (coreIt n L)).length < (coreIt n L).length
  | 0, L, _, z => absurd z (Nat.not_lt_zero _)
  | n + 1, L, c, z => by
    unfold coreIt
    by_cases q : (liveN L).length < L.length
    · rw [if_pos q]
      exact coreIt_cl h n (liveN L) (c.step h) (by omega)
    · rw [if_neg q]
      exact ⟨c, q⟩
theorem core_spec {rs : List Rec} (h : Asc rs) : (coreN rs).Sublist rs ∧ ∀ r, r ∈ coreN rs ↔ r ∈ rs ∧ KP rs r := by
  obtain ⟨c, st⟩ := coreIt_cl h (rs.length + 1) (liveN rs) (Cl.self.step h) (by have := liveN_len rs; omega)
  have c : Cl rs (coreN rs) := c
  have st : ¬ (liveN (coreN rs)).length < (coreN rs).length := st
  have hL : Asc (coreN rs) := h.sublist c.sub
  have all : ∀ r ∈ coreN rs, LiveP (coreN rs) r := fun r hr => by
    have e : liveN (coreN rs) = coreN rs := (liveN_sub _).eq_of_length_le (by omega)
    rw [← e] at hr
    exact ((liveN_iff hL).mp hr).2
  refine ⟨c.sub, fun r => ⟨fun hr => ⟨c.sub.subset hr, ?_⟩, fun ⟨a, b⟩ => c.kp r a b⟩⟩
  rcases all r hr with q | ⟨q, hh | ⟨x, hx, xt, xo⟩⟩
  · exact .inl ((c.hl r hr).mp q)
  · exact .inr ⟨(c.vp r hr).mp q, .inl hh⟩
  · refine .inr ⟨(c.vp r hr).mp q, .inr ?_⟩
    have ne : (coreN rs).filter (fun y => decide (y.top = r.top)) ≠ [] := List.ne_nil_of_mem (List.mem_filter.mpr ⟨hx, decide_eq_true xt⟩)
    obtain ⟨e, t, et⟩ := List.exists_cons_of_ne_nil ne
    have ae : Asc (e :: t) := by rw [← et]; exact hL.filter _
    have me : e ∈ (coreN rs).filter (fun y => decide (y.top = r.top)) := by rw [et]; exact List.mem_cons_self
    obtain ⟨e1, e2⟩ := List.mem_filter.mp me
    have e2 : e.top = r.top := of_decide_eq_true e2
    have mn : ∀ y ∈ coreN rs, y.top = r.top → e.ord ≤ y.ord := fun y hy yt => by
      have my : y ∈ e :: t := by rw [← et]; exact List.mem_filter.mpr ⟨hy, decide_eq_true yt⟩
      rcases List.mem_cons.mp my with rfl | my
      · exact Int.le_refl _
      · have := (List.pairwise_cons.mp ae).1 y my
        omega
    refine ⟨e, c.sub.subset e1, e2, by have := mn x hx xt; omega, ?_⟩
    rcases all e e1 with q | ⟨q, hh | ⟨y, hy, yt, yo⟩⟩
    · exact .inl ((c.hl e e1).mp q)
    · exact .inr ⟨(c.vp e e1).mp q, hh⟩
    · have := mn y hy (yt.trans e2)
      omega
section
variable {P : Program} {w : World} {K : PySem.W.Frag} {base : Heap} {mg : Str → Option Value}
end
end L2.Sg
set_option Elab.async false
set_option linter.all false
set_option maxRecDepth 100000
set_option maxHeartbeats 4000000
namespace L2.Sg
open PySem PySem.Spec PyProof.Rows
open C8 (Cal Met Mak pe_c pe_mt pe_mt0 pe_mk tCut pss_cut)
local macro_rules | `(tactic| walk_at "len") => `(tactic| (intro vs H Q E h; first | (obtain ⟨e, _⟩ := h; subst e; rfl) | (obtain ⟨_, e, _⟩ := h; subst e; rfl) | (obtain ⟨_, _, e, _⟩ := h; subst e; rfl) | (obtain ⟨_, _, _, e, _⟩ := h; subst e; rfl) | (obtain ⟨_, _, _, _, e, _⟩ := h; subst e; rfl) | (obtain ⟨_, _, _, _, _, e, _⟩ := h; subst e; rfl) | (obtain ⟨_, _, _, _, _, _, e, _⟩ := h; subst e; rfl) | (obtain ⟨_, _, _, _, _, _, _, e, _⟩ := h; subst e; rfl) | (obtain ⟨_, _, _, _, _, _, _, _, e, _⟩ := h; subst e; rfl) | (obtain ⟨_, _, _, _, _, _, _, _, _, e, _⟩ := h; subst e; rfl) | (obtain ⟨_, _, _, _, _, _, _, _, _, _, e, _⟩ := h; subst e; rfl) | (obtain ⟨_, _, _, _, _, _, _, _, _, _, _, e, _⟩ := h; subst e; rfl) | (obtain ⟨_, _, _, _, _, _, _, _, _, _, _, _, e, _⟩ := h; subst e; rfl) | (obtain ⟨_, _, _, _, _, _, _, _, _, _, _, _, _, e, _⟩ := h; subst e; rfl) | (obtain ⟨_, _, _, _, _, _, _, _, _, _, _, _, _, _, e, _⟩ := h; subst e; rfl) | (obtain ⟨_, _, _, _, _, _, _, _, _, _, _, _, _, _, _, e, _⟩ := h; subst e; rfl)))
local macro_rules | `(tactic| walk_at "ns") => `(tactic| (try dsimp only [Op.kind, Tp.word, Rec.top]); decide +kernel)
/-! ### counting -/
noncomputable def filP (rs : List Rec) (p : Rec → Prop) : List Rec := rs.filter fun r => @decide (p r) (Classical.propDecidable (p r))
theorem filP_mem {rs : List Rec} {p : Rec → Prop} {r : Rec} : r ∈ filP rs p ↔ r ∈ rs ∧ p r := by
  unfold filP
  rw [List.mem_filter]
  exact and_congr_right fun _ => @decide_eq_true_iff _ (Classical.propDecidable (p r))
theorem filP_sub (rs : List Rec) (p : Rec → Prop) : (filP rs p).Sublist rs := List.filter_sublist
theorem Asc.nd {rs : List Rec} (h : Asc rs) : rs.Nodup := h.imp fun e z => by rw [z] at e; omega
theorem filP_nd {rs : List Rec} (h : Asc rs) (p : Rec → Prop) : (filP rs p).Nodup := h.nd.sublist (filP_sub rs p)
theorem filP_le {rs : List Rec} (h : Asc rs) {p : Rec → Prop} {L : List Rec} (s : ∀ r ∈ rs, p r → r ∈ L) : (filP rs p).length ≤ L.length := (filP_nd h p).length_le_of_subset fun r hr => s r (filP_mem.mp hr).1 (filP_mem.mp hr).2
theorem filP_mono {rs : List Rec} (h : Asc rs) {p q : Rec → Prop} (s : ∀ r ∈ rs, p r → q r) : (filP rs p).length ≤ (filP rs q).length := filP_le h fun r hr pr => filP_mem.mpr ⟨hr, s r hr pr⟩
theorem filP_lt {rs : List Rec} (h : Asc rs) {p q : Rec → Prop} (s : ∀ r ∈ rs, p r → q r) {z : Rec} (hz : z ∈ rs) (qz : q z) (nz : ¬ p z) : (filP rs p).length + 1 ≤ (filP rs q).length := by
  have nd : (z :: filP rs p).Nodup := List.nodup_cons.mpr ⟨fun k => nz (filP_mem.mp k).2, filP_nd h p⟩
  exact nd.length_le_of_subset fun r hr => by
    rcases List.mem_cons.mp hr with rfl | hr
    · exact filP_mem.mpr ⟨hz, qz⟩
    · exact filP_mem.mpr ⟨(filP_mem.mp hr).1, s r (filP_mem.mp hr).1 (filP_mem.mp hr).2⟩
theorem filP_app {rs : List Rec} {x : Rec} (p : Rec → Prop) : (filP (rs ++ [x]) p).length ≤ (filP rs p).length + 1 := by
  unfold filP
  rw [List.filter_append, List.length_append]
  have : ([x].filter fun r => @decide (p r) (Classical.propDecidable (p r))).length ≤ 1 := List.length_filter_le _ _
  omega
theorem filP_app0 {rs : List Rec} {x : Rec} {p : Rec → Prop} (n : ¬ p x) : (filP (rs ++ [x]) p).length = (filP rs p).length := by
  unfold filP
  rw [List.filter_append, List.filter_cons_of_neg (by rw [@decide_eq_true_iff _ (Classical.propDecidable (p x))]; exact n), List.filter_nil, List.append_nil]
theorem nodup_on {α β γ : Type} {f : α → β} {g : α → γ} : ∀ {l : List α}, (l.map f).Nodup → (∀ x ∈ l, ∀ y ∈ l, g x = g y → f x = f y) → (l.map g).Nodup
  | [], _, _ => .nil
  | a :: l, h, k => by
    rw [List.map_cons, List.nodup_cons] at h ⊢
    refine ⟨fun z => h.1 ?_, nodup_on h.2 fun x hx y hy => k x (List.mem_cons_of_mem _ hx) y (List.mem_cons_of_mem _ hy)⟩
    obtain ⟨b, hb, e⟩ := List.mem_map.mp z
    exact List.mem_map.mpr ⟨b, hb, k b (List.mem_cons_of_mem _ hb) a List.mem_cons_self e⟩
/-- a place that is shared, by its last record -/
def ShP (rs : List Rec) (r : Rec) : Prop := (∃ p, r.top = .place p) ∧ r.has = true ∧ (∀ x ∈ rs, x.top = r.top → x.ord ≤ r.ord) ∧ ∃ s, SnP rs s ∧ r.ord < s
theorem shared_get {rs : List Rec} (h : Asc rs) {t : Tp × Rows} : t ∈ (tabOf rs).filter (sharedB (snapsOf (tabOf rs))) ↔ ∃ r ∈ rs, ShP rs r ∧ t = (r.top, rowsF rs r.top) ∧ lastOrd t.2 = r.ord := by
  have last : ∀ {k : Tp} (ck : ∀ i, k ≠ .host i) (ne : recsOf rs k ≠ []), lastOrd (rowsF rs k) = ((recsOf rs k).getLast ne).ord ∧ lastHas (rowsF rs k) = ((recsOf rs k).getLast ne).has := fun {k} ck ne => by
    rw [rowsF_top ck]
    refine ⟨last_map ne, ?_⟩
    unfold lastHas
    rw [List.getLast?_map, List.getLast?_eq_some_getLast ne] <;> rfl
  have mk : ∀ {k x}, x ∈ recsOf rs k ↔ x ∈ rs ∧ x.top = k := fun {k x} => by unfold recsOf; rw [List.mem_filter, decide_eq_true_eq]
  have ak : ∀ k, Asc (recsOf rs k) := fun k => h.filter _
  rw [List.mem_filter]
  constructor
  · rintro ⟨ht, hs⟩
    obtain ⟨k, rows⟩ := t
    obtain ⟨er, ne⟩ := tab_mem.mp ht
    by_cases ck : ∃ p, k = .place p
    · obtain ⟨p, rfl⟩ := ck
      have th : ∀ i, Tp.place p ≠ .host i := fun i e => by cases e
      rw [sharedB_pl (n := p) rfl] at hs
      have hs : (lastHas rows && (snapsOf (tabOf rs)).any fun n => decide (lastOrd rows < n)) = true := hs
      obtain ⟨h1, h2⟩ := Bool.and_eq_true_iff.mp hs
      obtain ⟨n, hn, h3⟩ := List.any_eq_true.mp h2
      have h3 := of_decide_eq_true h3
      have ne2 : recsOf rs (.place p) ≠ [] := fun z => ne (by rw [rowsF_top th, z] <;> rfl)
      obtain ⟨l1, l2⟩ := last th ne2
      obtain ⟨m1, m2⟩ := mk.mp (List.getLast_mem ne2)
      rw [er] at h1 h3 ⊢
      rw [l2] at h1
      rw [l1] at h3
      refine ⟨_, m1, ⟨⟨p, m2⟩, h1, fun x hx ex => last_max (ak _) ne2 x (mk.mpr ⟨hx, ex.trans m2⟩), n, (sn_iff h).mp hn, h3⟩, by rw [m2], l1⟩
    · rw [sharedB_no (t := (k, rows)) fun n e => ck ⟨n, e⟩] at hs
      cases hs
  · rintro ⟨r, hr, ⟨⟨p, tp⟩, hh, mx, s, hs, lt⟩, rfl, lo⟩
    have lo : lastOrd (rowsF rs r.top) = r.ord := lo
    have th := top_host r
    have mr : r ∈ recsOf rs r.top := mk.mpr ⟨hr, rfl⟩
    have ne2 := List.ne_nil_of_mem mr
    obtain ⟨l1, l2⟩ := last th ne2
    obtain ⟨m1, m2⟩ := mk.mp (List.getLast_mem ne2)
    have er := asc_inj h m1 hr (l1.symm.trans lo)
    refine ⟨tab_mem.mpr ⟨rfl, by rw [rowsF_top th]; exact fun z => ne2 (List.map_eq_nil_iff.mp z)⟩, ?_⟩
    rw [sharedB_pl (n := p) tp]
    refine Bool.and_eq_true_iff.mpr ⟨?_, List.any_eq_true.mpr ⟨s, (sn_iff h).mpr hs, decide_eq_true ?_⟩⟩
    · show lastHas (rowsF rs r.top) = true
      rw [l2, er]
      exact hh
    · show lastOrd (rowsF rs r.top) < s
      rw [lo]
      exact lt
theorem ShP.last {rs : List Rec} (h : Asc rs) {r : Rec} (hr : r ∈ rs) (s : ShP rs r) : lastOrd (rowsF rs r.top) = r.ord := by
  have mk : ∀ {x}, x ∈ recsOf rs r.top ↔ x ∈ rs ∧ x.top = r.top := fun {x} => by unfold recsOf; rw [List.mem_filter, decide_eq_true_eq]
  have mr : r ∈ recsOf rs r.top := mk.mpr ⟨hr, rfl⟩
  have ne2 := List.ne_nil_of_mem mr
  rw [rowsF_top (top_host r), last_map ne2]
  obtain ⟨m1, m2⟩ := mk.mp (List.getLast_mem ne2)
  have a := last_max (h.filter _) ne2 r mr
  have b := s.2.2.1 _ m1 m2
  show (List.getLast _ ne2).ord = r.ord
  have a : r.ord ≤ (List.getLast (recsOf rs r.top) ne2).ord := a
  omega
theorem shared_count {rs : List Rec} (h : Asc rs) : sharedN rs = (filP rs (ShP rs)).length := by
  have nd1 : (((tabOf rs).filter (sharedB (snapsOf (tabOf rs)))).map fun t => lastOrd t.2).Nodup := by
    refine nodup_on (f := fun t => t.1) ((Rep.tab rs).1.sublist (List.filter_sublist.map _)) fun x hx y hy e => ?_
    obtain ⟨r, hr, _, ex, lx⟩ := (shared_get h).mp hx
    obtain ⟨q, hq, _, ey, ly⟩ := (shared_get h).mp hy
    have : r = q := asc_inj h hr hq (lx.symm.trans (e.trans ly))
    rw [ex, ey, this]
  have nd2 : ((filP rs (ShP rs)).map (·.ord)).Nodup := Asc.nodup (h.sublist (filP_sub rs (ShP rs)))
  have pm := (List.perm_ext_iff_of_nodup nd1 nd2).mpr fun a => by
    constructor
    · intro ha
      obtain ⟨t, ht, rfl⟩ := List.mem_map.mp ha
      obtain ⟨r, hr, s, _, lo⟩ := (shared_get h).mp ht
      exact List.mem_map.mpr ⟨r, filP_mem.mpr ⟨hr, s⟩, lo.symm⟩
    · intro ha
      obtain ⟨r, hr, rfl⟩ := List.mem_map.mp ha
      obtain ⟨hr, s⟩ := filP_mem.mp hr
      exact List.mem_map.mpr ⟨_, (shared_get h).mpr ⟨r, hr, s, rfl, s.last h hr⟩, s.last h hr⟩
  have := pm.length_eq
  rw [List.length_map, List.length_map] at this
  exact this
theorem need_count {rs : List Rec} (h : Asc rs) : needN rs = (coreN rs).length + (filP rs (ShP rs)).length := by
  unfold needN
  rw [shared_count h]
section
variable {P : Program} {w : World} {K : PySem.W.Frag} {base : Heap} {mg : Str → Option Value}
end
end L2.Sg
set_option Elab.async false
set_option linter.all false
set_option maxRecDepth 100000
set_option maxHeartbeats 4000000
namespace L2.Sg
open PySem PySem.Spec PyProof.Rows
open C8 (Cal Met Mak pe_c pe_mt pe_mt0 pe_mk tCut pss_cut)
local macro_rules | `(tactic| walk_at "len") => `(tactic| (intro vs H Q E h; first | (obtain ⟨e, _⟩ := h; subst e; rfl) | (obtain ⟨_, e, _⟩ := h; subst e; rfl) | (obtain ⟨_, _, e, _⟩ := h; subst e; rfl) | (obtain ⟨_, _, _, e, _⟩ := h; subst e; rfl) | (obtain ⟨_, _, _, _, e, _⟩ := h; subst e; rfl) | (obtain ⟨_, _, _, _, _, e, _⟩ := h; subst e; rfl) | (obtain ⟨_, _, _, _, _, _, e, _⟩ := h; subst e; rfl) | (obtain ⟨_, _, _, _, _, _, _, e, _⟩ := h; subst e; rfl) | (obtain ⟨_, _, _, _, _, _, _, _, e, _⟩ := h; subst e; rfl) | (obtain ⟨_, _, _, _, _, _, _, _, _, e, _⟩ := h; subst e; rfl) | (obtain ⟨_, _, _, _, _, _, _, _, _, _, e, _⟩ := h; subst e; rfl) | (obtain ⟨_, _, _, _, _, _, _, _, _, _, _, e, _⟩ := h; subst e; rfl) | (obtain ⟨_, _, _, _, _, _, _, _, _, _, _, _, e, _⟩ := h; subst e; rfl) | (obtain ⟨_, _, _, _, _, _, _, _, _, _, _, _, _, e, _⟩ := h; subst e; rfl) | (obtain ⟨_, _, _, _, _, _, _, _, _, _, _, _, _, _, e, _⟩ := h; subst e; rfl) | (obtain ⟨_, _, _, _, _, _, _, _, _, _, _, _, _, _, _, e, _⟩ := h; subst e; rfl)))
local macro_rules | `(tactic| walk_at "ns") => `(tactic| (try dsimp only [Op.kind, Tp.word, Rec.top]); decide +kernel)
/-! ### the potential -/
def H0P (rs0 : List Rec) (e : Rec) : Prop := e ∈ rs0 ∧ Hl rs0 e
def CP (H0 : Rec → Prop) (rs : List Rec) (r : Rec) : Prop := VP rs r ∧ (r.has = true ∨ ∃ e ∈ rs, e.top = r.top ∧ e.ord < r.ord ∧ (H0 e ∨ (VP rs e ∧ e.has = true)))
noncomputable def Phi (H0 : Rec → Prop) (rs : List Rec) : Nat := (filP rs (CP H0 rs)).length + (filP rs (ShP rs)).length
theorem Phi_le {rs : List Rec} (h : Asc rs) : Phi (H0P rs) rs ≤ needN rs := by
  rw [need_count h]
  have : (filP rs (CP (H0P rs) rs)).length ≤ (coreN rs).length := filP_le h fun r hr ⟨v, q⟩ => (core_spec h).2 r |>.mpr ⟨hr, .inr ⟨v, q.imp id fun ⟨e, he, et, eo, z⟩ => ⟨e, he, et, eo, z.imp (fun z => z.2) id⟩⟩⟩
  unfold Phi
  omega
theorem asc_last {rs : List Rec} {x : Rec} (h : Asc (rs ++ [x])) {r : Rec} (hr : r ∈ rs) : r.ord < x.ord := (List.pairwise_append.mp h).2.2 r hr x (List.mem_singleton.mpr rfl)
theorem mem_snoc {α : Type} {l : List α} {x y : α} (h : y ∈ l ++ [x]) : y ∈ l ∨ y = x := (List.mem_append.mp h).imp id List.mem_singleton.mp
section
variable {rs : List Rec} {x : Rec} (h : Asc (rs ++ [x])) (nx : x.has = false)
include h nx
theorem SnP.old {s : Int} (q : SnP (rs ++ [x]) s) : SnP rs s := by
  obtain ⟨e, he, et, eh, mx⟩ := q
  rcases mem_snoc he with he | rfl
  · exact ⟨e, he, et, eh, fun y hy => mx y (List.mem_append_left _ hy)⟩
  · rw [nx] at eh; cases eh
theorem View.old {k : Tp} {v : Option Int} (q : View (rs ++ [x]) k v) : View rs k v := q.imp id fun ⟨a, s, b, c⟩ => ⟨a, s, SnP.old h nx b, c⟩
theorem VP.old {r : Rec} (q : VP (rs ++ [x]) r) : VP rs r := by
  obtain ⟨v, a, b, c⟩ := q
  exact ⟨v, View.old h nx a, b, fun y hy => c y (List.mem_append_left _ hy)⟩
theorem CP.old {H0 : Rec → Prop} {r : Rec} (hr : r ∈ rs) (q : CP H0 (rs ++ [x]) r) : CP H0 rs r := by
  refine ⟨VP.old h nx q.1, q.2.imp id ?_⟩
  rintro ⟨e, he, et, eo, z⟩
  rcases mem_snoc he with he | rfl
  · exact ⟨e, he, et, eo, z.imp id fun ⟨a, b⟩ => ⟨VP.old h nx a, b⟩⟩
  · have := asc_last h hr
    omega
theorem ShP.old {r : Rec} (q : ShP (rs ++ [x]) r) : ShP rs r := by
  obtain ⟨a, b, c, s, d, e⟩ := q
  exact ⟨a, b, fun y hy => c y (List.mem_append_left _ hy), s, SnP.old h nx d, e⟩
theorem ShP.no : ¬ ShP (rs ++ [x]) x := fun q => by
  have := q.2.1
  rw [nx] at this
  cases this
end
theorem Phi_down {rs : List Rec} (g : GI rs) {x : Rec} (h : Asc (rs ++ [x])) (ok : OpOk rs x.op) (dn : isDown x.op = true) (H0 : Rec → Prop) : Phi H0 (rs ++ [x]) ≤ Phi H0 rs := by
  have hr := g.asc
  have nx : x.has = false := by
    obtain ⟨_, _, _, o⟩ := x
    cases o <;> first | rfl | cases dn
  have hx : x ∈ rs ++ [x] := List.mem_append_right _ (List.mem_singleton.mpr rfl)
  have c1 := filP_app (rs := rs) (x := x) (CP H0 (rs ++ [x]))
  have c2 := filP_app0 (rs := rs) (ShP.no h nx)
  have m1 : (filP rs (CP H0 (rs ++ [x]))).length ≤ (filP rs (CP H0 rs)).length := filP_mono hr fun r hr => CP.old h nx hr
  have m2 : (filP rs (ShP (rs ++ [x]))).length ≤ (filP rs (ShP rs)).length := filP_mono hr fun r _ => ShP.old h nx
  unfold Phi
  rw [c2]
  cases eo : x.op with
  | make => rw [eo] at dn; cases dn
  | write p v => rw [eo] at dn; cases dn
  | snap => rw [eo] at dn; cases dn
  | drop n =>
    rw [eo] at ok
    obtain ⟨⟨z, hz, zo, ze⟩, nd⟩ := (g.sn n).mp ok
    have zt : z.top = .snap n := by unfold Rec.top; rw [zo, ze]
    have zh : z.has = true := by unfold Rec.has; rw [zo]
    have xt : x.top = .snap n := by unfold Rec.top; rw [eo]
    have m3 : (filP rs (CP H0 (rs ++ [x]))).length + 1 ≤ (filP rs (CP H0 rs)).length := by
      refine filP_lt hr (fun r hr => CP.old h nx hr) hz ⟨⟨none, .inl rfl, trivial, fun y hy ey _ => ?_⟩, .inl zh⟩ fun q => ?_
      · have ey : y.top = .snap n := ey.trans zt
        unfold Rec.top at ey
        cases oy : y.op with
        | snap => rw [oy] at ey; have := Tp.snap.inj ey; omega
        | drop m => rw [oy] at ey; have := Tp.snap.inj ey; subst this; exact absurd oy (nd y hy)
        | make => rw [oy] at ey; cases ey
        | write p v => rw [oy] at ey; cases ey
        | trim p => rw [oy] at ey; cases ey
      · obtain ⟨v, hv, _, mx⟩ := q.1
        rcases hv with rfl | ⟨⟨p, e⟩, _⟩
        · have := mx x hx (xt.trans zt.symm) trivial
          have := asc_last h hz
          omega
        · rw [zt] at e; cases e
    omega
  | trim p =>
    rw [eo] at ok
    obtain ⟨_, _, cs, v, hc, hp⟩ := ok
    obtain ⟨y, hy, yt, yh, ym⟩ := g.cl cs p v hc hp
    have xt : x.top = .place p := by unfold Rec.top; rw [eo]
    have yx := asc_last h hy
    by_cases A : ∃ s, SnP rs s ∧ y.ord < s
    · obtain ⟨s, hs, lt⟩ := A
      have m3 : (filP rs (ShP (rs ++ [x]))).length + 1 ≤ (filP rs (ShP rs)).length := by
        refine filP_lt hr (fun r _ => ShP.old h nx) hy ⟨⟨p, yt⟩, yh, fun w hw ew => ym w hw (ew.trans yt), s, hs, lt⟩ fun q => ?_
        have := q.2.2.1 x hx (xt.trans yt.symm)
        omega
      omega
    · have m3 : (filP rs (CP H0 (rs ++ [x]))).length + 1 ≤ (filP rs (CP H0 rs)).length := by
        refine filP_lt hr (fun r hr => CP.old h nx hr) hy ⟨⟨none, .inl rfl, trivial, fun w hw ew _ => ym w hw (ew.trans yt)⟩, .inl yh⟩ fun q => ?_
        obtain ⟨v, hv, hb, mx⟩ := q.1
        rcases hv with rfl | ⟨_, s, hs, rfl⟩
        · have := mx x hx (xt.trans yt.symm) trivial
          omega
        · exact A ⟨s, SnP.old h nx hs, hb⟩
      omega
theorem four {l : List Int} (nd : l.Nodup) (b : ∀ x ∈ l, 0 ≤ x ∧ x < 4) : l.length ≤ 4 := by
  have : l.length ≤ ([0, 1, 2, 3] : List Int).length := nd.length_le_of_subset fun x hx => by
    obtain ⟨a, c⟩ := b x hx
    have : x = 0 ∨ x = 1 ∨ x = 2 ∨ x = 3 := by omega
    rcases this with rfl | rfl | rfl | rfl <;> decide
  exact this
theorem hosts_four {rs : List Rec} (h : Asc rs) (oks : ∀ r ∈ rs, r.ok) : (filP rs (Hl rs)).length ≤ 4 := by
  have nd : ((filP rs (Hl rs)).map (·.host)).Nodup := by
    refine nodup_on (f := fun r => r.ord) (Asc.nodup (h.sublist (filP_sub rs _))) fun x hx y hy e => ?_
    obtain ⟨hx, px⟩ := filP_mem.mp hx
    obtain ⟨hy, py⟩ := filP_mem.mp hy
    have a := px y hy e.symm
    have b := py x hx e
    exact Int.le_antisymm b a
  have := four nd fun a ha => by
    obtain ⟨r, hr, rfl⟩ := List.mem_map.mp ha
    exact (oks r (filP_mem.mp hr).1).host
  rw [List.length_map] at this
  exact this
section
variable {P : Program} {w : World} {K : PySem.W.Frag} {base : Heap} {mg : Str → Option Value}
end
end L2.Sg
set_option Elab.async false
set_option linter.all false
set_option maxRecDepth 100000
set_option maxHeartbeats 4000000
namespace L2.Sg
open PySem PySem.Spec PyProof.Rows
open C8 (Cal Met Mak pe_c pe_mt pe_mt0 pe_mk tCut pss_cut)
local macro_rules | `(tactic| walk_at "len") => `(tactic| (intro vs H Q E h; first | (obtain ⟨e, _⟩ := h; subst e; rfl) | (obtain ⟨_, e, _⟩ := h; subst e; rfl) | (obtain ⟨_, _, e, _⟩ := h; subst e; rfl) | (obtain ⟨_, _, _, e, _⟩ := h; subst e; rfl) | (obtain ⟨_, _, _, _, e, _⟩ := h; subst e; rfl) | (obtain ⟨_, _, _, _, _, e, _⟩ := h; subst e; rfl) | (obtain ⟨_, _, _, _, _, _, e, _⟩ := h; subst e; rfl) | (obtain ⟨_, _, _, _, _, _, _, e, _⟩ := h; subst e; rfl) | (obtain ⟨_, _, _, _, _, _, _, _, e, _⟩ := h; subst e; rfl) | (obtain ⟨_, _, _, _, _, _, _, _, _, e, _⟩ := h; subst e; rfl) | (obtain ⟨_, _, _, _, _, _, _, _, _, _, e, _⟩ := h; subst e; rfl) | (obtain ⟨_, _, _, _, _, _, _, _, _, _, _, e, _⟩ := h; subst e; rfl) | (obtain ⟨_, _, _, _, _, _, _, _, _, _, _, _, e, _⟩ := h; subst e; rfl) | (obtain ⟨_, _, _, _, _, _, _, _, _, _, _, _, _, e, _⟩ := h; subst e; rfl) | (obtain ⟨_, _, _, _, _, _, _, _, _, _, _, _, _, _, e, _⟩ := h; subst e; rfl) | (obtain ⟨_, _, _, _, _, _, _, _, _, _, _, _, _, _, _, e, _⟩ := h; subst e; rfl)))
local macro_rules | `(tactic| walk_at "ns") => `(tactic| (try dsimp only [Op.kind, Tp.word, Rec.top]); decide +kernel)
theorem down_has {o : Op} {r : Rec} (e : r.op = o) (d : isDown o = true) : r.has = false := by
  unfold Rec.has
  rw [e]
  cases o <;> first | rfl | cases d
theorem snap_of {e : Rec} {s : Int} (t : e.top = .snap s) (h : e.has = true) : e.op = .snap ∧ e.ord = s := by
  unfold Rec.top at t
  unfold Rec.has at h
  cases o : e.op with
  | snap => rw [o] at t; exact ⟨rfl, Tp.snap.inj t⟩
  | drop m => rw [o] at h; cases h
  | make => rw [o] at t; cases t
  | write p v => rw [o] at t; cases t
  | trim p => rw [o] at t; cases t
/-- an earlier host-last of the later part -/
def Ep (rs ts : List Rec) (r e : Rec) : Prop := e ∈ rs ∧ e.top = r.top ∧ e.ord < r.ord ∧ Hl rs e ∧ e ∈ ts
def Bp (rs ts : List Rec) (r : Rec) : Prop := VP rs r ∧ ∃ e, Ep rs ts r e
open Classical in
noncomputable def hostE (rs ts : List Rec) (r : Rec) : Int := if h : ∃ e, Ep rs ts r e then (Classical.choose h).host else 0
theorem hostE_spec {rs ts : List Rec} {r : Rec} (h : ∃ e, Ep rs ts r e) : ∃ e, Ep rs ts r e ∧ hostE rs ts r = e.host := ⟨Classical.choose h, Classical.choose_spec h, by unfold hostE; rw [dif_pos h]⟩
theorem Bp_four {rs0 ts : List Rec} (g : GI (rs0 ++ ts)) (dn : ∀ r ∈ ts, isDown r.op = true) : (filP (rs0 ++ ts) (Bp (rs0 ++ ts) ts)).length ≤ 4 := by
  have h := g.asc
  have lst : ∀ r, Bp (rs0 ++ ts) ts r → ∀ x ∈ rs0 ++ ts, x.top = r.top → x.ord ≤ r.ord := by
    rintro r ⟨⟨v, hv, hb, mx⟩, e, _, _, eo, _, et⟩
    rcases hv with rfl | ⟨_, s, ⟨es, hes, est, esh, _⟩, rfl⟩
    · exact fun x hx ex => mx x hx ex trivial
    · obtain ⟨so, ss⟩ := snap_of est esh
      have es0 : es ∈ rs0 := by
        rcases List.mem_append.mp hes with q | q
        · exact q
        · have := dn es q
          rw [so] at this
          cases this
      have lt := (List.pairwise_append.mp h).2.2 es es0 e et
      have hb : r.ord < s := hb
      omega
  have nd : ((filP (rs0 ++ ts) (Bp (rs0 ++ ts) ts)).map (hostE (rs0 ++ ts) ts)).Nodup := by
    refine nodup_on (f := fun r => r.ord) (Asc.nodup (h.sublist (filP_sub _ _))) fun x hx y hy e => ?_
    obtain ⟨hx, px⟩ := filP_mem.mp hx
    obtain ⟨hy, py⟩ := filP_mem.mp hy
    obtain ⟨a, ⟨a1, a2, a3, a4, a5⟩, a6⟩ := hostE_spec px.2
    obtain ⟨b, ⟨b1, b2, b3, b4, b5⟩, b6⟩ := hostE_spec py.2
    have hh : a.host = b.host := by rw [← a6, ← b6, e]
    have q1 := a4 b b1 hh.symm
    have q2 := b4 a a1 hh
    have ab := asc_inj h a1 b1 (by omega)
    have tt : x.top = y.top := by rw [← a2, ← b2, ab]
    have r1 := lst x px y hy tt.symm
    have r2 := lst y py x hx tt
    exact Int.le_antisymm r2 r1
  have := four nd fun a ha => by
    obtain ⟨r, hr, rfl⟩ := List.mem_map.mp ha
    obtain ⟨e, ⟨e1, _⟩, e2⟩ := hostE_spec (filP_mem.mp hr).2.2
    rw [e2]
    exact (g.oks e e1).host
  rw [List.length_map] at this
  exact this
theorem need_phi {rs0 ts : List Rec} (g : GI (rs0 ++ ts)) (dn : ∀ r ∈ ts, isDown r.op = true) : needN (rs0 ++ ts) ≤ Phi (H0P rs0) (rs0 ++ ts) + 8 := by
  have h := g.asc
  have sub : coreN (rs0 ++ ts) ⊆ filP (rs0 ++ ts) (Hl (rs0 ++ ts)) ++ (filP (rs0 ++ ts) (Bp (rs0 ++ ts) ts) ++ filP (rs0 ++ ts) (CP (H0P rs0) (rs0 ++ ts))) := fun r hr => by
    obtain ⟨hr, k⟩ := (core_spec h).2 r |>.mp hr
    rcases k with k | ⟨k, hh | ⟨e, he, et, eo, q⟩⟩
    · exact List.mem_append_left _ (filP_mem.mpr ⟨hr, k⟩)
    · exact List.mem_append_right _ (List.mem_append_right _ (filP_mem.mpr ⟨hr, k, .inl hh⟩))
    · rcases q with q | q
      · rcases List.mem_append.mp he with e0 | e0
        · exact List.mem_append_right _ (List.mem_append_right _ (filP_mem.mpr ⟨hr, k, .inr ⟨e, he, et, eo, .inl ⟨e0, fun x hx => q x (List.mem_append_left _ hx)⟩⟩⟩))
        · exact List.mem_append_right _ (List.mem_append_left _ (filP_mem.mpr ⟨hr, k, e, he, et, eo, q, e0⟩))
      · exact List.mem_append_right _ (List.mem_append_right _ (filP_mem.mpr ⟨hr, k, .inr ⟨e, he, et, eo, .inr q⟩⟩))
  have len := (h.nd.sublist (core_spec h).1).length_le_of_subset sub
  rw [List.length_append, List.length_append] at len
  have a := hosts_four h g.oks
  have b := Bp_four g dn
  rw [need_count h]
  unfold Phi
  omega
theorem Good.init {L : List Rec} (g : Good L) : ∀ {l : List Rec} {x : Rec}, L = l ++ [x] → l ≠ [] → Good l ∧ OpOk l x.op := by
  cases g with
  | make =>
    intro l x e ne
    have := congrArg List.length e
    rw [List.length_append] at this
    have : l.length = 0 := by simp at this; exact List.length_eq_zero_iff.mpr this
    exact absurd (List.eq_nil_of_length_eq_zero this) ne
  | step g h0 h4 ok =>
    intro l x e ne
    obtain ⟨e1, e2⟩ := List.append_inj' e rfl
    subst e1
    have e2 := (List.cons.inj e2).1
    exact ⟨g, by rw [← e2]; exact ok⟩
theorem Good.head {L : List Rec} (g : Good L) : ∃ t, L = nextR [] 0 .make :: t := by
  induction g with
  | make => exact ⟨[], rfl⟩
  | step g h0 h4 ok ih =>
    obtain ⟨t, e⟩ := ih
    rename_i rs h o
    exact ⟨t ++ [nextR rs h o], by rw [← List.cons_append, ← e]⟩
theorem Phi_run {rs0 : List Rec} (ne : rs0 ≠ []) : ∀ (n : Nat) (ts : List Rec), ts.length = n → Good (rs0 ++ ts) → (∀ r ∈ ts, isDown r.op = true) → Good rs0 ∧ Phi (H0P rs0) (rs0 ++ ts) ≤ Phi (H0P rs0) rs0
  | 0, ts, e, g, _ => by
    obtain rfl := List.eq_nil_of_length_eq_zero e
    rw [List.append_nil] at g ⊢
    exact ⟨g, Nat.le_refl _⟩
  | n + 1, ts, e, g, dn => by
    rcases List.eq_nil_or_concat ts with rfl | ⟨l, x, e3⟩
    · simp at e
    · rw [List.concat_eq_append] at e3
      subst e3
      have ea : rs0 ++ (l ++ [x]) = (rs0 ++ l) ++ [x] := (List.append_assoc _ _ _).symm
      have nl : rs0 ++ l ≠ [] := fun z => ne (List.append_eq_nil_iff.mp z).1
      obtain ⟨gl, ok⟩ := g.init ea nl
      obtain ⟨g0, p⟩ := Phi_run ne n l (by rw [List.length_append] at e; exact Nat.succ.inj e) gl fun r hr => dn r (List.mem_append_left _ hr)
      refine ⟨g0, ?_⟩
      rw [ea] at g ⊢
      exact Nat.le_trans (Phi_down gl.gi g.asc ok (dn x (List.mem_append_right _ (List.mem_singleton.mpr rfl))) _) p
theorem Trn.need {n : Nat} {rs : List Rec} (t : Trn n rs) : needN rs ≤ 32 := by
  obtain ⟨g, _, rs0, ts, rfl, dn, le⟩ := t
  by_cases ne : rs0 = []
  · subst ne
    obtain ⟨t', e⟩ := g.head
    rw [List.nil_append] at e
    have := dn (nextR [] 0 .make) (by rw [e]; exact List.mem_cons_self)
    cases this
  · obtain ⟨g0, p⟩ := Phi_run ne _ ts rfl g dn
    have a := need_phi g.gi dn
    have b := Phi_le g0.asc
    omega
theorem need_le2 {rs : List Rec} (h : Asc rs) : needN rs ≤ rs.length + (filP rs fun r => ∃ p, r.top = .place p).length := by
  rw [need_count h]
  have a := (core_spec h).1.length_le
  have b : (filP rs (ShP rs)).length ≤ (filP rs fun r => ∃ p, r.top = .place p).length := filP_mono h fun r _ q => q.1
  omega
theorem fit_need {rs : List Rec} {r : Rec} (h : Asc (rs ++ [r])) (up : isDown r.op = false) (f : fitsN rs r = true) : needN (rs ++ [r]) ≤ 23 := by
  have f : (decide (2 * (rs.length + 1) ≤ 23) || decide (needN (rs ++ [r]) ≤ 23)) = true := by
    unfold fitsN at f
    cases o : r.op <;> rw [o] at f up <;> first | exact f | cases up
  rcases Bool.or_eq_true_iff.mp f with q | q
  · have q := of_decide_eq_true q
    have a := need_le2 h
    have b := (filP_sub (rs ++ [r]) fun r => ∃ p, r.top = .place p).length_le
    rw [List.length_append] at a b
    have : ([r] : List Rec).length = 1 := rfl
    omega
  · exact of_decide_eq_true q
theorem Trn.step {n : Nat} {rs : List Rec} (t : Trn n rs) {h : Int} {o : Op} (h0 : 0 ≤ h) (h4 : h < 4) (ok : OpOk rs o) (fit : fitsN rs (nextR rs h o) = true) : Trn (n + 1) (rs ++ [nextR rs h o]) := by
  obtain ⟨g, l, rs0, ts, e, dn, le⟩ := t
  have g2 := Good.step g h0 h4 ok
  refine ⟨g2, by rw [List.length_append]; show _ + 1 ≤ _; omega, ?_⟩
  cases d : isDown o with
  | true =>
    refine ⟨rs0, ts ++ [nextR rs h o], by rw [e, List.append_assoc], fun r hr => ?_, le⟩
    rcases mem_snoc hr with hr | rfl
    · exact dn r hr
    · exact d
  | false => exact ⟨rs ++ [nextR rs h o], [], (List.append_nil _).symm, fun r hr => (List.not_mem_nil hr).elim, fit_need g2.asc d fit⟩
/-! ### the fill -/
theorem FillP.good {i : Nat} {b : Bool} {rs : List Rec} (f : FillP i b rs) : Good rs := by
  induction f with
  | zero => exact .make
  | snap f h0 h4 fit ih => exact .step ih h0 h4 trivial
  | write f h0 h4 hi fit ih => exact .step ih h0 h4 ⟨by omega, by omega⟩
structure FI (i : Nat) (b : Bool) (rs : List Rec) : Prop where
  has : ∀ r ∈ rs, r.has = true
  pl : ∀ r ∈ rs, ∀ p, r.top = .place p → p < i
  sn : b = false → ∀ r ∈ rs, ∀ n, r.top ≠ .snap n
  nd : (rs.map (·.top)).Nodup
  pc : (filP rs fun r => ∃ p, r.top = .place p).length ≤ i
  len : rs.length = 1 + i + (if b = true then 1 else 0)
theorem nd_snoc {rs : List Rec} {r : Rec} (nd : (rs.map (·.top)).Nodup) (n : ∀ x ∈ rs, x.top ≠ r.top) : ((rs ++ [r]).map (·.top)).Nodup := by
  rw [List.map_append, List.nodup_append]
  refine ⟨nd, by simp, fun a ha c hc e => ?_⟩
  obtain ⟨x, hx, rfl⟩ := List.mem_map.mp ha
  simp at hc
  exact n x hx (e.trans hc)
theorem FillP.fi {i : Nat} {b : Bool} {rs : List Rec} (f : FillP i b rs) : FI i b rs := by
  induction f with
  | zero =>
    have one : ∀ {r}, r ∈ [nextR [] 0 .make] → r = nextR [] 0 .make := fun h => List.mem_singleton.mp h
    refine ⟨fun r hr => by rw [one hr] <;> rfl, fun r hr p e => (by rw [one hr] at e; cases e), fun _ r hr n e => (by rw [one hr] at e; cases e), by simp, ?_, rfl⟩
    refine Nat.le_of_eq (List.length_eq_zero_iff.mpr (List.eq_nil_iff_forall_not_mem.mpr fun r hr => ?_))
    obtain ⟨hr, p, e⟩ := filP_mem.mp hr
    rw [one hr] at e
    cases e
  | @snap i rs h f h0 h4 fit ih =>
    refine ⟨fun r hr => ?_, fun r hr p e => ?_, fun z => (by cases z), nd_snoc ih.nd fun x hx e => ih.sn rfl x hx _ e, ?_, ?_⟩
    · rcases mem_snoc hr with hr | rfl
      · exact ih.has r hr
      · rfl
    · rcases mem_snoc hr with hr | rfl
      · exact ih.pl r hr p e
      · cases e
    · rw [filP_app0 (fun ⟨p, e⟩ => by cases e)]
      exact ih.pc
    · rw [List.length_append, ih.len] <;> rfl
  | @write i b rs h v f h0 h4 hi fit ih =>
    refine ⟨fun r hr => ?_, fun r hr p e => ?_, fun z r hr n => ?_, nd_snoc ih.nd fun x hx e => ?_, ?_, ?_⟩
    · rcases mem_snoc hr with hr | rfl
      · exact ih.has r hr
      · rfl
    · rcases mem_snoc hr with hr | rfl
      · have := ih.pl r hr p e
        omega
      · have := Tp.place.inj (show Tp.place i = Tp.place p from e)
        omega
    · rcases mem_snoc hr with hr | rfl
      · exact ih.sn z r hr n
      · exact fun e => by cases e
    · have := ih.pl x hx i e
      omega
    · exact Nat.le_trans (filP_app _) (Nat.succ_le_succ ih.pc)
    · rw [List.length_append, ih.len]
      show 1 + i + _ + 1 = 1 + (i + 1) + _
      omega
theorem FillP.need {i : Nat} {b : Bool} {rs : List Rec} (f : FillP i b rs) : needN rs ≤ 23 := by
  cases f with
  | zero =>
    have a := need_le2 Good.make.asc
    have c := (filP_sub [nextR [] 0 .make] fun r => ∃ p, r.top = .place p).length_le
    have : ([nextR [] 0 .make] : List Rec).length = 1 := rfl
    omega
  | snap f h0 h4 fit => exact fit_need (Good.step (o := .snap) f.good h0 h4 trivial).asc rfl fit
  | @write j b rs h v f h0 h4 hi fit => exact fit_need (Good.step (o := .write j v) f.good h0 h4 ⟨by omega, by omega⟩).asc rfl fit
theorem FillP.len {i : Nat} {b : Bool} {rs : List Rec} (f : FillP i b rs) : rs.length ≤ 23 := by
  have h := f.good.asc
  have n := f.need
  have fi := f.fi
  have a : rs.length ≤ (coreN rs).length := h.nd.length_le_of_subset fun r hr => ((core_spec h).2 r).mpr ⟨hr, .inr ⟨⟨none, .inl rfl, trivial, fun x hx ex _ => by
    rw [nodup_inj fi.nd hx hr ex]
    exact Int.le_refl _⟩, .inl (fi.has r hr)⟩⟩
  rw [need_count h] at n
  omega
theorem FillP.fits {i : Nat} {b : Bool} {rs : List Rec} (f : FillP i b rs) (hi : i < 10) {h v : Int} (h0 : 0 ≤ h) (h4 : h < 4) : fitsN rs (nextR rs h (.write i v)) = true := by
  have fi := f.fi
  have ll := fi.len
  have g2 : Good (rs ++ [nextR rs h (.write i v)]) := .step f.good h0 h4 ⟨by omega, by omega⟩
  show (decide (2 * (rs.length + 1) ≤ 23) || decide (needN (rs ++ [nextR rs h (.write i v)]) ≤ 23)) = true
  by_cases c : 2 * (rs.length + 1) ≤ 23
  · rw [decide_eq_true c, Bool.true_or]
  · have a := need_le2 g2.asc
    have pc := filP_app (rs := rs) (x := nextR rs h (.write i v)) fun r => ∃ p, r.top = .place p
    have pi := fi.pc
    rw [List.length_append] at a
    have : ([nextR rs h (.write i v)] : List Rec).length = 1 := rfl
    have bl : (if b = true then 1 else 0) ≤ 1 := by split <;> omega
    have n : needN (rs ++ [nextR rs h (.write i v)]) ≤ 23 := by omega
    rw [decide_eq_true n, Bool.or_true]
theorem FillP.trn {i : Nat} {b : Bool} {rs : List Rec} (f : FillP i b rs) : Trn 23 rs := ⟨f.good, f.len, rs, [], (List.append_nil rs).symm, fun r h => (List.not_mem_nil h).elim, f.need⟩
section
variable {P : Program} {w : World} {K : PySem.W.Frag} {base : Heap} {mg : Str → Option Value}
end
end L2.Sg
set_option Elab.async false
set_option linter.all false
set_option maxRecDepth 100000
set_option maxHeartbeats 4000000
namespace L2.Sg
open PySem PySem.Spec PyProof.Rows
open C8 (Cal Met Mak pe_c pe_mt pe_mt0 pe_mk tCut pss_cut)
local macro_rules | `(tactic| walk_at "len") => `(tactic| (intro vs H Q E h; first | (obtain ⟨e, _⟩ := h; subst e; rfl) | (obtain ⟨_, e, _⟩ := h; subst e; rfl) | (obtain ⟨_, _, e, _⟩ := h; subst e; rfl) | (obtain ⟨_, _, _, e, _⟩ := h; subst e; rfl) | (obtain ⟨_, _, _, _, e, _⟩ := h; subst e; rfl) | (obtain ⟨_, _, _, _, _, e, _⟩ := h; subst e; rfl) | (obtain ⟨_, _, _, _, _, _, e, _⟩ := h; subst e; rfl) | (obtain ⟨_, _, _, _, _, _, _, e, _⟩ := h; subst e; rfl) | (obtain ⟨_, _, _, _, _, _, _, _, e, _⟩ := h; subst e; rfl) | (obtain ⟨_, _, _, _, _, _, _, _, _, e, _⟩ := h; subst e; rfl) | (obtain ⟨_, _, _, _, _, _, _, _, _, _, e, _⟩ := h; subst e; rfl) | (obtain ⟨_, _, _, _, _, _, _, _, _, _, _, e, _⟩ := h; subst e; rfl) | (obtain ⟨_, _, _, _, _, _, _, _, _, _, _, _, e, _⟩ := h; subst e; rfl) | (obtain ⟨_, _, _, _, _, _, _, _, _, _, _, _, _, e, _⟩ := h; subst e; rfl) | (obtain ⟨_, _, _, _, _, _, _, _, _, _, _, _, _, _, e, _⟩ := h; subst e; rfl) | (obtain ⟨_, _, _, _, _, _, _, _, _, _, _, _, _, _, _, e, _⟩ := h; subst e; rfl)))
local macro_rules | `(tactic| walk_at "ns") => `(tactic| (try dsimp only [Op.kind, Tp.word, Rec.top]); decide +kernel)
structure OwnB (B : Hp) (z : Adr) (wl : Addr) : Prop where
  st : B z.st = none
  lg : B z.lg = none
  fb : ∀ b ∈ z.fb, B b = none
  lb : ∀ b ∈ z.lb, B b = none
  wl : B wl = none
theorem own_step {B H H' : Hp} {z : Adr} {wl wl' : Addr} (s : Same B H) (o : OwnB B z wl) (f : Fr z wl H H') (w : wl' = wl ∨ H wl' = none) : Same B H' ∧ OwnB B z wl' := by
  refine ⟨fun b u e => f b u (s _ _ e) (fun q => ?_) (fun q => ?_) (fun q => ?_) (fun q => ?_) (fun q => ?_), o.st, o.lg, o.fb, o.lb, ?_⟩
  · rw [q, o.st] at e; cases e
  · rw [q, o.lg] at e; cases e
  · rw [o.fb _ q] at e; cases e
  · rw [o.lb _ q] at e; cases e
  · rw [q, o.wl] at e; cases e
  · rcases w with rfl | q
    · exact o.wl
    · cases g : B wl' with
      | none => rfl
      | some u => rw [s _ _ g] at q; cases q
/-- something new is kept too -/
theorem own_upd {K : PySem.W.Frag} {B H H' : Hp} {z : Adr} {wl l : Addr} {u : HO} {as ws : List Addr} {rs : List Rec} (o : OwnB B z wl) (S : StoA K H z wl as ws rs) (hl : H l = none) : OwnB (upd B l u) z wl := by
  obtain ⟨dx, sd, hst, _⟩ := S.ins
  obtain ⟨dx2, hlg⟩ := S.lg.ins
  obtain ⟨l1, l2⟩ := LgZ.lst S.lg
  have ne : ∀ {b v}, H b = some v → b ≠ l := fun e => ne_of_none e hl
  refine ⟨by rw [upd_ne (ne hst)]; exact o.st, by rw [upd_ne (ne hlg)]; exact o.lg, fun b hb => ?_, fun b hb => ?_, by rw [upd_ne (ne S.wt)]; exact o.wl⟩
  · obtain ⟨xs, hx⟩ := l1 b hb
    rw [upd_ne (ne hx)]; exact o.fb b hb
  · obtain ⟨xs, hx⟩ := l2 b hb
    rw [upd_ne (ne hx)]; exact o.lb b hb
theorem digit {ds bs : List Int} (pr : Paired (fun d x => 0 ≤ d ∧ d < x) ds bs) {i : Nat} {x : Int} (h : bs[i]? = some x) : ∃ d, ds[i]? = some d ∧ 0 ≤ d ∧ d < x := by
  have hl := Paired.length pr
  have il : i < ds.length := by rw [hl]; exact (List.getElem?_eq_some_iff.mp h).1
  exact ⟨ds[i], List.getElem?_eq_getElem il, paired_two pr (List.getElem?_eq_getElem il) h⟩
theorem ds_at {ds : List Int} {i : Nat} {d : Int} (h : ds[i]? = some d) : (ds.map V.int)[i]? = some (.int d) := by rw [List.getElem?_map, h] <;> rfl
section
variable {P : Program} {w : World} {K : PySem.W.Frag} {base : Heap} {mg : Str → Option Value}
/-- a store and a world that tell the same -/
structure Run (K : PySem.W.Frag) (H B : Hp) (z : Adr) (wl wd : Addr) (as ws : List Addr) (rs : List Rec) : Prop where
  st : StoA K H z wl as ws rs
  wd : StaA K H wd (foldS rs)
  w8 : ws.length ≤ 8
  same : Same B H
  own : OwnB B z wl
theorem Run.keep {K : PySem.W.Frag} {H H' B : Hp} {z : Adr} {wl wd : Addr} {as ws : List Addr} {rs : List Rec} (R : Run K H B z wl wd as ws rs) (s : Same H H') : Run K H' B z wl wd as ws rs := ⟨R.st.keep s, R.wd.keep (same_imm s), R.w8, R.same.trans s, R.own⟩
theorem Run.toB {K : PySem.W.Frag} {H B B' : Hp} {z : Adr} {wl wd : Addr} {as ws : List Addr} {rs : List Rec} (R : Run K H B' z wl wd as ws rs) (s : Same B B') : Run K H B z wl wd as ws rs := by
  have nn : ∀ {b}, B' b = none → B b = none := fun {b} e => by
    cases g : B b with
    | none => rfl
    | some o => rw [s _ _ g] at e; cases e
  exact ⟨R.st, R.wd, R.w8, s.trans R.same, nn R.own.st, nn R.own.lg, fun b hb => nn (R.own.fb b hb), fun b hb => nn (R.own.lb b hb), nn R.own.wl⟩
theorem Run.next {K : PySem.W.Frag} {H H' B : Hp} {z : Adr} {wl wl' wd p : Addr} {as ws as' ws' : List Addr} {rs rs' : List Rec} (R : Run K H B z wl wd as ws rs) (S : StoA K H' z wl' as' ws' rs') (W : StaA K H' p (foldS rs')) (f : Fr z wl H H') (w : wl' = wl ∨ H wl' = none) (h8 : ws'.length ≤ 8) : Run K H' B z wl' p as' ws' rs' :=
  let ⟨a, b⟩ := own_step R.same R.own f w
  ⟨S, W, h8, a, b⟩
def sp_law_filled (K : PySem.W.Frag) : Sp := fun vs H Q _ => ∃ (z : Adr) (wl wd sc : Addr) (as ws : List Addr) (rs : List Rec) (B : Hp) (ns : List Int), vs = [.ref z.st, .ref wd, .ref sc] ∧ Run K H B z wl wd as ws rs ∧ FillP 0 false rs ∧ SqL K H sc (ns.map V.int) ∧
  ∀ (t : Addr) (H' : Hp) (wl wd : Addr) (as ws : List Addr) (rs : List Rec) (i : Nat) (b : Bool), Run K H' B z wl wd as ws rs → FillP i b rs → 10 ≤ i → H' t = some (.tup [.ref wd, .int i]) → Q (.ref t) H'
theorem sc_law_filled : FnScope ["_law_store", "_law_world", "_law_script", "_law_digits_here", "_law_count", "_law_place", "_law_after_here"] ["_law_store", "_law_world", "_law_script"] (defScope s_law_filled) := C8.fnScope_by (by decide +kernel)
theorem c_law_filled (T : Tx w K mg) : Cal P w K mg base 11 "_law_filled" (sp_law_filled K) [] := by
  refine K_law_filled T sc_law_filled (fun _ _ _ _ _ _ us hl => match us, hl with | [_, _, _], _ => rfl) (by walk_at "len") (fun cdv A outer s H vs Q E hr h => ?_)
  have nd := sc_law_filled.nd
  have hu := hu_of hr
  refine ⟨_, (pss_cons (ps_set (i := 3) nd rfl (Or.inl rfl) (C8.pe_c (c_law_digits T) hr (by decide) (by rfl) (pa_cons (C8.pe_c (c_law_cell T) hr (by decide) (by rfl) (pa_cons (pv 2) (pa_cons pe_int pa_nil))) (pa_cons (pe_lst (pa_cons pe_int (pa_cons pe_int (pa_cons pe_int pa_nil)))) pa_nil))))
      (pss_cons (ps_set (i := 4) nd rfl (Or.inl rfl) pe_int)
      (pss_cons (ps_for PassesOwn.never rfl (pi_range1 rfl (b_range T) (pa_cons pe_int pa_nil)) (pg_name (i := 5) nd rfl (Or.inl rfl)) (pss_cons (ps_if (pt_cmpR op_eq (pv 5) (pe_ix ix_list (pv 3) pe_int (fun _ _ => rfl)) (nomark _)) (pss_cons (ps_set (i := 6) nd rfl (Or.inl rfl) (C8.pe_c (c_law_added T) hr (by decide) (by rfl) (pa_cons (pv 0) (pa_cons (pv 1) (pa_cons pe_str (pa_cons (pe_ix ix_list (pv 3) pe_int (fun _ _ => rfl)) (pa_cons (pe_tup (pa_cons pe_int pa_nil)) pa_nil)))))))
      (pss_one (ps_if (pt_cmp (pc_notN (pv 6))) (pss_one (ps_set (i := 1) nd rfl (Or.inl rfl) (pv 6))) pss_nil))) pss_nil)
      (pss_cons (ps_set (i := 6) nd rfl (Or.inl rfl) (C8.pe_c (c_law_added T) hr (by decide) (by rfl) (pa_cons (pv 0) (pa_cons (pv 1) (pa_cons pe_str (pa_cons (pe_op op_mod (pe_op op_add (pv 5) (pe_ix ix_list (pv 3) pe_int (fun _ _ => rfl))) pe_int) (pa_cons (pe_tup (pa_cons pe_int (pa_cons (pv 5) (pa_cons (pe_op op_mul (pv 5) (pe_ix ix_list (pv 3) pe_int (fun _ _ => rfl))) pa_nil)))) pa_nil)))))))
      (pss_cons (ps_if (pt_cmp (pc_isN (pv 6))) (pss_one (ps_ret (pe_tup (pa_cons (pv 1) (pa_cons (pv 4) pa_nil))))) pss_nil)
      (pss_cons (ps_set (i := 1) nd rfl (Or.inl rfl) (pv 6))
      (pss_one (ps_set (i := 4) nd rfl (Or.inl rfl) (pe_op op_add (pv 4) pe_int))))))))
      (pss_one (ps_ret (pe_tup (pa_cons (pv 1) (pa_cons (pv 4) pa_nil)))))))), ?_⟩
  obtain ⟨z, wl, wd, sc, as, ws, rs, B, ns, rfl, R, F, hsc, k⟩ := h
  have sz3 : 3 ≤ sizeLine := by decide
  have sz2 : 2 ≤ sizeLine := by decide
  have sz1 : 1 ≤ sizeLine := by decide
  refine ⟨_, rfl, sc, ns, 0, rfl, hsc, fun c => ⟨sz3, fun bl hbl => ?_⟩⟩
  have s1 := same_upd hbl (o := .lst [.int 30, .int 4, .int 7])
  refine ⟨c, bl, [30, 4, 7], rfl, upd_same, by decide, by decide, fun ds pr dl H2 s2 f2 hdl => ?_⟩
  obtain ⟨d0, e0, a0, b0⟩ := digit pr (i := 0) rfl
  obtain ⟨d1, e1, a1, b1⟩ := digit pr (i := 1) rfl
  obtain ⟨d2, e2, a2, b2⟩ := digit pr (i := 2) rfl
  have R2 := R.keep (s1.trans s2)
  have hdlB : (upd B dl (.lst (ds.map V.int))) dl = some (.lst (ds.map V.int)) := upd_same
  have RS1 := R.keep s1
  have sB2 : Same (upd B dl (.lst (ds.map V.int))) H2 := fun b o e => by
    by_cases z : b = dl
    · subst z; rw [upd_same] at e; rw [hdl]; exact e
    · rw [upd_ne z] at e; exact R2.same _ _ e
  have sBB : Same B (upd B dl (.lst (ds.map V.int))) := fun b o e => by
    by_cases z : b = dl
    · subst z; rw [RS1.same _ _ e] at f2; cases f2
    · rw [upd_ne z]; exact e
  have R3 : Run K H2 (upd B dl (.lst (ds.map V.int))) z wl wd as ws rs := ⟨R2.st, R2.wd, R2.w8, sB2, own_upd (K := K) (H' := H2) R.own RS1.st f2⟩
  have p4 : (0 : Int) < 4 := by decide
  revert hdlB sB2 sBB R3
  generalize (upd B dl (.lst (ds.map V.int))) = B'
  intro hdlB sB2 sBB R3
  refine ⟨40, rfl, by decide, by decide, ?_⟩
  refine for_range (lo := 0) (n := 40) (fun i σ H' => ∃ wd wl as ws rs b v5 v6, σ = [some (.ref z.st), some (.ref wd), some (.ref sc), some (.ref dl), some (.int (i : Nat)), v5, v6] ∧ Run K H' B' z wl wd as ws rs ∧ FillP i b rs ∧ (b = true → d0 < i)) ?_ ?_ ?_
  · exact ⟨wd, wl, as, ws, rs, false, none, none, rfl, R3, F, fun q => by cases q⟩
  · clear R2 R3 RS1 R F
    rintro i σ H' hi ⟨wd, wl, as, ws, rs, b, v5, v6, rfl, R, F, hb⟩
    have hdl0 := R.same _ _ hdlB
    have cm : CMul (0 + (i : Nat)) d2 := .inl ⟨by omega, by omega⟩
    refine ⟨_, rfl, _, rfl, dl, _, 0, _, rfl, rfl, SqL.of hdl0, at_of (j := 0) rfl (ds_at e0), rfl, _, rfl, ?_⟩
    by_cases c : (0 : Int) + (i : Nat) = d0
    · have bf : b = false := by
        cases b with
        | false => rfl
        | true => have := hb rfl; omega
      subst bf
      refine eqI_T c ⟨_, rfl, _, rfl, _, rfl, dl, _, 1, _, rfl, rfl, SqL.of hdl0, at_of (j := 1) rfl (ds_at e1), sz1, fun fa0 hfa0 => ?_⟩
      have RA := R.keep (same_upd hfa0 (o := .tup [.int 5]))
      refine ⟨z, wl, wd, fa0, as, ws, rs, .snap, d1, rfl, RA.st, RA.wd, F.good.next a1 b1 trivial, by have := F.len; omega, RA.w8, upd_same, fun ef0 H4 s4 => ?_, fun ef0 p0 H4 wl4 as4 ws4 S4 W4 FR4 wn4 hw4 => ?_⟩
      · refine ⟨_, rfl, _, rfl, iteF ?_⟩
        have R := RA.keep s4
        obtain ⟨b, eb⟩ : ∃ b, b = false := ⟨_, rfl⟩
        rw [← eb] at F hb
        have hb : b = true → d0 < (i : Nat) + 1 := fun q => by have := hb q; omega
        have hdl' := R.same _ _ hdlB
        refine ⟨_, rfl, _, rfl, _, rfl, _, rfl, dl, _, 1, _, rfl, rfl, SqL.of hdl', at_of (j := 1) rfl (ds_at e1), _, _, rfl, rfl, _, _, rfl, rfl, p4, _, rfl, _, rfl, _, rfl, dl, _, 2, _, rfl, rfl, SqL.of hdl', at_of (j := 2) rfl (ds_at e2), _, _, rfl, rfl, cm, sz3, fun fa hfa => ?_⟩
        have RR := R.keep (same_upd hfa (o := .tup [.int 5, .int (0 + (i : Nat)), .int ((0 + (i : Nat)) * d2)]))
        have m0 := Int.emod_nonneg (0 + (i : Nat) + d1) (show (4 : Int) ≠ 0 by decide)
        have m4 := Int.emod_lt_of_pos (0 + (i : Nat) + d1) p4
        refine ⟨z, wl, wd, fa, as, ws, rs, .write i (i * d2), _, rfl, RR.st, RR.wd, F.good.next m0 m4 ⟨by omega, by omega⟩, by have := F.len; omega, RR.w8, upd_same.trans (by rw [Int.zero_add] <;> rfl), fun ef H5 s5 => ?_, fun ef p H5 wl' as' ws' S' W' FR wn hw => ?_⟩
        · have hi10 : 10 ≤ i := Nat.le_of_not_lt fun q => by rw [F.fits q m0 m4] at ef; cases ef
          refine ⟨_, rfl, _, rfl, iteT ⟨_, rfl, _, rfl, sz2, fun t ht => ?_⟩⟩
          exact k t _ wl wd as ws rs i b (((RR.keep s5).keep (same_upd ht)).toB sBB) F hi10 upd_same
        · refine ⟨_, rfl, _, rfl, iteF ⟨_, rfl, _, rfl, _, _, rfl, rfl, ?_⟩⟩
          exact ⟨p, wl', as', ws', _, b, _, _, rfl, RR.next S' W' FR wn hw, .write F m0 m4 hi ef, fun q => by have := hb q; omega⟩
      · refine ⟨_, rfl, _, rfl, iteT ⟨_, rfl, ?_⟩⟩
        have R := RA.next S4 W4 FR4 wn4 hw4
        have F := FillP.snap F a1 b1 ef0
        obtain ⟨b, eb⟩ : ∃ b, b = true := ⟨_, rfl⟩
        rw [← eb] at F
        have hb : b = true → d0 < (i : Nat) + 1 := fun q => by omega
        generalize rs ++ [nextR rs d1 .snap] = rs at R F
        have hdl' := R.same _ _ hdlB
        refine ⟨_, rfl, _, rfl, _, rfl, _, rfl, dl, _, 1, _, rfl, rfl, SqL.of hdl', at_of (j := 1) rfl (ds_at e1), _, _, rfl, rfl, _, _, rfl, rfl, p4, _, rfl, _, rfl, _, rfl, dl, _, 2, _, rfl, rfl, SqL.of hdl', at_of (j := 2) rfl (ds_at e2), _, _, rfl, rfl, cm, sz3, fun fa hfa => ?_⟩
        have RR := R.keep (same_upd hfa (o := .tup [.int 5, .int (0 + (i : Nat)), .int ((0 + (i : Nat)) * d2)]))
        have m0 := Int.emod_nonneg (0 + (i : Nat) + d1) (show (4 : Int) ≠ 0 by decide)
        have m4 := Int.emod_lt_of_pos (0 + (i : Nat) + d1) p4
        refine ⟨z, wl4, p0, fa, as4, ws4, rs, .write i (i * d2), _, rfl, RR.st, RR.wd, F.good.next m0 m4 ⟨by omega, by omega⟩, by have := F.len; omega, RR.w8, upd_same.trans (by rw [Int.zero_add] <;> rfl), fun ef H5 s5 => ?_, fun ef p H5 wl' as' ws' S' W' FR wn hw => ?_⟩
        · have hi10 : 10 ≤ i := Nat.le_of_not_lt fun q => by rw [F.fits q m0 m4] at ef; cases ef
          refine ⟨_, rfl, _, rfl, iteT ⟨_, rfl, _, rfl, sz2, fun t ht => ?_⟩⟩
          exact k t _ wl4 p0 as4 ws4 rs i b (((RR.keep s5).keep (same_upd ht)).toB sBB) F hi10 upd_same
        · refine ⟨_, rfl, _, rfl, iteF ⟨_, rfl, _, rfl, _, _, rfl, rfl, ?_⟩⟩
          exact ⟨p, wl', as', ws', _, b, _, _, rfl, RR.next S' W' FR wn hw, .write F m0 m4 hi ef, fun q => by have := hb q; omega⟩
    · refine eqI_F c ?_
      have hb : b = true → d0 < (i : Nat) + 1 := fun q => by have := hb q; omega
      have hdl' := R.same _ _ hdlB
      refine ⟨_, rfl, _, rfl, _, rfl, _, rfl, dl, _, 1, _, rfl, rfl, SqL.of hdl', at_of (j := 1) rfl (ds_at e1), _, _, rfl, rfl, _, _, rfl, rfl, p4, _, rfl, _, rfl, _, rfl, dl, _, 2, _, rfl, rfl, SqL.of hdl', at_of (j := 2) rfl (ds_at e2), _, _, rfl, rfl, cm, sz3, fun fa hfa => ?_⟩
      have RR := R.keep (same_upd hfa (o := .tup [.int 5, .int (0 + (i : Nat)), .int ((0 + (i : Nat)) * d2)]))
      have m0 := Int.emod_nonneg (0 + (i : Nat) + d1) (show (4 : Int) ≠ 0 by decide)
      have m4 := Int.emod_lt_of_pos (0 + (i : Nat) + d1) p4
      refine ⟨z, wl, wd, fa, as, ws, rs, .write i (i * d2), _, rfl, RR.st, RR.wd, F.good.next m0 m4 ⟨by omega, by omega⟩, by have := F.len; omega, RR.w8, upd_same.trans (by rw [Int.zero_add] <;> rfl), fun ef H5 s5 => ?_, fun ef p H5 wl' as' ws' S' W' FR wn hw => ?_⟩
      · have hi10 : 10 ≤ i := Nat.le_of_not_lt fun q => by rw [F.fits q m0 m4] at ef; cases ef
        refine ⟨_, rfl, _, rfl, iteT ⟨_, rfl, _, rfl, sz2, fun t ht => ?_⟩⟩
        exact k t _ wl wd as ws rs i b (((RR.keep s5).keep (same_upd ht)).toB sBB) F hi10 upd_same
      · refine ⟨_, rfl, _, rfl, iteF ⟨_, rfl, _, rfl, _, _, rfl, rfl, ?_⟩⟩
        exact ⟨p, wl', as', ws', _, b, _, _, rfl, RR.next S' W' FR wn hw, .write F m0 m4 hi ef, fun q => by have := hb q; omega⟩
  rintro σ H' ⟨wd, wl, as, ws, rs, b, v5, v6, rfl, R, F, hb⟩
  refine ⟨_, rfl, _, rfl, sz2, fun t ht => ?_⟩
  exact k t _ wl wd as ws rs 40 b ((R.keep (same_upd ht)).toB sBB) F (by decide) upd_same
end
end L2.Sg
set_option Elab.async false
set_option linter.all false
set_option maxRecDepth 100000
set_option maxHeartbeats 4000000
namespace L2.Sg
open PySem PySem.Spec PyProof.Rows
open C8 (Cal Met Mak pe_c pe_mt pe_mt0 pe_mk tCut pss_cut)
local macro_rules | `(tactic| walk_at "len") => `(tactic| (intro vs H Q E h; first | (obtain ⟨e, _⟩ := h; subst e; rfl) | (obtain ⟨_, e, _⟩ := h; subst e; rfl) | (obtain ⟨_, _, e, _⟩ := h; subst e; rfl) | (obtain ⟨_, _, _, e, _⟩ := h; subst e; rfl) | (obtain ⟨_, _, _, _, e, _⟩ := h; subst e; rfl) | (obtain ⟨_, _, _, _, _, e, _⟩ := h; subst e; rfl) | (obtain ⟨_, _, _, _, _, _, e, _⟩ := h; subst e; rfl) | (obtain ⟨_, _, _, _, _, _, _, e, _⟩ := h; subst e; rfl) | (obtain ⟨_, _, _, _, _, _, _, _, e, _⟩ := h; subst e; rfl) | (obtain ⟨_, _, _, _, _, _, _, _, _, e, _⟩ := h; subst e; rfl) | (obtain ⟨_, _, _, _, _, _, _, _, _, _, e, _⟩ := h; subst e; rfl) | (obtain ⟨_, _, _, _, _, _, _, _, _, _, _, e, _⟩ := h; subst e; rfl) | (obtain ⟨_, _, _, _, _, _, _, _, _, _, _, _, e, _⟩ := h; subst e; rfl) | (obtain ⟨_, _, _, _, _, _, _, _, _, _, _, _, _, e, _⟩ := h; subst e; rfl) | (obtain ⟨_, _, _, _, _, _, _, _, _, _, _, _, _, _, e, _⟩ := h; subst e; rfl) | (obtain ⟨_, _, _, _, _, _, _, _, _, _, _, _, _, _, _, e, _⟩ := h; subst e; rfl)))
local macro_rules | `(tactic| walk_at "ns") => `(tactic| (try dsimp only [Op.kind, Tp.word, Rec.top]); decide +kernel)
theorem lay_all : ∀ ds : List PyData, (∀ d ∈ ds, ∃ a b, d = kDs [.inl a, .inl b]) → PyData.canLayAll0 ds = true ∧ PyData.depthAll ds ≤ 1
  | [], _ => ⟨by kernel_rfl, Nat.zero_le _⟩
  | d :: ds, h => by
    obtain ⟨a, b, rfl⟩ := h d List.mem_cons_self
    obtain ⟨i1, i2⟩ := lay_all ds fun x hx => h x (List.mem_cons_of_mem _ hx)
    have e1 : PyData.canLayAll0 (kDs [.inl a, .inl b] :: ds) = (PyData.canLay0 (kDs [.inl a, .inl b]) && PyData.canLayAll0 ds) := by kernel_rfl
    have e2 : PyData.depthAll (kDs [.inl a, .inl b] :: ds) = max (PyData.depth (kDs [.inl a, .inl b])) (PyData.depthAll ds) := by kernel_rfl
    have e3 : PyData.canLay0 (kDs [.inl a, .inl b]) = true := by kernel_rfl
    have e4 : PyData.depth (kDs [.inl a, .inl b]) = 1 := by kernel_rfl
    rw [e1, e2, e3, e4, i1]
    exact ⟨rfl, by omega⟩
theorem lay_list {ds : List PyData} (h : ∀ d ∈ ds, ∃ a b, d = kDs [.inl a, .inl b]) : SeqAt.shaped (.list ds) = true := by
  obtain ⟨a, b⟩ := lay_all ds h
  have e1 : PyData.canLay0 (.list ds) = PyData.canLayAll0 ds := by kernel_rfl
  have e2 : PyData.depth (.list ds) = PyData.depthAll ds + 1 := by kernel_rfl
  unfold SeqAt.shaped
  rw [e1, a, e2, Bool.true_and]
  exact decide_eq_true (by omega)
theorem dp_list {K : PySem.W.Frag} {H : Hp} : ∀ ys : List V, (∀ y ∈ ys, ∃ q a b, y = .ref q ∧ H q = some (.tup [.int a, .int b])) → ∃ ds, DpAll K H ys ds ∧ (∀ d ∈ ds, ∃ a b, d = kDs [.inl a, .inl b]) ∧ ds.length = ys.length
  | [], _ => ⟨[], .nil, fun d h => (List.not_mem_nil h).elim, rfl⟩
  | y :: ys, h => by
    obtain ⟨q, a, b, rfl, e⟩ := h y List.mem_cons_self
    obtain ⟨ds, d1, d2, d3⟩ := dp_list ys fun x hx => h x (List.mem_cons_of_mem _ hx)
    refine ⟨kDs [.inl a, .inl b] :: ds, .cons (kDs_dp e) d1, fun d hd => ?_, by rw [List.length_cons, List.length_cons, d3]⟩
    rcases List.mem_cons.mp hd with rfl | hd
    · exact ⟨a, b, rfl⟩
    · exact d2 d hd
theorem cell_get {cs : List (Int × Int)} {p : Int} {v : V} (h : valV (cellKV cs) (.inl p) = some v) : ∃ u, (p, u) ∈ cs := by
  unfold valV at h
  obtain ⟨kv, hkv, _⟩ := Option.map_eq_some_iff.mp h
  have h1 := List.find?_some hkv
  obtain ⟨x, hx, rfl⟩ := List.mem_map.mp (List.mem_of_find?_eq_some hkv)
  have e : x.1 = p := by simpa using h1
  exact ⟨x.2, by rw [← e]; exact hx⟩
theorem eqv_nil (ds : List PyData) : PyData.eqv (.list ds) (.list []) = ds.isEmpty := by
  cases ds with
  | nil => kernel_rfl
  | cons d t => kernel_rfl
section
variable {P : Program} {w : World} {K : PySem.W.Frag} {base : Heap} {mg : Str → Option Value}
def sp_law_turn (K : PySem.W.Frag) : Sp := fun vs H Q _ => ∃ (z : Adr) (wl wd : Addr) (as ws : List Addr) (rs : List Rec) (B : Hp) (c : Int), vs = [.ref z.st, .ref wd, .int c] ∧ Run K H B z wl wd as ws rs ∧ Good rs ∧ rs.length < 56 ∧ (∀ H', Same H H' → Q .non H') ∧
  ∀ (o : Op) (h : Int) (p : Addr) (H' : Hp) (wl' : Addr) (as' ws' : List Addr), 0 ≤ h → h < 4 → OpOk rs o → fitsN rs (nextR rs h o) = true → Run K H' B z wl' p as' ws' (rs ++ [nextR rs h o]) → Q (.ref p) H'
theorem sc_law_turn : FnScope ["_law_store", "_law_world", "_law_cell_here", "_law_digits_here", "_law_place", "_law_snaps"] ["_law_store", "_law_world", "_law_cell_here"] (defScope s_law_turn) := C8.fnScope_by (by decide +kernel)
theorem c_law_turn (T : Tx w K mg) : Cal P w K mg base 11 "_law_turn" (sp_law_turn K) [] := by
  refine K_law_turn T sc_law_turn (fun _ _ _ _ _ _ us hl => match us, hl with | [_, _, _], _ => rfl) (by walk_at "len") (fun cdv A outer s H vs Q E hr h => ?_)
  have nd := sc_law_turn.nd
  have hu := hu_of hr
  refine ⟨_, (pss_cons (ps_set (i := 3) nd rfl (Or.inl rfl) (C8.pe_c (c_law_digits T) hr (by decide) (by rfl) (pa_cons (pv 2) (pa_cons (pe_lst (pa_cons pe_int (pa_cons pe_int (pa_cons pe_int (pa_cons pe_int pa_nil))))) pa_nil))))
      (pss_cons (ps_set (i := 4) nd rfl (Or.inl rfl) (pe_ix ix_list (pv 3) pe_int (fun _ _ => rfl)))
      (pss_cons (ps_set (i := 5) nd rfl (Or.inl rfl) (pe_callB (call_sortedDT (d := 2) (B := 64) rfl (by decide)) (by rfl) (b_sorted T) (by decide +kernel) (pa_cons (pe_dget hu (pv 1) pe_str (fun _ _ => rfl)) pa_nil)))
      (pss_cons (ps_if (pt_cmpR op_lt (pe_ix ix_list (pv 3) pe_int (fun _ _ => rfl)) pe_int (nomark _)) (pss_one (ps_ret (C8.pe_c (c_law_added T) hr (by decide) (by rfl) (pa_cons (pv 0) (pa_cons (pv 1) (pa_cons pe_str (pa_cons (pe_ix ix_list (pv 3) pe_int (fun _ _ => rfl)) (pa_cons (pe_tup (pa_cons pe_int (pa_cons (pv 4) (pa_cons (pe_ix ix_list (pv 3) pe_int (fun _ _ => rfl)) pa_nil)))) pa_nil)))))))) pss_nil)
      (pss_cons (ps_if (PW.pt (pw_and (pt_cmpR op_eq (pe_ix ix_list (pv 3) pe_int (fun _ _ => rfl)) pe_int (nomark _)) (pw_and (pt_cmpR (op_neD hr.units) (pv 5) (pe_lst pa_nil) (nomark _)) (pw_and1 (pt_cmpR op_lt (pe_ix ix_list (pv 3) pe_int (fun _ _ => rfl)) pe_int (nomark _)))))) (pss_one (ps_ret (C8.pe_c (c_law_added T) hr (by decide) (by rfl) (pa_cons (pv 0) (pa_cons (pv 1) (pa_cons pe_str (pa_cons (pe_ix ix_list (pv 3) pe_int (fun _ _ => rfl)) (pa_cons (pe_ix ix_list (pv 5) pe_int (fun _ _ => rfl)) pa_nil)))))))) pss_nil)
      (pss_cons (ps_if (PW.pt (pw_and (pt_cmpR op_eq (pe_ix ix_list (pv 3) pe_int (fun _ _ => rfl)) pe_int (nomark _)) (pw_and1 (pt_cmpR op_lt (pe_ix ix_list (pv 3) pe_int (fun _ _ => rfl)) pe_int (nomark _))))) (pss_one (ps_ret (C8.pe_c (c_law_added T) hr (by decide) (by rfl) (pa_cons (pv 0) (pa_cons (pv 1) (pa_cons pe_str (pa_cons (pe_ix ix_list (pv 3) pe_int (fun _ _ => rfl)) (pa_cons (pe_tup (pa_cons pe_int pa_nil)) pa_nil)))))))) pss_nil)
      (pss_cons (ps_if (pt_cmp (pc_din hu (pv 4) (pe_ix ix_tup (pe_dget hu (pe_dget hu (pv 1) pe_str (fun _ _ => rfl)) pe_int (fun _ _ => rfl)) pe_int (fun _ _ => rfl)))) (pss_one (ps_ret (C8.pe_c (c_law_added T) hr (by decide) (by rfl) (pa_cons (pv 0) (pa_cons (pv 1) (pa_cons pe_str (pa_cons (pe_ix ix_list (pv 3) pe_int (fun _ _ => rfl)) (pa_cons (pe_tup (pa_cons pe_int (pa_cons (pv 4) pa_nil))) pa_nil)))))))) pss_nil)
      (pss_one (ps_ret pe_non))))))))), ?_⟩
  obtain ⟨z, wl, wd, as, ws, rs, B, c, rfl, R, g, h56, kn, ky⟩ := h
  have sz4 : 4 ≤ sizeLine := by decide
  have sz3 : 3 ≤ sizeLine := by decide
  have sz2 : 2 ≤ sizeLine := by decide
  have sz1 : 1 ≤ sizeLine := by decide
  have sz0 : 0 ≤ sizeLine := by decide
  refine ⟨_, rfl, sz4, fun bl hbl => ?_⟩
  have s1 := same_upd hbl (o := .lst [.int 5, .int 40, .int 4, .int 9])
  refine ⟨c, bl, [5, 40, 4, 9], rfl, upd_same, by decide, by decide, fun ds pr dl H2 s2 f2 hdl => ?_⟩
  obtain ⟨d0, e0, a0, b0⟩ := digit pr (i := 0) rfl
  obtain ⟨d1, e1, a1, b1⟩ := digit pr (i := 1) rfl
  obtain ⟨d2, e2, a2, b2⟩ := digit pr (i := 2) rfl
  obtain ⟨d3, e3, a3, b3⟩ := digit pr (i := 3) rfl
  have s12 := s1.trans s2
  have R2 := R.keep s12
  have ix : ∀ {G : Hp} {i : Nat} {d : Int}, Same H2 G → ds[i]? = some d → SqL K G dl (ds.map V.int) ∧ atI (ds.map V.int) (i : Nat) = some (.int d) := fun s e => ⟨SqL.of (s _ _ hdl), at_of rfl (ds_at e)⟩
  refine ⟨_, rfl, dl, _, 1, _, rfl, rfl, SqL.of hdl, at_of (j := 1) rfl (ds_at e1), ?_⟩
  obtain ⟨kvs, dS, dn, dm, q1, q2, q3, q4, q5, q6, q7, ⟨nkv, en, pn⟩, q9⟩ := R2.wd
  refine ⟨_, rfl, wd, _, rfl, get_st q1 q5, dn, nkv, rfl, .inl en, ?_⟩
  have nky : ∀ p ∈ nkv, ∃ n, p.1 = [Sum.inl 5, Sum.inl n] ∧ 0 ≤ n ∧ n ≤ rs.length ∧ ∃ cs, (n, cs) ∈ (foldS rs).snaps := fun p hp => by
    obtain ⟨i, hi⟩ := List.mem_iff_getElem?.mp hp
    obtain ⟨s, hs, e, _⟩ := L2.paired_get pn hi
    have hm := List.mem_of_getElem? hs
    obtain ⟨x1, x2⟩ := g.snapB hm
    exact ⟨s.1, e, x1, x2, s.2, hm⟩
  have nln : nkv.length < 64 := by
    rw [Paired.length pn]
    have := (foldS_ok rs).sn.2.1
    omega
  refine ⟨fun p hp => ?_, nln, fun ys sl yl yh hsl => ?_⟩
  · obtain ⟨n, e, x1, x2, _⟩ := nky p hp
    refine ⟨[5, n], e, rfl, fun m hm => ?_⟩
    rcases List.mem_cons.mp hm with rfl | hm
    · exact ⟨by decide, by decide⟩
    · obtain rfl := List.mem_singleton.mp hm
      exact ⟨x1, by omega⟩
  have s3 := same_upd hsl (o := .lst ys)
  have ysl := upd_same (H := H2) (a := sl) (o := .lst ys)
  have yh3 : ∀ y ∈ ys, ∃ q n, y = .ref q ∧ (upd H2 sl (.lst ys)) q = some (.tup [.int 5, .int n]) ∧ ∃ cs, (n, cs) ∈ (foldS rs).snaps := fun y hy => by
    obtain ⟨q, k, v, e, hk, hq⟩ := yh y hy
    obtain ⟨n, ek, _, _, cs⟩ := nky _ hk
    obtain rfl : k = _ := ek
    exact ⟨q, n, e, s3 _ _ hq, cs⟩
  have R3 := R2.keep s3
  have sAll := s12.trans s3
  revert s3 ysl yh3 R3 sAll
  generalize (upd H2 sl (.lst ys)) = H3
  intro s3 ysl yh3 R3 sAll
  have D : ∀ {i : Nat} {d : Int}, ds[i]? = some d → SqL K H3 dl (ds.map V.int) ∧ atI (ds.map V.int) (i : Nat) = some (.int d) := fun e => ⟨SqL.of (s3 _ _ hdl), at_of rfl (ds_at e)⟩
  refine ⟨_, rfl, dl, _, 0, _, rfl, rfl, (D e0).1, (D e0).2, _, _, rfl, rfl, _, rfl, ?_⟩
  by_cases c1 : d0 < 2
  · refine ite_of c1 ⟨_, rfl, _, rfl, _, rfl, dl, _, 2, _, rfl, rfl, (D e2).1, (D e2).2, _, rfl, _, rfl, dl, _, 3, _, rfl, rfl, (D e3).1, (D e3).2, sz3, fun fa hfa => ?_⟩
    have sAll := same_upd' sAll hfa (o := .tup [.int 5, .int d1, .int d3])
    have RR := R3.keep (same_upd hfa (o := .tup [.int 5, .int d1, .int d3]))
    exact ⟨z, wl, wd, fa, as, ws, rs, .write d1 d3, d2, rfl, RR.st, RR.wd, g.next a2 b2 ⟨a1, by omega⟩, h56, RR.w8, upd_same, fun _ H' s => kn H' (sAll.trans s), fun ef p H' wl' as' ws' S W FR wn hw => ky (.write d1 d3) d2 p H' wl' as' ws' a2 b2 ⟨a1, by omega⟩ ef (RR.next S W FR wn hw)⟩
  refine ite_no c1 ⟨_, rfl, dl, _, 0, _, rfl, rfl, (D e0).1, (D e0).2, rfl, _, rfl, ?_⟩
  obtain ⟨cs, hcs⟩ := Option.ne_none_iff_exists'.mp g.cells
  rw [hcs] at q7
  obtain ⟨sq, hq0, cc, ff, hsq, hcq, hf0⟩ := q7
  have sW := s3
  by_cases c2 : d0 = 2
  · obtain ⟨dd, p1, p2, p3⟩ := dp_list (K := K) (H := H3) ys fun y hy => let ⟨q, n, e, hq, _⟩ := yh3 y hy; ⟨q, 5, n, e, hq⟩
    refine eqI_T c2 ⟨_, rfl, sz0, fun e he => ?_⟩
    have s4 := same_upd he (o := .lst [])
    obtain ⟨dd, p1, p2, p3⟩ := dp_list (K := K) (H := upd H3 e (.lst [])) ys fun y hy => let ⟨q, n, e, hq, _⟩ := yh3 y hy; ⟨q, 5, n, e, s4 _ _ hq⟩
    refine ⟨.list dd, .list [], .lst (SqL.of (s4 _ _ ysl)) p1, .lst (SqL.of upd_same) .nil, lay_list p2, by kernel_rfl, _, rfl, ?_⟩
    rw [eqv_nil]
    have R3 := R3.keep s4
    have sAll := sAll.trans s4
    have ysl := s4 _ _ ysl
    have yh3 : ∀ y ∈ ys, ∃ q n, y = .ref q ∧ (upd H3 e (.lst [])) q = some (.tup [.int 5, .int n]) ∧ ∃ cs, (n, cs) ∈ (foldS rs).snaps := fun y hy => let ⟨q, n, e, hq, z⟩ := yh3 y hy; ⟨q, n, e, s4 _ _ hq, z⟩
    have sW := sW.trans s4
    have D : ∀ {i : Nat} {d : Int}, ds[i]? = some d → SqL K (upd H3 e (.lst [])) dl (ds.map V.int) ∧ atI (ds.map V.int) (i : Nat) = some (.int d) := fun e => ⟨SqL.of (s4 _ _ (s3 _ _ hdl)), at_of rfl (ds_at e)⟩
    revert R3 sAll ysl yh3 sW D
    generalize (upd H3 e (.lst [])) = H4
    intro R3 sAll ysl yh3 sW D
    cases ys with
    | nil =>
      have : dd = [] := List.eq_nil_of_length_eq_zero p3
      rw [this]
      refine iteF ?_
      refine ⟨_, rfl, dl, _, 0, _, rfl, rfl, (D e0).1, (D e0).2, rfl, _, rfl, ?_⟩
      by_cases c3 : d0 = 3
      · refine eqI_T c3 ⟨_, rfl, dl, _, 3, _, rfl, rfl, (D e3).1, (D e3).2, _, _, rfl, rfl, _, rfl, ?_⟩
        by_cases c4 : d3 < 4
        · refine ite_of c4 ⟨_, rfl, _, rfl, _, rfl, dl, _, 2, _, rfl, rfl, (D e2).1, (D e2).2, sz1, fun fa hfa => ?_⟩
          have sAll := same_upd' sAll hfa (o := .tup [.int 5])
          have RR := R3.keep (same_upd hfa (o := .tup [.int 5]))
          exact ⟨z, wl, wd, fa, as, ws, rs, .snap, d2, rfl, RR.st, RR.wd, g.next a2 b2 trivial, h56, RR.w8, upd_same, fun _ H' s => kn H' (sAll.trans s), fun ef p H' wl' as' ws' S W FR wn hw => ky (.snap) d2 p H' wl' as' ws' a2 b2 trivial ef (RR.next S W FR wn hw)⟩
        · refine ite_no c4 ?_
          refine ⟨_, rfl, _, rfl, wd, _, rfl, get_st (sW _ _ q1) q4, dS, .ref sq, rfl, .inl ⟨_, .inl 5, .inl (sW _ _ hq0), rfl, rfl⟩, sq, _, 1, .ref cc, rfl, rfl, SqT.of (sW _ _ hsq), at_of (j := 1) rfl rfl, cc, _, rfl, DGet.k (k := .inl d1) (sW _ _ hcq), _, rfl, ?_⟩
          cases hv : valV (cellKV cs) (.inl d1) with
          | some v0 =>
            have hvm : ∃ cs v, (foldS rs).cells = some cs ∧ (d1, v) ∈ cs := let ⟨u, hu⟩ := cell_get hv; ⟨cs, u, hcs, hu⟩
            refine iteT ⟨_, rfl, _, rfl, _, rfl, dl, _, 2, _, rfl, rfl, (D e2).1, (D e2).2, _, rfl, sz2, fun fa hfa => ?_⟩
            have sAll := same_upd' sAll hfa (o := .tup [.int 5, .int d1])
            have RR := R3.keep (same_upd hfa (o := .tup [.int 5, .int d1]))
            exact ⟨z, wl, wd, fa, as, ws, rs, .trim d1, d2, rfl, RR.st, RR.wd, g.next a2 b2 ⟨a1, by omega, hvm⟩, h56, RR.w8, upd_same, fun _ H' s => kn H' (sAll.trans s), fun ef p H' wl' as' ws' S W FR wn hw => ky (.trim d1) d2 p H' wl' as' ws' a2 b2 ⟨a1, by omega, hvm⟩ ef (RR.next S W FR wn hw)⟩
          | none => exact iteF (kn _ sAll)
      · refine eqI_F c3 ?_
        refine ⟨_, rfl, _, rfl, wd, _, rfl, get_st (sW _ _ q1) q4, dS, .ref sq, rfl, .inl ⟨_, .inl 5, .inl (sW _ _ hq0), rfl, rfl⟩, sq, _, 1, .ref cc, rfl, rfl, SqT.of (sW _ _ hsq), at_of (j := 1) rfl rfl, cc, _, rfl, DGet.k (k := .inl d1) (sW _ _ hcq), _, rfl, ?_⟩
        cases hv : valV (cellKV cs) (.inl d1) with
        | some v0 =>
          have hvm : ∃ cs v, (foldS rs).cells = some cs ∧ (d1, v) ∈ cs := let ⟨u, hu⟩ := cell_get hv; ⟨cs, u, hcs, hu⟩
          refine iteT ⟨_, rfl, _, rfl, _, rfl, dl, _, 2, _, rfl, rfl, (D e2).1, (D e2).2, _, rfl, sz2, fun fa hfa => ?_⟩
          have sAll := same_upd' sAll hfa (o := .tup [.int 5, .int d1])
          have RR := R3.keep (same_upd hfa (o := .tup [.int 5, .int d1]))
          exact ⟨z, wl, wd, fa, as, ws, rs, .trim d1, d2, rfl, RR.st, RR.wd, g.next a2 b2 ⟨a1, by omega, hvm⟩, h56, RR.w8, upd_same, fun _ H' s => kn H' (sAll.trans s), fun ef p H' wl' as' ws' S W FR wn hw => ky (.trim d1) d2 p H' wl' as' ws' a2 b2 ⟨a1, by omega, hvm⟩ ef (RR.next S W FR wn hw)⟩
        | none => exact iteF (kn _ sAll)
    | cons y0 yt =>
      have : dd.isEmpty = false := by
        cases dd with
        | nil => simp at p3
        | cons _ _ => rfl
      rw [this]
      refine iteT ⟨_, rfl, dl, _, 3, _, rfl, rfl, (D e3).1, (D e3).2, _, _, rfl, rfl, _, rfl, ?_⟩
      by_cases c5 : d3 < 3
      · obtain ⟨q, n, rfl, hq, hn⟩ := yh3 y0 List.mem_cons_self
        refine ite_of c5 ⟨_, rfl, _, rfl, _, rfl, dl, _, 2, _, rfl, rfl, (D e2).1, (D e2).2, _, rfl, sl, _, 0, _, rfl, rfl, SqL.of ysl, at_of (j := 0) rfl rfl, ?_⟩
        have RR := R3
        exact ⟨z, wl, wd, q, as, ws, rs, .drop n, d2, rfl, RR.st, RR.wd, g.next a2 b2 hn, h56, RR.w8, hq, fun _ H' s => kn H' (sAll.trans s), fun ef p H' wl' as' ws' S W FR wn hw => ky (.drop n) d2 p H' wl' as' ws' a2 b2 hn ef (RR.next S W FR wn hw)⟩
      · refine ite_no c5 ?_
        refine ⟨_, rfl, dl, _, 0, _, rfl, rfl, (D e0).1, (D e0).2, rfl, _, rfl, ?_⟩
        by_cases c3 : d0 = 3
        · refine eqI_T c3 ⟨_, rfl, dl, _, 3, _, rfl, rfl, (D e3).1, (D e3).2, _, _, rfl, rfl, _, rfl, ?_⟩
          by_cases c4 : d3 < 4
          · refine ite_of c4 ⟨_, rfl, _, rfl, _, rfl, dl, _, 2, _, rfl, rfl, (D e2).1, (D e2).2, sz1, fun fa hfa => ?_⟩
            have sAll := same_upd' sAll hfa (o := .tup [.int 5])
            have RR := R3.keep (same_upd hfa (o := .tup [.int 5]))
            exact ⟨z, wl, wd, fa, as, ws, rs, .snap, d2, rfl, RR.st, RR.wd, g.next a2 b2 trivial, h56, RR.w8, upd_same, fun _ H' s => kn H' (sAll.trans s), fun ef p H' wl' as' ws' S W FR wn hw => ky (.snap) d2 p H' wl' as' ws' a2 b2 trivial ef (RR.next S W FR wn hw)⟩
          · refine ite_no c4 ?_
            refine ⟨_, rfl, _, rfl, wd, _, rfl, get_st (sW _ _ q1) q4, dS, .ref sq, rfl, .inl ⟨_, .inl 5, .inl (sW _ _ hq0), rfl, rfl⟩, sq, _, 1, .ref cc, rfl, rfl, SqT.of (sW _ _ hsq), at_of (j := 1) rfl rfl, cc, _, rfl, DGet.k (k := .inl d1) (sW _ _ hcq), _, rfl, ?_⟩
            cases hv : valV (cellKV cs) (.inl d1) with
            | some v0 =>
              have hvm : ∃ cs v, (foldS rs).cells = some cs ∧ (d1, v) ∈ cs := let ⟨u, hu⟩ := cell_get hv; ⟨cs, u, hcs, hu⟩
              refine iteT ⟨_, rfl, _, rfl, _, rfl, dl, _, 2, _, rfl, rfl, (D e2).1, (D e2).2, _, rfl, sz2, fun fa hfa => ?_⟩
              have sAll := same_upd' sAll hfa (o := .tup [.int 5, .int d1])
              have RR := R3.keep (same_upd hfa (o := .tup [.int 5, .int d1]))
              exact ⟨z, wl, wd, fa, as, ws, rs, .trim d1, d2, rfl, RR.st, RR.wd, g.next a2 b2 ⟨a1, by omega, hvm⟩, h56, RR.w8, upd_same, fun _ H' s => kn H' (sAll.trans s), fun ef p H' wl' as' ws' S W FR wn hw => ky (.trim d1) d2 p H' wl' as' ws' a2 b2 ⟨a1, by omega, hvm⟩ ef (RR.next S W FR wn hw)⟩
            | none => exact iteF (kn _ sAll)
        · refine eqI_F c3 ?_
          refine ⟨_, rfl, _, rfl, wd, _, rfl, get_st (sW _ _ q1) q4, dS, .ref sq, rfl, .inl ⟨_, .inl 5, .inl (sW _ _ hq0), rfl, rfl⟩, sq, _, 1, .ref cc, rfl, rfl, SqT.of (sW _ _ hsq), at_of (j := 1) rfl rfl, cc, _, rfl, DGet.k (k := .inl d1) (sW _ _ hcq), _, rfl, ?_⟩
          cases hv : valV (cellKV cs) (.inl d1) with
          | some v0 =>
            have hvm : ∃ cs v, (foldS rs).cells = some cs ∧ (d1, v) ∈ cs := let ⟨u, hu⟩ := cell_get hv; ⟨cs, u, hcs, hu⟩
            refine iteT ⟨_, rfl, _, rfl, _, rfl, dl, _, 2, _, rfl, rfl, (D e2).1, (D e2).2, _, rfl, sz2, fun fa hfa => ?_⟩
            have sAll := same_upd' sAll hfa (o := .tup [.int 5, .int d1])
            have RR := R3.keep (same_upd hfa (o := .tup [.int 5, .int d1]))
            exact ⟨z, wl, wd, fa, as, ws, rs, .trim d1, d2, rfl, RR.st, RR.wd, g.next a2 b2 ⟨a1, by omega, hvm⟩, h56, RR.w8, upd_same, fun _ H' s => kn H' (sAll.trans s), fun ef p H' wl' as' ws' S W FR wn hw => ky (.trim d1) d2 p H' wl' as' ws' a2 b2 ⟨a1, by omega, hvm⟩ ef (RR.next S W FR wn hw)⟩
          | none => exact iteF (kn _ sAll)
  · refine eqI_F c2 ?_
    refine ⟨_, rfl, dl, _, 0, _, rfl, rfl, (D e0).1, (D e0).2, rfl, _, rfl, ?_⟩
    by_cases c3 : d0 = 3
    · refine eqI_T c3 ⟨_, rfl, dl, _, 3, _, rfl, rfl, (D e3).1, (D e3).2, _, _, rfl, rfl, _, rfl, ?_⟩
      by_cases c4 : d3 < 4
      · refine ite_of c4 ⟨_, rfl, _, rfl, _, rfl, dl, _, 2, _, rfl, rfl, (D e2).1, (D e2).2, sz1, fun fa hfa => ?_⟩
        have sAll := same_upd' sAll hfa (o := .tup [.int 5])
        have RR := R3.keep (same_upd hfa (o := .tup [.int 5]))
        exact ⟨z, wl, wd, fa, as, ws, rs, .snap, d2, rfl, RR.st, RR.wd, g.next a2 b2 trivial, h56, RR.w8, upd_same, fun _ H' s => kn H' (sAll.trans s), fun ef p H' wl' as' ws' S W FR wn hw => ky (.snap) d2 p H' wl' as' ws' a2 b2 trivial ef (RR.next S W FR wn hw)⟩
      · refine ite_no c4 ?_
        refine ⟨_, rfl, _, rfl, wd, _, rfl, get_st (sW _ _ q1) q4, dS, .ref sq, rfl, .inl ⟨_, .inl 5, .inl (sW _ _ hq0), rfl, rfl⟩, sq, _, 1, .ref cc, rfl, rfl, SqT.of (sW _ _ hsq), at_of (j := 1) rfl rfl, cc, _, rfl, DGet.k (k := .inl d1) (sW _ _ hcq), _, rfl, ?_⟩
        cases hv : valV (cellKV cs) (.inl d1) with
        | some v0 =>
          have hvm : ∃ cs v, (foldS rs).cells = some cs ∧ (d1, v) ∈ cs := let ⟨u, hu⟩ := cell_get hv; ⟨cs, u, hcs, hu⟩
          refine iteT ⟨_, rfl, _, rfl, _, rfl, dl, _, 2, _, rfl, rfl, (D e2).1, (D e2).2, _, rfl, sz2, fun fa hfa => ?_⟩
          have sAll := same_upd' sAll hfa (o := .tup [.int 5, .int d1])
          have RR := R3.keep (same_upd hfa (o := .tup [.int 5, .int d1]))
          exact ⟨z, wl, wd, fa, as, ws, rs, .trim d1, d2, rfl, RR.st, RR.wd, g.next a2 b2 ⟨a1, by omega, hvm⟩, h56, RR.w8, upd_same, fun _ H' s => kn H' (sAll.trans s), fun ef p H' wl' as' ws' S W FR wn hw => ky (.trim d1) d2 p H' wl' as' ws' a2 b2 ⟨a1, by omega, hvm⟩ ef (RR.next S W FR wn hw)⟩
        | none => exact iteF (kn _ sAll)
    · refine eqI_F c3 ?_
      refine ⟨_, rfl, _, rfl, wd, _, rfl, get_st (sW _ _ q1) q4, dS, .ref sq, rfl, .inl ⟨_, .inl 5, .inl (sW _ _ hq0), rfl, rfl⟩, sq, _, 1, .ref cc, rfl, rfl, SqT.of (sW _ _ hsq), at_of (j := 1) rfl rfl, cc, _, rfl, DGet.k (k := .inl d1) (sW _ _ hcq), _, rfl, ?_⟩
      cases hv : valV (cellKV cs) (.inl d1) with
      | some v0 =>
        have hvm : ∃ cs v, (foldS rs).cells = some cs ∧ (d1, v) ∈ cs := let ⟨u, hu⟩ := cell_get hv; ⟨cs, u, hcs, hu⟩
        refine iteT ⟨_, rfl, _, rfl, _, rfl, dl, _, 2, _, rfl, rfl, (D e2).1, (D e2).2, _, rfl, sz2, fun fa hfa => ?_⟩
        have sAll := same_upd' sAll hfa (o := .tup [.int 5, .int d1])
        have RR := R3.keep (same_upd hfa (o := .tup [.int 5, .int d1]))
        exact ⟨z, wl, wd, fa, as, ws, rs, .trim d1, d2, rfl, RR.st, RR.wd, g.next a2 b2 ⟨a1, by omega, hvm⟩, h56, RR.w8, upd_same, fun _ H' s => kn H' (sAll.trans s), fun ef p H' wl' as' ws' S W FR wn hw => ky (.trim d1) d2 p H' wl' as' ws' a2 b2 ⟨a1, by omega, hvm⟩ ef (RR.next S W FR wn hw)⟩
      | none => exact iteF (kn _ sAll)
end
end L2.Sg
set_option Elab.async false
set_option linter.all false
set_option maxRecDepth 100000
set_option maxHeartbeats 4000000
namespace L2.Sg
open PySem PySem.Spec PyProof.Rows
open C8 (Cal Met Mak pe_c pe_mt pe_mt0 pe_mk tCut pss_cut)
local macro_rules | `(tactic| walk_at "len") => `(tactic| (intro vs H Q E h; first | (obtain ⟨e, _⟩ := h; subst e; rfl) | (obtain ⟨_, e, _⟩ := h; subst e; rfl) | (obtain ⟨_, _, e, _⟩ := h; subst e; rfl) | (obtain ⟨_, _, _, e, _⟩ := h; subst e; rfl) | (obtain ⟨_, _, _, _, e, _⟩ := h; subst e; rfl) | (obtain ⟨_, _, _, _, _, e, _⟩ := h; subst e; rfl) | (obtain ⟨_, _, _, _, _, _, e, _⟩ := h; subst e; rfl) | (obtain ⟨_, _, _, _, _, _, _, e, _⟩ := h; subst e; rfl) | (obtain ⟨_, _, _, _, _, _, _, _, e, _⟩ := h; subst e; rfl) | (obtain ⟨_, _, _, _, _, _, _, _, _, e, _⟩ := h; subst e; rfl) | (obtain ⟨_, _, _, _, _, _, _, _, _, _, e, _⟩ := h; subst e; rfl) | (obtain ⟨_, _, _, _, _, _, _, _, _, _, _, e, _⟩ := h; subst e; rfl) | (obtain ⟨_, _, _, _, _, _, _, _, _, _, _, _, e, _⟩ := h; subst e; rfl) | (obtain ⟨_, _, _, _, _, _, _, _, _, _, _, _, _, e, _⟩ := h; subst e; rfl) | (obtain ⟨_, _, _, _, _, _, _, _, _, _, _, _, _, _, e, _⟩ := h; subst e; rfl) | (obtain ⟨_, _, _, _, _, _, _, _, _, _, _, _, _, _, _, e, _⟩ := h; subst e; rfl)))
local macro_rules | `(tactic| walk_at "ns") => `(tactic| (try dsimp only [Op.kind, Tp.word, Rec.top]); decide +kernel)
section
variable {K : PySem.W.Frag} {H : Hp}
theorem eq_flat {n : Nat} {x : V} (h : flatB x = true) : EqD K H (n + 1) x x := .inl ⟨rfl, h⟩
theorem eq_tup {n : Nat} {a b : Addr} {xs ys : List V} (h1 : SqT K H a xs) (h2 : SqT K H b ys) (p : Paired (EqD K H n) xs ys) : EqD K H (n + 1) (.ref a) (.ref b) := .inr (.inr (.inl ⟨a, b, xs, ys, rfl, rfl, h1, h2, p⟩))
theorem eq_dK {n : Nat} {a b : Addr} {ks ls : List (Key × V)} (h1 : H a = some (.dK ks)) (h2 : H b = some (.dK ls)) (hl : ks.length = ls.length) (p : ∀ p ∈ ks, ∃ u, valV ls p.1 = some u ∧ EqD K H n p.2 u) : EqD K H (n + 1) (.ref a) (.ref b) := .inr (.inr (.inr (.inl ⟨a, b, ks, ls, rfl, rfl, h1, h2, hl, p⟩)))
theorem eq_dT {n : Nat} {a b : Addr} {ks ls : List (List Key × V)} (h1 : H a = some (.dT ks)) (h2 : H b = some (.dT ls)) (hl : ks.length = ls.length) (p : ∀ p ∈ ks, ∃ u, valV ls p.1 = some u ∧ EqD K H n p.2 u) : EqD K H (n + 1) (.ref a) (.ref b) := .inr (.inr (.inr (.inr ⟨a, b, ks, ls, rfl, rfl, h1, h2, hl, p⟩)))
theorem eq_cells {n : Nat} {a b : Addr} {cs : List (Int × Int)} (nd : ndK cs) (h1 : H a = some (.dK (cellKV cs))) (h2 : H b = some (.dK (cellKV cs))) : EqD K H (n + 2) (.ref a) (.ref b) := by
  refine eq_dK h1 h2 rfl fun p hp => ⟨p.2, val_mem (by rw [cell_keys]; exact keys_nd inl_inj nd) hp, ?_⟩
  obtain ⟨x, _, rfl⟩ := List.mem_map.mp hp
  exact eq_flat rfl
theorem eq_ans {n : Nat} {a b : Addr} {an : Option Int} (h1 : AnsAt H a an) (h2 : AnsAt H b an) : EqD K H (n + 2) (.ref a) (.ref b) := by
  refine eq_tup (SqT.of h1) (SqT.of h2) (.cons (eq_flat rfl) (.cons (eq_flat ?_) .nil))
  cases an <;> rfl
theorem eq_mark {n : Nat} {a b : Addr} {m : Int × Option Int} (h1 : MarkAt H a m) (h2 : MarkAt H b m) : EqD K H (n + 3) (.ref a) (.ref b) := by
  obtain ⟨n1, a1, b1⟩ := h1
  obtain ⟨n2, a2, b2⟩ := h2
  exact eq_tup (SqT.of a1) (SqT.of a2) (.cons (eq_flat rfl) (.cons (eq_flat rfl) (.cons (eq_ans b1 b2) (.cons (eq_flat rfl) .nil))))
theorem eq_fence {n : Nat} {a b : Addr} (h1 : FenceAt K H a) (h2 : FenceAt K H b) : EqD K H (n + 3) (.ref a) (.ref b) := by
  obtain ⟨e1, a1, b1⟩ := h1
  obtain ⟨e2, a2, b2⟩ := h2
  exact eq_tup a1 a2 (.cons (eq_tup b1 b2 .nil) (.cons (eq_flat rfl) .nil))
theorem eq_space {n : Nat} {a b : Addr} {cs : List (Int × Int)} (nd : ndK cs) (h1 : SpaceAt K H a cs) (h2 : SpaceAt K H b cs) : EqD K H (n + 4) (.ref a) (.ref b) := by
  obtain ⟨c1, f1, a1, b1, d1⟩ := h1
  obtain ⟨c2, f2, a2, b2, d2⟩ := h2
  exact eq_tup (SqT.of a1) (SqT.of a2) (.cons (eq_flat rfl) (.cons (eq_cells nd b1 b2) (.cons (eq_fence d1 d2) .nil)))
theorem eq_spaces {n : Nat} {a b : Addr} {c : Option (List (Int × Int))} (nd : ∀ cs, c = some cs → ndK cs) (h1 : SpacesAt K H a c) (h2 : SpacesAt K H b c) : EqD K H (n + 5) (.ref a) (.ref b) := by
  cases c with
  | none => exact eq_dK h1 h2 rfl fun p h => (List.not_mem_nil h).elim
  | some cs =>
    obtain ⟨q1, a1, b1⟩ := h1
    obtain ⟨q2, a2, b2⟩ := h2
    refine eq_dK a1 a2 rfl fun p h => ?_
    obtain rfl := List.mem_singleton.mp h
    exact ⟨.ref q2, valV_pos rfl, eq_space (nd cs rfl) b1 b2⟩
theorem eq_snaps {n : Nat} {a b : Addr} {sn : List (Int × List (Int × Int))} (nd : ndK sn) (nc : ∀ s ∈ sn, ndK s.2) (h1 : SnapsAt H a sn) (h2 : SnapsAt H b sn) : EqD K H (n + 3) (.ref a) (.ref b) := by
  obtain ⟨k1, a1, p1⟩ := h1
  obtain ⟨k2, a2, p2⟩ := h2
  have n2 : (k2.map (·.1)).Nodup := by rw [paired_keys (f := snK) sn_F p2]; exact keys_nd snK_inj nd
  refine eq_dT a1 a2 ((Paired.length p1).trans (Paired.length p2).symm) fun p hp => ?_
  obtain ⟨i, hi⟩ := List.mem_iff_getElem?.mp hp
  obtain ⟨s, hs, e1, c1, e2, e3⟩ := L2.paired_get p1 hi
  have il : i < k2.length := by rw [Paired.length p2]; exact (List.getElem?_eq_some_iff.mp hs).1
  have h2' : k2[i]? = some k2[i] := List.getElem?_eq_getElem il
  obtain ⟨f1, c2, f2, f3⟩ := paired_two p2 h2' hs
  have hm := List.mem_of_getElem? h2'
  generalize k2[i] = w at f1 f2 hm
  obtain ⟨w1, w2⟩ := w
  obtain rfl : w1 = _ := f1
  obtain rfl : w2 = _ := f2
  refine ⟨.ref c2, ?_, ?_⟩
  · rw [e1]
    exact val_mem n2 hm
  · rw [e2]
    exact eq_cells (nc s (List.mem_of_getElem? hs)) e3 f3
theorem eq_marks {n : Nat} {a b : Addr} {ms : List (Int × Int × Option Int)} (nd : ndK ms) (h1 : MarksAt H a ms) (h2 : MarksAt H b ms) : EqD K H (n + 4) (.ref a) (.ref b) := by
  obtain ⟨k1, a1, p1⟩ := h1
  obtain ⟨k2, a2, p2⟩ := h2
  have mF : ∀ (kv : Key × V) (m : Int × Int × Option Int), (kv.1 = Sum.inl m.1 ∧ ∃ q, kv.2 = .ref q ∧ MarkAt H q m.2) → kv.1 = Sum.inl m.1 := fun _ _ z => z.1
  have n2 : (k2.map (·.1)).Nodup := by rw [paired_keys (f := Sum.inl) mF p2]; exact keys_nd inl_inj nd
  refine eq_dK a1 a2 ((Paired.length p1).trans (Paired.length p2).symm) fun p hp => ?_
  obtain ⟨i, hi⟩ := List.mem_iff_getElem?.mp hp
  obtain ⟨s, hs, e1, c1, e2, e3⟩ := L2.paired_get p1 hi
  have il : i < k2.length := by rw [Paired.length p2]; exact (List.getElem?_eq_some_iff.mp hs).1
  have h2' : k2[i]? = some k2[i] := List.getElem?_eq_getElem il
  obtain ⟨f1, c2, f2, f3⟩ := paired_two p2 h2' hs
  have hm := List.mem_of_getElem? h2'
  generalize k2[i] = w at f1 f2 hm
  obtain ⟨w1, w2⟩ := w
  obtain rfl : w1 = _ := f1
  obtain rfl : w2 = _ := f2
  refine ⟨.ref c2, ?_, ?_⟩
  · rw [e1]
    exact val_mem n2 hm
  · rw [e2]
    exact eq_mark e3 f3
/-- two states that tell the same are equal dicts -/
theorem sta_eq {a b : Addr} {S : Sta} {n : Nat} (ok : S.Ok n) (h1 : StaA K H a S) (h2 : StaA K H b S) : ∃ ks ls, H a = some (.dK ks) ∧ H b = some (.dK ls) ∧ ks.length = ls.length ∧ ∀ p ∈ ks, ∃ u, valV ls p.1 = some u ∧ EqD K H 20 p.2 u := by
  obtain ⟨ks, ds, dn, dm, e1, e2, e3, e4, e5, e6, e7, e8, e9⟩ := h1
  obtain ⟨ls, fs, fn, fm, f1, f2, f3, f4, f5, f6, f7, f8, f9⟩ := h2
  refine ⟨ks, ls, e1, f1, ?_, fun p hp => ?_⟩
  · have x := e2.length_eq
    have y := f2.length_eq
    rw [List.length_map] at x y
    rw [x, y]
  have nd := (st_with e2).1
  have hv := val_mem nd (show (p.1, p.2) ∈ ks from hp)
  have hk := e2.mem_iff.mp (List.mem_map_of_mem hp)
  unfold stK at hk
  rcases List.mem_cons.mp hk with ek | hk
  · rw [ek] at hv ⊢
    rw [e3] at hv
    exact ⟨_, f3, (Option.some.inj hv) ▸ eq_flat rfl⟩
  · rcases List.mem_cons.mp hk with ek | hk
    · rw [ek] at hv ⊢
      rw [e4] at hv
      exact ⟨_, f4, (Option.some.inj hv) ▸ eq_spaces (fun cs e => (ok.cl cs e).1) e7 f7⟩
    · rcases List.mem_cons.mp hk with ek | hk
      · rw [ek] at hv ⊢
        rw [e5] at hv
        exact ⟨_, f5, (Option.some.inj hv) ▸ eq_snaps ok.sn.1 (fun s hs => (ok.sn.2.2 s hs).1) e8 f8⟩
      · have ek := List.mem_singleton.mp hk
        rw [ek] at hv ⊢
        rw [e6] at hv
        exact ⟨_, f6, (Option.some.inj hv) ▸ eq_marks ok.mr.1 e9 f9⟩
end
section
variable {P : Program} {w : World} {K : PySem.W.Frag} {base : Heap} {mg : Str → Option Value}
end
end L2.Sg
set_option Elab.async false
set_option linter.all false
set_option maxRecDepth 100000
set_option maxHeartbeats 4000000
namespace L2.Sg
open PySem PySem.Spec PyProof.Rows
open C8 (Cal Met Mak pe_c pe_mt pe_mt0 pe_mk tCut pss_cut)
local macro_rules | `(tactic| walk_at "len") => `(tactic| (intro vs H Q E h; first | (obtain ⟨e, _⟩ := h; subst e; rfl) | (obtain ⟨_, e, _⟩ := h; subst e; rfl) | (obtain ⟨_, _, e, _⟩ := h; subst e; rfl) | (obtain ⟨_, _, _, e, _⟩ := h; subst e; rfl) | (obtain ⟨_, _, _, _, e, _⟩ := h; subst e; rfl) | (obtain ⟨_, _, _, _, _, e, _⟩ := h; subst e; rfl) | (obtain ⟨_, _, _, _, _, _, e, _⟩ := h; subst e; rfl) | (obtain ⟨_, _, _, _, _, _, _, e, _⟩ := h; subst e; rfl) | (obtain ⟨_, _, _, _, _, _, _, _, e, _⟩ := h; subst e; rfl) | (obtain ⟨_, _, _, _, _, _, _, _, _, e, _⟩ := h; subst e; rfl) | (obtain ⟨_, _, _, _, _, _, _, _, _, _, e, _⟩ := h; subst e; rfl) | (obtain ⟨_, _, _, _, _, _, _, _, _, _, _, e, _⟩ := h; subst e; rfl) | (obtain ⟨_, _, _, _, _, _, _, _, _, _, _, _, e, _⟩ := h; subst e; rfl) | (obtain ⟨_, _, _, _, _, _, _, _, _, _, _, _, _, e, _⟩ := h; subst e; rfl) | (obtain ⟨_, _, _, _, _, _, _, _, _, _, _, _, _, _, e, _⟩ := h; subst e; rfl) | (obtain ⟨_, _, _, _, _, _, _, _, _, _, _, _, _, _, _, e, _⟩ := h; subst e; rfl)))
local macro_rules | `(tactic| walk_at "ns") => `(tactic| (try dsimp only [Op.kind, Tp.word, Rec.top]); decide +kernel)
theorem same_sqL {K : PySem.W.Frag} {H H' : Hp} {a : Addr} {xs : List V} (h : SqL K H a xs) (s : Same H H') : SqL K H' a xs :=
  h.elim (fun h => .inl (h.elim (fun h => .inl (s _ _ h)) fun ⟨o, h⟩ => .inr ⟨o, s _ _ h⟩)) fun h => .inr h
section
variable {P : Program} {w : World} {K : PySem.W.Frag} {base : Heap} {mg : Str → Option Value}
def spLaw (K : PySem.W.Frag) : Sp := fun vs H Q _ => ∃ (a : Addr) (ns : List Int), vs = [.ref a] ∧ SqL K H a (ns.map V.int) ∧ ns.length ≤ 63 ∧ Only H ∧ ∀ H', Q (.bl true) H'
theorem sc_law : FnScope ["_law_script", "_law_flash", "_law_store", "_law_world", "_law_count", "_law_k", "_law_cell_here", "_law_after_here"] ["_law_script"] (defScope s_law) := C8.fnScope_by (by decide +kernel)
theorem c_law (T : Tx w K mg) : Bod P w K mg base s_law "law" (He.fAd K ("law", none)) ["_law_script", "_law_flash", "_law_store", "_law_world", "_law_count", "_law_k", "_law_cell_here", "_law_after_here"] 11 (spLaw K) := by
  refine fun cdv A outer s H vs Q E hr h => ?_
  have nd := sc_law.nd
  have hu := hu_of hr
  refine ⟨_, (pss_cons (ps_set (i := 1) nd rfl (Or.inl rfl) (C8.pe_mk (c_Flash_init T) hr (by decide) (by rfl) (pa_cons pe_int pa_nil)))
      (pss_cons (ps_set (i := 2) nd rfl (Or.inl rfl) (C8.pe_mk (c_Store_init T) hr (by decide) (by rfl) (pa_cons (pv 1) pa_nil)))
      (pss_cons (ps_set (i := 3) nd rfl (Or.inl rfl) (C8.pe_c (c_law_added T) hr (by decide) (by rfl) (pa_cons (pv 2) (pa_cons (pe_c0 (c_law_start T) hr (by decide) (by rfl)) (pa_cons pe_str (pa_cons pe_int (pa_cons (pe_tup (pa_cons pe_int (pa_cons pe_int pa_nil))) pa_nil)))))))
      (pss_cons (ps_if (pt_cmp (pc_isN (pv 3))) (pss_one (ps_ret pe_bl)) pss_nil)
      (pss_cons (ps_asg (C8.pe_c (c_law_filled T) hr (by decide) (by rfl) (pa_cons (pv 2) (pa_cons (pv 3) (pa_cons (pv 0) pa_nil)))) (pg_tup rfl (pgs_cons (pg_name (i := 3) nd rfl (Or.inl rfl)) (pgs_cons (pg_name (i := 4) nd rfl (Or.inl rfl)) pgs_nil))))
      (pss_cons (ps_if (PW.pt (pw_or (pt_cmpR op_lt (pv 4) pe_int (nomark _)) (pw_or1 (pt_cmpR op_gt (C8.pe_mt0 (c_Store_need T) hr (by decide) (pv 2)) (C8.pe_mt0 (c_Store_limit T) hr (by decide) (pv 2)) (nomark _))))) (pss_one (ps_ret pe_bl)) pss_nil)
      (pss_cons (ps_for PassesOwn.never rfl (pi_range1 rfl (b_range T) (pa_cons (pe_op op_add pe_int (pe_op op_mul pe_int (pe_callTy (call_int1) (by rfl) (b_int T) boot_int (pa_cons (pe_cmpR op_eq (pe_op op_mod (pe_op op_fdiv (pe_callTy (call_int1) (by rfl) (b_int T) boot_int (pa_cons (C8.pe_c (c_law_cell T) hr (by decide) (by rfl) (pa_cons (pv 0) (pa_cons pe_int pa_nil))) pa_nil)) pe_int) pe_int) pe_int (nomark _)) pa_nil)))) pa_nil)) (pg_name (i := 5) nd rfl (Or.inl rfl)) (pss_cons (ps_set (i := 6) nd rfl (Or.inl rfl) (pe_op op_add (pe_op op_mul (C8.pe_c (c_law_cell T) hr (by decide) (by rfl) (pa_cons (pv 0) (pa_cons (pv 5) pa_nil))) pe_int) (pe_op op_mul pe_int (pv 5))))
      (pss_cons (ps_set (i := 7) nd rfl (Or.inl rfl) (C8.pe_c (c_law_turn T) hr (by decide) (by rfl) (pa_cons (pv 2) (pa_cons (pv 3) (pa_cons (pv 6) pa_nil)))))
      (pss_cons (ps_if (pt_cmp (pc_notN (pv 7))) (pss_one (ps_set (i := 3) nd rfl (Or.inl rfl) (pv 7))) pss_nil)
      (pss_cons (ps_if (PW.pt (pw_or (pt_cmpR op_gt (C8.pe_mt0 (c_Store_need T) hr (by decide) (pv 2)) (C8.pe_mt0 (c_Store_limit T) hr (by decide) (pv 2)) (nomark _)) (pw_or1 (pt_cmpR (op_neDict hr.units) (pe_fld (pv 2) rfl) (pv 3) (nomark _))))) (pss_one (ps_ret pe_bl)) pss_nil)
      (pss_one (ps_if (pt_cmpR op_eq (pe_op op_mod (pe_callTy (call_int1) (by rfl) (b_int T) boot_int (pa_cons (pv 6) pa_nil)) pe_int) pe_int (nomark _)) (pss_cons (ps_expr (C8.pe_mt0 (c_Store_flush T) hr (by decide) (pv 2)))
      (pss_one (ps_if (pt_cmpR (op_neDict hr.units) (pe_fld (C8.pe_mk (c_Store_init T) hr (by decide) (by rfl) (pa_cons (pv 1) pa_nil)) rfl) (pv 3) (nomark _)) (pss_one (ps_ret pe_bl)) pss_nil))) pss_nil)))))))
      (pss_cons (ps_expr (C8.pe_mt0 (c_Store_flush T) hr (by decide) (pv 2)))
      (pss_one (ps_ret (pe_and (pe_cmpR (op_eqDict hr.units) (pe_fld (C8.pe_mk (c_Store_init T) hr (by decide) (by rfl) (pa_cons (pv 1) pa_nil)) rfl) (pv 3) (nomark _)) (pe_one (pe_cmpR op_le (C8.pe_mt0 (c_Store_need T) hr (by decide) (pv 2)) (C8.pe_mt0 (c_Store_limit T) hr (by decide) (pv 2)) (nomark _)))))))))))))), ?_⟩
  obtain ⟨sc, ns, rfl, hsc, _, _, k⟩ := h
  have sz2 : 2 ≤ sizeLine := by decide
  -- flash
  refine fun fl dxf hfl hdxf dnf => ?_
  have sA : Same H (upd (upd H dxf (.own fl)) fl (.ins (He.ga K "Flash") dxf [])) := by
    refine same_upd' (same_upd hdxf) ?_
    rw [upd_ne dnf.symm]; exact hfl
  refine ⟨fl, dxf, rfl, upd_same, fun H1 fh fw fb F fr => ⟨rfl, ?_⟩⟩
  have fr1 : ∀ b o, H b = some o → H1 b = some o ∧ b ∉ fb := fun b o e => fr b o (sA _ _ e) (ne_of_none e hfl)
  have s1 : Same H H1 := fun b o e => (fr1 b o e).1
  refine ⟨_, rfl, fun st dxs hst hdxs dns => ?_⟩
  have sB : Same H1 (upd (upd H1 dxs (.own st)) st (.ins (He.ga K "Store") dxs [])) := by
    refine same_upd' (same_upd hdxs) ?_
    rw [upd_ne dns.symm]; exact hst
  refine ⟨st, dxs, fl, fh, fw, fb, [], [], rfl, upd_same, F.keep sB, .nil, .nil, by decide, fun i r h => by simp at h, fun H2 lg lh lb wl S fr2 => ⟨rfl, ?_⟩⟩
  have fr3 : ∀ b o, H1 b = some o → H2 b = some o ∧ b ≠ lg ∧ b ∉ lb ∧ b ≠ wl := fun b o e => fr2 b o (sB _ _ e) (ne_of_none e hst)
  have s2 : Same H1 H2 := fun b o e => (fr3 b o e).1
  have s12 := s1.trans s2
  have ow : OwnB H ⟨st, lg, lh, fl, fh, fw, fb, lb⟩ wl := by
    have nn : ∀ b, (∀ o, H b = some o → False) → H b = none := fun b q => by
      cases g : H b with
      | none => rfl
      | some o => exact (q o g).elim
    exact ⟨nn _ fun o e => (ne_of_none (s1 _ _ e) hst) rfl, nn _ fun o e => (fr3 _ _ (s1 _ _ e)).2.1 rfl, fun b hb => nn _ fun o e => (fr1 _ _ e).2 hb, fun b hb => nn _ fun o e => (fr3 _ _ (s1 _ _ e)).2.2.1 hb, nn _ fun o e => (fr3 _ _ (s1 _ _ e)).2.2.2 rfl⟩
  obtain ⟨z, ez⟩ : ∃ z : Adr, z = ⟨st, lg, lh, fl, fh, fw, fb, lb⟩ := ⟨_, rfl⟩
  rw [← ez] at S ow
  obtain rfl : z.st = st := by rw [ez]
  obtain rfl : z.fl = fl := by rw [ez]
  clear ez
  refine ⟨_, rfl, rfl, fun wd0 H3 s3 f3 W0 => ⟨sz2, fun fa hfa => ?_⟩⟩
  have s4 := same_upd' s3 hfa (o := .tup [.int 5, .int 64])
  have hf4 := upd_same (H := H3) (a := fa) (o := .tup [.int 5, .int 64])
  have W4 := W0.keep (same_imm (same_upd hfa (o := .tup [.int 5, .int 64])))
  revert s4 hf4 W4
  generalize (upd H3 fa (.tup [.int 5, .int 64])) = H4
  intro s4 hf4 W4
  have R4 : Run K H4 H z wl wd0 [] [] [] := ⟨S.keep s4, W4, by decide, s12.trans s4, ow⟩
  refine ⟨z, wl, wd0, fa, [], [], [], .make, 0, rfl, R4.st, R4.wd, next_make, by decide, by decide, hf4, fun ef _ _ => absurd (fits_make.symm.trans ef) Bool.noConfusion, fun _ p H5 wl5 as5 ws5 S5 W5 FR5 wn5 hw5 => ?_⟩
  have R5 := R4.next S5 W5 FR5 wn5 hw5
  refine ⟨_, rfl, _, rfl, iteF ?_⟩
  refine ⟨_, rfl, _, rfl, _, rfl, z, wl5, p, sc, as5, ws5, _, H, ns, rfl, R5, FillP.zero, same_sqL hsc R5.same, fun t H6 wl6 wd6 as6 ws6 rs6 cnt b6 R6 F6 h10 ht => ?_⟩
  refine ⟨t, _, rfl, SqT.of ht, rfl, _, _, rfl, _, _, rfl, rfl, ?_⟩
  obtain ⟨dx6, sd6, hst6, _⟩ := R6.st.ins
  have F6l := F6.len
  have F6n := F6.need
  refine ⟨_, rfl, _, _, rfl, rfl, _, rfl, ite_no (by omega) ⟨_, rfl, z.st, dx6, _, rfl, hst6, rfl, z, wl6, as6, ws6, rs6, rfl, R6.st, F6.good.asc, by omega, fun H7 s7 => ⟨_, rfl, z.st, dx6, _, rfl, s7 _ _ hst6, rfl, z, wl6, as6, ws6, rs6, rfl, R6.st.keep s7, _, _, rfl, rfl, _, rfl, ite_no (by omega) ?_⟩⟩⟩
  have R7 := R6.keep s7
  obtain ⟨as6', eas⟩ : ∃ q, q = as6 := ⟨_, rfl⟩
  have hsc7 := same_sqL hsc R7.same
  have d7 : CDiv 0 7 := ⟨by decide, by decide⟩
  have p8 : (0 : Int) < 8 := by decide
  refine ⟨_, rfl, sc, ns, 0, rfl, hsc7, fun c0 => .inl ⟨_, rfl, _, _, rfl, rfl, ⟨by decide, by decide⟩, _, _, rfl, rfl, p8, rfl, .inr ⟨_, rfl, _, _, rfl, rfl, .inl ⟨by decide, by decide⟩, _, _, rfl, rfl, ?_⟩⟩⟩
  have jb : ∀ q : Bool, 0 ≤ (4 : Int) + 16 * (if q = true then 1 else 0) ∧ (4 : Int) + 16 * (if q = true then 1 else 0) ≤ 20 := fun q => by cases q <;> decide
  have j12 := jb (decide (V.int (c0 / 7 % 8) = V.int 1))
  obtain ⟨j, ej⟩ : ∃ j : Int, j = (4 : Int) + 16 * (if decide (V.int (c0 / 7 % 8) = V.int 1) = true then 1 else 0) := ⟨_, rfl⟩
  rw [← ej] at j12
  refine ⟨j, by rw [ej] <;> rfl, by omega, by omega, ?_⟩
  refine for_range (lo := 0) (n := j.toNat) (fun i σ H' => ∃ wd wl as ws rs v5 v6 v7, σ = [some (.ref sc), some (.ref z.fl), some (.ref z.st), some (.ref wd), some (.int (cnt : Nat)), v5, v6, v7] ∧ Run K H' H z wl wd as ws rs ∧ Trn (23 + i) rs) ?_ ?_ ?_
  · exact ⟨wd6, wl6, as6, ws6, rs6, none, none, none, rfl, R7, F6.trn⟩
  · rintro kk σ H' hk ⟨wd, wl, as, ws, rs, v5, v6, v7, rfl, R, t⟩
    have tl := t.2.1
    refine ⟨_, rfl, _, rfl, sc, ns, kk, by rw [Int.zero_add] <;> rfl, same_sqL hsc R.same, fun c1 => ⟨_, _, rfl, rfl, .inr ⟨by decide, by decide⟩, _, rfl, _, _, rfl, rfl, .inl ⟨by decide, by decide⟩, _, _, rfl, rfl, ?_⟩⟩
    refine ⟨_, rfl, _, rfl, _, rfl, z, wl, wd, as, ws, rs, H, _, rfl, R, t.1, by omega, fun HN sN => ?_, fun o h p HN wlN asN wsN h0 h4 oo ef RN => ?_⟩
    · refine ⟨_, rfl, _, rfl, iteF ?_⟩
      have R := R.keep sN
      have t : Trn (23 + (kk + 1)) rs := ⟨t.1, by omega, t.2.2⟩
      obtain ⟨dx, sd, hst, sa⟩ := R.st.ins
      have tl := t.2.1
      have tn := t.need
      have asc := t.1.asc
      refine ⟨_, rfl, z.st, dx, _, rfl, hst, rfl, z, wl, as, ws, rs, rfl, R.st, asc, by omega, fun H8 s8 => ⟨_, rfl, z.st, dx, _, rfl, s8 _ _ hst, rfl, z, wl, as, ws, rs, rfl, R.st.keep s8, _, _, rfl, rfl, _, rfl, ite_no (by omega) ?_⟩⟩
      have R8 := R.keep s8
      have ok8 := foldS_ok rs
      obtain ⟨ks, ls, x1, x2, x3, x4⟩ := sta_eq ok8 (sa.keep (same_imm s8)) R8.wd
      refine ⟨_, rfl, z.st, _, dx, _, _, rfl, s8 _ _ hst, cls_Store T, at_Store_state T, rfl, _, rfl, sd, wd, ks, ls, rfl, rfl, x1, x2, x3, x4, _, rfl, iteF ?_⟩
      have hc4 : (0 : Int) < 4 := by decide
      refine ⟨_, rfl, .inl ⟨_, rfl, _, _, rfl, rfl, hc4, rfl, _, rfl, ?_⟩⟩
      by_cases c4 : (c1 * 5 + 3 * (0 + (kk : Nat))) % 4 = 1
      · refine eqI_T c4 ⟨_, rfl, z.st, dx, _, rfl, s8 _ _ hst, rfl, z, wl, as, ws, rs, rfl, R8.st, by rw [Paired.length R8.st.recs]; omega, fun H9 wl9 S9 FR9 wn9 => ?_⟩
        have R9 := R8.next S9 (R8.wd.keep (Fr.imm R8.st FR9)) FR9 wn9 (by decide)
        refine ⟨_, rfl, fun st2 dx2 hs2 hd2 dn2 => ?_⟩
        have sC : Same H9 (upd (upd H9 dx2 (.own st2)) st2 (.ins (He.ga K "Store") dx2 [])) := by
          refine same_upd' (same_upd hd2) ?_
          rw [upd_ne dn2.symm]; exact hs2
        have rc9 := R9.st.recs
        rw [List.append_nil] at rc9
        refine ⟨st2, dx2, z.fl, z.fh, z.fw, z.fb, as ++ ws, rs, rfl, upd_same, R9.st.lg.fl.keep sC, rc9.keep (same_imm sC), asc, by omega, t.1.chain, fun HA lg2 lh2 lb2 wl2 SA frA => ⟨rfl, ?_⟩⟩
        have sD : Same H9 HA := fun b o e => (frA b o (sC _ _ e) (ne_of_none e hs2)).1
        have RA := R9.keep sD
        obtain ⟨dxA, sdA, hstA, saA⟩ := SA.ins
        obtain ⟨ks, ls, x1, x2, x3, x4⟩ := sta_eq ok8 saA RA.wd
        exact ⟨st2, _, dxA, _, _, rfl, hstA, cls_Store T, at_Store_state T, rfl, _, rfl, sdA, wd, ks, ls, rfl, rfl, x1, x2, x3, x4, _, rfl, iteF ⟨wd, _, _, _, rs, _, _, _, rfl, RA, t⟩⟩
      · exact eqI_F c4 ⟨wd, _, _, _, rs, _, _, _, rfl, R8, t⟩
    · refine ⟨_, rfl, _, rfl, iteT ⟨_, rfl, ?_⟩⟩
      have t : Trn (23 + (kk + 1)) (rs ++ [nextR rs h o]) := t.step h0 h4 oo ef
      revert RN t
      generalize rs ++ [nextR rs h o] = rs2
      intro R t
      obtain ⟨dx, sd, hst, sa⟩ := R.st.ins
      have tl := t.2.1
      have tn := t.need
      have asc := t.1.asc
      refine ⟨_, rfl, z.st, dx, _, rfl, hst, rfl, z, wlN, asN, wsN, rs2, rfl, R.st, asc, by omega, fun H8 s8 => ⟨_, rfl, z.st, dx, _, rfl, s8 _ _ hst, rfl, z, wlN, asN, wsN, rs2, rfl, R.st.keep s8, _, _, rfl, rfl, _, rfl, ite_no (by omega) ?_⟩⟩
      have R8 := R.keep s8
      have ok8 := foldS_ok rs2
      obtain ⟨ks, ls, x1, x2, x3, x4⟩ := sta_eq ok8 (sa.keep (same_imm s8)) R8.wd
      refine ⟨_, rfl, z.st, _, dx, _, _, rfl, s8 _ _ hst, cls_Store T, at_Store_state T, rfl, _, rfl, sd, p, ks, ls, rfl, rfl, x1, x2, x3, x4, _, rfl, iteF ?_⟩
      have hc4 : (0 : Int) < 4 := by decide
      refine ⟨_, rfl, .inl ⟨_, rfl, _, _, rfl, rfl, hc4, rfl, _, rfl, ?_⟩⟩
      by_cases c4 : (c1 * 5 + 3 * (0 + (kk : Nat))) % 4 = 1
      · refine eqI_T c4 ⟨_, rfl, z.st, dx, _, rfl, s8 _ _ hst, rfl, z, wlN, asN, wsN, rs2, rfl, R8.st, by rw [Paired.length R8.st.recs]; omega, fun H9 wl9 S9 FR9 wn9 => ?_⟩
        have R9 := R8.next S9 (R8.wd.keep (Fr.imm R8.st FR9)) FR9 wn9 (by decide)
        refine ⟨_, rfl, fun st2 dx2 hs2 hd2 dn2 => ?_⟩
        have sC : Same H9 (upd (upd H9 dx2 (.own st2)) st2 (.ins (He.ga K "Store") dx2 [])) := by
          refine same_upd' (same_upd hd2) ?_
          rw [upd_ne dn2.symm]; exact hs2
        have rc9 := R9.st.recs
        rw [List.append_nil] at rc9
        refine ⟨st2, dx2, z.fl, z.fh, z.fw, z.fb, asN ++ wsN, rs2, rfl, upd_same, R9.st.lg.fl.keep sC, rc9.keep (same_imm sC), asc, by omega, t.1.chain, fun HA lg2 lh2 lb2 wl2 SA frA => ⟨rfl, ?_⟩⟩
        have sD : Same H9 HA := fun b o e => (frA b o (sC _ _ e) (ne_of_none e hs2)).1
        have RA := R9.keep sD
        obtain ⟨dxA, sdA, hstA, saA⟩ := SA.ins
        obtain ⟨ks, ls, x1, x2, x3, x4⟩ := sta_eq ok8 saA RA.wd
        exact ⟨st2, _, dxA, _, _, rfl, hstA, cls_Store T, at_Store_state T, rfl, _, rfl, sdA, p, ks, ls, rfl, rfl, x1, x2, x3, x4, _, rfl, iteF ⟨p, _, _, _, rs2, _, _, _, rfl, RA, t⟩⟩
      · exact eqI_F c4 ⟨p, _, _, _, rs2, _, _, _, rfl, R8, t⟩
  rintro σ H' ⟨wd, wl, as, ws, rs, v5, v6, v7, rfl, R, t⟩
  obtain ⟨dx, sd, hst, sa⟩ := R.st.ins
  have tl := t.2.1
  have tn := t.need
  have asc := t.1.asc
  have ok8 := foldS_ok rs
  refine ⟨_, rfl, z.st, dx, _, rfl, hst, rfl, z, wl, as, ws, rs, rfl, R.st, by rw [Paired.length R.st.recs]; omega, fun H9 wl9 S9 FR9 wn9 => ?_⟩
  have R9 := R.next S9 (R.wd.keep (Fr.imm R.st FR9)) FR9 wn9 (by decide)
  refine ⟨_, rfl, fun st2 dx2 hs2 hd2 dn2 => ?_⟩
  have sC : Same H9 (upd (upd H9 dx2 (.own st2)) st2 (.ins (He.ga K "Store") dx2 [])) := by
    refine same_upd' (same_upd hd2) ?_
    rw [upd_ne dn2.symm]; exact hs2
  have rc9 := R9.st.recs
  rw [List.append_nil] at rc9
  refine ⟨st2, dx2, z.fl, z.fh, z.fw, z.fb, as ++ ws, rs, rfl, upd_same, R9.st.lg.fl.keep sC, rc9.keep (same_imm sC), asc, by omega, t.1.chain, fun HA lg2 lh2 lb2 wl2 SA frA => ⟨rfl, ?_⟩⟩
  have sD : Same H9 HA := fun b o e => (frA b o (sC _ _ e) (ne_of_none e hs2)).1
  have RA := R9.keep sD
  obtain ⟨dxA, sdA, hstA, saA⟩ := SA.ins
  obtain ⟨dxR, sdR, hstR, saR⟩ := RA.st.ins
  obtain ⟨ks, ls, x1, x2, x3, x4⟩ := sta_eq ok8 saA RA.wd
  refine ⟨st2, _, dxA, _, _, rfl, hstA, cls_Store T, at_Store_state T, rfl, _, rfl, sdA, wd, ks, ls, rfl, rfl, x1, x2, x3, x4, ?_⟩
  refine ⟨true, rfl, iteT ⟨_, rfl, z.st, dxR, _, rfl, hstR, rfl, z, wl9, _, _, rs, rfl, RA.st, asc, by omega, fun HB sB => ⟨_, rfl, z.st, dxR, _, rfl, sB _ _ hstR, rfl, z, wl9, _, _, rs, rfl, RA.st.keep sB, _, _, rfl, rfl, ?_⟩⟩⟩
  have e9 : decide (((needN rs : Nat) : Int) ≤ 32) = true := decide_eq_true (by omega)
  show Q (.bl (decide (((needN rs : Nat) : Int) ≤ 32))) HB
  rw [e9]
  exact k HB
end
end L2.Sg
set_option Elab.async false
set_option linter.all false
set_option maxRecDepth 100000
namespace L2.Sg
open PySem PySem.Spec PyProof.Rows
theorem facts {P : Program} {w : World} {K : PySem.W.Frag} {h : Heap} {mg : Str → Option Value} {f : Addr} (X : K.In h) (G : h.Ns mainGlobals mg) (hfa : mg ("law" : Str) = some (.ref f)) (c : He.SaysT faAll fnAll tabs w K) (ex : exAll K = true) :
    ∃ fd : FuncData, (∀ (s : Shared) (v : Value), BindsTo s fd ⟨[v], []⟩ [("_law_script", v)]) ∧ ∀ base : Heap, K.In base → base.Ns mainGlobals mg → FnOk P w K mg base CX0 12 f fd ["_law_script"] (spLaw K) := by
  have T : Tx w K mg := ⟨⟨h, X, G⟩, c, ex⟩
  obtain ⟨fd, F⟩ := T.d 37 (d := d_law)
  have e := hfa.symm.trans (He.glo_ok X G (T.f 37 (f := .glo "law")))
  cases e
  have b := FunD.bindsA (ps := ["_law_script"]) F fun _ _ _ _ _ _ us hl => match us, hl with | [_], _ => rfl
  refine ⟨fd, fun s v => b s [v] rfl, fun base _ _ => fnok_of F sc_law (fun vs H Q E q => ?_) (c_law T)⟩
  obtain ⟨_, _, e, _⟩ := q
  subst e
  rfl
end L2.Sg
open PySem PySem.W PySem.Calls PyProof.Rows
set_option maxHeartbeats 0 in
theorem PySem.Challenge.cw_spindlegate_k33_whole_full_flash_holds : PySem.Challenge.rw_spindlegate_k33_whole_full_flash.Holds := by
  w_on; o_law
  refine HandSHeadRun.head_any (r := OpenLaw.row PySem.Challenge.rw_spindlegate_k33_whole_full_flash) (q := view (OpenLaw.row PySem.Challenge.rw_spindlegate_k33_whole_full_flash).prog [91]) (H := L2.Sg.hkL) (ob := L2.Sg.ob) (M := 5500) (loose := L2.Sg.looseAll) (d := HandSHeadRun.topDef (OpenLaw.row PySem.Challenge.rw_spindlegate_k33_whole_full_flash).prog 91) (kwd := []) L2.Sg.ob_eq
    (by kernel_rfl) (fun s => by kernel_rfl) L2.Sg.run (by kernel_rfl) (by kernel_rfl) (by kernel_rfl) (by rfl) (by first | assumption | decide +kernel) (by decide +kernel) ⟨rfl, rfl, rfl, rfl, rfl, by decide +kernel⟩ ?hw ?hc
  case hw => w_witness2
  case hc =>
    refine L2.walk_ofE (l := PySem.Challenge.rw_spindlegate_k33_whole_full_flash) (n := 63) (k := 12) (x := "_law_script") (CX := L2.CX0) rfl (by decide) (by kernel_rfl) ⟨rfl, by decide, by decide⟩ ?F (fun _ _ _ _ z => z)
    intro w mg fa h Y G hmg0
    obtain ⟨K, KX, c, ex⟩ := Y
    have mgl : mg ("law" : PySem.Str) = some (.ref fa) := by
      have e : (HandSHeadRun.topDef (OpenLaw.row PySem.Challenge.rw_spindlegate_k33_whole_full_flash).prog 91).name = ("law" : PySem.Str) := by kernel_rfl
      rw [← e]
      exact hmg0
    obtain ⟨fd, hb, hF⟩ := L2.Sg.facts (P := (PySem.Challenge.rw_spindlegate_k33_whole_full_flash).prog) (w := w) KX G mgl c ex
    exact ⟨K, fd, L2.Sg.spLaw K, KX, hb, fun H a ns hl hO hS => ⟨a, ns, rfl, hS, hl, hO, fun _ => rfl⟩, hF⟩
