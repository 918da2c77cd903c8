import PyProof.Rows.All
import Wide.All
import OpenK.AllK
import Wide.FinOn
import PyProof.EqAt
import PyProof.EqKinds
import PyProof.TupleCall
import HandS.ForMost
import HandS.Exc
import HandS.TryOnly
import HandS.ExcOwn
import HandS.WordsExc
import HandS.Defaults
import HandS.MakeKwOnly
import HandS.More
import HandS.Star
import HandS.IterVal
import HandS.TupAny
import HandS.TupMul
import HandS.Conv
import HandS.ExcIs
import HandS.IsInst
import HandS.HotCalls
import HandS.SortInts
import HandS.SortOrd
import HandS.SuiteRaise
import HandS.HeadHook1
import HandS.HeadHook2
import HandS.HeadHook3
import HandS.HeadHook4
import PySem.Challenge.RW_tidemark_k58_whole_operations_follow_a_p
import HandS.Head0
import HandS.Head1
import HandS.Head2
import HandS.HeadEnd
import KE.KStateDown
import Lean
import HandS.Evl
set_option Elab.async false
set_option linter.all false
set_option maxRecDepth 100000
set_option maxHeartbeats 4000000
/-! The base: the text by places, the facts of the top, rules of our own. -/
namespace Tm
open PySem PySem.Spec PyProof.Rows L2
def top (i : Nat) : Stmt := PySem.Challenge.pw_tidemark_k58_whole_operations_follow_a_p.main.body.getD i (.Pass ⟨0, 0, 0, 0⟩)
abbrev s_names_of : Stmt := top 19
abbrev s_follow_names : Stmt := top 22
abbrev s_follow : Stmt := top 23
abbrev s_place_of : Stmt := top 24
abbrev s_entry_of : Stmt := top 25
abbrev s_parent_of : Stmt := top 26
abbrev s_status : Stmt := top 28
abbrev s_readlink : Stmt := top 29
abbrev s_readdir : Stmt := top 30
abbrev s_stat : Stmt := top 31
abbrev s_lstat : Stmt := top 32
abbrev s_Node_init : Stmt := inClass (top 34) 0
abbrev s_Node_measure : Stmt := inClass (top 34) 2
abbrev s_Node_with_body : Stmt := inClass (top 34) 3
abbrev s_Node_with_links : Stmt := inClass (top 34) 4
abbrev s_add_entry : Stmt := top 38
abbrev s_remove_entry : Stmt := top 39
abbrev s_drop_name : Stmt := top 40
abbrev s_new_number : Stmt := top 41
abbrev s_is_full : Stmt := top 42
abbrev s_free_place : Stmt := top 43
abbrev s_new_node : Stmt := top 44
abbrev s_mkdir : Stmt := top 45
abbrev s_symlink : Stmt := top 46
abbrev s_link : Stmt := top 47
abbrev s_rmdir : Stmt := top 48
abbrev s_unlink : Stmt := top 49
abbrev s_written : Stmt := top 52
abbrev s_resized : Stmt := top 53
abbrev s_file_at : Stmt := top 54
abbrev s_write_file : Stmt := top 55
abbrev s_resize_file : Stmt := top 56
abbrev s_read_file : Stmt := top 57
abbrev s_write_new : Stmt := top 58
abbrev s_write : Stmt := top 59
abbrev s_read : Stmt := top 60
abbrev s_truncate : Stmt := top 61
abbrev s_open_file : Stmt := top 63
abbrev s_opened : Stmt := top 64
abbrev s_close_file : Stmt := top 65
abbrev s_read_at : Stmt := top 66
abbrev s_write_at : Stmt := top 67
abbrev s_resize : Stmt := top 68
abbrev s_stat_at : Stmt := top 69
abbrev s_is_within : Stmt := top 71
abbrev s_check_replaced : Stmt := top 72
abbrev s_rename : Stmt := top 73
abbrev s_make_operation : Stmt := top 76
abbrev s_FileTree_init : Stmt := inClass (top 79) 0
abbrev s_FileTree_is_open : Stmt := inClass (top 79) 2
abbrev s_FileTree_entry : Stmt := inClass (top 79) 3
abbrev s_law_draws : Stmt := top 81
abbrev s_law_path : Stmt := top 82
abbrev s_law_octets : Stmt := top 83
abbrev s_law_target : Stmt := top 84
abbrev s_law_offset : Stmt := top 85
abbrev s_law_operation : Stmt := top 86
abbrev s_law_asking : Stmt := top 87
abbrev s_law_word : Stmt := top 88
abbrev s_law_make : Stmt := top 89
abbrev s_law_names : Stmt := top 90
abbrev s_law_child : Stmt := top 91
abbrev s_law_follow : Stmt := top 92
abbrev s_law_place : Stmt := top 93
abbrev s_law_entry : Stmt := top 94
abbrev s_law_set : Stmt := top 95
abbrev s_law_lose : Stmt := top 96
abbrev s_law_free : Stmt := top 97
abbrev s_law_new : Stmt := top 98
abbrev s_law_written : Stmt := top 99
abbrev s_law_file : Stmt := top 100
abbrev s_law_put : Stmt := top 101
abbrev s_law_write : Stmt := top 102
abbrev s_law_status : Stmt := top 103
abbrev s_law_remove : Stmt := top 104
abbrev s_law_link : Stmt := top 105
abbrev s_law_below : Stmt := top 106
abbrev s_law_replaced : Stmt := top 107
abbrev s_law_rename : Stmt := top 108
abbrev s_law_look : Stmt := top 109
abbrev s_law_content : Stmt := top 110
abbrev s_law_handle : Stmt := top 111
abbrev s_law_due : Stmt := top 112
abbrev s_law_same : Stmt := top 113
abbrev s_law : Stmt := top 114
def d_names_of : He.DefD := ⟨("names_of", none), "names_of", "names_of", defArgs s_names_of, defBody s_names_of, defScope s_names_of, [], []⟩
def d_follow_names : He.DefD := ⟨("follow_names", none), "follow_names", "follow_names", defArgs s_follow_names, defBody s_follow_names, defScope s_follow_names, [], []⟩
def d_follow : He.DefD := ⟨("follow", none), "follow", "follow", defArgs s_follow, defBody s_follow, defScope s_follow, [], []⟩
def d_place_of : He.DefD := ⟨("place_of", none), "place_of", "place_of", defArgs s_place_of, defBody s_place_of, defScope s_place_of, [], []⟩
def d_entry_of : He.DefD := ⟨("entry_of", none), "entry_of", "entry_of", defArgs s_entry_of, defBody s_entry_of, defScope s_entry_of, [], []⟩
def d_parent_of : He.DefD := ⟨("parent_of", none), "parent_of", "parent_of", defArgs s_parent_of, defBody s_parent_of, defScope s_parent_of, [], []⟩
def d_status : He.DefD := ⟨("status", none), "status", "status", defArgs s_status, defBody s_status, defScope s_status, [], []⟩
def d_readlink : He.DefD := ⟨("readlink", none), "readlink", "readlink", defArgs s_readlink, defBody s_readlink, defScope s_readlink, [], []⟩
def d_readdir : He.DefD := ⟨("readdir", none), "readdir", "readdir", defArgs s_readdir, defBody s_readdir, defScope s_readdir, [], []⟩
def d_stat : He.DefD := ⟨("stat", none), "stat", "stat", defArgs s_stat, defBody s_stat, defScope s_stat, [], []⟩
def d_lstat : He.DefD := ⟨("lstat", none), "lstat", "lstat", defArgs s_lstat, defBody s_lstat, defScope s_lstat, [], []⟩
def d_Node_init : He.DefD := ⟨("Node", some "__init__"), "__init__", "Node.__init__", defArgs s_Node_init, defBody s_Node_init, defScope s_Node_init, [], [("links", .int 1)]⟩
def d_Node_measure : He.DefD := ⟨("Node", some "measure"), "measure", "Node.measure", defArgs s_Node_measure, defBody s_Node_measure, defScope s_Node_measure, [], []⟩
def d_Node_with_body : He.DefD := ⟨("Node", some "with_body"), "with_body", "Node.with_body", defArgs s_Node_with_body, defBody s_Node_with_body, defScope s_Node_with_body, [], []⟩
def d_Node_with_links : He.DefD := ⟨("Node", some "with_links"), "with_links", "Node.with_links", defArgs s_Node_with_links, defBody s_Node_with_links, defScope s_Node_with_links, [], []⟩
def d_add_entry : He.DefD := ⟨("add_entry", none), "add_entry", "add_entry", defArgs s_add_entry, defBody s_add_entry, defScope s_add_entry, [], []⟩
def d_remove_entry : He.DefD := ⟨("remove_entry", none), "remove_entry", "remove_entry", defArgs s_remove_entry, defBody s_remove_entry, defScope s_remove_entry, [], []⟩
def d_drop_name : He.DefD := ⟨("drop_name", none), "drop_name", "drop_name", defArgs s_drop_name, defBody s_drop_name, defScope s_drop_name, [], []⟩
def d_new_number : He.DefD := ⟨("new_number", none), "new_number", "new_number", defArgs s_new_number, defBody s_new_number, defScope s_new_number, [], []⟩
def d_is_full : He.DefD := ⟨("is_full", none), "is_full", "is_full", defArgs s_is_full, defBody s_is_full, defScope s_is_full, [], []⟩
def d_free_place : He.DefD := ⟨("free_place", none), "free_place", "free_place", defArgs s_free_place, defBody s_free_place, defScope s_free_place, [], []⟩
def d_new_node : He.DefD := ⟨("new_node", none), "new_node", "new_node", defArgs s_new_node, defBody s_new_node, defScope s_new_node, [], []⟩
def d_mkdir : He.DefD := ⟨("mkdir", none), "mkdir", "mkdir", defArgs s_mkdir, defBody s_mkdir, defScope s_mkdir, [], []⟩
def d_symlink : He.DefD := ⟨("symlink", none), "symlink", "symlink", defArgs s_symlink, defBody s_symlink, defScope s_symlink, [], []⟩
def d_link : He.DefD := ⟨("link", none), "link", "link", defArgs s_link, defBody s_link, defScope s_link, [], []⟩
def d_rmdir : He.DefD := ⟨("rmdir", none), "rmdir", "rmdir", defArgs s_rmdir, defBody s_rmdir, defScope s_rmdir, [], []⟩
def d_unlink : He.DefD := ⟨("unlink", none), "unlink", "unlink", defArgs s_unlink, defBody s_unlink, defScope s_unlink, [], []⟩
def d_written : He.DefD := ⟨("written", none), "written", "written", defArgs s_written, defBody s_written, defScope s_written, [], []⟩
def d_resized : He.DefD := ⟨("resized", none), "resized", "resized", defArgs s_resized, defBody s_resized, defScope s_resized, [], []⟩
def d_file_at : He.DefD := ⟨("file_at", none), "file_at", "file_at", defArgs s_file_at, defBody s_file_at, defScope s_file_at, [], []⟩
def d_write_file : He.DefD := ⟨("write_file", none), "write_file", "write_file", defArgs s_write_file, defBody s_write_file, defScope s_write_file, [], []⟩
def d_resize_file : He.DefD := ⟨("resize_file", none), "resize_file", "resize_file", defArgs s_resize_file, defBody s_resize_file, defScope s_resize_file, [], []⟩
def d_read_file : He.DefD := ⟨("read_file", none), "read_file", "read_file", defArgs s_read_file, defBody s_read_file, defScope s_read_file, [], []⟩
def d_write_new : He.DefD := ⟨("write_new", none), "write_new", "write_new", defArgs s_write_new, defBody s_write_new, defScope s_write_new, [], []⟩
def d_write : He.DefD := ⟨("write", none), "write", "write", defArgs s_write, defBody s_write, defScope s_write, [], []⟩
def d_read : He.DefD := ⟨("read", none), "read", "read", defArgs s_read, defBody s_read, defScope s_read, [], []⟩
def d_truncate : He.DefD := ⟨("truncate", none), "truncate", "truncate", defArgs s_truncate, defBody s_truncate, defScope s_truncate, [], []⟩
def d_open_file : He.DefD := ⟨("open_file", none), "open_file", "open_file", defArgs s_open_file, defBody s_open_file, defScope s_open_file, [], []⟩
def d_opened : He.DefD := ⟨("opened", none), "opened", "opened", defArgs s_opened, defBody s_opened, defScope s_opened, [], []⟩
def d_close_file : He.DefD := ⟨("close_file", none), "close_file", "close_file", defArgs s_close_file, defBody s_close_file, defScope s_close_file, [], []⟩
def d_read_at : He.DefD := ⟨("read_at", none), "read_at", "read_at", defArgs s_read_at, defBody s_read_at, defScope s_read_at, [], []⟩
def d_write_at : He.DefD := ⟨("write_at", none), "write_at", "write_at", defArgs s_write_at, defBody s_write_at, defScope s_write_at, [], []⟩
def d_resize : He.DefD := ⟨("resize", none), "resize", "resize", defArgs s_resize, defBody s_resize, defScope s_resize, [], []⟩
def d_stat_at : He.DefD := ⟨("stat_at", none), "stat_at", "stat_at", defArgs s_stat_at, defBody s_stat_at, defScope s_stat_at, [], []⟩
def d_is_within : He.DefD := ⟨("is_within", none), "is_within", "is_within", defArgs s_is_within, defBody s_is_within, defScope s_is_within, [], []⟩
def d_check_replaced : He.DefD := ⟨("check_replaced", none), "check_replaced", "check_replaced", defArgs s_check_replaced, defBody s_check_replaced, defScope s_check_replaced, [], []⟩
def d_rename : He.DefD := ⟨("rename", none), "rename", "rename", defArgs s_rename, defBody s_rename, defScope s_rename, [], []⟩
def d_make_operation : He.DefD := ⟨("make_operation", none), "make_operation", "make_operation", defArgs s_make_operation, defBody s_make_operation, defScope s_make_operation, [], []⟩
def d_FileTree_init : He.DefD := ⟨("FileTree", some "__init__"), "__init__", "FileTree.__init__", defArgs s_FileTree_init, defBody s_FileTree_init, defScope s_FileTree_init, [], []⟩
def d_FileTree_is_open : He.DefD := ⟨("FileTree", some "is_open"), "is_open", "FileTree.is_open", defArgs s_FileTree_is_open, defBody s_FileTree_is_open, defScope s_FileTree_is_open, [], []⟩
def d_FileTree_entry : He.DefD := ⟨("FileTree", some "entry"), "entry", "FileTree.entry", defArgs s_FileTree_entry, defBody s_FileTree_entry, defScope s_FileTree_entry, [], []⟩
def d_law_draws : He.DefD := ⟨("_law_draws", none), "_law_draws", "_law_draws", defArgs s_law_draws, defBody s_law_draws, defScope s_law_draws, [], []⟩
def d_law_path : He.DefD := ⟨("_law_path", none), "_law_path", "_law_path", defArgs s_law_path, defBody s_law_path, defScope s_law_path, [], []⟩
def d_law_octets : He.DefD := ⟨("_law_octets", none), "_law_octets", "_law_octets", defArgs s_law_octets, defBody s_law_octets, defScope s_law_octets, [], []⟩
def d_law_target : He.DefD := ⟨("_law_target", none), "_law_target", "_law_target", defArgs s_law_target, defBody s_law_target, defScope s_law_target, [], []⟩
def d_law_offset : He.DefD := ⟨("_law_offset", none), "_law_offset", "_law_offset", defArgs s_law_offset, defBody s_law_offset, defScope s_law_offset, [], []⟩
def d_law_operation : He.DefD := ⟨("_law_operation", none), "_law_operation", "_law_operation", defArgs s_law_operation, defBody s_law_operation, defScope s_law_operation, [], []⟩
def d_law_asking : He.DefD := ⟨("_law_asking", none), "_law_asking", "_law_asking", defArgs s_law_asking, defBody s_law_asking, defScope s_law_asking, [], []⟩
def d_law_word : He.DefD := ⟨("_law_word", none), "_law_word", "_law_word", defArgs s_law_word, defBody s_law_word, defScope s_law_word, [], []⟩
def d_law_make : He.DefD := ⟨("_law_make", none), "_law_make", "_law_make", defArgs s_law_make, defBody s_law_make, defScope s_law_make, [], []⟩
def d_law_names : He.DefD := ⟨("_law_names", none), "_law_names", "_law_names", defArgs s_law_names, defBody s_law_names, defScope s_law_names, [], []⟩
def d_law_child : He.DefD := ⟨("_law_child", none), "_law_child", "_law_child", defArgs s_law_child, defBody s_law_child, defScope s_law_child, [], []⟩
def d_law_follow : He.DefD := ⟨("_law_follow", none), "_law_follow", "_law_follow", defArgs s_law_follow, defBody s_law_follow, defScope s_law_follow, [], []⟩
def d_law_place : He.DefD := ⟨("_law_place", none), "_law_place", "_law_place", defArgs s_law_place, defBody s_law_place, defScope s_law_place, [], []⟩
def d_law_entry : He.DefD := ⟨("_law_entry", none), "_law_entry", "_law_entry", defArgs s_law_entry, defBody s_law_entry, defScope s_law_entry, [], []⟩
def d_law_set : He.DefD := ⟨("_law_set", none), "_law_set", "_law_set", defArgs s_law_set, defBody s_law_set, defScope s_law_set, [], []⟩
def d_law_lose : He.DefD := ⟨("_law_lose", none), "_law_lose", "_law_lose", defArgs s_law_lose, defBody s_law_lose, defScope s_law_lose, [], []⟩
def d_law_free : He.DefD := ⟨("_law_free", none), "_law_free", "_law_free", defArgs s_law_free, defBody s_law_free, defScope s_law_free, [], []⟩
def d_law_new : He.DefD := ⟨("_law_new", none), "_law_new", "_law_new", defArgs s_law_new, defBody s_law_new, defScope s_law_new, [], []⟩
def d_law_written : He.DefD := ⟨("_law_written", none), "_law_written", "_law_written", defArgs s_law_written, defBody s_law_written, defScope s_law_written, [], []⟩
def d_law_file : He.DefD := ⟨("_law_file", none), "_law_file", "_law_file", defArgs s_law_file, defBody s_law_file, defScope s_law_file, [], []⟩
def d_law_put : He.DefD := ⟨("_law_put", none), "_law_put", "_law_put", defArgs s_law_put, defBody s_law_put, defScope s_law_put, [], []⟩
def d_law_write : He.DefD := ⟨("_law_write", none), "_law_write", "_law_write", defArgs s_law_write, defBody s_law_write, defScope s_law_write, [], []⟩
def d_law_status : He.DefD := ⟨("_law_status", none), "_law_status", "_law_status", defArgs s_law_status, defBody s_law_status, defScope s_law_status, [], []⟩
def d_law_remove : He.DefD := ⟨("_law_remove", none), "_law_remove", "_law_remove", defArgs s_law_remove, defBody s_law_remove, defScope s_law_remove, [], []⟩
def d_law_link : He.DefD := ⟨("_law_link", none), "_law_link", "_law_link", defArgs s_law_link, defBody s_law_link, defScope s_law_link, [], []⟩
def d_law_below : He.DefD := ⟨("_law_below", none), "_law_below", "_law_below", defArgs s_law_below, defBody s_law_below, defScope s_law_below, [], []⟩
def d_law_replaced : He.DefD := ⟨("_law_replaced", none), "_law_replaced", "_law_replaced", defArgs s_law_replaced, defBody s_law_replaced, defScope s_law_replaced, [], []⟩
def d_law_rename : He.DefD := ⟨("_law_rename", none), "_law_rename", "_law_rename", defArgs s_law_rename, defBody s_law_rename, defScope s_law_rename, [], []⟩
def d_law_look : He.DefD := ⟨("_law_look", none), "_law_look", "_law_look", defArgs s_law_look, defBody s_law_look, defScope s_law_look, [], []⟩
def d_law_content : He.DefD := ⟨("_law_content", none), "_law_content", "_law_content", defArgs s_law_content, defBody s_law_content, defScope s_law_content, [], []⟩
def d_law_handle : He.DefD := ⟨("_law_handle", none), "_law_handle", "_law_handle", defArgs s_law_handle, defBody s_law_handle, defScope s_law_handle, [], []⟩
def d_law_due : He.DefD := ⟨("_law_due", none), "_law_due", "_law_due", defArgs s_law_due, defBody s_law_due, defScope s_law_due, [], []⟩
def d_law_same : He.DefD := ⟨("_law_same", none), "_law_same", "_law_same", defArgs s_law_same, defBody s_law_same, defScope s_law_same, [], []⟩
def d_law : He.DefD := ⟨("law", none), "law", "law", defArgs s_law, defBody s_law, defScope s_law, [], []⟩
def fn0 : List He.DefD := [d_names_of, d_follow_names, d_follow, d_place_of, d_entry_of, d_parent_of, d_status, d_readlink, d_readdir, d_stat, d_lstat, d_Node_init, d_Node_measure, d_Node_with_body, d_Node_with_links, d_add_entry, d_remove_entry, d_drop_name, d_new_number, d_is_full]
def fn1 : List He.DefD := [d_free_place, d_new_node, d_mkdir, d_symlink, d_link, d_rmdir, d_unlink, d_written, d_resized, d_file_at, d_write_file, d_resize_file, d_read_file, d_write_new, d_write, d_read, d_truncate, d_open_file, d_opened, d_close_file]
def fn2 : List He.DefD := [d_read_at, d_write_at, d_resize, d_stat_at, d_is_within, d_check_replaced, d_rename, d_make_operation, d_FileTree_init, d_FileTree_is_open, d_FileTree_entry, d_law_draws, d_law_path, d_law_octets, d_law_target, d_law_offset, d_law_operation, d_law_asking, d_law_word, d_law_make]
def fn3 : List He.DefD := [d_law_names, d_law_child, d_law_follow, d_law_place, d_law_entry, d_law_set, d_law_lose, d_law_free, d_law_new, d_law_written, d_law_file, d_law_put, d_law_write, d_law_status, d_law_remove, d_law_link, d_law_below, d_law_replaced, d_law_rename, d_law_look]
def fn4 : List He.DefD := [d_law_content, d_law_handle, d_law_due, d_law_same, d_law]
def fnL : List He.DefD := fn0 ++ (fn1 ++ (fn2 ++ (fn3 ++ (fn4))))
def fa0 : List He.Fa := [.cls "Node", .mkr "Node", .noat "Node" "kind", .noat "Node" "body", .noat "Node" "links", .meth "Node" "measure", .meth "Node" "with_body", .meth "Node" "with_links", .cls "FileTree", .mkr "FileTree", .noat "FileTree" "nodes", .noat "FileTree" "handles", .meth "FileTree" "is_open", .meth "FileTree" "entry", .int "LINKS_MOST" 8, .int "NUMBERS" 256, .int "ENTRIES_MOST" 64, .int "FILE_MOST" 28672, .int "HANDLES" 16, .glo "ACTIONS", .glo "FileError", .keep "Node", .keep "FileTree"]
def fa1 : List He.Fa := [.free "len", .free "list", .free "tuple", .free "sorted", .free "range", .free "int", .free "repr", .free "isinstance"]
def fa2 : List He.Fa := [.glo "NotDirectory", .glo "NotFound", .glo "TooManyLinks", .glo "RootFixed", .glo "IsDirectory", .glo "FileTooLarge", .glo "AlreadyExists", .glo "DirectoryFull", .glo "NotEmpty", .glo "NotLink", .glo "TooManyOpen", .glo "TooManyFiles", .glo "WithinItself", .glo "NotOpen"]
def fa3 : List He.Fa := [.exc "NotDirectory", .exc "NotFound", .exc "TooManyLinks", .exc "RootFixed", .exc "IsDirectory", .exc "FileTooLarge", .exc "AlreadyExists", .exc "DirectoryFull", .exc "NotEmpty", .exc "NotLink", .exc "TooManyOpen", .exc "TooManyFiles", .exc "WithinItself", .exc "NotOpen"]
def fa4 : List He.Fa := [.exm "NotDirectory" "FileError" true, .exm "NotFound" "FileError" true, .exm "TooManyLinks" "FileError" true, .exm "RootFixed" "FileError" true, .exm "IsDirectory" "FileError" true, .exm "FileTooLarge" "FileError" true, .exm "AlreadyExists" "FileError" true, .exm "DirectoryFull" "FileError" true, .exm "NotEmpty" "FileError" true, .exm "NotLink" "FileError" true, .exm "TooManyOpen" "FileError" true, .exm "TooManyFiles" "FileError" true, .exm "WithinItself" "FileError" true, .exm "NotOpen" "FileError" true]
def fa5 : List He.Fa := [.exm "NotDirectory" "NotFound" false, .exm "NotFound" "NotFound" true, .exm "TooManyLinks" "NotFound" false, .exm "RootFixed" "NotFound" false, .exm "IsDirectory" "NotFound" false, .exm "FileTooLarge" "NotFound" false, .exm "AlreadyExists" "NotFound" false, .exm "DirectoryFull" "NotFound" false, .exm "NotEmpty" "NotFound" false, .exm "NotLink" "NotFound" false, .exm "TooManyOpen" "NotFound" false, .exm "TooManyFiles" "NotFound" false, .exm "WithinItself" "NotFound" false, .exm "NotOpen" "NotFound" false]
def fa6 : List He.Fa := [.glo "Node", .glo "FileTree", .glo "names_of", .glo "follow_names", .glo "follow", .glo "place_of", .glo "entry_of", .glo "parent_of", .glo "status", .glo "readlink", .glo "readdir", .glo "stat", .glo "lstat", .glo "add_entry", .glo "remove_entry", .glo "drop_name", .glo "new_number", .glo "is_full", .glo "free_place", .glo "new_node"]
def fa7 : List He.Fa := [.glo "mkdir", .glo "symlink", .glo "link", .glo "rmdir", .glo "unlink", .glo "written", .glo "resized", .glo "file_at", .glo "write_file", .glo "resize_file", .glo "read_file", .glo "write_new", .glo "write", .glo "read", .glo "truncate", .glo "open_file", .glo "opened", .glo "close_file", .glo "read_at", .glo "write_at"]
def fa8 : List He.Fa := [.glo "resize", .glo "stat_at", .glo "is_within", .glo "check_replaced", .glo "rename", .glo "make_operation", .glo "_law_draws", .glo "_law_path", .glo "_law_octets", .glo "_law_target", .glo "_law_offset", .glo "_law_operation", .glo "_law_asking", .glo "_law_word", .glo "_law_make", .glo "_law_names", .glo "_law_child", .glo "_law_follow", .glo "_law_place", .glo "_law_entry"]
def fa9 : List He.Fa := [.glo "_law_set", .glo "_law_lose", .glo "_law_free", .glo "_law_new", .glo "_law_written", .glo "_law_file", .glo "_law_put", .glo "_law_write", .glo "_law_status", .glo "_law_remove", .glo "_law_link", .glo "_law_below", .glo "_law_replaced", .glo "_law_rename", .glo "_law_look", .glo "_law_content", .glo "_law_handle", .glo "_law_due", .glo "_law_same", .glo "law"]
def faL : List He.Fa := fa0 ++ (fa1 ++ (fa2 ++ (fa3 ++ (fa4 ++ (fa5 ++ (fa6 ++ (fa7 ++ (fa8 ++ (fa9)))))))))
/-- what an error class of the text is known by -/
structure ExF (K : PySem.W.Frag) (mg : Str → Option Value) (x : Str) : Prop where
  g : mg x = some (.ref (He.ga K x))
  f : PySem.W.excIn K (He.ga K x) He.veBase "ValueError.__new__" = true ∧ PySem.W.keepIn K (.ref (He.ga K x)) = true ∧ PySem.W.subIn K (.ref (He.ga K x)) (.type "BaseException") = some true ∧ PySem.W.typeIn K (.ref (He.ga K x)) = some (.type "type")
/-- what the top has left -/
structure Tx (K : PySem.W.Frag) (mg : Str → Option Value) : Prop where
  fact : ∀ (i : Nat) {f : He.Fa}, faL[i]? = some f → f.ok K = true
  defs : ∀ (i : Nat) {d : He.DefD}, fnL[i]? = some d → ∃ fd, FunD K d.name d.qual d.params d.body d.scope (d.dvs K) (d.kws K) (He.fAd K d.at_) fd
  glo : ∀ {x : Str}, (He.Fa.glo x).ok K = true → mg x = some (.ref (He.ga K x))
  free : ∀ {x : Str}, (He.Fa.free x).ok K = true → mg x = none
  int : ∀ {x : Str} {i : Int}, (He.Fa.int x i).ok K = true → ∃ t, mg x = some (.int i t)
section
variable {K : PySem.W.Frag} {mg : Str → Option Value}
theorem f_len (T : Tx K mg) : mg "len" = none := T.free (T.fact 23 rfl)
theorem f_list (T : Tx K mg) : mg "list" = none := T.free (T.fact 24 rfl)
theorem f_tuple (T : Tx K mg) : mg "tuple" = none := T.free (T.fact 25 rfl)
theorem f_sorted (T : Tx K mg) : mg "sorted" = none := T.free (T.fact 26 rfl)
theorem f_range (T : Tx K mg) : mg "range" = none := T.free (T.fact 27 rfl)
theorem f_int (T : Tx K mg) : mg "int" = none := T.free (T.fact 28 rfl)
theorem f_repr (T : Tx K mg) : mg "repr" = none := T.free (T.fact 29 rfl)
theorem f_isinstance (T : Tx K mg) : mg "isinstance" = none := T.free (T.fact 30 rfl)
theorem c_Node (T : Tx K mg) : mg "Node" = some (.ref (He.ga K "Node")) := T.glo (T.fact 87 rfl)
theorem c_FileTree (T : Tx K mg) : mg "FileTree" = some (.ref (He.ga K "FileTree")) := T.glo (T.fact 88 rfl)
theorem g_names_of (T : Tx K mg) : mg "names_of" = some (.ref (He.ga K "names_of")) := T.glo (T.fact 89 rfl)
theorem g_follow_names (T : Tx K mg) : mg "follow_names" = some (.ref (He.ga K "follow_names")) := T.glo (T.fact 90 rfl)
theorem g_follow (T : Tx K mg) : mg "follow" = some (.ref (He.ga K "follow")) := T.glo (T.fact 91 rfl)
theorem g_place_of (T : Tx K mg) : mg "place_of" = some (.ref (He.ga K "place_of")) := T.glo (T.fact 92 rfl)
theorem g_entry_of (T : Tx K mg) : mg "entry_of" = some (.ref (He.ga K "entry_of")) := T.glo (T.fact 93 rfl)
theorem g_parent_of (T : Tx K mg) : mg "parent_of" = some (.ref (He.ga K "parent_of")) := T.glo (T.fact 94 rfl)
theorem g_status (T : Tx K mg) : mg "status" = some (.ref (He.ga K "status")) := T.glo (T.fact 95 rfl)
theorem g_readlink (T : Tx K mg) : mg "readlink" = some (.ref (He.ga K "readlink")) := T.glo (T.fact 96 rfl)
theorem g_readdir (T : Tx K mg) : mg "readdir" = some (.ref (He.ga K "readdir")) := T.glo (T.fact 97 rfl)
theorem g_stat (T : Tx K mg) : mg "stat" = some (.ref (He.ga K "stat")) := T.glo (T.fact 98 rfl)
theorem g_lstat (T : Tx K mg) : mg "lstat" = some (.ref (He.ga K "lstat")) := T.glo (T.fact 99 rfl)
theorem g_add_entry (T : Tx K mg) : mg "add_entry" = some (.ref (He.ga K "add_entry")) := T.glo (T.fact 100 rfl)
theorem g_remove_entry (T : Tx K mg) : mg "remove_entry" = some (.ref (He.ga K "remove_entry")) := T.glo (T.fact 101 rfl)
theorem g_drop_name (T : Tx K mg) : mg "drop_name" = some (.ref (He.ga K "drop_name")) := T.glo (T.fact 102 rfl)
theorem g_new_number (T : Tx K mg) : mg "new_number" = some (.ref (He.ga K "new_number")) := T.glo (T.fact 103 rfl)
theorem g_is_full (T : Tx K mg) : mg "is_full" = some (.ref (He.ga K "is_full")) := T.glo (T.fact 104 rfl)
theorem g_free_place (T : Tx K mg) : mg "free_place" = some (.ref (He.ga K "free_place")) := T.glo (T.fact 105 rfl)
theorem g_new_node (T : Tx K mg) : mg "new_node" = some (.ref (He.ga K "new_node")) := T.glo (T.fact 106 rfl)
theorem g_mkdir (T : Tx K mg) : mg "mkdir" = some (.ref (He.ga K "mkdir")) := T.glo (T.fact 107 rfl)
theorem g_symlink (T : Tx K mg) : mg "symlink" = some (.ref (He.ga K "symlink")) := T.glo (T.fact 108 rfl)
theorem g_link (T : Tx K mg) : mg "link" = some (.ref (He.ga K "link")) := T.glo (T.fact 109 rfl)
theorem g_rmdir (T : Tx K mg) : mg "rmdir" = some (.ref (He.ga K "rmdir")) := T.glo (T.fact 110 rfl)
theorem g_unlink (T : Tx K mg) : mg "unlink" = some (.ref (He.ga K "unlink")) := T.glo (T.fact 111 rfl)
theorem g_written (T : Tx K mg) : mg "written" = some (.ref (He.ga K "written")) := T.glo (T.fact 112 rfl)
theorem g_resized (T : Tx K mg) : mg "resized" = some (.ref (He.ga K "resized")) := T.glo (T.fact 113 rfl)
theorem g_file_at (T : Tx K mg) : mg "file_at" = some (.ref (He.ga K "file_at")) := T.glo (T.fact 114 rfl)
theorem g_write_file (T : Tx K mg) : mg "write_file" = some (.ref (He.ga K "write_file")) := T.glo (T.fact 115 rfl)
theorem g_resize_file (T : Tx K mg) : mg "resize_file" = some (.ref (He.ga K "resize_file")) := T.glo (T.fact 116 rfl)
theorem g_read_file (T : Tx K mg) : mg "read_file" = some (.ref (He.ga K "read_file")) := T.glo (T.fact 117 rfl)
theorem g_write_new (T : Tx K mg) : mg "write_new" = some (.ref (He.ga K "write_new")) := T.glo (T.fact 118 rfl)
theorem g_write (T : Tx K mg) : mg "write" = some (.ref (He.ga K "write")) := T.glo (T.fact 119 rfl)
theorem g_read (T : Tx K mg) : mg "read" = some (.ref (He.ga K "read")) := T.glo (T.fact 120 rfl)
theorem g_truncate (T : Tx K mg) : mg "truncate" = some (.ref (He.ga K "truncate")) := T.glo (T.fact 121 rfl)
theorem g_open_file (T : Tx K mg) : mg "open_file" = some (.ref (He.ga K "open_file")) := T.glo (T.fact 122 rfl)
theorem g_opened (T : Tx K mg) : mg "opened" = some (.ref (He.ga K "opened")) := T.glo (T.fact 123 rfl)
theorem g_close_file (T : Tx K mg) : mg "close_file" = some (.ref (He.ga K "close_file")) := T.glo (T.fact 124 rfl)
theorem g_read_at (T : Tx K mg) : mg "read_at" = some (.ref (He.ga K "read_at")) := T.glo (T.fact 125 rfl)
theorem g_write_at (T : Tx K mg) : mg "write_at" = some (.ref (He.ga K "write_at")) := T.glo (T.fact 126 rfl)
theorem g_resize (T : Tx K mg) : mg "resize" = some (.ref (He.ga K "resize")) := T.glo (T.fact 127 rfl)
theorem g_stat_at (T : Tx K mg) : mg "stat_at" = some (.ref (He.ga K "stat_at")) := T.glo (T.fact 128 rfl)
theorem g_is_within (T : Tx K mg) : mg "is_within" = some (.ref (He.ga K "is_within")) := T.glo (T.fact 129 rfl)
theorem g_check_replaced (T : Tx K mg) : mg "check_replaced" = some (.ref (He.ga K "check_replaced")) := T.glo (T.fact 130 rfl)
theorem g_rename (T : Tx K mg) : mg "rename" = some (.ref (He.ga K "rename")) := T.glo (T.fact 131 rfl)
theorem g_make_operation (T : Tx K mg) : mg "make_operation" = some (.ref (He.ga K "make_operation")) := T.glo (T.fact 132 rfl)
theorem g_law_draws (T : Tx K mg) : mg "_law_draws" = some (.ref (He.ga K "_law_draws")) := T.glo (T.fact 133 rfl)
theorem g_law_path (T : Tx K mg) : mg "_law_path" = some (.ref (He.ga K "_law_path")) := T.glo (T.fact 134 rfl)
theorem g_law_octets (T : Tx K mg) : mg "_law_octets" = some (.ref (He.ga K "_law_octets")) := T.glo (T.fact 135 rfl)
theorem g_law_target (T : Tx K mg) : mg "_law_target" = some (.ref (He.ga K "_law_target")) := T.glo (T.fact 136 rfl)
theorem g_law_offset (T : Tx K mg) : mg "_law_offset" = some (.ref (He.ga K "_law_offset")) := T.glo (T.fact 137 rfl)
theorem g_law_operation (T : Tx K mg) : mg "_law_operation" = some (.ref (He.ga K "_law_operation")) := T.glo (T.fact 138 rfl)
theorem g_law_asking (T : Tx K mg) : mg "_law_asking" = some (.ref (He.ga K "_law_asking")) := T.glo (T.fact 139 rfl)
theorem g_law_word (T : Tx K mg) : mg "_law_word" = some (.ref (He.ga K "_law_word")) := T.glo (T.fact 140 rfl)
theorem g_law_make (T : Tx K mg) : mg "_law_make" = some (.ref (He.ga K "_law_make")) := T.glo (T.fact 141 rfl)
theorem g_law_names (T : Tx K mg) : mg "_law_names" = some (.ref (He.ga K "_law_names")) := T.glo (T.fact 142 rfl)
theorem g_law_child (T : Tx K mg) : mg "_law_child" = some (.ref (He.ga K "_law_child")) := T.glo (T.fact 143 rfl)
theorem g_law_follow (T : Tx K mg) : mg "_law_follow" = some (.ref (He.ga K "_law_follow")) := T.glo (T.fact 144 rfl)
theorem g_law_place (T : Tx K mg) : mg "_law_place" = some (.ref (He.ga K "_law_place")) := T.glo (T.fact 145 rfl)
theorem g_law_entry (T : Tx K mg) : mg "_law_entry" = some (.ref (He.ga K "_law_entry")) := T.glo (T.fact 146 rfl)
theorem g_law_set (T : Tx K mg) : mg "_law_set" = some (.ref (He.ga K "_law_set")) := T.glo (T.fact 147 rfl)
theorem g_law_lose (T : Tx K mg) : mg "_law_lose" = some (.ref (He.ga K "_law_lose")) := T.glo (T.fact 148 rfl)
theorem g_law_free (T : Tx K mg) : mg "_law_free" = some (.ref (He.ga K "_law_free")) := T.glo (T.fact 149 rfl)
theorem g_law_new (T : Tx K mg) : mg "_law_new" = some (.ref (He.ga K "_law_new")) := T.glo (T.fact 150 rfl)
theorem g_law_written (T : Tx K mg) : mg "_law_written" = some (.ref (He.ga K "_law_written")) := T.glo (T.fact 151 rfl)
theorem g_law_file (T : Tx K mg) : mg "_law_file" = some (.ref (He.ga K "_law_file")) := T.glo (T.fact 152 rfl)
theorem g_law_put (T : Tx K mg) : mg "_law_put" = some (.ref (He.ga K "_law_put")) := T.glo (T.fact 153 rfl)
theorem g_law_write (T : Tx K mg) : mg "_law_write" = some (.ref (He.ga K "_law_write")) := T.glo (T.fact 154 rfl)
theorem g_law_status (T : Tx K mg) : mg "_law_status" = some (.ref (He.ga K "_law_status")) := T.glo (T.fact 155 rfl)
theorem g_law_remove (T : Tx K mg) : mg "_law_remove" = some (.ref (He.ga K "_law_remove")) := T.glo (T.fact 156 rfl)
theorem g_law_link (T : Tx K mg) : mg "_law_link" = some (.ref (He.ga K "_law_link")) := T.glo (T.fact 157 rfl)
theorem g_law_below (T : Tx K mg) : mg "_law_below" = some (.ref (He.ga K "_law_below")) := T.glo (T.fact 158 rfl)
theorem g_law_replaced (T : Tx K mg) : mg "_law_replaced" = some (.ref (He.ga K "_law_replaced")) := T.glo (T.fact 159 rfl)
theorem g_law_rename (T : Tx K mg) : mg "_law_rename" = some (.ref (He.ga K "_law_rename")) := T.glo (T.fact 160 rfl)
theorem g_law_look (T : Tx K mg) : mg "_law_look" = some (.ref (He.ga K "_law_look")) := T.glo (T.fact 161 rfl)
theorem g_law_content (T : Tx K mg) : mg "_law_content" = some (.ref (He.ga K "_law_content")) := T.glo (T.fact 162 rfl)
theorem g_law_handle (T : Tx K mg) : mg "_law_handle" = some (.ref (He.ga K "_law_handle")) := T.glo (T.fact 163 rfl)
theorem g_law_due (T : Tx K mg) : mg "_law_due" = some (.ref (He.ga K "_law_due")) := T.glo (T.fact 164 rfl)
theorem g_law_same (T : Tx K mg) : mg "_law_same" = some (.ref (He.ga K "_law_same")) := T.glo (T.fact 165 rfl)
theorem g_law (T : Tx K mg) : mg "law" = some (.ref (He.ga K "law")) := T.glo (T.fact 166 rfl)
theorem df_names_of (T : Tx K mg) : ∃ fd, FunD K "names_of" "names_of" (defArgs s_names_of) (defBody s_names_of) (defScope s_names_of) [] [] (He.ga K "names_of") fd := T.defs 0 (d := d_names_of) rfl
theorem k_names_of (T : Tx K mg) : PySem.W.keepIn K (.ref (He.ga K "names_of")) = true := let ⟨_, F⟩ := df_names_of T; F.kp
theorem df_follow_names (T : Tx K mg) : ∃ fd, FunD K "follow_names" "follow_names" (defArgs s_follow_names) (defBody s_follow_names) (defScope s_follow_names) [] [] (He.ga K "follow_names") fd := T.defs 1 (d := d_follow_names) rfl
theorem k_follow_names (T : Tx K mg) : PySem.W.keepIn K (.ref (He.ga K "follow_names")) = true := let ⟨_, F⟩ := df_follow_names T; F.kp
theorem df_follow (T : Tx K mg) : ∃ fd, FunD K "follow" "follow" (defArgs s_follow) (defBody s_follow) (defScope s_follow) [] [] (He.ga K "follow") fd := T.defs 2 (d := d_follow) rfl
theorem k_follow (T : Tx K mg) : PySem.W.keepIn K (.ref (He.ga K "follow")) = true := let ⟨_, F⟩ := df_follow T; F.kp
theorem df_place_of (T : Tx K mg) : ∃ fd, FunD K "place_of" "place_of" (defArgs s_place_of) (defBody s_place_of) (defScope s_place_of) [] [] (He.ga K "place_of") fd := T.defs 3 (d := d_place_of) rfl
theorem k_place_of (T : Tx K mg) : PySem.W.keepIn K (.ref (He.ga K "place_of")) = true := let ⟨_, F⟩ := df_place_of T; F.kp
theorem df_entry_of (T : Tx K mg) : ∃ fd, FunD K "entry_of" "entry_of" (defArgs s_entry_of) (defBody s_entry_of) (defScope s_entry_of) [] [] (He.ga K "entry_of") fd := T.defs 4 (d := d_entry_of) rfl
theorem k_entry_of (T : Tx K mg) : PySem.W.keepIn K (.ref (He.ga K "entry_of")) = true := let ⟨_, F⟩ := df_entry_of T; F.kp
theorem df_parent_of (T : Tx K mg) : ∃ fd, FunD K "parent_of" "parent_of" (defArgs s_parent_of) (defBody s_parent_of) (defScope s_parent_of) [] [] (He.ga K "parent_of") fd := T.defs 5 (d := d_parent_of) rfl
theorem k_parent_of (T : Tx K mg) : PySem.W.keepIn K (.ref (He.ga K "parent_of")) = true := let ⟨_, F⟩ := df_parent_of T; F.kp
theorem df_status (T : Tx K mg) : ∃ fd, FunD K "status" "status" (defArgs s_status) (defBody s_status) (defScope s_status) [] [] (He.ga K "status") fd := T.defs 6 (d := d_status) rfl
theorem k_status (T : Tx K mg) : PySem.W.keepIn K (.ref (He.ga K "status")) = true := let ⟨_, F⟩ := df_status T; F.kp
theorem df_readlink (T : Tx K mg) : ∃ fd, FunD K "readlink" "readlink" (defArgs s_readlink) (defBody s_readlink) (defScope s_readlink) [] [] (He.ga K "readlink") fd := T.defs 7 (d := d_readlink) rfl
theorem k_readlink (T : Tx K mg) : PySem.W.keepIn K (.ref (He.ga K "readlink")) = true := let ⟨_, F⟩ := df_readlink T; F.kp
theorem df_readdir (T : Tx K mg) : ∃ fd, FunD K "readdir" "readdir" (defArgs s_readdir) (defBody s_readdir) (defScope s_readdir) [] [] (He.ga K "readdir") fd := T.defs 8 (d := d_readdir) rfl
theorem k_readdir (T : Tx K mg) : PySem.W.keepIn K (.ref (He.ga K "readdir")) = true := let ⟨_, F⟩ := df_readdir T; F.kp
theorem df_stat (T : Tx K mg) : ∃ fd, FunD K "stat" "stat" (defArgs s_stat) (defBody s_stat) (defScope s_stat) [] [] (He.ga K "stat") fd := T.defs 9 (d := d_stat) rfl
theorem k_stat (T : Tx K mg) : PySem.W.keepIn K (.ref (He.ga K "stat")) = true := let ⟨_, F⟩ := df_stat T; F.kp
theorem df_lstat (T : Tx K mg) : ∃ fd, FunD K "lstat" "lstat" (defArgs s_lstat) (defBody s_lstat) (defScope s_lstat) [] [] (He.ga K "lstat") fd := T.defs 10 (d := d_lstat) rfl
theorem k_lstat (T : Tx K mg) : PySem.W.keepIn K (.ref (He.ga K "lstat")) = true := let ⟨_, F⟩ := df_lstat T; F.kp
theorem df_Node_measure (T : Tx K mg) : ∃ fd, FunD K "measure" "Node.measure" (defArgs s_Node_measure) (defBody s_Node_measure) (defScope s_Node_measure) [] [] (He.ma K (He.ga K "Node") "measure") fd := T.defs 12 (d := d_Node_measure) rfl
theorem k_Node_measure (T : Tx K mg) : PySem.W.keepIn K (.ref (He.ma K (He.ga K "Node") "measure")) = true := let ⟨_, F⟩ := df_Node_measure T; F.kp
theorem df_Node_with_body (T : Tx K mg) : ∃ fd, FunD K "with_body" "Node.with_body" (defArgs s_Node_with_body) (defBody s_Node_with_body) (defScope s_Node_with_body) [] [] (He.ma K (He.ga K "Node") "with_body") fd := T.defs 13 (d := d_Node_with_body) rfl
theorem k_Node_with_body (T : Tx K mg) : PySem.W.keepIn K (.ref (He.ma K (He.ga K "Node") "with_body")) = true := let ⟨_, F⟩ := df_Node_with_body T; F.kp
theorem df_Node_with_links (T : Tx K mg) : ∃ fd, FunD K "with_links" "Node.with_links" (defArgs s_Node_with_links) (defBody s_Node_with_links) (defScope s_Node_with_links) [] [] (He.ma K (He.ga K "Node") "with_links") fd := T.defs 14 (d := d_Node_with_links) rfl
theorem k_Node_with_links (T : Tx K mg) : PySem.W.keepIn K (.ref (He.ma K (He.ga K "Node") "with_links")) = true := let ⟨_, F⟩ := df_Node_with_links T; F.kp
theorem df_add_entry (T : Tx K mg) : ∃ fd, FunD K "add_entry" "add_entry" (defArgs s_add_entry) (defBody s_add_entry) (defScope s_add_entry) [] [] (He.ga K "add_entry") fd := T.defs 15 (d := d_add_entry) rfl
theorem k_add_entry (T : Tx K mg) : PySem.W.keepIn K (.ref (He.ga K "add_entry")) = true := let ⟨_, F⟩ := df_add_entry T; F.kp
theorem df_remove_entry (T : Tx K mg) : ∃ fd, FunD K "remove_entry" "remove_entry" (defArgs s_remove_entry) (defBody s_remove_entry) (defScope s_remove_entry) [] [] (He.ga K "remove_entry") fd := T.defs 16 (d := d_remove_entry) rfl
theorem k_remove_entry (T : Tx K mg) : PySem.W.keepIn K (.ref (He.ga K "remove_entry")) = true := let ⟨_, F⟩ := df_remove_entry T; F.kp
theorem df_drop_name (T : Tx K mg) : ∃ fd, FunD K "drop_name" "drop_name" (defArgs s_drop_name) (defBody s_drop_name) (defScope s_drop_name) [] [] (He.ga K "drop_name") fd := T.defs 17 (d := d_drop_name) rfl
theorem k_drop_name (T : Tx K mg) : PySem.W.keepIn K (.ref (He.ga K "drop_name")) = true := let ⟨_, F⟩ := df_drop_name T; F.kp
theorem df_new_number (T : Tx K mg) : ∃ fd, FunD K "new_number" "new_number" (defArgs s_new_number) (defBody s_new_number) (defScope s_new_number) [] [] (He.ga K "new_number") fd := T.defs 18 (d := d_new_number) rfl
theorem k_new_number (T : Tx K mg) : PySem.W.keepIn K (.ref (He.ga K "new_number")) = true := let ⟨_, F⟩ := df_new_number T; F.kp
theorem df_is_full (T : Tx K mg) : ∃ fd, FunD K "is_full" "is_full" (defArgs s_is_full) (defBody s_is_full) (defScope s_is_full) [] [] (He.ga K "is_full") fd := T.defs 19 (d := d_is_full) rfl
theorem k_is_full (T : Tx K mg) : PySem.W.keepIn K (.ref (He.ga K "is_full")) = true := let ⟨_, F⟩ := df_is_full T; F.kp
theorem df_free_place (T : Tx K mg) : ∃ fd, FunD K "free_place" "free_place" (defArgs s_free_place) (defBody s_free_place) (defScope s_free_place) [] [] (He.ga K "free_place") fd := T.defs 20 (d := d_free_place) rfl
theorem k_free_place (T : Tx K mg) : PySem.W.keepIn K (.ref (He.ga K "free_place")) = true := let ⟨_, F⟩ := df_free_place T; F.kp
theorem df_new_node (T : Tx K mg) : ∃ fd, FunD K "new_node" "new_node" (defArgs s_new_node) (defBody s_new_node) (defScope s_new_node) [] [] (He.ga K "new_node") fd := T.defs 21 (d := d_new_node) rfl
theorem k_new_node (T : Tx K mg) : PySem.W.keepIn K (.ref (He.ga K "new_node")) = true := let ⟨_, F⟩ := df_new_node T; F.kp
theorem df_mkdir (T : Tx K mg) : ∃ fd, FunD K "mkdir" "mkdir" (defArgs s_mkdir) (defBody s_mkdir) (defScope s_mkdir) [] [] (He.ga K "mkdir") fd := T.defs 22 (d := d_mkdir) rfl
theorem k_mkdir (T : Tx K mg) : PySem.W.keepIn K (.ref (He.ga K "mkdir")) = true := let ⟨_, F⟩ := df_mkdir T; F.kp
theorem df_symlink (T : Tx K mg) : ∃ fd, FunD K "symlink" "symlink" (defArgs s_symlink) (defBody s_symlink) (defScope s_symlink) [] [] (He.ga K "symlink") fd := T.defs 23 (d := d_symlink) rfl
theorem k_symlink (T : Tx K mg) : PySem.W.keepIn K (.ref (He.ga K "symlink")) = true := let ⟨_, F⟩ := df_symlink T; F.kp
theorem df_link (T : Tx K mg) : ∃ fd, FunD K "link" "link" (defArgs s_link) (defBody s_link) (defScope s_link) [] [] (He.ga K "link") fd := T.defs 24 (d := d_link) rfl
theorem k_link (T : Tx K mg) : PySem.W.keepIn K (.ref (He.ga K "link")) = true := let ⟨_, F⟩ := df_link T; F.kp
theorem df_rmdir (T : Tx K mg) : ∃ fd, FunD K "rmdir" "rmdir" (defArgs s_rmdir) (defBody s_rmdir) (defScope s_rmdir) [] [] (He.ga K "rmdir") fd := T.defs 25 (d := d_rmdir) rfl
theorem k_rmdir (T : Tx K mg) : PySem.W.keepIn K (.ref (He.ga K "rmdir")) = true := let ⟨_, F⟩ := df_rmdir T; F.kp
theorem df_unlink (T : Tx K mg) : ∃ fd, FunD K "unlink" "unlink" (defArgs s_unlink) (defBody s_unlink) (defScope s_unlink) [] [] (He.ga K "unlink") fd := T.defs 26 (d := d_unlink) rfl
theorem k_unlink (T : Tx K mg) : PySem.W.keepIn K (.ref (He.ga K "unlink")) = true := let ⟨_, F⟩ := df_unlink T; F.kp
theorem df_written (T : Tx K mg) : ∃ fd, FunD K "written" "written" (defArgs s_written) (defBody s_written) (defScope s_written) [] [] (He.ga K "written") fd := T.defs 27 (d := d_written) rfl
theorem k_written (T : Tx K mg) : PySem.W.keepIn K (.ref (He.ga K "written")) = true := let ⟨_, F⟩ := df_written T; F.kp
theorem df_resized (T : Tx K mg) : ∃ fd, FunD K "resized" "resized" (defArgs s_resized) (defBody s_resized) (defScope s_resized) [] [] (He.ga K "resized") fd := T.defs 28 (d := d_resized) rfl
theorem k_resized (T : Tx K mg) : PySem.W.keepIn K (.ref (He.ga K "resized")) = true := let ⟨_, F⟩ := df_resized T; F.kp
theorem df_file_at (T : Tx K mg) : ∃ fd, FunD K "file_at" "file_at" (defArgs s_file_at) (defBody s_file_at) (defScope s_file_at) [] [] (He.ga K "file_at") fd := T.defs 29 (d := d_file_at) rfl
theorem k_file_at (T : Tx K mg) : PySem.W.keepIn K (.ref (He.ga K "file_at")) = true := let ⟨_, F⟩ := df_file_at T; F.kp
theorem df_write_file (T : Tx K mg) : ∃ fd, FunD K "write_file" "write_file" (defArgs s_write_file) (defBody s_write_file) (defScope s_write_file) [] [] (He.ga K "write_file") fd := T.defs 30 (d := d_write_file) rfl
theorem k_write_file (T : Tx K mg) : PySem.W.keepIn K (.ref (He.ga K "write_file")) = true := let ⟨_, F⟩ := df_write_file T; F.kp
theorem df_resize_file (T : Tx K mg) : ∃ fd, FunD K "resize_file" "resize_file" (defArgs s_resize_file) (defBody s_resize_file) (defScope s_resize_file) [] [] (He.ga K "resize_file") fd := T.defs 31 (d := d_resize_file) rfl
theorem k_resize_file (T : Tx K mg) : PySem.W.keepIn K (.ref (He.ga K "resize_file")) = true := let ⟨_, F⟩ := df_resize_file T; F.kp
theorem df_read_file (T : Tx K mg) : ∃ fd, FunD K "read_file" "read_file" (defArgs s_read_file) (defBody s_read_file) (defScope s_read_file) [] [] (He.ga K "read_file") fd := T.defs 32 (d := d_read_file) rfl
theorem k_read_file (T : Tx K mg) : PySem.W.keepIn K (.ref (He.ga K "read_file")) = true := let ⟨_, F⟩ := df_read_file T; F.kp
theorem df_write_new (T : Tx K mg) : ∃ fd, FunD K "write_new" "write_new" (defArgs s_write_new) (defBody s_write_new) (defScope s_write_new) [] [] (He.ga K "write_new") fd := T.defs 33 (d := d_write_new) rfl
theorem k_write_new (T : Tx K mg) : PySem.W.keepIn K (.ref (He.ga K "write_new")) = true := let ⟨_, F⟩ := df_write_new T; F.kp
theorem df_write (T : Tx K mg) : ∃ fd, FunD K "write" "write" (defArgs s_write) (defBody s_write) (defScope s_write) [] [] (He.ga K "write") fd := T.defs 34 (d := d_write) rfl
theorem k_write (T : Tx K mg) : PySem.W.keepIn K (.ref (He.ga K "write")) = true := let ⟨_, F⟩ := df_write T; F.kp
theorem df_read (T : Tx K mg) : ∃ fd, FunD K "read" "read" (defArgs s_read) (defBody s_read) (defScope s_read) [] [] (He.ga K "read") fd := T.defs 35 (d := d_read) rfl
theorem k_read (T : Tx K mg) : PySem.W.keepIn K (.ref (He.ga K "read")) = true := let ⟨_, F⟩ := df_read T; F.kp
theorem df_truncate (T : Tx K mg) : ∃ fd, FunD K "truncate" "truncate" (defArgs s_truncate) (defBody s_truncate) (defScope s_truncate) [] [] (He.ga K "truncate") fd := T.defs 36 (d := d_truncate) rfl
theorem k_truncate (T : Tx K mg) : PySem.W.keepIn K (.ref (He.ga K "truncate")) = true := let ⟨_, F⟩ := df_truncate T; F.kp
theorem df_open_file (T : Tx K mg) : ∃ fd, FunD K "open_file" "open_file" (defArgs s_open_file) (defBody s_open_file) (defScope s_open_file) [] [] (He.ga K "open_file") fd := T.defs 37 (d := d_open_file) rfl
theorem k_open_file (T : Tx K mg) : PySem.W.keepIn K (.ref (He.ga K "open_file")) = true := let ⟨_, F⟩ := df_open_file T; F.kp
theorem df_opened (T : Tx K mg) : ∃ fd, FunD K "opened" "opened" (defArgs s_opened) (defBody s_opened) (defScope s_opened) [] [] (He.ga K "opened") fd := T.defs 38 (d := d_opened) rfl
theorem k_opened (T : Tx K mg) : PySem.W.keepIn K (.ref (He.ga K "opened")) = true := let ⟨_, F⟩ := df_opened T; F.kp
theorem df_close_file (T : Tx K mg) : ∃ fd, FunD K "close_file" "close_file" (defArgs s_close_file) (defBody s_close_file) (defScope s_close_file) [] [] (He.ga K "close_file") fd := T.defs 39 (d := d_close_file) rfl
theorem k_close_file (T : Tx K mg) : PySem.W.keepIn K (.ref (He.ga K "close_file")) = true := let ⟨_, F⟩ := df_close_file T; F.kp
theorem df_read_at (T : Tx K mg) : ∃ fd, FunD K "read_at" "read_at" (defArgs s_read_at) (defBody s_read_at) (defScope s_read_at) [] [] (He.ga K "read_at") fd := T.defs 40 (d := d_read_at) rfl
theorem k_read_at (T : Tx K mg) : PySem.W.keepIn K (.ref (He.ga K "read_at")) = true := let ⟨_, F⟩ := df_read_at T; F.kp
theorem df_write_at (T : Tx K mg) : ∃ fd, FunD K "write_at" "write_at" (defArgs s_write_at) (defBody s_write_at) (defScope s_write_at) [] [] (He.ga K "write_at") fd := T.defs 41 (d := d_write_at) rfl
theorem k_write_at (T : Tx K mg) : PySem.W.keepIn K (.ref (He.ga K "write_at")) = true := let ⟨_, F⟩ := df_write_at T; F.kp
theorem df_resize (T : Tx K mg) : ∃ fd, FunD K "resize" "resize" (defArgs s_resize) (defBody s_resize) (defScope s_resize) [] [] (He.ga K "resize") fd := T.defs 42 (d := d_resize) rfl
theorem k_resize (T : Tx K mg) : PySem.W.keepIn K (.ref (He.ga K "resize")) = true := let ⟨_, F⟩ := df_resize T; F.kp
theorem df_stat_at (T : Tx K mg) : ∃ fd, FunD K "stat_at" "stat_at" (defArgs s_stat_at) (defBody s_stat_at) (defScope s_stat_at) [] [] (He.ga K "stat_at") fd := T.defs 43 (d := d_stat_at) rfl
theorem k_stat_at (T : Tx K mg) : PySem.W.keepIn K (.ref (He.ga K "stat_at")) = true := let ⟨_, F⟩ := df_stat_at T; F.kp
theorem df_is_within (T : Tx K mg) : ∃ fd, FunD K "is_within" "is_within" (defArgs s_is_within) (defBody s_is_within) (defScope s_is_within) [] [] (He.ga K "is_within") fd := T.defs 44 (d := d_is_within) rfl
theorem k_is_within (T : Tx K mg) : PySem.W.keepIn K (.ref (He.ga K "is_within")) = true := let ⟨_, F⟩ := df_is_within T; F.kp
theorem df_check_replaced (T : Tx K mg) : ∃ fd, FunD K "check_replaced" "check_replaced" (defArgs s_check_replaced) (defBody s_check_replaced) (defScope s_check_replaced) [] [] (He.ga K "check_replaced") fd := T.defs 45 (d := d_check_replaced) rfl
theorem k_check_replaced (T : Tx K mg) : PySem.W.keepIn K (.ref (He.ga K "check_replaced")) = true := let ⟨_, F⟩ := df_check_replaced T; F.kp
theorem df_rename (T : Tx K mg) : ∃ fd, FunD K "rename" "rename" (defArgs s_rename) (defBody s_rename) (defScope s_rename) [] [] (He.ga K "rename") fd := T.defs 46 (d := d_rename) rfl
theorem k_rename (T : Tx K mg) : PySem.W.keepIn K (.ref (He.ga K "rename")) = true := let ⟨_, F⟩ := df_rename T; F.kp
theorem df_make_operation (T : Tx K mg) : ∃ fd, FunD K "make_operation" "make_operation" (defArgs s_make_operation) (defBody s_make_operation) (defScope s_make_operation) [] [] (He.ga K "make_operation") fd := T.defs 47 (d := d_make_operation) rfl
theorem k_make_operation (T : Tx K mg) : PySem.W.keepIn K (.ref (He.ga K "make_operation")) = true := let ⟨_, F⟩ := df_make_operation T; F.kp
theorem df_FileTree_init (T : Tx K mg) : ∃ fd, FunD K "__init__" "FileTree.__init__" (defArgs s_FileTree_init) (defBody s_FileTree_init) (defScope s_FileTree_init) [] [] (He.ma K (He.ga K "FileTree") "__init__") fd := T.defs 48 (d := d_FileTree_init) rfl
theorem k_FileTree_init (T : Tx K mg) : PySem.W.keepIn K (.ref (He.ma K (He.ga K "FileTree") "__init__")) = true := let ⟨_, F⟩ := df_FileTree_init T; F.kp
theorem df_FileTree_is_open (T : Tx K mg) : ∃ fd, FunD K "is_open" "FileTree.is_open" (defArgs s_FileTree_is_open) (defBody s_FileTree_is_open) (defScope s_FileTree_is_open) [] [] (He.ma K (He.ga K "FileTree") "is_open") fd := T.defs 49 (d := d_FileTree_is_open) rfl
theorem k_FileTree_is_open (T : Tx K mg) : PySem.W.keepIn K (.ref (He.ma K (He.ga K "FileTree") "is_open")) = true := let ⟨_, F⟩ := df_FileTree_is_open T; F.kp
theorem df_FileTree_entry (T : Tx K mg) : ∃ fd, FunD K "entry" "FileTree.entry" (defArgs s_FileTree_entry) (defBody s_FileTree_entry) (defScope s_FileTree_entry) [] [] (He.ma K (He.ga K "FileTree") "entry") fd := T.defs 50 (d := d_FileTree_entry) rfl
theorem k_FileTree_entry (T : Tx K mg) : PySem.W.keepIn K (.ref (He.ma K (He.ga K "FileTree") "entry")) = true := let ⟨_, F⟩ := df_FileTree_entry T; F.kp
theorem df_law_draws (T : Tx K mg) : ∃ fd, FunD K "_law_draws" "_law_draws" (defArgs s_law_draws) (defBody s_law_draws) (defScope s_law_draws) [] [] (He.ga K "_law_draws") fd := T.defs 51 (d := d_law_draws) rfl
theorem k_law_draws (T : Tx K mg) : PySem.W.keepIn K (.ref (He.ga K "_law_draws")) = true := let ⟨_, F⟩ := df_law_draws T; F.kp
theorem df_law_path (T : Tx K mg) : ∃ fd, FunD K "_law_path" "_law_path" (defArgs s_law_path) (defBody s_law_path) (defScope s_law_path) [] [] (He.ga K "_law_path") fd := T.defs 52 (d := d_law_path) rfl
theorem k_law_path (T : Tx K mg) : PySem.W.keepIn K (.ref (He.ga K "_law_path")) = true := let ⟨_, F⟩ := df_law_path T; F.kp
theorem df_law_octets (T : Tx K mg) : ∃ fd, FunD K "_law_octets" "_law_octets" (defArgs s_law_octets) (defBody s_law_octets) (defScope s_law_octets) [] [] (He.ga K "_law_octets") fd := T.defs 53 (d := d_law_octets) rfl
theorem k_law_octets (T : Tx K mg) : PySem.W.keepIn K (.ref (He.ga K "_law_octets")) = true := let ⟨_, F⟩ := df_law_octets T; F.kp
theorem df_law_target (T : Tx K mg) : ∃ fd, FunD K "_law_target" "_law_target" (defArgs s_law_target) (defBody s_law_target) (defScope s_law_target) [] [] (He.ga K "_law_target") fd := T.defs 54 (d := d_law_target) rfl
theorem k_law_target (T : Tx K mg) : PySem.W.keepIn K (.ref (He.ga K "_law_target")) = true := let ⟨_, F⟩ := df_law_target T; F.kp
theorem df_law_offset (T : Tx K mg) : ∃ fd, FunD K "_law_offset" "_law_offset" (defArgs s_law_offset) (defBody s_law_offset) (defScope s_law_offset) [] [] (He.ga K "_law_offset") fd := T.defs 55 (d := d_law_offset) rfl
theorem k_law_offset (T : Tx K mg) : PySem.W.keepIn K (.ref (He.ga K "_law_offset")) = true := let ⟨_, F⟩ := df_law_offset T; F.kp
theorem df_law_operation (T : Tx K mg) : ∃ fd, FunD K "_law_operation" "_law_operation" (defArgs s_law_operation) (defBody s_law_operation) (defScope s_law_operation) [] [] (He.ga K "_law_operation") fd := T.defs 56 (d := d_law_operation) rfl
theorem k_law_operation (T : Tx K mg) : PySem.W.keepIn K (.ref (He.ga K "_law_operation")) = true := let ⟨_, F⟩ := df_law_operation T; F.kp
theorem df_law_asking (T : Tx K mg) : ∃ fd, FunD K "_law_asking" "_law_asking" (defArgs s_law_asking) (defBody s_law_asking) (defScope s_law_asking) [] [] (He.ga K "_law_asking") fd := T.defs 57 (d := d_law_asking) rfl
theorem k_law_asking (T : Tx K mg) : PySem.W.keepIn K (.ref (He.ga K "_law_asking")) = true := let ⟨_, F⟩ := df_law_asking T; F.kp
theorem df_law_word (T : Tx K mg) : ∃ fd, FunD K "_law_word" "_law_word" (defArgs s_law_word) (defBody s_law_word) (defScope s_law_word) [] [] (He.ga K "_law_word") fd := T.defs 58 (d := d_law_word) rfl
theorem k_law_word (T : Tx K mg) : PySem.W.keepIn K (.ref (He.ga K "_law_word")) = true := let ⟨_, F⟩ := df_law_word T; F.kp
theorem df_law_make (T : Tx K mg) : ∃ fd, FunD K "_law_make" "_law_make" (defArgs s_law_make) (defBody s_law_make) (defScope s_law_make) [] [] (He.ga K "_law_make") fd := T.defs 59 (d := d_law_make) rfl
theorem k_law_make (T : Tx K mg) : PySem.W.keepIn K (.ref (He.ga K "_law_make")) = true := let ⟨_, F⟩ := df_law_make T; F.kp
theorem df_law_names (T : Tx K mg) : ∃ fd, FunD K "_law_names" "_law_names" (defArgs s_law_names) (defBody s_law_names) (defScope s_law_names) [] [] (He.ga K "_law_names") fd := T.defs 60 (d := d_law_names) rfl
theorem k_law_names (T : Tx K mg) : PySem.W.keepIn K (.ref (He.ga K "_law_names")) = true := let ⟨_, F⟩ := df_law_names T; F.kp
theorem df_law_child (T : Tx K mg) : ∃ fd, FunD K "_law_child" "_law_child" (defArgs s_law_child) (defBody s_law_child) (defScope s_law_child) [] [] (He.ga K "_law_child") fd := T.defs 61 (d := d_law_child) rfl
theorem k_law_child (T : Tx K mg) : PySem.W.keepIn K (.ref (He.ga K "_law_child")) = true := let ⟨_, F⟩ := df_law_child T; F.kp
theorem df_law_follow (T : Tx K mg) : ∃ fd, FunD K "_law_follow" "_law_follow" (defArgs s_law_follow) (defBody s_law_follow) (defScope s_law_follow) [] [] (He.ga K "_law_follow") fd := T.defs 62 (d := d_law_follow) rfl
theorem k_law_follow (T : Tx K mg) : PySem.W.keepIn K (.ref (He.ga K "_law_follow")) = true := let ⟨_, F⟩ := df_law_follow T; F.kp
theorem df_law_place (T : Tx K mg) : ∃ fd, FunD K "_law_place" "_law_place" (defArgs s_law_place) (defBody s_law_place) (defScope s_law_place) [] [] (He.ga K "_law_place") fd := T.defs 63 (d := d_law_place) rfl
theorem k_law_place (T : Tx K mg) : PySem.W.keepIn K (.ref (He.ga K "_law_place")) = true := let ⟨_, F⟩ := df_law_place T; F.kp
theorem df_law_entry (T : Tx K mg) : ∃ fd, FunD K "_law_entry" "_law_entry" (defArgs s_law_entry) (defBody s_law_entry) (defScope s_law_entry) [] [] (He.ga K "_law_entry") fd := T.defs 64 (d := d_law_entry) rfl
theorem k_law_entry (T : Tx K mg) : PySem.W.keepIn K (.ref (He.ga K "_law_entry")) = true := let ⟨_, F⟩ := df_law_entry T; F.kp
theorem df_law_set (T : Tx K mg) : ∃ fd, FunD K "_law_set" "_law_set" (defArgs s_law_set) (defBody s_law_set) (defScope s_law_set) [] [] (He.ga K "_law_set") fd := T.defs 65 (d := d_law_set) rfl
theorem k_law_set (T : Tx K mg) : PySem.W.keepIn K (.ref (He.ga K "_law_set")) = true := let ⟨_, F⟩ := df_law_set T; F.kp
theorem df_law_lose (T : Tx K mg) : ∃ fd, FunD K "_law_lose" "_law_lose" (defArgs s_law_lose) (defBody s_law_lose) (defScope s_law_lose) [] [] (He.ga K "_law_lose") fd := T.defs 66 (d := d_law_lose) rfl
theorem k_law_lose (T : Tx K mg) : PySem.W.keepIn K (.ref (He.ga K "_law_lose")) = true := let ⟨_, F⟩ := df_law_lose T; F.kp
theorem df_law_free (T : Tx K mg) : ∃ fd, FunD K "_law_free" "_law_free" (defArgs s_law_free) (defBody s_law_free) (defScope s_law_free) [] [] (He.ga K "_law_free") fd := T.defs 67 (d := d_law_free) rfl
theorem k_law_free (T : Tx K mg) : PySem.W.keepIn K (.ref (He.ga K "_law_free")) = true := let ⟨_, F⟩ := df_law_free T; F.kp
theorem df_law_new (T : Tx K mg) : ∃ fd, FunD K "_law_new" "_law_new" (defArgs s_law_new) (defBody s_law_new) (defScope s_law_new) [] [] (He.ga K "_law_new") fd := T.defs 68 (d := d_law_new) rfl
theorem k_law_new (T : Tx K mg) : PySem.W.keepIn K (.ref (He.ga K "_law_new")) = true := let ⟨_, F⟩ := df_law_new T; F.kp
theorem df_law_written (T : Tx K mg) : ∃ fd, FunD K "_law_written" "_law_written" (defArgs s_law_written) (defBody s_law_written) (defScope s_law_written) [] [] (He.ga K "_law_written") fd := T.defs 69 (d := d_law_written) rfl
theorem k_law_written (T : Tx K mg) : PySem.W.keepIn K (.ref (He.ga K "_law_written")) = true := let ⟨_, F⟩ := df_law_written T; F.kp
theorem df_law_file (T : Tx K mg) : ∃ fd, FunD K "_law_file" "_law_file" (defArgs s_law_file) (defBody s_law_file) (defScope s_law_file) [] [] (He.ga K "_law_file") fd := T.defs 70 (d := d_law_file) rfl
theorem k_law_file (T : Tx K mg) : PySem.W.keepIn K (.ref (He.ga K "_law_file")) = true := let ⟨_, F⟩ := df_law_file T; F.kp
theorem df_law_put (T : Tx K mg) : ∃ fd, FunD K "_law_put" "_law_put" (defArgs s_law_put) (defBody s_law_put) (defScope s_law_put) [] [] (He.ga K "_law_put") fd := T.defs 71 (d := d_law_put) rfl
theorem k_law_put (T : Tx K mg) : PySem.W.keepIn K (.ref (He.ga K "_law_put")) = true := let ⟨_, F⟩ := df_law_put T; F.kp
theorem df_law_write (T : Tx K mg) : ∃ fd, FunD K "_law_write" "_law_write" (defArgs s_law_write) (defBody s_law_write) (defScope s_law_write) [] [] (He.ga K "_law_write") fd := T.defs 72 (d := d_law_write) rfl
theorem k_law_write (T : Tx K mg) : PySem.W.keepIn K (.ref (He.ga K "_law_write")) = true := let ⟨_, F⟩ := df_law_write T; F.kp
theorem df_law_status (T : Tx K mg) : ∃ fd, FunD K "_law_status" "_law_status" (defArgs s_law_status) (defBody s_law_status) (defScope s_law_status) [] [] (He.ga K "_law_status") fd := T.defs 73 (d := d_law_status) rfl
theorem k_law_status (T : Tx K mg) : PySem.W.keepIn K (.ref (He.ga K "_law_status")) = true := let ⟨_, F⟩ := df_law_status T; F.kp
theorem df_law_remove (T : Tx K mg) : ∃ fd, FunD K "_law_remove" "_law_remove" (defArgs s_law_remove) (defBody s_law_remove) (defScope s_law_remove) [] [] (He.ga K "_law_remove") fd := T.defs 74 (d := d_law_remove) rfl
theorem k_law_remove (T : Tx K mg) : PySem.W.keepIn K (.ref (He.ga K "_law_remove")) = true := let ⟨_, F⟩ := df_law_remove T; F.kp
theorem df_law_link (T : Tx K mg) : ∃ fd, FunD K "_law_link" "_law_link" (defArgs s_law_link) (defBody s_law_link) (defScope s_law_link) [] [] (He.ga K "_law_link") fd := T.defs 75 (d := d_law_link) rfl
theorem k_law_link (T : Tx K mg) : PySem.W.keepIn K (.ref (He.ga K "_law_link")) = true := let ⟨_, F⟩ := df_law_link T; F.kp
theorem df_law_below (T : Tx K mg) : ∃ fd, FunD K "_law_below" "_law_below" (defArgs s_law_below) (defBody s_law_below) (defScope s_law_below) [] [] (He.ga K "_law_below") fd := T.defs 76 (d := d_law_below) rfl
theorem k_law_below (T : Tx K mg) : PySem.W.keepIn K (.ref (He.ga K "_law_below")) = true := let ⟨_, F⟩ := df_law_below T; F.kp
theorem df_law_replaced (T : Tx K mg) : ∃ fd, FunD K "_law_replaced" "_law_replaced" (defArgs s_law_replaced) (defBody s_law_replaced) (defScope s_law_replaced) [] [] (He.ga K "_law_replaced") fd := T.defs 77 (d := d_law_replaced) rfl
theorem k_law_replaced (T : Tx K mg) : PySem.W.keepIn K (.ref (He.ga K "_law_replaced")) = true := let ⟨_, F⟩ := df_law_replaced T; F.kp
theorem df_law_rename (T : Tx K mg) : ∃ fd, FunD K "_law_rename" "_law_rename" (defArgs s_law_rename) (defBody s_law_rename) (defScope s_law_rename) [] [] (He.ga K "_law_rename") fd := T.defs 78 (d := d_law_rename) rfl
theorem k_law_rename (T : Tx K mg) : PySem.W.keepIn K (.ref (He.ga K "_law_rename")) = true := let ⟨_, F⟩ := df_law_rename T; F.kp
theorem df_law_look (T : Tx K mg) : ∃ fd, FunD K "_law_look" "_law_look" (defArgs s_law_look) (defBody s_law_look) (defScope s_law_look) [] [] (He.ga K "_law_look") fd := T.defs 79 (d := d_law_look) rfl
theorem k_law_look (T : Tx K mg) : PySem.W.keepIn K (.ref (He.ga K "_law_look")) = true := let ⟨_, F⟩ := df_law_look T; F.kp
theorem df_law_content (T : Tx K mg) : ∃ fd, FunD K "_law_content" "_law_content" (defArgs s_law_content) (defBody s_law_content) (defScope s_law_content) [] [] (He.ga K "_law_content") fd := T.defs 80 (d := d_law_content) rfl
theorem k_law_content (T : Tx K mg) : PySem.W.keepIn K (.ref (He.ga K "_law_content")) = true := let ⟨_, F⟩ := df_law_content T; F.kp
theorem df_law_handle (T : Tx K mg) : ∃ fd, FunD K "_law_handle" "_law_handle" (defArgs s_law_handle) (defBody s_law_handle) (defScope s_law_handle) [] [] (He.ga K "_law_handle") fd := T.defs 81 (d := d_law_handle) rfl
theorem k_law_handle (T : Tx K mg) : PySem.W.keepIn K (.ref (He.ga K "_law_handle")) = true := let ⟨_, F⟩ := df_law_handle T; F.kp
theorem df_law_due (T : Tx K mg) : ∃ fd, FunD K "_law_due" "_law_due" (defArgs s_law_due) (defBody s_law_due) (defScope s_law_due) [] [] (He.ga K "_law_due") fd := T.defs 82 (d := d_law_due) rfl
theorem k_law_due (T : Tx K mg) : PySem.W.keepIn K (.ref (He.ga K "_law_due")) = true := let ⟨_, F⟩ := df_law_due T; F.kp
theorem df_law_same (T : Tx K mg) : ∃ fd, FunD K "_law_same" "_law_same" (defArgs s_law_same) (defBody s_law_same) (defScope s_law_same) [] [] (He.ga K "_law_same") fd := T.defs 83 (d := d_law_same) rfl
theorem k_law_same (T : Tx K mg) : PySem.W.keepIn K (.ref (He.ga K "_law_same")) = true := let ⟨_, F⟩ := df_law_same T; F.kp
theorem df_law (T : Tx K mg) : ∃ fd, FunD K "law" "law" (defArgs s_law) (defBody s_law) (defScope s_law) [] [] (He.ga K "law") fd := T.defs 84 (d := d_law) rfl
theorem k_law (T : Tx K mg) : PySem.W.keepIn K (.ref (He.ga K "law")) = true := let ⟨_, F⟩ := df_law T; F.kp
theorem df_Node_init (T : Tx K mg) : ∃ fd, FunD K "__init__" "Node.__init__" (defArgs s_Node_init) (defBody s_Node_init) (defScope s_Node_init) [] [("links", V.int 1)] (He.ma K (He.ga K "Node") "__init__") fd := T.defs 11 (d := d_Node_init) rfl
theorem Tx.cN (T : Tx K mg) : Cls K (He.ga K "Node") := He.cls_ok (T.fact 0 rfl)
theorem Tx.mkN (T : Tx K mg) : Mk K (He.ga K "Node") (He.ma K (He.ga K "Node") "__init__") := He.mkr_ok (T.fact 1 rfl)
theorem Tx.cT (T : Tx K mg) : Cls K (He.ga K "FileTree") := He.cls_ok (T.fact 8 rfl)
theorem Tx.mkT (T : Tx K mg) : Mk K (He.ga K "FileTree") (He.ma K (He.ga K "FileTree") "__init__") := He.mkr_ok (T.fact 9 rfl)
theorem Tx.n_kind (T : Tx K mg) : NoAttr K (He.ga K "Node") "kind" := He.noat_ok (T.fact 2 rfl)
theorem Tx.n_body (T : Tx K mg) : NoAttr K (He.ga K "Node") "body" := He.noat_ok (T.fact 3 rfl)
theorem Tx.n_links (T : Tx K mg) : NoAttr K (He.ga K "Node") "links" := He.noat_ok (T.fact 4 rfl)
theorem Tx.n_nodes (T : Tx K mg) : NoAttr K (He.ga K "FileTree") "nodes" := He.noat_ok (T.fact 10 rfl)
theorem Tx.n_handles (T : Tx K mg) : NoAttr K (He.ga K "FileTree") "handles" := He.noat_ok (T.fact 11 rfl)
theorem Tx.m_measure (T : Tx K mg) : Meth K (He.ga K "Node") "measure" (He.ma K (He.ga K "Node") "measure") := He.meth_ok (T.fact 5 rfl)
theorem Tx.m_with_body (T : Tx K mg) : Meth K (He.ga K "Node") "with_body" (He.ma K (He.ga K "Node") "with_body") := He.meth_ok (T.fact 6 rfl)
theorem Tx.m_with_links (T : Tx K mg) : Meth K (He.ga K "Node") "with_links" (He.ma K (He.ga K "Node") "with_links") := He.meth_ok (T.fact 7 rfl)
theorem Tx.m_is_open (T : Tx K mg) : Meth K (He.ga K "FileTree") "is_open" (He.ma K (He.ga K "FileTree") "is_open") := He.meth_ok (T.fact 12 rfl)
theorem Tx.m_entry (T : Tx K mg) : Meth K (He.ga K "FileTree") "entry" (He.ma K (He.ga K "FileTree") "entry") := He.meth_ok (T.fact 13 rfl)
theorem Tx.i_LINKS_MOST (T : Tx K mg) : ∃ t, mg "LINKS_MOST" = some (.int 8 t) := T.int (T.fact 14 rfl)
theorem Tx.i_NUMBERS (T : Tx K mg) : ∃ t, mg "NUMBERS" = some (.int 256 t) := T.int (T.fact 15 rfl)
theorem Tx.i_ENTRIES_MOST (T : Tx K mg) : ∃ t, mg "ENTRIES_MOST" = some (.int 64 t) := T.int (T.fact 16 rfl)
theorem Tx.i_FILE_MOST (T : Tx K mg) : ∃ t, mg "FILE_MOST" = some (.int 28672 t) := T.int (T.fact 17 rfl)
theorem Tx.i_HANDLES (T : Tx K mg) : ∃ t, mg "HANDLES" = some (.int 16 t) := T.int (T.fact 18 rfl)
theorem Tx.gActions (T : Tx K mg) : mg "ACTIONS" = some (.ref (He.ga K "ACTIONS")) := T.glo (T.fact 19 rfl)
theorem Tx.gFileError (T : Tx K mg) : mg "FileError" = some (.ref (He.ga K "FileError")) := T.glo (T.fact 20 rfl)
theorem e_NotDirectory (T : Tx K mg) : ExF K mg "NotDirectory" := ⟨T.glo (T.fact 31 rfl), He.exc_ok (T.fact 45 rfl)⟩
theorem e_NotFound (T : Tx K mg) : ExF K mg "NotFound" := ⟨T.glo (T.fact 32 rfl), He.exc_ok (T.fact 46 rfl)⟩
theorem e_TooManyLinks (T : Tx K mg) : ExF K mg "TooManyLinks" := ⟨T.glo (T.fact 33 rfl), He.exc_ok (T.fact 47 rfl)⟩
theorem e_RootFixed (T : Tx K mg) : ExF K mg "RootFixed" := ⟨T.glo (T.fact 34 rfl), He.exc_ok (T.fact 48 rfl)⟩
theorem e_IsDirectory (T : Tx K mg) : ExF K mg "IsDirectory" := ⟨T.glo (T.fact 35 rfl), He.exc_ok (T.fact 49 rfl)⟩
theorem e_FileTooLarge (T : Tx K mg) : ExF K mg "FileTooLarge" := ⟨T.glo (T.fact 36 rfl), He.exc_ok (T.fact 50 rfl)⟩
theorem e_AlreadyExists (T : Tx K mg) : ExF K mg "AlreadyExists" := ⟨T.glo (T.fact 37 rfl), He.exc_ok (T.fact 51 rfl)⟩
theorem e_DirectoryFull (T : Tx K mg) : ExF K mg "DirectoryFull" := ⟨T.glo (T.fact 38 rfl), He.exc_ok (T.fact 52 rfl)⟩
theorem e_NotEmpty (T : Tx K mg) : ExF K mg "NotEmpty" := ⟨T.glo (T.fact 39 rfl), He.exc_ok (T.fact 53 rfl)⟩
theorem e_NotLink (T : Tx K mg) : ExF K mg "NotLink" := ⟨T.glo (T.fact 40 rfl), He.exc_ok (T.fact 54 rfl)⟩
theorem e_TooManyOpen (T : Tx K mg) : ExF K mg "TooManyOpen" := ⟨T.glo (T.fact 41 rfl), He.exc_ok (T.fact 55 rfl)⟩
theorem e_TooManyFiles (T : Tx K mg) : ExF K mg "TooManyFiles" := ⟨T.glo (T.fact 42 rfl), He.exc_ok (T.fact 56 rfl)⟩
theorem e_WithinItself (T : Tx K mg) : ExF K mg "WithinItself" := ⟨T.glo (T.fact 43 rfl), He.exc_ok (T.fact 57 rfl)⟩
theorem e_NotOpen (T : Tx K mg) : ExF K mg "NotOpen" := ⟨T.glo (T.fact 44 rfl), He.exc_ok (T.fact 58 rfl)⟩
end
/-! ### rules of our own -/
section
variable {P : Program} {w : World} {K : PySem.W.Frag} {mg : Str → Option Value} {base : Heap}
/-- a def of the text keeps its promise: the promise by positional values -/
theorem mk_fn {x qual : Str} {st : Stmt} {N ps : List Str} {k : Nat} {sp : Sp} {f : Addr} (D : ∃ fd, FunD K x qual (defArgs st) (defBody st) (defScope st) [] [] f fd) (S : FnScope N ps (defScope st))
    (hb : ∀ (kV doc pm : Value) (an : Option Addr) (cdv ct : Value) (us : List Value), us.length = ps.length → bindArgs (PySem.W.fnOf x qual (defArgs st) (defBody st) (defScope st) .none kV doc pm an cdv ct) ⟨us, []⟩ = pure (ps.zip us))
    (len : ∀ vs H Q E, sp vs H Q E → vs.length = ps.length)
    (body : ∀ (cdv : Value) (A : Around) (outer : List Env) (s : Shared) (H : Hp) (vs : List V) (Q : VK) (E : XK), Takes (cxOf (L2.CX P w) P w K mg base N qual (defScope st) f cdv A outer s H E) (fun cls d _ H => E cls d H) →
      PassesOwn (model P w) (cxOf (L2.CX P w) P w K mg base N qual (defScope st) f cdv A outer s H E).A (cxOf (L2.CX P w) P w K mg base N qual (defScope st) f cdv A outer s H E).env (cxOf (L2.CX P w) P w K mg base N qual (defScope st) f cdv A outer s H E).xe → Room k (cxOf (L2.CX P w) P w K mg base N qual (defScope st) f cdv A outer s H E).A → sp vs H Q E →
      ∃ t, PSs (cxOf (L2.CX P w) P w K mg base N qual (defScope st) f cdv A outer s H E) (defBody st) t ∧ t { nx := fun _ H' => Q .non H', rt := Q } (start N vs) H) : FnR P w K mg base (L2.CX P w) (k + 1) f sp := by
  obtain ⟨fd, F⟩ := D
  have F1 : FnOk P w K mg base (L2.CX P w) (k + 1) f fd ps sp := F.ok S len fun cdv A outer s H vs Q E hr h => body cdv A outer s H vs Q E (takes_of rfl rfl rfl rfl) (passes_of (X := cxOf (L2.CX P w) P w K mg base N qual (defScope st) f cdv A outer s H E) rfl) hr h
  have R := FnOk.raw F1 (F.bindsN hb) .nil
  intro A outer s H us vs Q E hr e0 r h
  exact R A outer s H us vs Q E hr e0 r (by show sp (vs ++ []) H Q E; rw [List.append_nil]; exact h)
end
section
variable {X : Cx} {CX : CXT} {k : Nat} {f : Addr} {sp : Sp} {E : XK} {x : Str} {e : Expr} {es : List Expr} {t : TA} {p pos : Pos}
theorem pc_of (tk : Takes X (fun cls d _ H => E cls d H)) : Passes (L2.CX X.prog X.w) X E := passes_call tk fun _ _ _ _ h => h
theorem pass0' : Passes (L2.CX X.prog X.w) X E0 := passL
/-- x(e, ..), x a def of the module, by its positional promise -/
theorem pe_callR (F : FnR X.prog X.w X.K X.mg X.base CX k f sp) (hr : Room k X.A) (hg : Gl X x) (hm : X.mg x = some (.ref f)) (hk : PySem.W.keepIn X.K (.ref f) = true) (hx : Passes CX X E) (ha : PA X (e :: es) t)
    (hd : (x == ("__debug__" : Str)) = false := by decide) (he : starEach (e :: es) X.env = (false, eval e X.env) :: starEach es X.env := by rfl) (hpl : (backTo pos (starEach es X.env)).any (·.1) = false := by rfl) :
    PE X (.Call (.Name x p) (e :: es) [] pos) (fun σ H Q => t σ H fun vs H1 => sp vs H1 Q E) :=
  ⟨fun pins s σ H Q I h => wpAny_Call_Name_kw (ld_glob I hg hm (PySem.W.callWith_K (h₀ := X.base) I.ok.mod.kin hk (thn (ha.run pos pins s σ H _ I h) fun us s1 ⟨vs, H1, I1, r, q⟩ => ⟨I1.kIn, wpAny_call (run_fnR F hr hx I1 r q)⟩) he hpl) hd)⟩
/-- what is let out is wished for at the slots (a call within a try) -/
theorem run_fnRS {pins : List (Addr × Obj)} {σ : L2.St} {H : Hp} {s : Shared} {Q : VK} {us : List Value} {vs : List V} {ES : L2.St → XK} (F : FnR X.prog X.w X.K X.mg X.base CX k f sp) (hr : Room k X.A) (hx : PassesAt CX X σ (ES σ))
    (I : Inv X pins σ H s) (r : Vals vs us) (h : sp vs H Q (ES σ)) : wpAny (model X.prog X.w) X.A (call (.ref f) us) (EP X pins σ Q) X.xe s := by
  refine wpAny_call (codeAny_mono (F X.A X.stack s H us vs Q (ES σ) hr I.env0 r h) fun z s' hq => ?_)
  cases z with
  | error e => exact hx pins H s e s' I hq
  | ok fl =>
    cases fl with
    | ret u => exact I.after hq
    | next => exact False.elim hq
    | brk => exact False.elim hq
    | cont => exact False.elim hq
theorem pe_callRS {ES : L2.St → XK} (F : FnR X.prog X.w X.K X.mg X.base CX k f sp) (hr : Room k X.A) (hg : Gl X x) (hm : X.mg x = some (.ref f)) (hk : PySem.W.keepIn X.K (.ref f) = true) (hx : ∀ σ, PassesAt CX X σ (ES σ)) (ha : PA X (e :: es) t)
    (hd : (x == ("__debug__" : Str)) = false := by decide) (he : starEach (e :: es) X.env = (false, eval e X.env) :: starEach es X.env := by rfl) (hpl : (backTo pos (starEach es X.env)).any (·.1) = false := by rfl) :
    PE X (.Call (.Name x p) (e :: es) [] pos) (fun σ H Q => t σ H fun vs H1 => sp vs H1 Q (ES σ)) :=
  ⟨fun pins s σ H Q I h => wpAny_Call_Name_kw (ld_glob I hg hm (PySem.W.callWith_K (h₀ := X.base) I.ok.mod.kin hk (thn (ha.run pos pins s σ H _ I h) fun us s1 ⟨vs, H1, I1, r, q⟩ => ⟨I1.kIn, run_fnRS F hr (hx σ) I1 r q⟩) he hpl) hd)⟩
/-- an own error without arguments -/
theorem pmk0 (T : ExF X.K X.mg x) (hg : Gl X x) (hd : (x == ("__debug__" : Str)) = false := by decide) : PMk X (.Call (.Name x p) [] [] pos) (fun _ H Q => Q (.ref (He.ga X.K x)) none H) := by
  intro pins s σ H Q I h
  obtain ⟨q1, q2, q3, q4⟩ := T.f
  refine wpAny_Call_Name_kw (ld_glob I hg T.g ?_ hd)
  refine PySem.W.callWith_K0 I.kIn q2 ?_
  obtain ⟨bm, N, nm, qn, bs, hdct, sn, sub, ab, col, dd, k0, k1, k2, k3, k5, mN, hC, hN, hni, T2⟩ := exc_obj I.kIn q1
  obtain ⟨hp, g, d, tt, os⟩ := s
  exact wpAny_call_exc_subT PySem.F.excBase_ValueError T2 hC hN hni (fun h' a hm => mk_of I hm (raises_own q3 q4) h (I.hok.gone hm.new)) (Nat.zero_le _)
end
end Tm

set_option maxHeartbeats 4000000
/-! The tree of files, plainly; what the text's defs reckon. -/
namespace Tm
open PySem PySem.Spec PyProof.Rows L2
inductive Bd where
  | oct (l : List Int)
  | ent (l : List (Str × Int))
  | tgt (s : Str)
structure Nd where
  bd : Bd
  links : Int
structure Tr where
  nodes : List (Int × Nd)
  hs : List (Option Int)
inductive Er where
  | nd | nf | tml | rf | isd | ftl | ae | df | ne | nl | tmo | tmf | wi | no
  deriving DecidableEq
def Er.cls : Er → Str
  | .nd => "NotDirectory" | .nf => "NotFound" | .tml => "TooManyLinks" | .rf => "RootFixed" | .isd => "IsDirectory" | .ftl => "FileTooLarge" | .ae => "AlreadyExists"
  | .df => "DirectoryFull" | .ne => "NotEmpty" | .nl => "NotLink" | .tmo => "TooManyOpen" | .tmf => "TooManyFiles" | .wi => "WithinItself" | .no => "NotOpen"
def Er.word : Er → Str
  | .nd => "notdirectory" | .nf => "notfound" | .tml => "toomanylinks" | .rf => "rootfixed" | .isd => "isdirectory" | .ftl => "filetoolarge" | .ae => "alreadyexists"
  | .df => "directoryfull" | .ne => "notempty" | .nl => "notlink" | .tmo => "toomanyopen" | .tmf => "toomanyfiles" | .wi => "withinitself" | .no => "notopen"
def Bd.kind : Bd → Str
  | .oct _ => "file" | .ent _ => "directory" | .tgt _ => "link"
def Bd.len : Bd → Nat
  | .oct l => l.length | .ent l => l.length | .tgt s => s.length
/-! ### nodes by numbers, as the dict holds them -/
abbrev Ns := List (Int × Nd)
def lk (l : Ns) (n : Int) : Option Nd := (l.find? fun p => decide (p.1 = n)).map (·.2)
def putN (l : Ns) (n : Int) (x : Nd) : Ns := if l.any (fun p => decide (p.1 = n)) then l.map (fun p => if p.1 = n then (p.1, x) else p) else l ++ [(n, x)]
def dropN (l : Ns) (n : Int) : Ns := l.filter fun p => decide (p.1 ≠ n)
/-! ### names -/
def nm4 : List Str := ["a", "b", "c.d", "E_-9"]
def sl1 (x : Str) : Str := "/" ++ x
def pathL : List Str := "/" :: (nm4.map sl1 ++ ((nm4.flatMap fun a => nm4.map fun b => sl1 a ++ sl1 b) ++ nm4.flatMap fun a => nm4.flatMap fun b => nm4.map fun c => sl1 a ++ sl1 b ++ sl1 c))
def tgtL : List Str := ["/a", "b", "/", "a/b", "/b/c.d", "E_-9", "/a/b/a", "c.d"]
def namesOf (s : Str) : List Str := (Txt.split s "/").filter fun x => decide (x ≠ "")
def absOf (s : Str) : Bool := Txt.startswith s "/"
/-- what names_of gives -/
def cutOf (s : Str) : Str := if absOf s then cutS s (some 1) none else s
def progNames (s : Str) : List Str := if cutOf s = "" then [] else Txt.split (cutOf s) "/"
theorem names_all : ((pathL ++ tgtL).all fun s => decide (progNames s = namesOf s) && (decide ((namesOf s).length ≤ 3) && (decide (s.length ≤ 20) && decide ((cutOf s).length ≤ 20)))) = true := by decide +kernel
theorem names_ok {s : Str} (h : s ∈ pathL ∨ s ∈ tgtL) : progNames s = namesOf s ∧ (namesOf s).length ≤ 3 ∧ s.length ≤ 20 ∧ (cutOf s).length ≤ 20 := by
  have q := List.all_eq_true.mp names_all s (List.mem_append.mpr h)
  simp only [Bool.and_eq_true, decide_eq_true_eq] at q
  exact q
/-! ### following -/
def childL (l : List (Str × Int)) (x : Str) : Option Int := (l.find? fun p => decide (p.1 = x)).map (·.2)
def isDir (l : Ns) (n : Int) : Bool := match lk l n with
  | some ⟨.ent _, _⟩ => true
  | _ => false
def child (l : Ns) (d : Int) (x : Str) : Option Int := match lk l d with
  | some ⟨.ent e, _⟩ => childL e x
  | _ => none
def fol : Nat → Ns → List Str → Int → Nat → Except Er Int
  | 0, _, _, _, _ => .error .nf
  | _ + 1, _, [], n, _ => .ok n
  | F + 1, l, x :: r, n, hops => match lk l n with
    | some ⟨.ent e, _⟩ => (match childL e x with
      | none => .error .nf
      | some c => match lk l c with
        | some ⟨.tgt s, _⟩ => if hops = 8 then .error .tml else fol F l (namesOf s ++ r) (if absOf s then 0 else n) (hops + 1)
        | _ => fol F l r c hops)
    | _ => .error .nd
def followS (l : Ns) (p : Str) : Except Er Int := fol 2000 l (namesOf p) 0 0
def placeN (l : Ns) (ns : List Str) : Except Er (Int × Str) := match ns.getLast? with
  | none => .error .rf
  | some x => (match fol 2000 l ns.dropLast 0 0 with
    | .error e => .error e
    | .ok d => if isDir l d then .ok (d, x) else .error .nd)
def placeS (l : Ns) (p : Str) : Except Er (Int × Str) := placeN l (namesOf p)
def entryS (l : Ns) (p : Str) : Except Er (Int × Str × Int) := match placeS l p with
  | .error e => .error e
  | .ok (d, x) => (match child l d x with
    | none => .error .nf
    | some c => .ok (d, x, c))
/-! ### what holds of a tree throughout -/
def cnt (n : Int) : Bd → Nat
  | .ent l => (l.filter fun e => decide (e.2 = n)).length
  | _ => 0
def refs : Ns → Int → Nat
  | [], _ => 0
  | p :: r, n => cnt n p.2.bd + refs r n
/-- a way up to the root -/
inductive Up (l : Ns) : Int → Prop where
  | root : Up l 0
  | up {c d : Int} {e : List (Str × Int)} {k : Int} {x : Str} : lk l d = some ⟨.ent e, k⟩ → (x, c) ∈ e → Up l d → Up l c
def ltS (a b : Str) : Prop := a.cps.toList < b.cps.toList
def Srt (l : List (Str × Int)) : Prop := l.Pairwise fun a b => ltS a.1 b.1
structure WF (T : Tr) : Prop where
  nd : (T.nodes.map (·.1)).Nodup
  rng : ∀ p ∈ T.nodes, 0 ≤ p.1 ∧ p.1 < 256
  root : ∃ l, lk T.nodes 0 = some ⟨.ent l, 1⟩
  ent : ∀ n l k, lk T.nodes n = some ⟨.ent l, k⟩ → Srt l ∧ l.length ≤ 64 ∧ k = 1 ∧ Up T.nodes n
  ref : ∀ n, n ≠ 0 → (refs T.nodes n : Int) = (match lk T.nodes n with | none => 0 | some x => x.links)
  ref0 : refs T.nodes 0 = 0
  tg : ∀ n s k, lk T.nodes n = some ⟨.tgt s, k⟩ → s ∈ tgtL
  oct : ∀ n l k, lk T.nodes n = some ⟨.oct l, k⟩ → l.length ≤ 28672
  hl : T.hs.length = 16
  hf : ∀ n, some n ∈ T.hs → ∃ l k, lk T.nodes n = some ⟨.oct l, k⟩
  nm : ∀ n l k, lk T.nodes n = some ⟨.ent l, k⟩ → ∀ q ∈ l, PyData.strOk q.1 = true
/-! ### reading off the invariant -/
theorem cnt_pos {e : List (Str × Int)} {x : Str} {c : Int} (h : (x, c) ∈ e) : 0 < cnt c (.ent e) := by
  unfold cnt
  exact List.length_pos_of_mem (List.mem_filter.mpr ⟨h, by simp⟩)
theorem refs_pos {c : Int} : ∀ {l : Ns} {p : Int × Nd}, p ∈ l → 0 < cnt c p.2.bd → 0 < refs l c
  | a :: r, p, h, q => by
    unfold refs
    rcases List.mem_cons.mp h with e | h
    · subst e; omega
    · have := refs_pos h q; omega
theorem lk_mem {l : Ns} {n : Int} {x : Nd} (h : lk l n = some x) : (n, x) ∈ l := by
  unfold lk at h
  obtain ⟨p, hp, e⟩ := Option.map_eq_some_iff.mp h
  have h1 := List.find?_some hp
  have h2 := List.mem_of_find?_eq_some hp
  have h3 : p.1 = n := of_decide_eq_true h1
  obtain ⟨p1, p2⟩ := p
  subst e h3
  exact h2
theorem lk_of_mem {n : Int} {x : Nd} : ∀ {l : Ns}, (l.map (·.1)).Nodup → (n, x) ∈ l → lk l n = some x
  | p :: r, hd, h => by
    rw [List.map_cons, List.nodup_cons] at hd
    unfold lk
    rw [List.find?_cons]
    rcases List.mem_cons.mp h with e | h
    · subst e; simp
    · have ne : ¬ p.1 = n := fun z => hd.1 (List.mem_map.mpr ⟨(n, x), h, z.symm⟩)
      rw [decide_eq_false ne]
      exact lk_of_mem hd.2 h
theorem childL_mem {l : List (Str × Int)} {x : Str} {c : Int} (h : childL l x = some c) : (x, c) ∈ l := by
  unfold childL at h
  obtain ⟨p, hp, e⟩ := Option.map_eq_some_iff.mp h
  have h1 := List.find?_some hp
  have h2 := List.mem_of_find?_eq_some hp
  have h3 : p.1 = x := of_decide_eq_true h1
  obtain ⟨p1, p2⟩ := p
  subst e h3
  exact h2
/-- an entry leads to a node that stands, and not to the root -/
theorem WF.there {T : Tr} (W : WF T) {d : Int} {e : List (Str × Int)} {k : Int} {x : Str} {c : Int} (h : lk T.nodes d = some ⟨.ent e, k⟩) (hc : (x, c) ∈ e) : c ≠ 0 ∧ ∃ y, lk T.nodes c = some y := by
  have hp : 0 < refs T.nodes c := refs_pos (lk_mem h) (cnt_pos hc)
  have h0 : c ≠ 0 := fun z => by
    have := W.ref0
    rw [z] at hp
    omega
  refine ⟨h0, ?_⟩
  have hr := W.ref c h0
  cases q : lk T.nodes c with
  | none =>
    rw [q] at hr
    have hr2 : (refs T.nodes c : Int) = 0 := hr
    omega
  | some y => exact ⟨y, rfl⟩
theorem WF.child {T : Tr} (W : WF T) {d : Int} {x : Str} {c : Int} (h : child T.nodes d x = some c) : c ≠ 0 ∧ ∃ y, lk T.nodes c = some y := by
  unfold Tm.child at h
  split at h
  · rename_i e k hd
    exact W.there hd (childL_mem h)
  · cases h
end Tm

set_option maxHeartbeats 4000000
namespace Tm
open PySem PySem.Spec PyProof.Rows L2
def erL : List Er := [.nd, .nf, .tml, .rf, .isd, .ftl, .ae, .df, .ne, .nl, .tmo, .tmf, .wi, .no]
def excB (K : PySem.W.Frag) (x : Str) : Bool :=
  He.eqO (PySem.W.findIn K (.ref (He.ga K x)) "__getattribute__") (some (some (.builtin "BaseException.__getattribute__"))) &&
  (He.eqO (PySem.W.findIn K (.ref (He.ga K x)) "__getattr__") (some none) &&
  (decide (PySem.W.subIn K (.ref (He.ga K x)) (.type "BaseException") = some true) &&
  (PySem.W.hasDictIn K (He.ga K x) &&
  (He.eqO (PySem.W.findIn K (.ref (He.ga K x)) "__class__") (some (some (.builtin "object.__class__"))) &&
  (He.eqO (PySem.W.specialIn K (.builtin "object.__class__") "__get__") (some (some (.builtin "getset_descriptor.__get__"))) &&
  (decide (PySem.W.takesIn K (.builtin "object.__class__") = some true) &&
  decide (PySem.W.mroIn K (He.ga K x) (.type "object") = some true)))))))
def actL : List Str := ["mkdir", "rmdir", "write", "read", "truncate", "rename", "link", "unlink", "symlink", "readlink", "readdir", "stat", "lstat", "open_file", "close_file", "read_at", "write_at", "resize", "stat_at"]
def exB (K : PySem.W.Frag) : Bool := (erL.all fun e => excB K e.cls) && ((erL.all fun e => erL.all fun e' => decide (PySem.W.kitOne K (.ref (He.ga K e.cls)) (.ref (He.ga K e'.cls)) = some (decide (e = e')))) && He.valsB K (He.ga K "ACTIONS") (actL.map fun x => (x, .glo x)))
def tabsL : List He.Tab := [(fun K => He.ga K "ACTIONS", actL)]
/-! ### the part of the heap that is looked at: the globals, what they name, their codes, classes' names, methods, their codes -/
def nextA (o : Obj) : List Addr := match o.data with
  | .dict es _ => es.toList.flatMap fun e => He.refV e.val
  | .func fd => He.refV fd.code ++ (He.refV fd.defaults ++ He.refV fd.kwdefaults)
  | .cls cd => [cd.ns]
  | _ => []
def frontA (g : Addr → Option Obj) (as : List Addr) : List Addr := as.flatMap fun a => match g a with
  | some o => nextA o
  | none => []
def adrL (g : Addr → Option Obj) : List Addr :=
  let l1 := frontA g [mainGlobals]
  let l2 := frontA g l1
  let l3 := frontA g l2
  let l4 := frontA g l3
  mainGlobals :: (l1 ++ (l2 ++ (l3 ++ l4)))
def fragL (g : Addr → Option Obj) : PySem.W.Frag := He.frG g (adrL g)
def SaysL (w : World) (K : PySem.W.Frag) : Prop := He.SaysT faL fnL tabsL w K ∧ exB K = true
abbrev AlL : Type := He.AlT × Bool
def obsL (g : Addr → Option Obj) : AlL := (He.obsT faL fnL tabsL (fragL g), exB (fragL g))
def hookL : PySem.W.Hook where
  α := AlL
  obs := fun s => obsL s.heap.get?
  val := fun w => (He.valT fnL tabsL w, true)
  says := fun w h => ∃ K : PySem.W.Frag, K.In h ∧ SaysL w K
  of := fun _ _ e => ⟨_, He.frG_in, congrArg (fun z : AlL => z.1) e, congrArg (fun z : AlL => z.2) e⟩
  keeps := fun _ _ _ ⟨K, hK, c⟩ k => ⟨K, PySem.W.Frag.In.keeps hK k, c⟩
theorem obsL_eq {g : Addr → Option Obj} {s : Shared} (h : ∀ a, g a = s.heap.get? a) : obsL g = hookL.obs s := by
  have e : g = s.heap.get? := funext h
  rw [e] <;> rfl
end Tm

set_option maxHeartbeats 0
namespace HeadT
open PySem PySem.W PySem.Calls PyProof.Rows
abbrev R : OpenRow := OpenLaw.row PySem.Challenge.rw_tidemark_k58_whole_operations_follow_a_p
abbrev qv : Program := view R.prog [114]
def n1 : List PySem.Str := ["_wall", "TidemarkError", "FileError", "NotDirectory", "NotFound", "TooManyLinks", "RootFixed", "IsDirectory", "FileTooLarge", "AlreadyExists", "DirectoryFull", "NotEmpty", "NotLink", "TooManyOpen", "TooManyFiles", "WithinItself", "NotOpen", "names_of", "LINKS_MOST", "follow_names"]
def n2 : List PySem.Str := ["follow", "place_of", "entry_of", "parent_of", "status", "readlink", "readdir", "stat", "lstat", "Node", "NUMBERS", "ENTRIES_MOST", "add_entry", "remove_entry", "drop_name", "new_number", "is_full", "free_place", "new_node", "mkdir"]
def n3 : List PySem.Str := ["symlink", "link", "rmdir", "unlink", "FILE_MOST", "written", "resized", "file_at", "write_file", "resize_file", "read_file", "write_new", "write", "read", "truncate", "open_file", "opened", "close_file", "read_at", "write_at"]
def n4 : List PySem.Str := ["resize", "stat_at", "is_within", "check_replaced", "rename", "ACTIONS", "make_operation", "HANDLES", "FileTree", "_law_draws", "_law_path", "_law_octets", "_law_target", "_law_offset", "_law_operation", "_law_asking", "_law_word", "_law_make", "_law_names", "_law_child"]
def n5 : List PySem.Str := ["_law_follow", "_law_place", "_law_entry", "_law_set", "_law_lose", "_law_free", "_law_new", "_law_written", "_law_file", "_law_put", "_law_write", "_law_status", "_law_remove", "_law_link", "_law_below", "_law_replaced", "_law_rename", "_law_look", "_law_content", "_law_handle"]
def n6 : List PySem.Str := ["_law_due", "_law_same", "__name__"]
def names : List PySem.Str := n1 ++ n2 ++ n3 ++ n4 ++ n5 ++ n6
abbrev hk : PySem.W.Hook := Tm.hookL
def ob (s : PySem.W.SharedT) : Tm.AlL := Tm.obsL (HandSHeadRun.getT s)
theorem ob_eq (s : PySem.W.SharedT) : ob s = hk.obs s.abs := Tm.obsL_eq (HandSHeadRun.getT_eq s)
theorem runF (w : World) : HandSHeadRun.RunEq R qv hk ob 8000 names (w.withFollow "special-get-raises" false) := by
  intro os
  kernel_rfl
theorem runT (w : World) : HandSHeadRun.RunEq R qv hk ob 8000 names (w.withFollow "special-get-raises" true) := by
  intro os
  kernel_rfl
theorem run (w : World) : HandSHeadRun.RunEq R qv hk ob 8000 names w := byRow2 "special-get-raises" runF runT w
end HeadT

set_option maxHeartbeats 4000000
/-! How a tree stands in the heap. -/
namespace Tm
open PySem PySem.Spec PyProof.Rows L2
def hV : Option Int → V
  | none => .non
  | some n => .int n
abbrev aN (K : PySem.W.Frag) : Addr := He.ga K "Node"
abbrev aT (K : PySem.W.Frag) : Addr := He.ga K "FileTree"
/-- a body as the program holds it -/
def BodyP (K : PySem.W.Frag) (H : Hp) : Bd → V → Prop
  | .oct l, v => ∃ b, v = .ref b ∧ SqT K H b (l.map V.int)
  | .ent l, v => ∃ (b : Addr) (ps : List Addr), v = .ref b ∧ SqT K H b (ps.map V.ref) ∧ Paired (fun (p : Addr) (e : Str × Int) => SqT K H p [V.str e.1, V.int e.2]) ps l
  | .tgt s, v => v = .str s
def nFs (nd : Nd) (bv : V) : List (Str × V) := [("kind", .str nd.bd.kind), ("body", bv), ("links", .int nd.links)]
def NodeP (K : PySem.W.Frag) (H : Hp) (p : Addr) (nd : Nd) : Prop := ∃ (dx : Addr) (bv : V), H p = some (.ins (aN K) dx (nFs nd bv)) ∧ BodyP K H nd.bd bv
def tFs (d hl : Addr) : List (Str × V) := [("nodes", .ref d), ("handles", .ref hl)]
abbrev KvP (K : PySem.W.Frag) (H : Hp) (kv : Key × V) (nn : Int × Nd) : Prop := kv.1 = Sum.inl nn.1 ∧ ∃ p, kv.2 = .ref p ∧ NodeP K H p nn.2
structure PA (K : PySem.W.Frag) (H : Hp) (t d hl : Addr) (T : Tr) : Prop where
  tree : ∃ dx, H t = some (.ins (aT K) dx (tFs d hl))
  dict : ∃ kvs : List (Key × V), H d = some (.dK kvs) ∧ Paired (KvP K H) kvs T.nodes
  hand : H hl = some (.lst (T.hs.map hV))
theorem nFs_kind (nd : Nd) (bv : V) : (nFs nd bv).lookup ("kind" : Str) = some (.str nd.bd.kind) := by
  unfold nFs; simp [List.lookup]
theorem nFs_body (nd : Nd) (bv : V) : (nFs nd bv).lookup ("body" : Str) = some bv := by
  have h : (("body" : Str) == ("kind" : Str)) = false := by decide +kernel
  unfold nFs; simp [List.lookup, h]
theorem nFs_links (nd : Nd) (bv : V) : (nFs nd bv).lookup ("links" : Str) = some (.int nd.links) := by
  have h : (("links" : Str) == ("kind" : Str)) = false := by decide +kernel
  have h2 : (("links" : Str) == ("body" : Str)) = false := by decide +kernel
  unfold nFs; simp [List.lookup, h, h2]
theorem nFs_no (nd : Nd) (bv : V) {m : Str} (h : (m == ("kind" : Str)) = false) (h2 : (m == ("body" : Str)) = false) (h3 : (m == ("links" : Str)) = false) : (nFs nd bv).lookup m = none := by
  unfold nFs; simp [List.lookup, h, h2, h3]
theorem tFs_nodes (d hl : Addr) : (tFs d hl).lookup ("nodes" : Str) = some (.ref d) := by
  unfold tFs; simp [List.lookup]
theorem tFs_handles (d hl : Addr) : (tFs d hl).lookup ("handles" : Str) = some (.ref hl) := by
  have h : (("handles" : Str) == ("nodes" : Str)) = false := by decide +kernel
  unfold tFs; simp [List.lookup, h]
theorem tFs_no (d hl : Addr) {m : Str} (h : (m == ("nodes" : Str)) = false) (h2 : (m == ("handles" : Str)) = false) : (tFs d hl).lookup m = none := by
  unfold tFs; simp [List.lookup, h, h2]
/-! ### what stays -/
theorem same_t {K : PySem.W.Frag} {H H' : Hp} {a : Addr} {xs : List V} (e : Same H H') (h : SqT K H a xs) : SqT K H' a xs := by
  rcases h with (h | ⟨o, h⟩) | h
  · exact .inl (.inl (e _ _ h))
  · exact .inl (.inr ⟨o, e _ _ h⟩)
  · exact .inr h
/-- what is never written: tuples, instances -/
def Imm : HO → Prop
  | .tup _ => True
  | .ins _ _ _ => True
  | .frz _ u => Imm u
  | _ => False
/-- tuples and instances stay -/
def SameI (H H' : Hp) : Prop := ∀ b o, Imm o → H b = some o → H' b = some o
theorem same_i {H H' : Hp} (e : Same H H') : SameI H H' := fun b o _ h => e b o h
theorem SameI.trans {H H1 H2 : Hp} (a : SameI H H1) (b : SameI H1 H2) : SameI H H2 := fun c o i h => b c o i (a c o i h)
theorem SameI.refl (H : Hp) : SameI H H := fun _ _ _ h => h
theorem samei_t {K : PySem.W.Frag} {H H' : Hp} {a : Addr} {xs : List V} (e : SameI H H') (h : SqT K H a xs) : SqT K H' a xs := by
  rcases h with (h | ⟨o, h⟩) | h
  · exact .inl (.inl (e _ _ trivial h))
  · exact .inl (.inr ⟨o, e _ _ trivial h⟩)
  · exact .inr h
theorem paired_imp {α β : Type} {F G : α → β → Prop} (f : ∀ a b, F a b → G a b) : ∀ {l : List α} {m : List β}, Paired F l m → Paired G l m
  | _, _, .nil => .nil
  | _, _, .cons r t => .cons (f _ _ r) (paired_imp f t)
theorem BodyP.i {K : PySem.W.Frag} {H H' : Hp} (e : SameI H H') : ∀ {b : Bd} {v : V}, BodyP K H b v → BodyP K H' b v
  | .oct _, _, ⟨b, e1, h⟩ => ⟨b, e1, samei_t e h⟩
  | .ent _, _, ⟨b, ps, e1, h, q⟩ => ⟨b, ps, e1, samei_t e h, paired_imp (fun _ _ z => samei_t e z) q⟩
  | .tgt _, _, h => h
theorem NodeP.i {K : PySem.W.Frag} {H H' : Hp} (e : SameI H H') {p : Addr} {nd : Nd} (h : NodeP K H p nd) : NodeP K H' p nd := by
  obtain ⟨dx, bv, h1, h2⟩ := h
  exact ⟨dx, bv, e _ _ trivial h1, h2.i e⟩
theorem kvs_i {K : PySem.W.Frag} {H H' : Hp} (e : SameI H H') {kvs : List (Key × V)} {l : Ns} (h : Paired (KvP K H) kvs l) : Paired (KvP K H') kvs l :=
  paired_imp (fun _ _ ⟨a, p, b, c⟩ => ⟨a, p, b, c.i e⟩) h
theorem PA.same {K : PySem.W.Frag} {H H' : Hp} {t d hl : Addr} {T : Tr} (e : Same H H') (h : PA K H t d hl T) : PA K H' t d hl T := by
  obtain ⟨⟨dx, h1⟩, ⟨kvs, h2, h3⟩, h4⟩ := h
  exact ⟨⟨dx, e _ _ h1⟩, ⟨kvs, e _ _ h2, kvs_i (same_i e) h3⟩, e _ _ h4⟩
/-! ### looking up -/
theorem kvs_val {K : PySem.W.Frag} {H : Hp} {n : Int} : ∀ {kvs : List (Key × V)} {l : Ns}, Paired (KvP K H) kvs l →
    (match lk l n with | none => valV kvs (Sum.inl n) = none | some nd => ∃ p, valV kvs (Sum.inl n) = some (.ref p) ∧ NodeP K H p nd)
  | _, _, .nil => rfl
  | kv :: _, nn :: l, .cons ⟨e1, p, e2, h⟩ t => by
    have ih := kvs_val (n := n) t
    by_cases q : nn.1 = n
    · have : lk (nn :: l) n = some nn.2 := by unfold lk; rw [List.find?_cons, decide_eq_true q]; rfl
      rw [this]
      exact ⟨p, by rw [valV_pos (by rw [e1, q]), e2], h⟩
    · have e3 : lk (nn :: l) n = lk l n := by unfold lk; rw [List.find?_cons, decide_eq_false q]
      have e4 : ¬ kv.1 = Sum.inl n := by rw [e1]; intro z; exact q (Sum.inl.inj z)
      rw [e3, valV_neg e4]
      exact ih
theorem PA.get {K : PySem.W.Frag} {H : Hp} {t d hl : Addr} {T : Tr} (h : PA K H t d hl T) {n : Int} {nd : Nd} (hn : lk T.nodes n = some nd) : ∃ p, DGet H d (.int n) (some (.ref p)) ∧ NodeP K H p nd := by
  obtain ⟨_, ⟨kvs, h2, h3⟩, _⟩ := h
  have q := kvs_val (n := n) h3
  rw [hn] at q
  obtain ⟨p, q1, q2⟩ := q
  refine ⟨p, ?_, q2⟩
  have z := DGet.k (k := Sum.inl n) h2
  rw [q1] at z
  exact z
theorem PA.has {K : PySem.W.Frag} {H : Hp} {t d hl : Addr} {T : Tr} (h : PA K H t d hl T) (n : Int) : ∃ o, DGet H d (.int n) o ∧ o.isSome = (lk T.nodes n).isSome := by
  obtain ⟨_, ⟨kvs, h2, h3⟩, _⟩ := h
  have q := kvs_val (n := n) h3
  refine ⟨_, DGet.k (k := Sum.inl n) h2, ?_⟩
  cases e : lk T.nodes n with
  | none => rw [e] at q; have q2 : valV kvs (Sum.inl n) = none := q; rw [q2]; rfl
  | some nd => rw [e] at q; obtain ⟨p, q1, _⟩ := q; rw [q1]; rfl
/-! ### answers -/
/-- a value, or an error; nothing is changed -/
def RP (K : PySem.W.Frag) {α : Type} (r : Except Er α) (R : α → V → Hp → Prop) (H : Hp) (Q : VK) (E : XK) : Prop := match r with
  | .ok a => ∀ v H', Same H H' → R a v H' → Q v H'
  | .error e => ∀ H', Same H H' → E (.ref (He.ga K e.cls)) none H'
theorem RP.err {K : PySem.W.Frag} {α : Type} {r : Except Er α} {R : α → V → Hp → Prop} {H : Hp} {Q : VK} {E : XK} {e : Er} (k : RP K r R H Q E) (h : r = .error e) {H' : Hp} (s : Same H H') : E (.ref (He.ga K e.cls)) none H' := by
  subst h; exact k H' s
theorem RP.val {K : PySem.W.Frag} {α : Type} {r : Except Er α} {R : α → V → Hp → Prop} {H : Hp} {Q : VK} {E : XK} {a : α} (k : RP K r R H Q E) (h : r = .ok a) {v : V} {H' : Hp} (s : Same H H') (q : R a v H') : Q v H' := by
  subst h; exact k v H' s q
/-- a callee's promise asked: by the cases of its answer -/
theorem RP.of {K : PySem.W.Frag} {α : Type} {r : Except Er α} {R : α → V → Hp → Prop} {H : Hp} {Q : VK} {E : XK} (h1 : ∀ e, r = .error e → ∀ H', Same H H' → E (.ref (He.ga K e.cls)) none H') (h2 : ∀ a, r = .ok a → ∀ v H', Same H H' → R a v H' → Q v H') : RP K r R H Q E := by
  cases e : r with
  | error x => exact h1 x e
  | ok a => exact h2 a e
theorem same_new {H : Hp} {p : Addr} {o : HO} (h : H p = none) : Same H (upd H p o) := fun a u e => by rw [upd_ne (ne_of_none e h)]; exact e
theorem same_mut {H H' : Hp} {p : Addr} {o : HO} (e : Same H H') (h : H p = none) : Same H (upd H' p o) := fun a u ha => by rw [upd_ne (ne_of_none ha h)]; exact e a u ha
end Tm

set_option maxHeartbeats 4000000
namespace Tm
open PySem PySem.Spec PyProof.Rows L2
section
variable {P : Program} {w : World} {K : PySem.W.Frag} {mg : Str → Option Value} {base : Heap}
/-! ### names_of -/
def spNamesOf : Sp := fun vs H Q _ => ∃ s : Str, vs = [.str s] ∧ (s ∈ pathL ∨ s ∈ tgtL) ∧ ∀ p H', Same H H' → H p = none → H' p = some (.lst ((namesOf s).map V.str)) → Q (.ref p) H'
theorem sc_names_of : FnScope ["path"] ["path"] (defScope s_names_of) := ⟨rfl, rfl, rfl, by decide +kernel, rfl, by decide +kernel, by decide +kernel⟩
theorem ok_names_of (T : Tx K mg) : FnR P w K mg base (L2.CX P w) 1 (He.ga K "names_of") spNamesOf := by
  refine mk_fn (df_names_of T) sc_names_of (fun _ _ _ _ _ _ us hl => match us, hl with | [_], _ => rfl) (fun vs H Q E h => ?_) (fun cdv A outer s H vs Q E tk po hr h => ?_)
  · obtain ⟨s, rfl, _⟩ := h
    rfl
  obtain ⟨z, rfl, hz, k⟩ := h
  obtain ⟨n1, n2, n3, n4⟩ := names_ok hz
  refine ⟨_, (Evl.pss_cut (ps_if (pt_val (pe_m1 PySem.F.slot_str_startswith PySem.F.type_str_startswith mt_startswith (pv 0) pe_str))
    (pss_one (ps_set (i := 0) sc_names_of.nd rfl (Or.inl rfl) (pe_slice sl_str (pv 0) (po_some pe_int) po_none)))
    pss_nil)
    (pss_cons (ps_if (pt_cmpR op_eq (pv 0) pe_str (nomark _))
    (pss_one (ps_ret (pe_lst pa_nil)))
    pss_nil)
    (pss_one (ps_ret (pe_split (pv 0) pe_str))))), ?_⟩
  refine ⟨fun σ' H' => σ' = [some (.str (cutOf z))] ∧ H' = H, ?_, ?_⟩
  · refine ⟨_, rfl, ⟨_, rfl⟩, _, _, rfl, rfl, _, rfl, ?_⟩
    refine ite2 (fun c => ?_) (fun c => ?_)
    · refine ⟨_, rfl, _, rfl, _, rfl, (by rw [sizeLine_eq]; omega), ?_⟩
      have e : cutOf z = cutS z (some 1) none := if_pos c
      rw [e]
      exact ⟨rfl, rfl⟩
    · have e : cutOf z = z := if_neg c
      rw [e]
      exact ⟨rfl, rfl⟩
  · rintro σ' H' ⟨rfl, rfl⟩
    refine ⟨_, rfl, rfl, _, rfl, ?_⟩
    refine ite2 (fun c => ?_) (fun c => ?_)
    · have c2 : V.str (cutOf z) = V.str "" := of_decide_eq_true c
      have c1 : cutOf z = "" := V.str.inj c2
      have e : namesOf z = [] := by rw [← n1]; exact if_pos c1
      refine ⟨Nat.zero_le _, fun p hp => k p _ (same_new hp) hp ?_⟩
      rw [e]
      exact upd_same
    · have c1 : ¬ cutOf z = "" := fun e => c (decide_eq_true (by rw [e]))
      have e : namesOf z = Txt.split (cutOf z) "/" := by rw [← n1]; exact if_neg c1
      refine ⟨_, rfl, ⟨_, rfl⟩, _, _, rfl, rfl, rfl, ?_, fun p hp => k p _ (same_new hp) hp ?_⟩
      · rw [sizeLine_eq]; omega
      · rw [e]
        exact upd_same
/-! ### entry -/
/-- an expression tree.nodes[n] of a node that stands -/
def spEntry (K : PySem.W.Frag) : Sp := fun vs H Q _ => ∃ (t d hl : Addr) (T : Tr) (n : Int) (x : Str) (e : List (Str × Int)) (k : Int), vs = [.ref t, .int n, .str x] ∧ PA K H t d hl T ∧ lk T.nodes n = some ⟨.ent e, k⟩ ∧
  ∀ H', Same H H' → Q (hV (childL e x)) H'
theorem sc_FileTree_entry : FnScope ["self", "directory", "name", "entry_name", "number"] ["self", "directory", "name"] (defScope s_FileTree_entry) := ⟨rfl, rfl, rfl, by decide +kernel, rfl, by decide +kernel, by decide +kernel⟩
theorem paired_at {α β : Type} {F : α → β → Prop} : ∀ {l : List α} {m : List β} {i : Nat} {x : α}, Paired F l m → l[i]? = some x → ∃ y, m[i]? = some y ∧ F x y
  | _, _, i, x, .nil, h => by simp at h
  | _, _, 0, x, .cons r _, h => by simp at h; subst h; exact ⟨_, rfl, r⟩
  | _, _, i + 1, x, .cons _ t, h => by simp at h; obtain ⟨y, h1, h2⟩ := paired_at t h; exact ⟨y, by simpa using h1, h2⟩
theorem paired_len {α β : Type} {F : α → β → Prop} : ∀ {l : List α} {m : List β}, Paired F l m → l.length = m.length
  | _, _, .nil => rfl
  | _, _, .cons _ t => by rw [List.length_cons, List.length_cons, paired_len t]
theorem find_drop {e : List (Str × Int)} {x : Str} {i : Nat} {y : Str × Int} (hi : e[i]? = some y) (hno : ∀ z ∈ e.take i, z.1 ≠ x) : childL e x = (if y.1 = x then some y.2 else childL (e.drop (i + 1)) x) := by
  obtain ⟨hl, hy⟩ := List.getElem?_eq_some_iff.mp hi
  have h1 : e = e.take i ++ (y :: e.drop (i + 1)) := by rw [← hy, ← List.drop_eq_getElem_cons hl, List.take_append_drop]
  have h2 : (e.take i).find? (fun p => decide (p.1 = x)) = none := List.find?_eq_none.mpr fun z hz => by simp [hno z hz]
  unfold childL
  conv => lhs; rw [h1]
  rw [List.find?_append, h2, List.find?_cons]
  by_cases q : y.1 = x
  · rw [decide_eq_true q, if_pos q]; rfl
  · rw [decide_eq_false q, if_neg q]; rfl
theorem ok_FileTree_entry (T : Tx K mg) : FnR P w K mg base (L2.CX P w) 1 (He.ma K (He.ga K "FileTree") "entry") (spEntry K) := by
  refine mk_fn (df_FileTree_entry T) sc_FileTree_entry (fun _ _ _ _ _ _ us hl => match us, hl with | [_, _, _], _ => rfl) (fun vs H Q E h => ?_) (fun cdv A outer s H vs Q E tk po hr h => ?_)
  · obtain ⟨_, _, _, _, _, _, _, _, rfl, _⟩ := h
    rfl
  obtain ⟨t, d, hl, Tr, n, x, e, kk, rfl, pa, hn, k⟩ := h
  obtain ⟨p, g, dx, bv, hp, b, ps, hb, hs, hps⟩ := pa.get hn
  subst hb
  obtain ⟨dt, ht⟩ := pa.tree
  refine ⟨_, (pss_cons (ps_for po rfl (pi_tup (pe_fld (pe_dget (hu_of hr) (pe_fld (pv 0) rfl) (pv 1) (fun _ _ => rfl)) rfl)) (pg_tup rfl (pgs_cons (pg_name (i := 3) sc_FileTree_entry.nd rfl (Or.inl rfl)) (pgs_cons (pg_name (i := 4) sc_FileTree_entry.nd rfl (Or.inl rfl)) pgs_nil)))
    (pss_one (ps_if (pt_cmpR op_eq (pv 3) (pv 2) (nomark _))
      (pss_one (ps_ret (pv 4)))
      pss_nil)))
    (pss_one (ps_ret pe_non))), ?_⟩
  refine ⟨_, rfl, t, _, dt, _, _, rfl, ht, T.cT, T.n_nodes, tFs_nodes _ _, _, rfl, d, _, rfl, g, p, _, dx, _, _, rfl, hp, T.cN, T.n_body, nFs_body _ _, b, rfl, ⟨_, hs⟩, ?_⟩
  refine for_tup (K := K) (a := b) (xs := ps.map V.ref) (fun i σ H' => ∃ a3 a4, σ = [some (.ref t), some (.int n), some (.str x), a3, a4] ∧ H' = H ∧ ∀ z ∈ e.take i, z.1 ≠ x) ⟨none, none, rfl, rfl, fun z hz => by simp at hz⟩ (fun i σ H' _ ⟨_, _, _, eH, _⟩ => by rw [eH]; exact hs) ?_ ?_
  · rintro i y σ H' hi ⟨a3, a4, rfl, rfl, hno⟩
    obtain ⟨q, hq, rfl⟩ : ∃ q, ps[i]? = some q ∧ y = V.ref q := by
      rw [List.getElem?_map] at hi
      cases h1 : ps[i]? with
      | none => rw [h1] at hi; cases hi
      | some q => rw [h1] at hi; exact ⟨q, rfl, (Option.some.inj hi).symm⟩
    obtain ⟨en, he, hen⟩ := paired_at hps hq
    refine ⟨q, _, rfl, hen, rfl, _, _, rfl, _, _, rfl, rfl, ?_⟩
    refine ⟨_, rfl, _, rfl, rfl, _, rfl, ?_⟩
    refine ite2 (fun c => ?_) (fun c => ?_)
    · have c1 : en.1 = x := V.str.inj (of_decide_eq_true c)
      refine ⟨_, rfl, ?_⟩
      have z := k H' (Same.refl _)
      rw [find_drop he hno, if_pos c1] at z
      exact z
    · refine ⟨_, _, rfl, rfl, fun z hz => ?_⟩
      obtain ⟨hl2, hy⟩ := List.getElem?_eq_some_iff.mp he
      rw [List.take_succ, he] at hz
      rcases List.mem_append.mp hz with h1 | h1
      · exact hno z h1
      · have e1 : z = en := by simpa using h1
        rw [e1]
        exact fun q => c (decide_eq_true (by rw [q]))
  · rintro σ H' ⟨a3, a4, rfl, rfl, hno⟩
    have z := k H' (Same.refl _)
    have hlen : (ps.map V.ref).length = e.length := by rw [List.length_map]; exact paired_len hps
    rw [hlen, List.take_length] at hno
    have e0 : childL e x = none := by
      unfold childL
      rw [List.find?_eq_none.mpr fun q hq => by simp [hno q hq]]; rfl
    rw [e0] at z
    exact z
/-! ### is_open -/
def spIsOpen (K : PySem.W.Frag) : Sp := fun vs H Q _ => ∃ (t d hl : Addr) (T : Tr) (n : Int), vs = [.ref t, .int n] ∧ PA K H t d hl T ∧ ∀ H', Same H H' → Q (.bl (decide (some n ∈ T.hs))) H'
theorem sc_FileTree_is_open : FnScope ["self", "number"] ["self", "number"] (defScope s_FileTree_is_open) := ⟨rfl, rfl, rfl, by decide +kernel, rfl, by decide +kernel, by decide +kernel⟩
theorem flat_hV (l : List (Option Int)) : (l.map hV).all flatV = true := by
  rw [List.all_eq_true]
  intro v hv
  obtain ⟨o, _, rfl⟩ := List.mem_map.mp hv
  cases o <;> rfl
theorem in_hV (n : Int) (l : List (Option Int)) : inV (.int n) (l.map hV) = decide (some n ∈ l) := by
  unfold inV
  rw [Bool.eq_iff_iff, List.any_eq_true, decide_eq_true_eq]
  constructor
  · rintro ⟨v, hv, e⟩
    obtain ⟨o, ho, rfl⟩ := List.mem_map.mp hv
    cases o with
    | none => cases e
    | some m =>
      have e1 : m = n := by simpa [hV, eqV] using e
      subst e1; exact ho
  · intro h
    exact ⟨_, List.mem_map.mpr ⟨_, h, rfl⟩, by simp [hV, eqV]⟩
theorem ok_FileTree_is_open (T : Tx K mg) : FnR P w K mg base (L2.CX P w) 1 (He.ma K (He.ga K "FileTree") "is_open") (spIsOpen K) := by
  refine mk_fn (df_FileTree_is_open T) sc_FileTree_is_open (fun _ _ _ _ _ _ us hl => match us, hl with | [_, _], _ => rfl) (fun vs H Q E h => ?_) (fun cdv A outer s H vs Q E tk po hr h => ?_)
  · obtain ⟨_, _, _, _, _, rfl, _⟩ := h
    rfl
  obtain ⟨t, d, hl, Tr, n, rfl, pa, k⟩ := h
  obtain ⟨dt, ht⟩ := pa.tree
  refine ⟨_, (pss_one (ps_ret (pe_cmpR op_in_seq (pv 1) (pe_fld (pv 0) rfl) (by rfl)))), ?_⟩
  refine ⟨_, rfl, _, rfl, t, _, dt, _, _, rfl, ht, T.cT, T.n_handles, tFs_handles _ _, hl, _, rfl, .inl (SqL.of pa.hand), rfl, flat_hV _, ?_⟩
  have z := k H (Same.refl _)
  rw [← in_hV] at z
  exact z
/-! ### measure -/
def spMeasure (K : PySem.W.Frag) : Sp := fun vs H Q _ => ∃ (p : Addr) (nd : Nd), vs = [.ref p] ∧ NodeP K H p nd ∧ nd.bd.len ≤ 30000 ∧ ∀ H', Same H H' → Q (.int nd.bd.len) H'
theorem sc_Node_measure : FnScope ["self"] ["self"] (defScope s_Node_measure) := ⟨rfl, rfl, rfl, by decide +kernel, rfl, by decide +kernel, by decide +kernel⟩
theorem ok_Node_measure (T : Tx K mg) : FnR P w K mg base (L2.CX P w) 1 (He.ma K (He.ga K "Node") "measure") (spMeasure K) := by
  refine mk_fn (df_Node_measure T) sc_Node_measure (fun _ _ _ _ _ _ us hl => match us, hl with | [_], _ => rfl) (fun vs H Q E h => ?_) (fun cdv A outer s H vs Q E tk po hr h => ?_)
  · obtain ⟨_, _, rfl, _⟩ := h
    rfl
  obtain ⟨p, nd, rfl, ⟨dx, bv, hp, hb⟩, hz, k⟩ := h
  refine ⟨_, (pss_one (ps_ret (pe_callB call_len (by rfl) (f_len T) PySem.boot_len (pa_cons (pe_fld (pv 0) rfl) pa_nil)))), ?_⟩
  refine ⟨_, rfl, p, _, dx, _, _, rfl, hp, T.cN, T.n_body, nFs_body _ _, _, nd.bd.len, rfl, ?_, k H (Same.refl _)⟩
  obtain ⟨bd, lks⟩ := nd
  cases bd with
  | oct l =>
    obtain ⟨b, rfl, hs⟩ := hb
    exact .inr ⟨_, hs, (by rw [List.length_map]; rfl)⟩
  | ent l =>
    obtain ⟨b, ps, rfl, hs, hq⟩ := hb
    exact .inr ⟨_, hs, (by rw [List.length_map]; exact (paired_len hq).symm)⟩
  | tgt z =>
    have e : bv = V.str z := hb
    subst e
    exact ⟨by rw [sizeLine_eq]; have : z.length ≤ 30000 := hz; omega, rfl⟩
end
end Tm

set_option maxHeartbeats 4000000
namespace Tm
open PySem PySem.Spec PyProof.Rows L2
section
variable {P : Program} {w : World} {K : PySem.W.Frag} {mg : Str → Option Value} {base : Heap}
/-! ### readings of tree.nodes[n] -/
section
variable {σ : L2.St} {H : Hp} {t d hl : Addr} {Tr : Tr} {i j : Nat} {n : Int} {nd : Nd}
/-- the shapes of the readings, opened -/
theorem rd_nodes (T : Tx K mg) (pa : PA K H t d hl Tr) (hi : σ[i]? = some (some (.ref t))) (hj : σ[j]? = some (some (.int n))) (hn : lk Tr.nodes n = some nd) {Q : V → Prop} (q : ∀ p, NodeP K H p nd → Q (.ref p)) :
    ∃ v, σ[i]? = some (some v) ∧ ∃ a C dx fs v1, v = V.ref a ∧ H a = some (.ins C dx fs) ∧ Cls K C ∧ NoAttr K C "nodes" ∧ fs.lookup ("nodes" : Str) = some v1 ∧ ∃ v2, σ[j]? = some (some v2) ∧ ∃ a2 v3, v1 = V.ref a2 ∧ DGet H a2 v2 (some v3) ∧ Q v3 := by
  obtain ⟨dt, ht⟩ := pa.tree
  obtain ⟨p, g, np⟩ := pa.get hn
  exact ⟨_, hi, t, _, dt, _, _, rfl, ht, T.cT, T.n_nodes, tFs_nodes _ _, _, hj, d, _, rfl, g, q p np⟩
theorem rd_kind (T : Tx K mg) (pa : PA K H t d hl Tr) (hi : σ[i]? = some (some (.ref t))) (hj : σ[j]? = some (some (.int n))) (hn : lk Tr.nodes n = some nd) {Q : V → Prop} (q : Q (.str nd.bd.kind)) :
    ∃ v, σ[i]? = some (some v) ∧ ∃ a C dx fs v1, v = V.ref a ∧ H a = some (.ins C dx fs) ∧ Cls K C ∧ NoAttr K C "nodes" ∧ fs.lookup ("nodes" : Str) = some v1 ∧ ∃ v2, σ[j]? = some (some v2) ∧ ∃ a2 v3, v1 = V.ref a2 ∧ DGet H a2 v2 (some v3) ∧
      ∃ a4 C4 dx4 fs4 v4, v3 = V.ref a4 ∧ H a4 = some (.ins C4 dx4 fs4) ∧ Cls K C4 ∧ NoAttr K C4 "kind" ∧ fs4.lookup ("kind" : Str) = some v4 ∧ Q v4 := by
  obtain ⟨dt, ht⟩ := pa.tree
  obtain ⟨p, g, dx, bv, hp, hb⟩ := pa.get hn
  exact ⟨_, hi, t, _, dt, _, _, rfl, ht, T.cT, T.n_nodes, tFs_nodes _ _, _, hj, d, _, rfl, g, p, _, dx, _, _, rfl, hp, T.cN, T.n_kind, nFs_kind _ _, q⟩
theorem rd_fkind (T : Tx K mg) {p : Addr} (np : NodeP K H p nd) (hi : σ[i]? = some (some (.ref p))) {Q : V → Prop} (q : Q (.str nd.bd.kind)) :
    ∃ v, σ[i]? = some (some v) ∧ ∃ a C dx fs v1, v = V.ref a ∧ H a = some (.ins C dx fs) ∧ Cls K C ∧ NoAttr K C "kind" ∧ fs.lookup ("kind" : Str) = some v1 ∧ Q v1 := by
  obtain ⟨dx, bv, hp, _⟩ := np
  exact ⟨_, hi, p, _, dx, _, _, rfl, hp, T.cN, T.n_kind, nFs_kind _ _, q⟩
theorem rd_flinks (T : Tx K mg) {p : Addr} (np : NodeP K H p nd) (hi : σ[i]? = some (some (.ref p))) {Q : V → Prop} (q : Q (.int nd.links)) :
    ∃ v, σ[i]? = some (some v) ∧ ∃ a C dx fs v1, v = V.ref a ∧ H a = some (.ins C dx fs) ∧ Cls K C ∧ NoAttr K C "links" ∧ fs.lookup ("links" : Str) = some v1 ∧ Q v1 := by
  obtain ⟨dx, bv, hp, _⟩ := np
  exact ⟨_, hi, p, _, dx, _, _, rfl, hp, T.cN, T.n_links, nFs_links _ _, q⟩
theorem rd_fbody (T : Tx K mg) {p : Addr} (np : NodeP K H p nd) (hi : σ[i]? = some (some (.ref p))) {Q : V → Prop} (q : ∀ bv, BodyP K H nd.bd bv → Q bv) :
    ∃ v, σ[i]? = some (some v) ∧ ∃ a C dx fs v1, v = V.ref a ∧ H a = some (.ins C dx fs) ∧ Cls K C ∧ NoAttr K C "body" ∧ fs.lookup ("body" : Str) = some v1 ∧ Q v1 := by
  obtain ⟨dx, bv, hp, hb⟩ := np
  exact ⟨_, hi, p, _, dx, _, _, rfl, hp, T.cN, T.n_body, nFs_body _ _, q bv hb⟩
end
theorem kd1 : ¬ (("file" : Str) = "directory") := by decide +kernel
theorem kd2 : ¬ (("link" : Str) = "directory") := by decide +kernel
theorem kd3 : ¬ (("file" : Str) = "link") := by decide +kernel
theorem kd4 : ¬ (("directory" : Str) = "link") := by decide +kernel
theorem kd5 : ¬ (("directory" : Str) = "file") := by decide +kernel
theorem kd6 : ¬ (("link" : Str) = "file") := by decide +kernel
theorem kind_dir (b : Bd) : (b.kind = "directory") ↔ ∃ l, b = .ent l := by
  cases b with
  | oct l => exact ⟨fun h => absurd h kd1, fun ⟨_, h⟩ => by cases h⟩
  | ent l => exact ⟨fun _ => ⟨l, rfl⟩, fun _ => rfl⟩
  | tgt l => exact ⟨fun h => absurd h kd2, fun ⟨_, h⟩ => by cases h⟩
theorem kind_link (b : Bd) : (b.kind = "link") ↔ ∃ l, b = .tgt l := by
  cases b with
  | oct l => exact ⟨fun h => absurd h kd3, fun ⟨_, h⟩ => by cases h⟩
  | ent l => exact ⟨fun h => absurd h kd4, fun ⟨_, h⟩ => by cases h⟩
  | tgt l => exact ⟨fun _ => ⟨l, rfl⟩, fun _ => rfl⟩
theorem kind_file (b : Bd) : (b.kind = "file") ↔ ∃ l, b = .oct l := by
  cases b with
  | oct l => exact ⟨fun _ => ⟨l, rfl⟩, fun _ => rfl⟩
  | ent l => exact ⟨fun h => absurd h kd5, fun ⟨_, h⟩ => by cases h⟩
  | tgt l => exact ⟨fun h => absurd h kd6, fun ⟨_, h⟩ => by cases h⟩
theorem ne_str {a b : Str} : (!decide (V.str a = V.str b)) = true ↔ a ≠ b := by
  rw [Bool.not_eq_true', decide_eq_false_iff_not]
  exact ⟨fun h e => h (by rw [e]), fun h e => h (V.str.inj e)⟩
theorem eq_str {a b : Str} : decide (V.str a = V.str b) = true ↔ a = b := by
  rw [decide_eq_true_eq]
  exact ⟨fun h => V.str.inj h, fun h => by rw [h]⟩
theorem eq_int {a b : Int} : decide (V.int a = V.int b) = true ↔ a = b := by
  rw [decide_eq_true_eq]
  exact ⟨fun h => V.int.inj h, fun h => by rw [h]⟩
theorem ne_int {a b : Int} : (!decide (V.int a = V.int b)) = true ↔ a ≠ b := by
  rw [Bool.not_eq_true', decide_eq_false_iff_not]
  exact ⟨fun h e => h (by rw [e]), fun h e => h (V.int.inj e)⟩
theorem is_non (o : Option Int) : decide (hV o = V.non) = true ↔ o = none := by
  rw [decide_eq_true_eq]
  cases o with
  | none => exact ⟨fun _ => rfl, fun _ => rfl⟩
  | some n => exact ⟨fun h => (nomatch h), fun h => (nomatch h)⟩
theorem not_non (o : Option Int) : (!decide (hV o = V.non)) = true ↔ o ≠ none := by
  rw [Bool.not_eq_true', decide_eq_false_iff_not]
  exact ⟨fun h e => h (of_decide_eq_true ((is_non o).mpr e)), fun h e => h ((is_non o).mp (decide_eq_true e))⟩
theorem cutV_from (xs : List V) (k : Nat) : cutV xs (some (k : Int)) none = xs.drop k := by
  unfold cutV
  rw [HT.sIx_none, HT.sIx_nat]
  by_cases h : k ≤ xs.length
  · rw [Nat.min_eq_left h, List.take_of_length_le]
    rw [List.length_drop]; exact Nat.le_refl _
  · rw [Nat.min_eq_right (by omega), List.drop_eq_nil_of_le (Nat.le_refl _), List.drop_eq_nil_of_le (by omega), List.take_nil]
theorem cutV_to (xs : List V) (k : Nat) : cutV xs none (some (k : Int)) = xs.take k := by
  unfold cutV
  rw [HT.sIx_none, HT.sIx_nat, Nat.sub_zero, List.drop_zero]
  by_cases h : k ≤ xs.length
  · rw [Nat.min_eq_left h]
  · rw [Nat.min_eq_right (by omega), List.take_of_length_le (Nat.le_refl _), List.take_of_length_le (by omega)]
/-! ### follow_names -/
def spFollowNames (K : PySem.W.Frag) : Sp := fun vs H Q E => ∃ (t d hl a : Addr) (T : Tr) (ns : List Str), vs = [.ref t, .ref a] ∧ PA K H t d hl T ∧ WF T ∧ SqL K H a (ns.map V.str) ∧ ns.length ≤ 3 ∧
  RP K (fol 2000 T.nodes ns 0 0) (fun n v _ => v = .int n) H Q E
theorem sc_follow_names : FnScope ["tree", "names", "number", "left", "followed", "found", "node"] ["tree", "names"] (defScope s_follow_names) := ⟨rfl, rfl, rfl, by decide +kernel, rfl, by decide +kernel, by decide +kernel⟩
theorem ok_follow_names (T : Tx K mg) : FnR P w K mg base (L2.CX P w) 2 (He.ga K "follow_names") (spFollowNames K) := by
  have G_FileTree_entry := ok_FileTree_entry (P := P) (w := w) (base := base) T
  have G_names_of := ok_names_of (P := P) (w := w) (base := base) T
  refine mk_fn (df_follow_names T) sc_follow_names (fun _ _ _ _ _ _ us hl => match us, hl with | [_, _], _ => rfl) (fun vs H Q E h => ?_) (fun cdv A outer s H vs Q E tk po hr h => ?_)
  · obtain ⟨_, _, _, _, _, _, rfl, _⟩ := h
    rfl
  obtain ⟨t, d, hl, a, Tr, ns, rfl, pa, W, ha, h3, k⟩ := h
  obtain ⟨lm, hlm⟩ := T.i_LINKS_MOST
  refine ⟨_, (pss_cons (ps_set (i := 2) sc_follow_names.nd rfl (Or.inl rfl) pe_int)
    (pss_cons (ps_set (i := 3) sc_follow_names.nd rfl (Or.inl rfl) (pe_callTy call_list_of (by rfl) (f_list T) (by decide +kernel) (pa_cons (pv 1) pa_nil)))
    (pss_cons (ps_set (i := 4) sc_follow_names.nd rfl (Or.inl rfl) pe_int)
    (pss_cons (ps_while po (pt_cmpR op_gt (pe_callB call_len_seq (by rfl) (f_len T) PySem.boot_len (pa_cons (pv 3) pa_nil)) pe_int (nomark _))
    (pss_cons (ps_if (pt_cmpR op_ne (pe_fld (pe_dget (hu_of hr) (pe_fld (pv 0) rfl) (pv 2) (fun _ _ => rfl)) rfl) pe_str (nomark _))
      (pss_one (ps_raise rfl tk (pmk0 (e_NotDirectory T) rfl)))
      pss_nil)
      (pss_cons (ps_set (i := 5) sc_follow_names.nd rfl (Or.inl rfl) (pe_methR (pv 0) T.cT T.m_entry G_FileTree_entry (hr.mono (by decide)) (pc_of tk) (pa_cons (pv 2) (pa_cons (pe_ix ix_list (pv 3) pe_int (fun _ _ => rfl)) pa_nil))))
      (pss_cons (ps_if (pt_cmpR op_isN (pv 5) pe_non (nomark _))
      (pss_one (ps_raise rfl tk (pmk0 (e_NotFound T) rfl)))
      pss_nil)
      (pss_cons (ps_set (i := 3) sc_follow_names.nd rfl (Or.inl rfl) (pe_slice sl_list (pv 3) (po_some pe_int) po_none))
      (pss_cons (ps_set (i := 6) sc_follow_names.nd rfl (Or.inl rfl) (pe_dget (hu_of hr) (pe_fld (pv 0) rfl) (pv 5) (fun _ _ => rfl)))
      (pss_one (ps_if (pt_cmpR op_ne (pe_fld (pv 6) rfl) pe_str (nomark _))
      (pss_one (ps_set (i := 2) sc_follow_names.nd rfl (Or.inl rfl) (pv 5)))
      (pss_one (ps_if (pt_cmpR op_eq (pv 4) (pe_glob (v := .int 8) rfl hlm ⟨_, rfl⟩) (nomark _))
        (pss_one (ps_raise rfl tk (pmk0 (e_TooManyLinks T) rfl)))
        (pss_cons (ps_set (i := 4) sc_follow_names.nd rfl (Or.inl rfl) (pe_op op_add (pv 4) pe_int))
          (pss_cons (ps_set (i := 3) sc_follow_names.nd rfl (Or.inl rfl) (pe_op op_cat (pe_callR G_names_of (hr.mono (by decide)) rfl (g_names_of T) (k_names_of T) (pc_of tk) (pa_cons (pe_fld (pv 6) rfl) pa_nil)) (pv 3)))
          (pss_one (ps_if (pt_val (pe_m1 PySem.F.slot_str_startswith PySem.F.type_str_startswith mt_startswith (pe_fld (pv 6) rfl) pe_str))
          (pss_one (ps_set (i := 2) sc_follow_names.nd rfl (Or.inl rfl) pe_int))
          pss_nil))))))))))))))
    (pss_one (ps_ret (pv 2))))))), ?_⟩
  obtain ⟨root, hroot⟩ := W.root
  refine ⟨_, rfl, a, _, rfl, .inl ha, fun l0 hl0 => ?_⟩
  refine ⟨fun m σ' H' => ∃ (F : Nat) (left : List Str) (n : Int) (hops : Nat) (l : Addr) (a5 a6 : Option V) (nd : Nd), σ' = [some (.ref t), some (.ref a), some (.int n), some (.ref l), some (.int hops), a5, a6] ∧ Same H H' ∧ H' l = some (.lst (left.map V.str)) ∧
    fol F Tr.nodes left n hops = fol 2000 Tr.nodes ns 0 0 ∧ m = (8 - hops) * 4 + left.length ∧ m < F ∧ hops ≤ 8 ∧ lk Tr.nodes n = some nd ∧ m ≤ 40, ⟨_, 2000, ns, 0, 0, l0, none, none, _, rfl, same_new hl0, upd_same, rfl, rfl, by omega, by omega, hroot, by omega⟩, ?_⟩
  rintro m σ' H' ⟨F, left, n, hops, l, a5, a6, nd, rfl, sm, hL, hR, rfl, hF, h8, hn, h40⟩
  obtain ⟨F, rfl⟩ : ∃ G, F = G + 1 := ⟨F - 1, by omega⟩
  have pa1 := pa.same sm
  obtain ⟨dt, ht⟩ := pa1.tree
  refine ⟨_, rfl, l, _, rfl, .inl (SqL.of hL), _, _, rfl, rfl, _, rfl, ?_⟩
  cases left with
  | nil =>
    refine ite2 (fun c => absurd c (by simp)) (fun _ => ?_)
    exact ⟨_, rfl, k.val hR.symm sm rfl⟩
  | cons x r =>
    refine ite2 (fun _ => ?_) (fun c => absurd c (by simp))
    refine ⟨fun σ2 H2 => ∃ m', m' < (8 - hops) * 4 + (x :: r).length ∧ ∃ (F : Nat) (left : List Str) (n : Int) (hops : Nat) (l : Addr) (a5 a6 : Option V) (nd : Nd), σ2 = [some (.ref t), some (.ref a), some (.int n), some (.ref l), some (.int hops), a5, a6] ∧ Same H H2 ∧ H2 l = some (.lst (left.map V.str)) ∧
      fol F Tr.nodes left n hops = fol 2000 Tr.nodes ns 0 0 ∧ m' = (8 - hops) * 4 + left.length ∧ m' < F ∧ hops ≤ 8 ∧ lk Tr.nodes n = some nd ∧ m' ≤ 40, fun σ2 H2 h => h, ?_⟩
    refine rd_kind T pa1 (by rfl) (by rfl) hn ?_
    refine ⟨rfl, _, rfl, ?_⟩
    refine ite2 (fun c => ?_) (fun c => ?_)
    · have c1 := ne_str.mp c
      refine k.err (e := .nd) ?_ sm
      rw [← hR]
      unfold fol
      rw [hn]
      obtain ⟨b, kk⟩ := nd
      cases b with
      | ent e => exact absurd rfl c1
      | oct e => rfl
      | tgt e => rfl
    · obtain ⟨e, he⟩ := (kind_dir nd.bd).mp (Classical.byContradiction fun z => c (ne_str.mpr z))
      obtain ⟨b, kk⟩ := nd
      have he : b = .ent e := he
      subst he
      refine ⟨_, rfl, t, dt, _, rfl, ht, tFs_no _ _ (by decide +kernel) (by decide +kernel), _, rfl, _, rfl, l, _, 0, _, rfl, rfl, SqL.of hL, atI_nat (j := 0) rfl, ?_⟩
      refine ⟨t, d, hl, Tr, n, x, e, kk, rfl, pa1, hn, fun H2 s2 => ?_⟩
      refine ⟨_, rfl, rfl, _, rfl, ?_⟩
      have hfol : fol (F + 1) Tr.nodes (x :: r) n hops = (match childL e x with
        | none => .error .nf
        | some c => match lk Tr.nodes c with
          | some ⟨.tgt s, _⟩ => if hops = 8 then .error .tml else fol F Tr.nodes (namesOf s ++ r) (if absOf s then 0 else n) (hops + 1)
          | _ => fol F Tr.nodes r c hops) := by
        conv => lhs; unfold fol
        rw [hn]
        all_goals rfl
      have sm2 := sm.trans s2
      refine ite2 (fun c => ?_) (fun c => ?_)
      · have c1 := (is_non _).mp c
        refine k.err (e := .nf) ?_ sm2
        rw [← hR, hfol, c1]
      · cases hc : childL e x with
        | none => exact absurd ((is_non _).mpr hc) c
        | some cc =>
          rw [hc] at hfol
          obtain ⟨_, nd2, hn2⟩ := W.there hn (childL_mem hc)
          have hl2 := s2 l _ hL
          refine ⟨_, rfl, _, rfl, l, _, rfl, SqL.of hl2, fun l1 hl1 => ?_⟩
          have cut : cutV ((x :: r).map V.str) (some 1) none = r.map V.str := cutV_from _ 1
          rw [cut]
          have sm3 := sm2.trans (same_new (o := .lst (r.map V.str)) hl1)
          have pa3 := pa.same sm3
          refine rd_nodes T pa3 (by rfl) (by rfl) hn2 (fun p np => ?_)
          refine rd_fkind T np (by rfl) ?_
          refine ⟨rfl, _, rfl, ?_⟩
          have hl3 : upd H2 l1 (.lst (r.map V.str)) l1 = some (.lst (r.map V.str)) := upd_same
          obtain ⟨b2, k2⟩ := nd2
          refine ite2 (fun c => ?_) (fun c => ?_)
          · have c1 := ne_str.mp c
            have hf2 : fol (F + 1) Tr.nodes (x :: r) n hops = fol F Tr.nodes r cc hops := by
              rw [hfol]
              dsimp only
              rw [hn2]
              cases b2 with
              | tgt z => exact absurd rfl c1
              | oct z => rfl
              | ent z => rfl
            refine ⟨_, rfl, _, ?_, F, r, cc, hops, l1, _, _, _, rfl, sm3, hl3, hf2.symm.trans hR, rfl, ?_, h8, hn2, ?_⟩
            · simp
            · simp only [List.length_cons] at hF; omega
            · simp only [List.length_cons] at h40; omega
          · obtain ⟨z, hz⟩ := (kind_link b2).mp (Classical.byContradiction fun q => c (ne_str.mpr q))
            subst hz
            have hf2 : fol (F + 1) Tr.nodes (x :: r) n hops = if hops = 8 then .error .tml else fol F Tr.nodes (namesOf z ++ r) (if absOf z then 0 else n) (hops + 1) := by
              rw [hfol]
              dsimp only
              rw [hn2]
            have hz := W.tg _ _ _ hn2
            obtain ⟨_, n3, _, _⟩ := names_ok (.inr hz)
            refine ⟨_, rfl, rfl, _, rfl, ?_⟩
            refine ite2 (fun c => ?_) (fun c => ?_)
            · have c1 : hops = 8 := by have := eq_int.mp c; omega
              refine k.err (e := .tml) ?_ sm3
              rw [← hR, hf2, if_pos c1]
            · have c1 : ¬ hops = 8 := fun q => c (eq_int.mpr (by omega))
              rw [if_neg c1] at hf2
              refine ⟨_, rfl, _, _, rfl, rfl, ?_⟩
              refine rd_fbody T np (by rfl) (fun bv hb => ?_)
              have hb : bv = V.str z := hb
              subst hb
              refine ⟨z, rfl, .inr hz, fun q H4 s4 hq0 hq => ?_⟩
              refine ⟨_, rfl, q, l1, _, _, rfl, rfl, hq, s4 _ _ hl3, ?_, fun q5 hq5 => ?_⟩
              · rw [sizeLine_eq, List.length_map, List.length_map]; simp only [List.length_cons] at h40; omega
              have sm5 := (sm3.trans s4).trans (same_new (o := .lst ((namesOf z).map V.str ++ r.map V.str)) hq5)
              have np5 := np.i (same_i (s4.trans (same_new (o := .lst ((namesOf z).map V.str ++ r.map V.str)) hq5)))
              have eL : (namesOf z).map V.str ++ r.map V.str = (namesOf z ++ r).map V.str := List.map_append.symm
              rw [eL] at sm5 np5 ⊢
              refine rd_fbody T np5 (by rfl) (fun bv hb => ?_)
              have hb : bv = V.str z := hb
              subst hb
              refine ⟨⟨_, rfl⟩, _, _, rfl, rfl, _, rfl, ?_⟩
              refine ite2 (fun c => ?_) (fun c => ?_)
              · have ca : absOf z = true := c
                rw [ca] at hf2
                refine ⟨_, ?_, F, namesOf z ++ r, 0, hops + 1, q5, _, _, _, rfl, sm5, upd_same, hf2.symm.trans hR, rfl, ?_, by omega, hroot, ?_⟩
                · simp only [List.length_append, List.length_cons]; omega
                · simp only [List.length_append, List.length_cons] at hF ⊢; omega
                · simp only [List.length_append, List.length_cons] at h40 ⊢; omega
              · have ca : absOf z = false := Bool.eq_false_iff.mpr c
                rw [ca] at hf2
                refine ⟨_, ?_, F, namesOf z ++ r, n, hops + 1, q5, _, _, _, rfl, sm5, upd_same, hf2.symm.trans hR, rfl, ?_, by omega, hn, ?_⟩
                · simp only [List.length_append, List.length_cons]; omega
                · simp only [List.length_append, List.length_cons] at hF ⊢; omega
                · simp only [List.length_append, List.length_cons] at h40 ⊢; omega
end
end Tm

set_option maxHeartbeats 4000000
namespace Tm
open PySem PySem.Spec PyProof.Rows L2
/-! ### plain -/
theorem fol_there {T : Tr} (W : WF T) : ∀ {F : Nat} {ns : List Str} {n : Int} {hops : Nat} {r : Int}, (∃ x, lk T.nodes n = some x) → fol F T.nodes ns n hops = .ok r → ∃ x, lk T.nodes r = some x
  | 0, _, _, _, _, _, h => by cases h
  | F + 1, [], n, _, r, hn, h => by
    have e : n = r := Except.ok.inj h
    rw [← e]; exact hn
  | F + 1, x :: ns, n, hops, r, hn, h => by
    unfold fol at h
    split at h
    · rename_i e k hd
      split at h
      · cases h
      · rename_i c hc
        have hc2 := W.there hd (childL_mem hc)
        split at h
        · rename_i s k2 hl
          split at h
          · cases h
          · refine fol_there W ?_ h
            split
            · obtain ⟨l, hr⟩ := W.root; exact ⟨_, hr⟩
            · exact hn
        · exact fol_there W hc2.2 h
    · cases h
theorem follow_there {T : Tr} (W : WF T) {p : Str} {n : Int} (h : followS T.nodes p = .ok n) : ∃ x, lk T.nodes n = some x := by
  obtain ⟨l, hr⟩ := W.root
  exact fol_there W ⟨_, hr⟩ h
theorem isDir_iff {l : Ns} {n : Int} : isDir l n = true ↔ ∃ e k, lk l n = some ⟨.ent e, k⟩ := by
  unfold isDir
  constructor
  · intro h
    split at h
    · rename_i e k q; exact ⟨e, k, q⟩
    · cases h
  · rintro ⟨e, k, h⟩
    rw [h]
theorem place_dir {l : Ns} {ns : List Str} {d : Int} {x : Str} (h : placeN l ns = .ok (d, x)) : ∃ e k, lk l d = some ⟨.ent e, k⟩ := by
  unfold placeN at h
  split at h
  · cases h
  · split at h
    · cases h
    · split at h
      · rename_i q
        have e := Except.ok.inj h
        rw [← (Prod.mk.inj e).1]
        exact isDir_iff.mp q
      · cases h
theorem entry_parts {l : Ns} {p : Str} {d c : Int} {x : Str} (h : entryS l p = .ok (d, x, c)) : placeS l p = .ok (d, x) ∧ child l d x = some c := by
  unfold entryS at h
  split at h
  · cases h
  · rename_i d2 x2 q
    split at h
    · cases h
    · rename_i c2 hc
      have e := Except.ok.inj h
      obtain ⟨rfl, e2⟩ := Prod.mk.inj e
      obtain ⟨rfl, rfl⟩ := Prod.mk.inj e2
      exact ⟨q, hc⟩
theorem entry_there {T : Tr} (W : WF T) {p : Str} {d c : Int} {x : Str} (h : entryS T.nodes p = .ok (d, x, c)) : c ≠ 0 ∧ ∃ y, lk T.nodes c = some y := W.child (entry_parts h).2
theorem dropL_cut (xs : List V) : cutV xs none (some (-1)) = xs.dropLast := by
  unfold cutV
  rw [HT.sIx_none, Nat.sub_zero, List.drop_zero, List.dropLast_eq_take]
  congr 1
  show (if (-1 : Int) < 0 then ((-1 : Int) + (xs.length : Int)).toNat else min (-1 : Int).toNat xs.length) = xs.length - 1
  rw [if_pos (by decide)]
  omega
theorem getLast_app {α : Type} {l : List α} {x : α} (h : l.getLast? = some x) : l = l.dropLast ++ [x] := by
  obtain ⟨ys, e⟩ := List.getLast?_eq_some_iff.mp h
  rw [e]; simp
/-! ### answers of operations, as data -/
def statV (n : Int) (x : Nd) : List V := [.str x.bd.kind, .int n, .int x.links, .int x.bd.len]
def statD (n : Int) (x : Nd) : PyData := .tuple [.str x.bd.kind, .int n, .int x.links, .int x.bd.len]
def statOf (l : Ns) (n : Int) : PyData := match lk l n with
  | some x => statD n x
  | none => .none
def mapE {α β : Type} (f : α → Except Er β) : Except Er α → Except Er β
  | .error e => .error e
  | .ok a => f a
def readlinkS (l : Ns) (p : Str) : Except Er PyData := mapE (fun z : Int × Str × Int => match lk l z.2.2 with
  | some ⟨.tgt s, _⟩ => .ok (.str s)
  | _ => .error .nl) (entryS l p)
def readdirS (l : Ns) (p : Str) : Except Er PyData := mapE (fun n => match lk l n with
  | some ⟨.ent e, _⟩ => .ok (.list (e.map fun q => .str q.1))
  | _ => .error .nd) (followS l p)
def statS (l : Ns) (p : Str) : Except Er PyData := mapE (fun n => .ok (statOf l n)) (followS l p)
def lstatS (l : Ns) (p : Str) : Except Er PyData := if p = "/" then .ok (statOf l 0) else mapE (fun z : Int × Str × Int => .ok (statOf l z.2.2)) (entryS l p)
def fileS (l : Ns) (p : Str) : Except Er Int := mapE (fun n => match lk l n with
  | some ⟨.oct _, _⟩ => .ok n
  | _ => .error .isd) (followS l p)
def cutI (l : List Int) (off len : Nat) : List Int := (l.drop off).take len
def octD (l : List Int) : PyData := .list (l.map PyData.int)
def octsOf (l : Ns) (n : Int) : List Int := match lk l n with
  | some ⟨.oct o, _⟩ => o
  | _ => []
def readS (l : Ns) (p : Str) (off len : Nat) : Except Er PyData := mapE (fun n => .ok (octD (cutI (octsOf l n) off len))) (fileS l p)
def openS (hs : List (Option Int)) (h : Nat) : Except Er Int := match hs[h]? with
  | some (some n) => .ok n
  | _ => .error .no
theorem bd_small {T : Tr} (W : WF T) {n : Int} {x : Nd} (h : lk T.nodes n = some x) : x.bd.len ≤ 30000 := by
  obtain ⟨b, k⟩ := x
  cases b with
  | oct l => have := W.oct _ _ _ h; show l.length ≤ 30000; omega
  | ent l => have := (W.ent _ _ _ h).2.1; show l.length ≤ 30000; omega
  | tgt s => have := (names_ok (.inr (W.tg _ _ _ h))).2.2.1; show s.length ≤ 30000; omega
theorem dpAll_ints {K : PySem.W.Frag} {H : Hp} : ∀ (l : List Int), DpAll K H (l.map V.int) (l.map PyData.int)
  | [] => .nil
  | a :: l => .cons (.int a) (dpAll_ints l)
theorem dpAll_strs {K : PySem.W.Frag} {H : Hp} : ∀ (l : List Str), DpAll K H (l.map V.str) (l.map PyData.str)
  | [] => .nil
  | a :: l => .cons (.str a) (dpAll_strs l)
theorem dp_stat {K : PySem.W.Frag} {H : Hp} {p : Addr} {n : Int} {x : Nd} (h : H p = some (.tup (statV n x))) : Dp K H (.ref p) (statD n x) :=
  .tup (SqT.of h) (.cons (.str _) (.cons (.int _) (.cons (.int _) (.cons (.int _) .nil))))
section
variable {X : Cx} {CX : CXT} {k : Nat} {f C : Addr} {sp : Sp} {E : XK} {m : Str} {o : Expr} {ta : TE} {apos pos : Pos}
/-- o.m() by a positional promise -/
theorem pe_methR0 {pl : Sem Bool} (he : PE X o ta) (c : Cls X.K C) (hm : Meth X.K C m f) (F : FnR X.prog X.w X.K X.mg X.base CX k f sp) (hr : Room k X.A) (hx : Passes CX X E)
    (ht : eval (.Call (.Attribute o m apos) [] [] pos) X.env = (do
      let ov ← eval o X.env
      standAt apos.atName
      let (f, first) ← holding [ov] (getMethod ov m pl)
      callWith pos f first (backTo pos (starEach [] X.env)) (backToKw pos (keywordEach [] X.env))) := by rfl) :
    PE X (.Call (.Attribute o m apos) [] [] pos) (fun σ H Q => ta σ H fun x H1 => ∃ a dx fs, x = .ref a ∧ H1 a = some (.ins C dx fs) ∧ fs.lookup m = none ∧ sp [x] H1 Q E) := by
  constructor
  intro pins s σ H Q I h
  refine PySem.W.methodCall_KW (pl := pl) (thn (he.run pins s σ H _ I h) fun u s1 ⟨x, H1, I1, rx, a, dx, fs, ex, ea, l, q⟩ => ?_) ht
  subst ex
  have eu : u = Value.ref a := rx
  subst eu
  exact getmeth_ok I1 ea c hm l (PySem.W.callWith_K0 (first := [.ref a]) I1.kIn hm.kp (wpAny_call (run_fnR (us := [.ref a]) (vs := [.ref a]) F hr hx I1 (.cons rfl .nil) q)))
end
section
variable {P : Program} {w : World} {K : PySem.W.Frag} {mg : Str → Option Value} {base : Heap}
/-! ### follow -/
def spFollow (K : PySem.W.Frag) : Sp := fun vs H Q E => ∃ (t d hl : Addr) (T : Tr) (p : Str), vs = [.ref t, .str p] ∧ PA K H t d hl T ∧ WF T ∧ p ∈ pathL ∧ RP K (followS T.nodes p) (fun n v _ => v = .int n) H Q E
-- slots of follow: 0 tree, 1 path
theorem sc_follow : FnScope ["tree", "path"] ["tree", "path"] (defScope s_follow) := ⟨rfl, rfl, rfl, by decide +kernel, rfl, by decide +kernel, by decide +kernel⟩
theorem ok_follow (T : Tx K mg) : FnR P w K mg base (L2.CX P w) 3 (He.ga K "follow") (spFollow K) := by
  have G_follow_names := ok_follow_names (P := P) (w := w) (base := base) T
  have G_names_of := ok_names_of (P := P) (w := w) (base := base) T
  refine mk_fn (df_follow T) sc_follow (fun _ _ _ _ _ _ us hl => match us, hl with | [_, _], _ => rfl) (fun vs H Q E h => ?_) (fun cdv A outer s H vs Q E tk po hr h => ?_)
  · obtain ⟨_, _, _, _, _, rfl, _⟩ := h
    rfl
  obtain ⟨t, d, hl, Tr, p, rfl, pa, W, hp, k⟩ := h
  refine ⟨_, (pss_one (ps_ret (pe_callR G_follow_names (hr.mono (by decide)) rfl (g_follow_names T) (k_follow_names T) (pc_of tk) (pa_cons (pv 0) (pa_cons (pe_callR G_names_of (hr.mono (by decide)) rfl (g_names_of T) (k_names_of T) (pc_of tk) (pa_cons (pv 1) pa_nil)) pa_nil))))), ?_⟩
  obtain ⟨n1, n2, _, _⟩ := names_ok (.inl hp)
  refine ⟨_, rfl, _, rfl, p, rfl, .inl hp, fun q H1 s1 hq0 hq => ?_⟩
  refine ⟨t, d, hl, q, Tr, _, rfl, pa.same s1, W, SqL.of hq, n2, RP.of (fun e he H2 s2 => k.err he (s1.trans s2)) (fun n hn v H2 s2 rv => k.val hn (s1.trans s2) rv)⟩
/-! ### place_of -/
def spPlaceOf (K : PySem.W.Frag) : Sp := fun vs H Q E => ∃ (t d hl : Addr) (T : Tr) (p : Str), vs = [.ref t, .str p] ∧ PA K H t d hl T ∧ WF T ∧ p ∈ pathL ∧
  RP K (placeS T.nodes p) (fun z v H' => ∃ q, v = .ref q ∧ H' q = some (.tup [.int z.1, .str z.2])) H Q E
-- slots of place_of: 0 tree, 1 path, 2 names, 3 directory
theorem sc_place_of : FnScope ["tree", "path", "names", "directory"] ["tree", "path"] (defScope s_place_of) := ⟨rfl, rfl, rfl, by decide +kernel, rfl, by decide +kernel, by decide +kernel⟩
theorem ok_place_of (T : Tx K mg) : FnR P w K mg base (L2.CX P w) 3 (He.ga K "place_of") (spPlaceOf K) := by
  have G_names_of := ok_names_of (P := P) (w := w) (base := base) T
  have G_follow_names := ok_follow_names (P := P) (w := w) (base := base) T
  refine mk_fn (df_place_of T) sc_place_of (fun _ _ _ _ _ _ us hl => match us, hl with | [_, _], _ => rfl) (fun vs H Q E h => ?_) (fun cdv A outer s H vs Q E tk po hr h => ?_)
  · obtain ⟨_, _, _, _, _, rfl, _⟩ := h
    rfl
  obtain ⟨t, d, hl, Tr, p, rfl, pa, W, hp, k⟩ := h
  refine ⟨_, (pss_cons (ps_set (i := 2) sc_place_of.nd rfl (Or.inl rfl) (pe_callR G_names_of (hr.mono (by decide)) rfl (g_names_of T) (k_names_of T) (pc_of tk) (pa_cons (pv 1) pa_nil)))
    (pss_cons (ps_if (pt_cmpR op_eq (pe_callB call_len_seq (by rfl) (f_len T) PySem.boot_len (pa_cons (pv 2) pa_nil)) pe_int (nomark _))
    (pss_one (ps_raise rfl tk (pmk0 (e_RootFixed T) rfl)))
    pss_nil)
    (pss_cons (ps_set (i := 3) sc_place_of.nd rfl (Or.inl rfl) (pe_callR G_follow_names (hr.mono (by decide)) rfl (g_follow_names T) (k_follow_names T) (pc_of tk) (pa_cons (pv 0) (pa_cons (pe_slice sl_list (pv 2) po_none (po_some (pe_un un_neg pe_int))) pa_nil))))
    (pss_cons (ps_if (pt_cmpR op_ne (pe_fld (pe_dget (hu_of hr) (pe_fld (pv 0) rfl) (pv 3) (fun _ _ => rfl)) rfl) pe_str (nomark _))
    (pss_one (ps_raise rfl tk (pmk0 (e_NotDirectory T) rfl)))
    pss_nil)
    (pss_one (ps_ret (pe_tup (pa_cons (pv 3) (pa_cons (pe_ix ix_list (pv 2) (pe_un un_neg pe_int) (fun _ _ => rfl)) pa_nil))))))))), ?_⟩
  obtain ⟨n1, n2, _, _⟩ := names_ok (.inl hp)
  refine ⟨_, rfl, p, rfl, .inl hp, fun q H1 s1 hq0 hq => ?_⟩
  refine ⟨_, rfl, q, _, rfl, .inl (SqL.of hq), rfl, _, rfl, ?_⟩
  refine ite2 (fun c => ?_) (fun c => ?_)
  · have c1 := eq_int.mp c
    have c2 : namesOf p = [] := by
      rw [List.length_map] at c1
      exact List.eq_nil_of_length_eq_zero (by omega)
    refine k.err (e := .rf) ?_ s1
    unfold placeS placeN
    rw [c2]
    rfl
  · have c1 : namesOf p ≠ [] := fun e => c (eq_int.mpr (by rw [e]; rfl))
    obtain ⟨x, hx⟩ : ∃ x, (namesOf p).getLast? = some x := by
      cases e : (namesOf p).getLast? with
      | none => exact absurd (List.getLast?_eq_none_iff.mp e) c1
      | some x => exact ⟨x, rfl⟩
    have hpl : placeS Tr.nodes p = (match fol 2000 Tr.nodes (namesOf p).dropLast 0 0 with
      | .error e => .error e
      | .ok d => if isDir Tr.nodes d then .ok (d, x) else .error .nd) := by
      unfold placeS placeN
      rw [hx]
      all_goals rfl
    refine ⟨_, rfl, _, rfl, _, rfl, _, rfl, q, _, rfl, SqL.of hq, fun l hl0 => ?_⟩
    have ed : cutV ((namesOf p).map V.str) none (some (-1)) = ((namesOf p).dropLast).map V.str := by
      rw [dropL_cut, List.map_dropLast]
    have s2 := s1.trans (same_new (o := .lst (cutV ((namesOf p).map V.str) none (some (-1)))) hl0)
    refine ⟨t, d, hl, l, Tr, (namesOf p).dropLast, rfl, pa.same s2, W, SqL.of (by rw [← ed]; exact upd_same), by rw [List.length_dropLast]; omega, RP.of (fun e he H3 s3 => ?_) (fun n hn v H3 s3 rv => ?_)⟩
    · refine k.err (e := e) ?_ (s2.trans s3)
      rw [hpl, he]
    · subst rv
      obtain ⟨root, hroot⟩ := W.root
      obtain ⟨nd, hnd⟩ := fol_there W ⟨_, hroot⟩ hn
      have s4 := s2.trans s3
      have pa4 := pa.same s4
      have hq4 : H3 q = some (.lst ((namesOf p).map V.str)) := s3 _ _ (same_new (o := .lst (cutV ((namesOf p).map V.str) none (some (-1)))) hl0 _ _ hq)
      refine rd_kind T pa4 (by rfl) (by rfl) hnd ?_
      refine ⟨rfl, _, rfl, ?_⟩
      refine ite2 (fun c => ?_) (fun c => ?_)
      · have c1 := ne_str.mp c
        refine k.err (e := .nd) ?_ s4
        rw [hpl, hn]
        have : isDir Tr.nodes n = false := by
          cases q : isDir Tr.nodes n with
          | false => rfl
          | true =>
            obtain ⟨e, kk, h1⟩ := isDir_iff.mp q
            rw [hnd] at h1
            cases h1
            exact absurd rfl c1
        dsimp only
        rw [this]
        rfl
      · obtain ⟨e, he⟩ := (kind_dir nd.bd).mp (Classical.byContradiction fun z => c (ne_str.mpr z))
        have hdir : isDir Tr.nodes n = true := isDir_iff.mpr ⟨e, nd.links, by rw [hnd, ← he]⟩
        have hok : placeS Tr.nodes p = .ok (n, x) := by
          rw [hpl, hn]
          dsimp only
          rw [hdir]
          rfl
        have hlst : atI ((namesOf p).map V.str) (-1) = some (V.str x) := by
          rw [getLast_app hx, List.map_append]
          exact atI_last _ _
        refine ⟨_, rfl, _, rfl, _, rfl, q, _, _, _, rfl, rfl, SqL.of hq4, hlst, (by show 2 ≤ sizeLine; decide), fun r hr0 => ?_⟩
        exact k.val hok (s4.trans (same_new hr0)) ⟨r, rfl, upd_same⟩
/-! ### entry_of -/
def spEntryOf (K : PySem.W.Frag) : Sp := fun vs H Q E => ∃ (t d hl : Addr) (T : Tr) (p : Str), vs = [.ref t, .str p] ∧ PA K H t d hl T ∧ WF T ∧ p ∈ pathL ∧
  RP K (entryS T.nodes p) (fun z v H' => ∃ q, v = .ref q ∧ H' q = some (.tup [.int z.1, .str z.2.1, .int z.2.2])) H Q E
-- slots of entry_of: 0 tree, 1 path, 2 directory, 3 name, 4 number
theorem sc_entry_of : FnScope ["tree", "path", "directory", "name", "number"] ["tree", "path"] (defScope s_entry_of) := ⟨rfl, rfl, rfl, by decide +kernel, rfl, by decide +kernel, by decide +kernel⟩
theorem ok_entry_of (T : Tx K mg) : FnR P w K mg base (L2.CX P w) 4 (He.ga K "entry_of") (spEntryOf K) := by
  have G_place_of := ok_place_of (P := P) (w := w) (base := base) T
  have G_FileTree_entry := ok_FileTree_entry (P := P) (w := w) (base := base) T
  refine mk_fn (df_entry_of T) sc_entry_of (fun _ _ _ _ _ _ us hl => match us, hl with | [_, _], _ => rfl) (fun vs H Q E h => ?_) (fun cdv A outer s H vs Q E tk po hr h => ?_)
  · obtain ⟨_, _, _, _, _, rfl, _⟩ := h
    rfl
  obtain ⟨t, d, hl, Tr, p, rfl, pa, W, hp, k⟩ := h
  refine ⟨_, (pss_cons (ps_asg (pe_callR G_place_of (hr.mono (by decide)) rfl (g_place_of T) (k_place_of T) (pc_of tk) (pa_cons (pv 0) (pa_cons (pv 1) pa_nil))) (pg_tup rfl (pgs_cons (pg_name (i := 2) sc_entry_of.nd rfl (Or.inl rfl)) (pgs_cons (pg_name (i := 3) sc_entry_of.nd rfl (Or.inl rfl)) pgs_nil))))
    (pss_cons (ps_set (i := 4) sc_entry_of.nd rfl (Or.inl rfl) (pe_methR (pv 0) T.cT T.m_entry G_FileTree_entry (hr.mono (by decide)) (pc_of tk) (pa_cons (pv 2) (pa_cons (pv 3) pa_nil))))
    (pss_cons (ps_if (pt_cmpR op_isN (pv 4) pe_non (nomark _))
    (pss_one (ps_raise rfl tk (pmk0 (e_NotFound T) rfl)))
    pss_nil)
    (pss_one (ps_ret (pe_tup (pa_cons (pv 2) (pa_cons (pv 3) (pa_cons (pv 4) pa_nil))))))))), ?_⟩
  refine ⟨_, rfl, _, rfl, t, d, hl, Tr, p, rfl, pa, W, hp, RP.of (fun e he H1 s1 => ?_) (fun z hz v H1 s1 rv => ?_)⟩
  · refine k.err (e := e) ?_ s1
    unfold entryS
    rw [he]
  · obtain ⟨n, x⟩ := z
    obtain ⟨q, rfl, hq⟩ := rv
    obtain ⟨e, kk, hn⟩ := place_dir hz
    have pa1 := pa.same s1
    obtain ⟨dt, ht⟩ := pa1.tree
    refine ⟨q, _, rfl, SqT.of hq, rfl, _, _, rfl, _, _, rfl, rfl, ?_⟩
    refine ⟨_, rfl, t, dt, _, rfl, ht, tFs_no _ _ (by decide +kernel) (by decide +kernel), _, rfl, _, rfl, ?_⟩
    refine ⟨t, d, hl, Tr, n, x, e, kk, rfl, pa1, hn, fun H2 s2 => ?_⟩
    refine ⟨_, rfl, rfl, _, rfl, ?_⟩
    have hc : entryS Tr.nodes p = (match childL e x with | none => .error .nf | some c => .ok (n, x, c)) := by
      unfold entryS
      rw [hz]
      unfold child
      dsimp only
      rw [hn]
      all_goals rfl
    refine ite2 (fun c => ?_) (fun c => ?_)
    · refine k.err (e := .nf) ?_ (s1.trans s2)
      rw [hc, (is_non _).mp c]
    · cases h2 : childL e x with
      | none => exact absurd ((is_non _).mpr h2) c
      | some cc =>
        rw [h2] at hc
        refine ⟨_, rfl, _, rfl, _, rfl, (by show 3 ≤ sizeLine; decide), fun r hr0 => ?_⟩
        exact k.val hc ((s1.trans s2).trans (same_new hr0)) ⟨r, rfl, upd_same⟩
/-! ### status -/
def spStatus (K : PySem.W.Frag) : Sp := fun vs H Q _ => ∃ (t d hl : Addr) (T : Tr) (n : Int) (x : Nd), vs = [.ref t, .int n] ∧ PA K H t d hl T ∧ WF T ∧ lk T.nodes n = some x ∧ ∀ p H', Same H H' → H' p = some (.tup (statV n x)) → Q (.ref p) H'
-- slots of status: 0 tree, 1 number, 2 node
theorem sc_status : FnScope ["tree", "number", "node"] ["tree", "number"] (defScope s_status) := ⟨rfl, rfl, rfl, by decide +kernel, rfl, by decide +kernel, by decide +kernel⟩
theorem ok_status (T : Tx K mg) : FnR P w K mg base (L2.CX P w) 2 (He.ga K "status") (spStatus K) := by
  have G_Node_measure := ok_Node_measure (P := P) (w := w) (base := base) T
  refine mk_fn (df_status T) sc_status (fun _ _ _ _ _ _ us hl => match us, hl with | [_, _], _ => rfl) (fun vs H Q E h => ?_) (fun cdv A outer s H vs Q E tk po hr h => ?_)
  · obtain ⟨_, _, _, _, _, _, rfl, _⟩ := h
    rfl
  obtain ⟨t, d, hl, Tr, n, x, rfl, pa, W, hn, k⟩ := h
  refine ⟨_, (pss_cons (ps_set (i := 2) sc_status.nd rfl (Or.inl rfl) (pe_dget (hu_of hr) (pe_fld (pv 0) rfl) (pv 1) (fun _ _ => rfl)))
    (pss_one (ps_ret (pe_tup (pa_cons (pe_fld (pv 2) rfl) (pa_cons (pv 1) (pa_cons (pe_fld (pv 2) rfl) (pa_cons (pe_methR0 (pv 2) T.cN T.m_measure G_Node_measure (hr.mono (by decide)) (pc_of tk)) pa_nil)))))))), ?_⟩
  refine rd_nodes T pa (by rfl) (by rfl) hn (fun p np => ?_)
  refine rd_fkind T np (by rfl) ?_
  refine ⟨_, rfl, ?_⟩
  refine rd_flinks T np (by rfl) ?_
  obtain ⟨dx, bv, hp, hb⟩ := id np
  refine ⟨_, rfl, p, dx, _, rfl, hp, nFs_no _ _ (by decide +kernel) (by decide +kernel) (by decide +kernel), p, x, rfl, np, bd_small W hn, fun H1 s1 => ?_⟩
  exact ⟨(by show 4 ≤ sizeLine; decide), fun r hr0 => k r _ (s1.trans (same_new hr0)) upd_same⟩
end
end Tm

set_option maxHeartbeats 4000000
namespace Tm
open PySem PySem.Spec PyProof.Rows L2
/-- a slice of a tuple, whatever object it is -/
theorem rd_slT {K : PySem.W.Frag} {H : Hp} {a : Addr} {xs : List V} {lo hi : Option Int} {Q : VK} (h : SqT K H a xs) (q : ∀ b H', Same H H' → SqT K H' b (cutV xs lo hi) → Q (.ref b) H') : rSlA K (.ref a) lo hi H Q := by
  refine ⟨a, xs, rfl, h, fun c => q a H (Same.refl _) ?_, fun _ p hp => q p _ (same_new hp) (SqT.of upd_same)⟩
  have e : cutV xs lo hi = xs := by
    unfold cutV
    rw [c.1, c.2]
    simp
  rw [e]; exact h
theorem rd_catT {K : PySem.W.Frag} {H : Hp} {a b : Addr} {xs ys : List V} {Q : VK} (h1 : SqT K H a xs) (h2 : SqT K H b ys) (hz : xs.length + ys.length ≤ sizeLine) (q : ∀ c H', Same H H' → SqT K H' c (xs ++ ys) → Q (.ref c) H') : rCatA K (.ref a) (.ref b) H Q := by
  refine ⟨a, b, xs, ys, rfl, rfl, h1, h2, hz, fun e => q b H (Same.refl _) ?_, fun _ e => q a H (Same.refl _) ?_, fun _ _ p hp => q p _ (same_new hp) (SqT.of upd_same)⟩
  · rw [e]; exact h2
  · rw [e, List.append_nil]; exact h1
theorem cutV_map (l : List Int) (off len : Nat) : cutV (l.map V.int) (some (off : Int)) (some ((off : Int) + (len : Int))) = (cutI l off len).map V.int := by
  unfold cutV cutI
  have e : (off : Int) + (len : Int) = ((off + len : Nat) : Int) := by omega
  rw [e, HT.sIx_nat, HT.sIx_nat, List.length_map, ← List.map_drop, ← List.map_take]
  congr 1
  by_cases h : off ≤ l.length
  · rw [Nat.min_eq_left h]
    by_cases h2 : off + len ≤ l.length
    · rw [Nat.min_eq_left h2]
      congr 1; omega
    · rw [Nat.min_eq_right (by omega), List.take_of_length_le (by rw [List.length_drop]; exact Nat.le_refl _), List.take_of_length_le (by rw [List.length_drop]; omega)]
  · have h1 : min off l.length = l.length := by omega
    rw [h1, List.drop_eq_nil_of_le (Nat.le_refl _), List.drop_eq_nil_of_le (by omega), List.take_nil, List.take_nil]
section
variable {P : Program} {w : World} {K : PySem.W.Frag} {mg : Str → Option Value} {base : Heap}
/-- a promise of an operation that only reads: path p -/
def spRd (K : PySem.W.Frag) (S : Ns → Str → Except Er PyData) : Sp := fun vs H Q E => ∃ (t d hl : Addr) (T : Tr) (p : Str), vs = [.ref t, .str p] ∧ PA K H t d hl T ∧ WF T ∧ p ∈ pathL ∧ RP K (S T.nodes p) (fun z v H' => Dp K H' v z) H Q E
theorem statOf_eq {l : Ns} {n : Int} {x : Nd} (h : lk l n = some x) : statOf l n = statD n x := by unfold statOf; rw [h]
-- slots of readlink: 0 tree, 1 path, 2 node
theorem sc_readlink : FnScope ["tree", "path", "node"] ["tree", "path"] (defScope s_readlink) := ⟨rfl, rfl, rfl, by decide +kernel, rfl, by decide +kernel, by decide +kernel⟩
theorem ok_readlink (T : Tx K mg) : FnR P w K mg base (L2.CX P w) 5 (He.ga K "readlink") (spRd K readlinkS) := by
  have G_entry_of := ok_entry_of (P := P) (w := w) (base := base) T
  refine mk_fn (df_readlink T) sc_readlink (fun _ _ _ _ _ _ us hl => match us, hl with | [_, _], _ => rfl) (fun vs H Q E h => ?_) (fun cdv A outer s H vs Q E tk po hr h => ?_)
  · obtain ⟨_, _, _, _, _, rfl, _⟩ := h
    rfl
  obtain ⟨t, d, hl, Tr, p, rfl, pa, W, hp, k⟩ := h
  refine ⟨_, (pss_cons (ps_set (i := 2) sc_readlink.nd rfl (Or.inl rfl) (pe_dget (hu_of hr) (pe_fld (pv 0) rfl) (pe_ix ix_tup (pe_callR G_entry_of (hr.mono (by decide)) rfl (g_entry_of T) (k_entry_of T) (pc_of tk) (pa_cons (pv 0) (pa_cons (pv 1) pa_nil))) pe_int (fun _ _ => rfl)) (fun _ _ => rfl)))
    (pss_cons (ps_if (pt_cmpR op_ne (pe_fld (pv 2) rfl) pe_str (nomark _))
    (pss_one (ps_raise rfl tk (pmk0 (e_NotLink T) rfl)))
    pss_nil)
    (pss_one (ps_ret (pe_fld (pv 2) rfl))))), ?_⟩
  obtain ⟨dt, ht⟩ := pa.tree
  refine ⟨_, rfl, t, _, dt, _, _, rfl, ht, T.cT, T.n_nodes, tFs_nodes _ _, ?_⟩
  refine ⟨_, rfl, _, rfl, t, d, hl, Tr, p, rfl, pa, W, hp, RP.of (fun e he H1 s1 => ?_) (fun z hz v H1 s1 rv => ?_)⟩
  · refine k.err (e := e) ?_ s1
    unfold readlinkS
    rw [he]; rfl
  · obtain ⟨n, x, c⟩ := z
    obtain ⟨q, rfl, hq⟩ := rv
    obtain ⟨_, nd, hn⟩ := entry_there W hz
    have pa1 := pa.same s1
    obtain ⟨r, g, np⟩ := pa1.get hn
    refine ⟨q, _, 2, _, rfl, rfl, SqT.of hq, atI_nat (j := 2) rfl, d, _, rfl, g, ?_⟩
    refine rd_fkind T np (by rfl) ?_
    refine ⟨rfl, _, rfl, ?_⟩
    have hS : readlinkS Tr.nodes p = (match (some nd : Option Nd) with
      | some ⟨.tgt s, _⟩ => .ok (.str s)
      | _ => .error .nl) := by
      unfold readlinkS
      rw [hz, ← hn]; rfl
    refine ite2 (fun c => ?_) (fun c => ?_)
    · have c1 := ne_str.mp c
      refine k.err (e := .nl) ?_ s1
      rw [hS]
      obtain ⟨b, kk⟩ := nd
      cases b with
      | tgt z => exact absurd rfl c1
      | oct z => rfl
      | ent z => rfl
    · obtain ⟨z, hz2⟩ := (kind_link nd.bd).mp (Classical.byContradiction fun q => c (ne_str.mpr q))
      obtain ⟨b, kk⟩ := nd
      have hz2 : b = .tgt z := hz2
      subst hz2
      refine rd_fbody T np (by rfl) (fun bv hb => ?_)
      have hb : bv = V.str z := hb
      subst hb
      exact k.val hS s1 (.str z)
-- slots of readdir: 0 tree, 1 path, 2 node, 3 name, 4 number
theorem sc_readdir : FnScope ["tree", "path", "node", "name", "number"] ["tree", "path"] (defScope s_readdir) := ⟨rfl, rfl, rfl, by decide +kernel, rfl, by decide +kernel, by decide +kernel⟩
theorem ok_readdir (T : Tx K mg) : FnR P w K mg base (L2.CX P w) 4 (He.ga K "readdir") (spRd K readdirS) := by
  have G_follow := ok_follow (P := P) (w := w) (base := base) T
  refine mk_fn (df_readdir T) sc_readdir (fun _ _ _ _ _ _ us hl => match us, hl with | [_, _], _ => rfl) (fun vs H Q E h => ?_) (fun cdv A outer s H vs Q E tk po hr h => ?_)
  · obtain ⟨_, _, _, _, _, rfl, _⟩ := h
    rfl
  obtain ⟨t, d, hl, Tr, p, rfl, pa, W, hp, k⟩ := h
  refine ⟨_, (pss_cons (ps_set (i := 2) sc_readdir.nd rfl (Or.inl rfl) (pe_dget (hu_of hr) (pe_fld (pv 0) rfl) (pe_callR G_follow (hr.mono (by decide)) rfl (g_follow T) (k_follow T) (pc_of tk) (pa_cons (pv 0) (pa_cons (pv 1) pa_nil))) (fun _ _ => rfl)))
    (pss_cons (ps_if (pt_cmpR op_ne (pe_fld (pv 2) rfl) pe_str (nomark _))
    (pss_one (ps_raise rfl tk (pmk0 (e_NotDirectory T) rfl)))
    pss_nil)
    (pss_one (ps_ret (pe_lc (own := [("name", 3), ("number", 4)]) (g := gTup K 2 (gCons (gName 3) (gCons (gName 4) gNil)))  rfl sc_readdir.nd (pi_tup (pe_fld (pv 2) rfl)) (blkOk_by (N := ["tree", "path", "node", "name", "number"]) (sc := defScope s_readdir) (by decide +kernel)) (fun _ _ _ _ _ => (pg_tup rfl (pgs_cons (pg_name (i := 3) sc_readdir.nd rfl (Or.inl rfl)) (pgs_cons (pg_name (i := 4) sc_readdir.nd rfl (Or.inl rfl)) pgs_nil)))) (fun _ _ _ _ _ => pts_nil) (fun _ _ _ _ _ => (pv 3))))))), ?_⟩
  obtain ⟨dt, ht⟩ := pa.tree
  refine ⟨_, rfl, t, _, dt, _, _, rfl, ht, T.cT, T.n_nodes, tFs_nodes _ _, ?_⟩
  refine ⟨_, rfl, _, rfl, t, d, hl, Tr, p, rfl, pa, W, hp, RP.of (fun e he H1 s1 => ?_) (fun n hn0 v H1 s1 rv => ?_)⟩
  · refine k.err (e := e) ?_ s1
    unfold readdirS
    rw [he]; rfl
  · subst rv
    obtain ⟨nd, hn⟩ := follow_there W hn0
    have pa1 := pa.same s1
    obtain ⟨r, g, np⟩ := pa1.get hn
    refine ⟨d, _, rfl, g, ?_⟩
    refine rd_fkind T np (by rfl) ?_
    refine ⟨rfl, _, rfl, ?_⟩
    have hS : readdirS Tr.nodes p = (match (some nd : Option Nd) with
      | some ⟨.ent e, _⟩ => .ok (.list (e.map fun q => .str q.1))
      | _ => .error .nd) := by
      unfold readdirS
      rw [hn0, ← hn]; rfl
    refine ite2 (fun c => ?_) (fun c => ?_)
    · have c1 := ne_str.mp c
      refine k.err (e := .nd) ?_ s1
      rw [hS]
      obtain ⟨b, kk⟩ := nd
      cases b with
      | ent z => exact absurd rfl c1
      | oct z => rfl
      | tgt z => rfl
    · obtain ⟨e, he⟩ := (kind_dir nd.bd).mp (Classical.byContradiction fun q => c (ne_str.mpr q))
      obtain ⟨b, kk⟩ := nd
      have he : b = .ent e := he
      subst he
      have hlen := (W.ent _ _ _ hn).2.1
      refine rd_fbody T np (by rfl) (fun bv hb => ?_)
      obtain ⟨b, ps, rfl, hs, hps⟩ := hb
      refine ⟨b, rfl, ⟨_, hs⟩, fun D hD => lc_tup (K := K) (a := b) (xs := ps.map V.ref) (fun i H' => Same H1 H' ∧ H' D = some (.lst ((e.take i).map fun q => V.str q.1))) ⟨same_new hD, upd_same⟩ (fun i H' _ h => same_t h.1 hs) ?_ ?_⟩
      · rintro i y H' hi ⟨sm, hD'⟩
        obtain ⟨q, hq, rfl⟩ : ∃ q, ps[i]? = some q ∧ y = V.ref q := by
          rw [List.getElem?_map] at hi
          cases h1 : ps[i]? with
          | none => rw [h1] at hi; cases hi
          | some q => rw [h1] at hi; exact ⟨q, rfl, (Option.some.inj hi).symm⟩
        obtain ⟨en, he, hen⟩ := paired_at hps hq
        refine ⟨q, _, rfl, same_t sm hen, rfl, _, _, rfl, _, _, rfl, rfl, ?_⟩
        refine ⟨rfl, _, rfl, _, hD', ?_, same_mut sm hD, ?_⟩
        · rw [List.length_map, List.length_take, sizeLine_eq]; omega
        · rw [upd_same, List.take_succ, he, List.map_append]; rfl
      · rintro H' ⟨sm, hD'⟩
        rw [List.length_map, paired_len hps, List.take_length] at hD'
        refine k.val hS (s1.trans sm) (.lst (SqL.of hD') ?_)
        have e1 : (e.map fun q => V.str q.1) = (e.map Prod.fst).map V.str := by rw [List.map_map]; rfl
        have e2 : (e.map fun q => PyData.str q.1) = (e.map Prod.fst).map PyData.str := by rw [List.map_map]; rfl
        rw [e1, e2]
        exact dpAll_strs _
-- slots of stat: 0 tree, 1 path
theorem sc_stat : FnScope ["tree", "path"] ["tree", "path"] (defScope s_stat) := ⟨rfl, rfl, rfl, by decide +kernel, rfl, by decide +kernel, by decide +kernel⟩
theorem ok_stat (T : Tx K mg) : FnR P w K mg base (L2.CX P w) 4 (He.ga K "stat") (spRd K statS) := by
  have G_status := ok_status (P := P) (w := w) (base := base) T
  have G_follow := ok_follow (P := P) (w := w) (base := base) T
  refine mk_fn (df_stat T) sc_stat (fun _ _ _ _ _ _ us hl => match us, hl with | [_, _], _ => rfl) (fun vs H Q E h => ?_) (fun cdv A outer s H vs Q E tk po hr h => ?_)
  · obtain ⟨_, _, _, _, _, rfl, _⟩ := h
    rfl
  obtain ⟨t, d, hl, Tr, p, rfl, pa, W, hp, k⟩ := h
  refine ⟨_, (pss_one (ps_ret (pe_callR G_status (hr.mono (by decide)) rfl (g_status T) (k_status T) (pc_of tk) (pa_cons (pv 0) (pa_cons (pe_callR G_follow (hr.mono (by decide)) rfl (g_follow T) (k_follow T) (pc_of tk) (pa_cons (pv 0) (pa_cons (pv 1) pa_nil))) pa_nil))))), ?_⟩
  refine ⟨_, rfl, _, rfl, _, rfl, t, d, hl, Tr, p, rfl, pa, W, hp, RP.of (fun e he H1 s1 => ?_) (fun n hn0 v H1 s1 rv => ?_)⟩
  · refine k.err (e := e) ?_ s1
    unfold statS
    rw [he]; rfl
  · subst rv
    obtain ⟨nd, hn⟩ := follow_there W hn0
    refine ⟨t, d, hl, Tr, n, nd, rfl, pa.same s1, W, hn, fun q H2 s2 hq => ?_⟩
    refine k.val (a := statD n nd) ?_ (s1.trans s2) (dp_stat hq)
    unfold statS
    rw [hn0, ← statOf_eq hn]; rfl
-- slots of lstat: 0 tree, 1 path
theorem sc_lstat : FnScope ["tree", "path"] ["tree", "path"] (defScope s_lstat) := ⟨rfl, rfl, rfl, by decide +kernel, rfl, by decide +kernel, by decide +kernel⟩
theorem ok_lstat (T : Tx K mg) : FnR P w K mg base (L2.CX P w) 5 (He.ga K "lstat") (spRd K lstatS) := by
  have G_status := ok_status (P := P) (w := w) (base := base) T
  have G_entry_of := ok_entry_of (P := P) (w := w) (base := base) T
  refine mk_fn (df_lstat T) sc_lstat (fun _ _ _ _ _ _ us hl => match us, hl with | [_, _], _ => rfl) (fun vs H Q E h => ?_) (fun cdv A outer s H vs Q E tk po hr h => ?_)
  · obtain ⟨_, _, _, _, _, rfl, _⟩ := h
    rfl
  obtain ⟨t, d, hl, Tr, p, rfl, pa, W, hp, k⟩ := h
  refine ⟨_, (pss_cons (ps_if (pt_cmpR op_eq (pv 1) pe_str (nomark _))
    (pss_one (ps_ret (pe_callR G_status (hr.mono (by decide)) rfl (g_status T) (k_status T) (pc_of tk) (pa_cons (pv 0) (pa_cons pe_int pa_nil)))))
    pss_nil)
    (pss_one (ps_ret (pe_callR G_status (hr.mono (by decide)) rfl (g_status T) (k_status T) (pc_of tk) (pa_cons (pv 0) (pa_cons (pe_ix ix_tup (pe_callR G_entry_of (hr.mono (by decide)) rfl (g_entry_of T) (k_entry_of T) (pc_of tk) (pa_cons (pv 0) (pa_cons (pv 1) pa_nil))) pe_int (fun _ _ => rfl)) pa_nil)))))), ?_⟩
  obtain ⟨root, hroot⟩ := W.root
  refine ⟨_, rfl, rfl, _, rfl, ?_⟩
  refine ite2 (fun c => ?_) (fun c => ?_)
  · have c1 := eq_str.mp c
    refine ⟨_, rfl, t, d, hl, Tr, 0, _, rfl, pa, W, hroot, fun q H2 s2 hq => ?_⟩
    refine k.val (a := statD 0 ⟨.ent root, 1⟩) ?_ s2 (dp_stat hq)
    unfold lstatS
    rw [if_pos c1, statOf_eq hroot]
  · have c1 : ¬ p = "/" := fun e => c (eq_str.mpr e)
    have hS : lstatS Tr.nodes p = mapE (fun z : Int × Str × Int => .ok (statOf Tr.nodes z.2.2)) (entryS Tr.nodes p) := if_neg c1
    refine ⟨_, rfl, _, rfl, _, rfl, t, d, hl, Tr, p, rfl, pa, W, hp, RP.of (fun e he H1 s1 => ?_) (fun z hz v H1 s1 rv => ?_)⟩
    · refine k.err (e := e) ?_ s1
      rw [hS, he]; rfl
    · obtain ⟨n, x, c⟩ := z
      obtain ⟨q, rfl, hq⟩ := rv
      obtain ⟨_, nd, hn⟩ := entry_there W hz
      refine ⟨q, _, 2, _, rfl, rfl, SqT.of hq, atI_nat (j := 2) rfl, ?_⟩
      refine ⟨t, d, hl, Tr, c, nd, rfl, pa.same s1, W, hn, fun q2 H2 s2 hq2 => ?_⟩
      refine k.val (a := statD c nd) ?_ (s1.trans s2) (dp_stat hq2)
      rw [hS, hz, ← statOf_eq hn]; rfl
/-! ### files -/
def spFileAt (K : PySem.W.Frag) : Sp := fun vs H Q E => ∃ (t d hl : Addr) (T : Tr) (p : Str), vs = [.ref t, .str p] ∧ PA K H t d hl T ∧ WF T ∧ p ∈ pathL ∧ RP K (fileS T.nodes p) (fun n v _ => v = .int n) H Q E
theorem file_parts {l : Ns} {p : Str} {n : Int} (h : fileS l p = .ok n) : ∃ o k, lk l n = some ⟨.oct o, k⟩ := by
  unfold fileS mapE at h
  split at h
  · cases h
  · dsimp only at h
    split at h
    · rename_i o k hl
      have e := Except.ok.inj h
      subst e
      exact ⟨o, k, hl⟩
    · cases h
-- slots of file_at: 0 tree, 1 path, 2 number
theorem sc_file_at : FnScope ["tree", "path", "number"] ["tree", "path"] (defScope s_file_at) := ⟨rfl, rfl, rfl, by decide +kernel, rfl, by decide +kernel, by decide +kernel⟩
theorem ok_file_at (T : Tx K mg) : FnR P w K mg base (L2.CX P w) 4 (He.ga K "file_at") (spFileAt K) := by
  have G_follow := ok_follow (P := P) (w := w) (base := base) T
  refine mk_fn (df_file_at T) sc_file_at (fun _ _ _ _ _ _ us hl => match us, hl with | [_, _], _ => rfl) (fun vs H Q E h => ?_) (fun cdv A outer s H vs Q E tk po hr h => ?_)
  · obtain ⟨_, _, _, _, _, rfl, _⟩ := h
    rfl
  obtain ⟨t, d, hl, Tr, p, rfl, pa, W, hp, k⟩ := h
  refine ⟨_, (pss_cons (ps_set (i := 2) sc_file_at.nd rfl (Or.inl rfl) (pe_callR G_follow (hr.mono (by decide)) rfl (g_follow T) (k_follow T) (pc_of tk) (pa_cons (pv 0) (pa_cons (pv 1) pa_nil))))
    (pss_cons (ps_if (pt_cmpR op_ne (pe_fld (pe_dget (hu_of hr) (pe_fld (pv 0) rfl) (pv 2) (fun _ _ => rfl)) rfl) pe_str (nomark _))
    (pss_one (ps_raise rfl tk (pmk0 (e_IsDirectory T) rfl)))
    pss_nil)
    (pss_one (ps_ret (pv 2))))), ?_⟩
  refine ⟨_, rfl, _, rfl, t, d, hl, Tr, p, rfl, pa, W, hp, RP.of (fun e he H1 s1 => ?_) (fun n hn0 v H1 s1 rv => ?_)⟩
  · refine k.err (e := e) ?_ s1
    unfold fileS
    rw [he]; rfl
  · subst rv
    obtain ⟨nd, hn⟩ := follow_there W hn0
    have pa1 := pa.same s1
    refine rd_kind T pa1 (by rfl) (by rfl) hn ?_
    refine ⟨rfl, _, rfl, ?_⟩
    have hS : fileS Tr.nodes p = (match (some nd : Option Nd) with
      | some ⟨.oct _, _⟩ => .ok n
      | _ => .error .isd) := by
      unfold fileS
      rw [hn0, ← hn]; rfl
    obtain ⟨b, kk⟩ := nd
    refine ite2 (fun c => ?_) (fun c => ?_)
    · have c1 := ne_str.mp c
      refine k.err (e := .isd) ?_ s1
      rw [hS]
      cases b with
      | oct z => exact absurd rfl c1
      | ent z => rfl
      | tgt z => rfl
    · obtain ⟨e, he⟩ := (kind_file b).mp (Classical.byContradiction fun q => c (ne_str.mpr q))
      subst he
      exact ⟨_, rfl, k.val hS s1 rfl⟩
def spOpened (K : PySem.W.Frag) : Sp := fun vs H Q E => ∃ (t d hl : Addr) (T : Tr) (h : Nat), vs = [.ref t, .int h] ∧ PA K H t d hl T ∧ WF T ∧ h < 16 ∧ RP K (openS T.hs h) (fun n v _ => v = .int n) H Q E
-- slots of opened: 0 tree, 1 handle
theorem sc_opened : FnScope ["tree", "handle"] ["tree", "handle"] (defScope s_opened) := ⟨rfl, rfl, rfl, by decide +kernel, rfl, by decide +kernel, by decide +kernel⟩
theorem ok_opened (T : Tx K mg) : FnR P w K mg base (L2.CX P w) 1 (He.ga K "opened") (spOpened K) := by
  refine mk_fn (df_opened T) sc_opened (fun _ _ _ _ _ _ us hl => match us, hl with | [_, _], _ => rfl) (fun vs H Q E h => ?_) (fun cdv A outer s H vs Q E tk po hr h => ?_)
  · obtain ⟨_, _, _, _, _, rfl, _⟩ := h
    rfl
  obtain ⟨t, d, hl, Tr, i, rfl, pa, W, hp, k⟩ := h
  refine ⟨_, (pss_cons (ps_if (pt_cmpR op_isN (pe_ix ix_list (pe_fld (pv 0) rfl) (pv 1) (fun _ _ => rfl)) pe_non (nomark _))
    (pss_one (ps_raise rfl tk (pmk0 (e_NotOpen T) rfl)))
    pss_nil)
    (pss_one (ps_ret (pe_ix ix_list (pe_fld (pv 0) rfl) (pv 1) (fun _ _ => rfl))))), ?_⟩
  obtain ⟨dt, ht⟩ := pa.tree
  obtain ⟨o, ho⟩ : ∃ o, Tr.hs[i]? = some o := ⟨_, List.getElem?_eq_getElem (by rw [W.hl]; exact hp)⟩
  have ho2 : (Tr.hs.map hV)[i]? = some (hV o) := by rw [List.getElem?_map, ho]; rfl
  refine ⟨_, rfl, t, _, dt, _, _, rfl, ht, T.cT, T.n_handles, tFs_handles _ _, _, rfl, hl, _, _, _, rfl, rfl, SqL.of pa.hand, atI_nat ho2, rfl, _, rfl, ?_⟩
  refine ite2 (fun c => ?_) (fun c => ?_)
  · refine k.err (e := .no) ?_ (Same.refl _)
    unfold openS
    rw [ho, (is_non _).mp c]
  · cases o with
    | none => exact absurd ((is_non none).mpr rfl) c
    | some n =>
      refine ⟨_, rfl, t, _, dt, _, _, rfl, ht, T.cT, T.n_handles, tFs_handles _ _, _, rfl, hl, _, _, _, rfl, rfl, SqL.of pa.hand, atI_nat ho2, ?_⟩
      refine k.val (a := n) ?_ (Same.refl _) rfl
      unfold openS
      rw [ho]
def spReadFile (K : PySem.W.Frag) : Sp := fun vs H Q _ => ∃ (t d hl : Addr) (T : Tr) (n : Int) (o : List Int) (kk : Int) (off len : Nat), vs = [.ref t, .int n, .int off, .int len] ∧ PA K H t d hl T ∧ WF T ∧ lk T.nodes n = some ⟨.oct o, kk⟩ ∧
  ∀ q H', Same H H' → H' q = some (.lst ((cutI o off len).map V.int)) → Q (.ref q) H'
-- slots of read_file: 0 tree, 1 number, 2 offset, 3 length
theorem sc_read_file : FnScope ["tree", "number", "offset", "length"] ["tree", "number", "offset", "length"] (defScope s_read_file) := ⟨rfl, rfl, rfl, by decide +kernel, rfl, by decide +kernel, by decide +kernel⟩
theorem ok_read_file (T : Tx K mg) : FnR P w K mg base (L2.CX P w) 1 (He.ga K "read_file") (spReadFile K) := by
  refine mk_fn (df_read_file T) sc_read_file (fun _ _ _ _ _ _ us hl => match us, hl with | [_, _, _, _], _ => rfl) (fun vs H Q E h => ?_) (fun cdv A outer s H vs Q E tk po hr h => ?_)
  · obtain ⟨_, _, _, _, _, _, _, _, _, rfl, _⟩ := h
    rfl
  obtain ⟨t, d, hl, Tr, n, o, kk, off, len, rfl, pa, W, hn, k⟩ := h
  refine ⟨_, (pss_one (ps_ret (pe_callTy call_list_of (by rfl) (f_list T) (by decide +kernel) (pa_cons (pe_slice sl_tupA (pe_fld (pe_dget (hu_of hr) (pe_fld (pv 0) rfl) (pv 1) (fun _ _ => rfl)) rfl) (po_some (pv 2)) (po_some (pe_op op_add (pv 2) (pv 3)))) pa_nil)))), ?_⟩
  obtain ⟨p, g, dx, bv, hp, b, rfl, hb⟩ := pa.get hn
  obtain ⟨dt, ht⟩ := pa.tree
  refine ⟨_, rfl, t, _, dt, _, _, rfl, ht, T.cT, T.n_nodes, tFs_nodes _ _, _, rfl, d, _, rfl, g, p, _, dx, _, _, rfl, hp, T.cN, T.n_body, nFs_body _ _, _, rfl, _, rfl, _, rfl, _, rfl, _, _, rfl, rfl, _, rfl, ?_⟩
  refine rd_slT hb (fun c H1 s1 hc => ?_)
  rw [cutV_map] at hc
  exact ⟨c, _, rfl, .inr hc, fun l hl0 => k l _ (s1.trans (same_new hl0)) upd_same⟩
def spRead (K : PySem.W.Frag) : Sp := fun vs H Q E => ∃ (t d hl : Addr) (T : Tr) (p : Str) (off len : Nat), vs = [.ref t, .str p, .int off, .int len] ∧ PA K H t d hl T ∧ WF T ∧ p ∈ pathL ∧ RP K (readS T.nodes p off len) (fun z v H' => Dp K H' v z) H Q E
theorem octsOf_eq {l : Ns} {n : Int} {o : List Int} {k : Int} (h : lk l n = some ⟨.oct o, k⟩) : octsOf l n = o := by unfold octsOf; rw [h]
-- slots of read: 0 tree, 1 path, 2 offset, 3 length
theorem sc_read : FnScope ["tree", "path", "offset", "length"] ["tree", "path", "offset", "length"] (defScope s_read) := ⟨rfl, rfl, rfl, by decide +kernel, rfl, by decide +kernel, by decide +kernel⟩
theorem ok_read (T : Tx K mg) : FnR P w K mg base (L2.CX P w) 5 (He.ga K "read") (spRead K) := by
  have G_read_file := ok_read_file (P := P) (w := w) (base := base) T
  have G_file_at := ok_file_at (P := P) (w := w) (base := base) T
  refine mk_fn (df_read T) sc_read (fun _ _ _ _ _ _ us hl => match us, hl with | [_, _, _, _], _ => rfl) (fun vs H Q E h => ?_) (fun cdv A outer s H vs Q E tk po hr h => ?_)
  · obtain ⟨_, _, _, _, _, _, _, rfl, _⟩ := h
    rfl
  obtain ⟨t, d, hl, Tr, p, off, len, rfl, pa, W, hp, k⟩ := h
  refine ⟨_, (pss_one (ps_ret (pe_callR G_read_file (hr.mono (by decide)) rfl (g_read_file T) (k_read_file T) (pc_of tk) (pa_cons (pv 0) (pa_cons (pe_callR G_file_at (hr.mono (by decide)) rfl (g_file_at T) (k_file_at T) (pc_of tk) (pa_cons (pv 0) (pa_cons (pv 1) pa_nil))) (pa_cons (pv 2) (pa_cons (pv 3) pa_nil))))))), ?_⟩
  refine ⟨_, rfl, _, rfl, _, rfl, t, d, hl, Tr, p, rfl, pa, W, hp, RP.of (fun e he H1 s1 => ?_) (fun n hn0 v H1 s1 rv => ?_)⟩
  · refine k.err (e := e) ?_ s1
    unfold readS
    rw [he]; rfl
  · subst rv
    obtain ⟨o, kk, hn⟩ := file_parts hn0
    refine ⟨_, rfl, _, rfl, t, d, hl, Tr, n, o, kk, off, len, rfl, pa.same s1, W, hn, fun q H2 s2 hq => ?_⟩
    refine k.val (a := octD (cutI o off len)) ?_ (s1.trans s2) (.lst (SqL.of hq) (dpAll_ints _))
    unfold readS
    rw [hn0, ← octsOf_eq hn]; rfl
theorem WF.opn {T : Tr} (W : WF T) {h : Nat} {n : Int} (e : openS T.hs h = .ok n) : ∃ o k, lk T.nodes n = some ⟨.oct o, k⟩ := by
  unfold openS at e
  split at e
  · rename_i m hm
    have e1 := Except.ok.inj e
    subst e1
    exact W.hf _ (List.mem_of_getElem? hm)
  · cases e
def readAtS (T : Tr) (h off len : Nat) : Except Er PyData := mapE (fun n => .ok (octD (cutI (octsOf T.nodes n) off len))) (openS T.hs h)
def statAtS (T : Tr) (h : Nat) : Except Er PyData := mapE (fun n => .ok (statOf T.nodes n)) (openS T.hs h)
def spReadAt (K : PySem.W.Frag) : Sp := fun vs H Q E => ∃ (t d hl : Addr) (T : Tr) (h off len : Nat), vs = [.ref t, .int h, .int off, .int len] ∧ PA K H t d hl T ∧ WF T ∧ h < 16 ∧ RP K (readAtS T h off len) (fun z v H' => Dp K H' v z) H Q E
-- slots of read_at: 0 tree, 1 handle, 2 offset, 3 length
theorem sc_read_at : FnScope ["tree", "handle", "offset", "length"] ["tree", "handle", "offset", "length"] (defScope s_read_at) := ⟨rfl, rfl, rfl, by decide +kernel, rfl, by decide +kernel, by decide +kernel⟩
theorem ok_read_at (T : Tx K mg) : FnR P w K mg base (L2.CX P w) 2 (He.ga K "read_at") (spReadAt K) := by
  have G_read_file := ok_read_file (P := P) (w := w) (base := base) T
  have G_opened := ok_opened (P := P) (w := w) (base := base) T
  refine mk_fn (df_read_at T) sc_read_at (fun _ _ _ _ _ _ us hl => match us, hl with | [_, _, _, _], _ => rfl) (fun vs H Q E h => ?_) (fun cdv A outer s H vs Q E tk po hr h => ?_)
  · obtain ⟨_, _, _, _, _, _, _, rfl, _⟩ := h
    rfl
  obtain ⟨t, d, hl, Tr, i, off, len, rfl, pa, W, hp, k⟩ := h
  refine ⟨_, (pss_one (ps_ret (pe_callR G_read_file (hr.mono (by decide)) rfl (g_read_file T) (k_read_file T) (pc_of tk) (pa_cons (pv 0) (pa_cons (pe_callR G_opened (hr.mono (by decide)) rfl (g_opened T) (k_opened T) (pc_of tk) (pa_cons (pv 0) (pa_cons (pv 1) pa_nil))) (pa_cons (pv 2) (pa_cons (pv 3) pa_nil))))))), ?_⟩
  refine ⟨_, rfl, _, rfl, _, rfl, t, d, hl, Tr, i, rfl, pa, W, hp, RP.of (fun e he H1 s1 => ?_) (fun n hn0 v H1 s1 rv => ?_)⟩
  · refine k.err (e := e) ?_ s1
    unfold readAtS
    rw [he]; rfl
  · subst rv
    obtain ⟨o, kk, hn⟩ := W.opn hn0
    refine ⟨_, rfl, _, rfl, t, d, hl, Tr, n, o, kk, off, len, rfl, pa.same s1, W, hn, fun q H2 s2 hq => ?_⟩
    refine k.val (a := octD (cutI o off len)) ?_ (s1.trans s2) (.lst (SqL.of hq) (dpAll_ints _))
    unfold readAtS
    rw [hn0, ← octsOf_eq hn]; rfl
def spStatAt (K : PySem.W.Frag) : Sp := fun vs H Q E => ∃ (t d hl : Addr) (T : Tr) (h : Nat), vs = [.ref t, .int h] ∧ PA K H t d hl T ∧ WF T ∧ h < 16 ∧ RP K (statAtS T h) (fun z v H' => Dp K H' v z) H Q E
-- slots of stat_at: 0 tree, 1 handle
theorem sc_stat_at : FnScope ["tree", "handle"] ["tree", "handle"] (defScope s_stat_at) := ⟨rfl, rfl, rfl, by decide +kernel, rfl, by decide +kernel, by decide +kernel⟩
theorem ok_stat_at (T : Tx K mg) : FnR P w K mg base (L2.CX P w) 3 (He.ga K "stat_at") (spStatAt K) := by
  have G_status := ok_status (P := P) (w := w) (base := base) T
  have G_opened := ok_opened (P := P) (w := w) (base := base) T
  refine mk_fn (df_stat_at T) sc_stat_at (fun _ _ _ _ _ _ us hl => match us, hl with | [_, _], _ => rfl) (fun vs H Q E h => ?_) (fun cdv A outer s H vs Q E tk po hr h => ?_)
  · obtain ⟨_, _, _, _, _, rfl, _⟩ := h
    rfl
  obtain ⟨t, d, hl, Tr, i, rfl, pa, W, hp, k⟩ := h
  refine ⟨_, (pss_one (ps_ret (pe_callR G_status (hr.mono (by decide)) rfl (g_status T) (k_status T) (pc_of tk) (pa_cons (pv 0) (pa_cons (pe_callR G_opened (hr.mono (by decide)) rfl (g_opened T) (k_opened T) (pc_of tk) (pa_cons (pv 0) (pa_cons (pv 1) pa_nil))) pa_nil))))), ?_⟩
  refine ⟨_, rfl, _, rfl, _, rfl, t, d, hl, Tr, i, rfl, pa, W, hp, RP.of (fun e he H1 s1 => ?_) (fun n hn0 v H1 s1 rv => ?_)⟩
  · refine k.err (e := e) ?_ s1
    unfold statAtS
    rw [he]; rfl
  · subst rv
    obtain ⟨o, kk, hn⟩ := W.opn hn0
    refine ⟨t, d, hl, Tr, n, _, rfl, pa.same s1, W, hn, fun q H2 s2 hq => ?_⟩
    refine k.val (a := statD n ⟨.oct o, kk⟩) ?_ (s1.trans s2) (dp_stat hq)
    unfold statAtS
    rw [hn0, ← statOf_eq hn]; rfl
end
end Tm

set_option maxHeartbeats 4000000
namespace Tm
open PySem PySem.Spec PyProof.Rows L2
/-! ### a tuple * an int, any -/
theorem tuple_mul0 (l : Addr) (items : Array Value) (n : Nat) (dd : Option Addr) (sl : Array (Option Value)) (x : Int) (u : Tok) (c0 : (decide (x < -(2 ^ 63)) || decide (x ≥ 2 ^ 63)) = false) (c1 : (items.isEmpty || x == 1) = false) (c2 : (decide (x ≤ 0) || items.isEmpty) = true) :
    Meets (Builtin.«tuple.__mul__» ⟨[.ref l, .int x u], []⟩) (fun _ R s => s.heap.get? l = some { cls := .type "tuple", dict := dd, data := .seq items n, slots := sl } ∧
      R (.ok (.ret (Value.ref s.heap.objs.size))) { s with heap := s.heap.push { cls := Value.type "tuple", data := Data.seq #[] }, toks := s.toks }) :=
  .of_wp fun prog w A R s h => by
    obtain ⟨hp, g, d, tk, os⟩ := s
    obtain ⟨hl, h⟩ := h
    have f1 := AutoSeq1.idx_int
    wp_walk using wpAny_loadPart' hl
    repeat (first
      | (refine wpAny_ite_false (decide_eq_false (by rw [c0]; exact Bool.false_ne_true)) ?_; wp_walk using wpAny_loadPart' hl)
      | (refine wpAny_ite_false (decide_eq_false (by rw [c1]; exact Bool.false_ne_true)) ?_; wp_walk using wpAny_loadPart' hl)
      | (refine wpAny_ite_true (decide_eq_true c2) ?_; wp_walk using wpAny_loadPart' hl))
    exact ⟨_, rfl, h⟩
theorem tuple_mul1 (l : Addr) (items : Array Value) (n : Nat) (sl : Array (Option Value)) (dd : Option Addr) (u : Tok) :
    Meets (Builtin.«tuple.__mul__» ⟨[.ref l, .int 1 u], []⟩) (fun _ R s => s.heap.get? l = some { cls := .type "tuple", dict := dd, data := .seq items n, slots := sl } ∧
      R (.ok (.ret (Value.ref l))) s) :=
  .of_wp fun prog w A R s h => by
    obtain ⟨hp, g, d, tk, os⟩ := s
    obtain ⟨hl, h⟩ := h
    have f1 := AutoSeq1.idx_int
    have c1 : (items.isEmpty || (1 : Int) == 1) = true := by simp
    wp_walk using wpAny_loadPart' hl
    repeat (first
      | (refine wpAny_ite_true (decide_eq_true c1) ?_; wp_walk using wpAny_loadPart' hl)
      | (refine wpAny_ite_false (decide_eq_false (by decide)) ?_; wp_walk using wpAny_loadPart' hl))
    exact ⟨_, rfl, h⟩
/-- tuple * int: (x,) * k, k any -/
def rRepTA (K : PySem.W.Frag) : R2 := fun x y H Q => ∃ l k z, x = .ref l ∧ y = .int k ∧ SqT K H l [z] ∧ k ≤ 1000000 ∧ -1000000 ≤ k ∧ ∀ p H', Same H H' → SqT K H' p (List.replicate k.toNat z) → Q (.ref p) H'
theorem rep_one {α : Type} (z : α) : ∀ n : Nat, (List.replicate n [z]).flatten = List.replicate n z
  | 0 => rfl
  | n + 1 => by rw [List.replicate_succ, List.flatten_cons, rep_one z n, List.replicate_succ]; rfl
section
variable {X : Cx}
theorem op_repTA : OpR X (binaryOp .Mult) (rRepTA X.K) := by
  intro pins s σ H x y v u Q I rx ry h
  obtain ⟨l, k, z, rfl, rfl, hT, h1, h2, q⟩ := h
  cases rx
  obtain ⟨t, rfl⟩ := ry
  obtain ⟨its, r, ⟨⟨cls, dd, data, sl⟩, ho, hc, n, hd⟩, hs⟩ := I.tuple hT
  simp only at hc hd
  subst hc hd
  have hle : its.length = 1 := r.length.symm
  have hi : its.toArray.isEmpty = false := by
    cases its with
    | nil => simp at hle
    | cons a b => rfl
  have hsz0 : its.toArray.size = 1 := by rw [List.size_toArray, hle]
  have c0 : (decide (k < -(2 ^ 63)) || decide (k ≥ 2 ^ 63)) = false := by
    rw [decide_eq_false (by omega), decide_eq_false (by omega)] <;> rfl
  by_cases k1 : k = 1
  · subst k1
    refine wpAny_binaryOp_repeat_ref (T := "tuple") (U := "int") (by decide) ⟨_, ho, rfl⟩ (fun s' => typeIs_int s' _ t) noFill_tuple_mul F.fills_int_mul F.slot_int_rmul repeat_tuple F.slot_int_index.lookup
      (call_meets F.slot_int_rmul (typeIs_int s _ t) F.entry_int_rmul (F.args_int_rmul_2 _ _) (int_rmul_tuple 1 t l its.toArray n dd sl)
        ⟨ho, rfl, ⟨_, ho, rfl⟩, call_meets F.slot_tuple_mul ⟨_, ho, rfl⟩ F.entry_tuple_mul (F.args_tuple_mul_2 _ _) (tuple_mul1 l its.toArray n sl dd t) ⟨ho, ?_⟩⟩)
    exact ⟨.ref l, _, I, rfl, q l H (Same.refl _) hT⟩
  have c1 : (its.toArray.isEmpty || k == 1) = false := by
    rw [hi, Bool.false_or]
    exact beq_eq_false_iff_ne.mpr k1
  by_cases k0 : k ≤ 0
  · have c2 : (decide (k ≤ 0) || its.toArray.isEmpty) = true := by rw [decide_eq_true k0]; rfl
    refine wpAny_binaryOp_repeat_ref (T := "tuple") (U := "int") (by decide) ⟨_, ho, rfl⟩ (fun s' => typeIs_int s' k t) noFill_tuple_mul F.fills_int_mul F.slot_int_rmul repeat_tuple F.slot_int_index.lookup
      (call_meets F.slot_int_rmul (typeIs_int s k t) F.entry_int_rmul (F.args_int_rmul_2 _ _) (int_rmul_tuple k t l its.toArray n dd sl)
        ⟨ho, rfl, ⟨_, ho, rfl⟩, call_meets F.slot_tuple_mul ⟨_, ho, rfl⟩ F.entry_tuple_mul (F.args_tuple_mul_2 _ _) (tuple_mul0 l its.toArray n dd sl k t c0 c1 c2) ⟨ho, ?_⟩⟩)
    refine ⟨.ref s.heap.objs.size, _, I.laid (t' := s.toks) (o := .tup []) (fun b ob q => Heap.get?_push_of_some _ q) (Nat.le_refl _) ?_, rfl, q _ _ (same_new (I.hok.fresh (Nat.le_refl _))) ?_⟩
    · exact ⟨Nat.zero_le _, [], .nil, IsTup.new _ _⟩
    · have e : k.toNat = 0 := by omega
      rw [e]
      exact SqT.of upd_same
  · have c2 : (decide (k ≤ 0) || its.toArray.isEmpty) = false := by
      rw [hi, Bool.or_false]
      exact decide_eq_false k0
    have c4 : Builtin.Tuple.tupleTooMany (((its.toArray.size : Nat) : Int) * k) = false := by
      unfold Builtin.Tuple.tupleTooMany
      rw [sizeLine_eq, hsz0]
      exact decide_eq_false (by omega)
    have flen : (List.replicate k.toNat its).flatten.length ≤ sizeLine := by
      rw [PyProof.Rows.lm_len_rep_flat, hle, sizeLine_eq]
      omega
    refine wpAny_binaryOp_repeat_ref (T := "tuple") (U := "int") (by decide) ⟨_, ho, rfl⟩ (fun s' => typeIs_int s' k t) noFill_tuple_mul F.fills_int_mul F.slot_int_rmul repeat_tuple F.slot_int_index.lookup
      (call_meets F.slot_int_rmul (typeIs_int s k t) F.entry_int_rmul (F.args_int_rmul_2 _ _) (int_rmul_tuple k t l its.toArray n dd sl)
        ⟨ho, rfl, ⟨_, ho, rfl⟩, call_meets F.slot_tuple_mul ⟨_, ho, rfl⟩ F.entry_tuple_mul (F.args_tuple_mul_2 _ _) (tuple_mulW l its.toArray n dd sl k t c0 c1 c2 (by rw [hsz0]; omega) c4 (by rw [size_rep, List.size_toArray]; exact flen)) ⟨ho, ?_⟩⟩)
    rw [size_rep]
    refine ⟨.ref s.heap.objs.size, _, I.laid (t' := s.toks) (o := .tup (List.replicate k.toNat [z]).flatten) (fun b ob q => Heap.get?_push_of_some _ q) (Nat.le_refl _) ?_, rfl, q _ _ (same_new (I.hok.fresh (Nat.le_refl _))) ?_⟩
    · exact ⟨by rw [PyProof.Rows.lm_len_rep_flat, sizeLine_eq]; show k.toNat * 1 ≤ _; omega, _, r.rep k.toNat, IsTup.new _ _⟩
    · rw [rep_one]
      exact SqT.of (by rw [← rep_one]; exact upd_same)
/-! ### repr of data -/
theorem call_reprD (hu : X.A.units + 65 < cLine) (hg : X.A.guards = some []) : CallR X (.builtin "repr") (fun vs H Q => ∃ (a : Addr) (d : PyData), vs = [.ref a] ∧ Dp X.K H (.ref a) d ∧ d.depth ≤ 4 ∧ d.showable = true ∧ d.hasDict = false ∧ d.shown.length ≤ sizeLine ∧ Q (.str d.shown) H) := by
  intro pins s σ H vs us Q I r h
  obtain ⟨a, d, rfl, hd, hdp, hs, hn, hz, q⟩ := h
  rw [Vals.ref1 r]
  obtain ⟨as, hr⟩ := Dp.reads I d (.ref a) (.ref a) hd rfl
  refine repr_of_reads' hr hs (fun e => by rw [hn] at e; cases e) hg (by omega) (fun _ _ e => e) (fun h' u tk hk => ⟨.str d.shown, H, I.kept (t' := tk) hk, ⟨_, rfl⟩, q⟩) hz
/-! ### sorted(list) of (str, int) -/
def lexS (p q : Str × Int) : Bool := if p.1 = q.1 then decide (p.2 < q.2) else decide (p.1.cps.toList < q.1.cps.toList)
theorem str_ext {a b : Str} (h : a.cps.toList = b.cps.toList) : a = b := by
  obtain ⟨x⟩ := a
  obtain ⟨y⟩ := b
  have : x = y := Array.toList_inj.mp h
  rw [this]
theorem lexS_iff {p q : Str × Int} : lexS p q = true ↔ p.1.cps.toList < q.1.cps.toList ∨ (p.1 = q.1 ∧ p.2 < q.2) := by
  unfold lexS
  by_cases e : p.1 = q.1
  · rw [if_pos e, decide_eq_true_eq, e]
    constructor
    · intro h; exact .inr ⟨rfl, h⟩
    · rintro (h | h)
      · exact absurd h (List.lt_irrefl _)
      · exact h.2
  · rw [if_neg e, decide_eq_true_eq]
    constructor
    · intro h; exact .inl h
    · rintro (h | h)
      · exact h
      · exact absurd h.1 e
theorem lexS_no {p q : Str × Int} : lexS p q = false ↔ q.1.cps.toList < p.1.cps.toList ∨ (p.1 = q.1 ∧ q.2 ≤ p.2) := by
  have h := (lexS_iff (p := p) (q := q))
  constructor
  · intro e
    have hn : ¬ (p.1.cps.toList < q.1.cps.toList ∨ (p.1 = q.1 ∧ p.2 < q.2)) := fun z => by rw [h.mpr z] at e; cases e
    by_cases e1 : p.1 = q.1
    · exact .inr ⟨e1, Int.not_lt.mp fun z => hn (.inr ⟨e1, z⟩)⟩
    · refine .inl (Classical.byContradiction fun z => ?_)
      have l1 : q.1.cps.toList ≤ p.1.cps.toList := List.not_lt.mp fun w => hn (.inl w)
      have l2 : p.1.cps.toList ≤ q.1.cps.toList := List.not_lt.mp z
      exact e1 (str_ext (List.le_antisymm l2 l1))
  · intro e
    cases q2 : lexS p q with
    | false => rfl
    | true =>
      rcases h.mp q2 with a | a <;> rcases e with b | b
      · exact absurd (List.lt_trans a b) (List.lt_irrefl _)
      · rw [b.1] at a; exact absurd a (List.lt_irrefl _)
      · rw [a.1] at b; exact absurd b (List.lt_irrefl _)
      · omega
theorem swo_lexS {α : Type} (k : α → Str × Int) : SrtO.Swo fun v u => lexS (k v) (k u) := by
  refine ⟨fun x y h => ?_, fun x y z h1 h2 => ?_⟩
  · rw [lexS_no]
    rcases lexS_iff.mp h with a | a
    · exact .inl a
    · exact .inr ⟨a.1.symm, by omega⟩
  · rw [lexS_no]
    rcases lexS_no.mp h1 with a | a <;> rcases lexS_no.mp h2 with b | b
    · exact .inl (List.lt_trans a b)
    · rw [← b.1] at a; exact .inl a
    · rw [a.1] at b; exact .inl b
    · exact .inr ⟨b.1.trans a.1, by omega⟩
section
variable {prog : Program} {w : World} {A : Around} {E : Value → Shared → Prop} {s : Shared}
def IsPairS (h : Heap) (v : Value) (x : Str) (y : Int) : Prop := ∃ a o t u n, v = .ref a ∧ h.get? a = some o ∧ o.cls = .type "tuple" ∧ o.data = .seq #[.str x t, .int y u] n
theorem IsPairS.keeps {h h' : Heap} {v : Value} {x : Str} {y : Int} (p : IsPairS h v x y) (k : ∀ b o, h.get? b = some o → o.cls = .type "tuple" → h'.get? b = some o) : IsPairS h' v x y := by
  obtain ⟨a, o, t, u, n, e, ho, hc, hd⟩ := p
  exact ⟨a, o, t, u, n, e, k _ _ ho hc, hc, hd⟩
theorem firstsS {h : Heap} : ∀ {vs : List Value}, (∀ v ∈ vs, ∃ x y, IsPairS h v x y) → ∃ fs : List Value, PySem.W.KatTups h vs fs ∧ fs.length = vs.length ∧ ∀ f ∈ fs, ∃ x t, f = Value.str x t
  | [], _ => ⟨[], PySem.W.KatTups.nil, rfl, fun _ hm => by simp at hm⟩
  | v :: vs, hp => by
    obtain ⟨fs, h1, h2, h3⟩ := firstsS (vs := vs) fun v' hm => hp v' (List.mem_cons_of_mem _ hm)
    obtain ⟨x, y, a, o, t, u, n, e, ho, hc, hd⟩ := hp v (List.mem_cons_self ..)
    subst e
    refine ⟨.str x t :: fs, PySem.W.KatTups.cons ho hc hd rfl h1, by rw [List.length_cons, List.length_cons, h2], fun f hm => ?_⟩
    rcases List.mem_cons.mp hm with rfl | hm
    · exact ⟨x, t, rfl⟩
    · exact h3 f hm
theorem pair_cmpS {vs : List Value} {k : Value → Str × Int} (hp : ∀ v ∈ vs, IsPairS s.heap v (k v).1 (k v).2) : SrtO.Cmp prog w A s (tuples' true) (fun p => p.1 ∈ vs) (SrtO.lt2 fun v u => lexS (k v) (k u)) := by
  intro p q hm hm'
  have h1 := hp _ hm
  have h2 := hp _ hm'
  show wpAny (model prog w) A (keyLt' (tuples' true) p.1 q.1) (fun r s' => s' = s ∧ r = lexS (k p.1) (k q.1)) (fun _ _ => False) s
  unfold lexS
  generalize (k p.1).1 = x at h1 ⊢
  generalize (k p.1).2 = y at h1 ⊢
  generalize (k q.1).1 = x' at h2 ⊢
  generalize (k q.1).2 = y' at h2 ⊢
  obtain ⟨a, o, t, u, n, e, ho, hc, hd⟩ := h1
  obtain ⟨a', o', t', u', n', e', ho', hc', hd'⟩ := h2
  rw [e, e']
  refine PySem.W.kat_lt ho hd ho' hd' ?_
  show PySem.W.KatLex prog w A true (decide (2 < 2)) _ [(.str x t, .str x' t'), (.int y u, .int y' u')] 0 s
  refine PySem.W.kat_cons (SeqAt.EqAt.str_str x t x' t' prog w _ _ ?_)
  refine PySem.W.kat_go (fun e1 => ?_) (fun e1 => ?_)
  · have ex : x = x' := by simpa using e1
    refine PySem.W.kat_yes (PySem.W.kat_cons (SeqAt.EqAt.int_int y u y' u' prog w _ _ ?_))
    refine PySem.W.kat_go (fun e2 => ?_) (fun e2 => ?_)
    · have ey : y = y' := by simpa using e2
      have e3 : (if x = x' then decide (y < y') else decide (x.cps.toList < x'.cps.toList)) = false := by
        rw [if_pos ex, ey]
        exact decide_eq_false (Int.lt_irrefl _)
      exact PySem.W.kat_yes (PySem.W.kat_nil ⟨rfl, e3.symm⟩)
    · have e3 : (if x = x' then decide (y < y') else decide (x.cps.toList < x'.cps.toList)) = decide (y < y') := if_pos ex
      refine PySem.W.kat_no (PySem.W.kat_one _ _ (PyProof.Rows.lt_int ?_))
      exact (show s = s ∧ decide (y < y') = (if x = x' then decide (y < y') else decide (x.cps.toList < x'.cps.toList)) from ⟨rfl, e3.symm⟩)
  · have ex : ¬ x = x' := by simpa using e1
    have e3 : (if x = x' then decide (y < y') else decide (x.cps.toList < x'.cps.toList)) = decide (x.cps.toList < x'.cps.toList) := if_neg ex
    exact PySem.W.kat_no (PyProof.Rows.oneLt_str ⟨rfl, e3.symm⟩)
theorem pairs_sortableS {a : Addr} {vs : List Value} {k : Value → Str × Int} (h0 : 0 < vs.length) (hp : ∀ v ∈ vs, IsPairS s.heap v (k v).1 (k v).2) (ha : ∀ o, s.heap.get? a = some o → o.cls ≠ .type "tuple") : SrtO.SortableO prog w A s a vs fun v u => lexS (k v) (k u) := by
  intro h' keep
  have hp' : ∀ v ∈ vs, IsPairS h' v (k v).1 (k v).2 := fun v hm => (hp v hm).keeps fun b o e c => keep b o (fun z => by subst z; exact ha o e c) e
  obtain ⟨fs, h1, h2, h3⟩ := firstsS fun v hm => ⟨_, _, hp' v hm⟩
  refine ⟨tuples' true, fun Q E hq => ?_, pair_cmpS hp'⟩
  refine PySem.W.kat_kind (T := .type "str") h1 (by omega) (fun f hm => ?_) (by rfl) ?_
  · obtain ⟨x, t, rfl⟩ := h3 f hm
    exact PySem.W.Looks.now
  · have e : (Value.type "str" != Value.type "tuple") = true := by first | decide +kernel | rfl | decide
    rw [e]
    exact hq
end
/-- names and numbers of entries, as they stand -/
abbrev EnP (K : PySem.W.Frag) (H : Hp) (p : Addr) (e : Str × Int) : Prop := SqT K H p [V.str e.1, V.int e.2]
theorem paired_of {α β : Type} {F : α → β → Prop} (g : α → β) : ∀ {l : List α}, (∀ x ∈ l, F x (g x)) → Paired F l (l.map g)
  | [], _ => .nil
  | x :: l, h => .cons (h x List.mem_cons_self) (paired_of g fun y hy => h y (List.mem_cons_of_mem _ hy))
theorem paired_eq {α β : Type} {F : α → β → Prop} (u : ∀ a b b', F a b → F a b' → b = b') : ∀ {l : List α} {m m' : List β}, Paired F l m → Paired F l m' → m = m'
  | _, _, _, .nil, .nil => rfl
  | _, _, _, .cons r t, .cons r' t' => by rw [u _ _ _ r r', paired_eq u t t']
theorem refs_un : ∀ {l : List Addr} {vs : List Value}, Vals (l.map V.ref) vs → vs = l.map Value.ref
  | [], _, r => by cases r; rfl
  | a :: l, _, r => by
    cases r with
    | cons h t =>
      have h2 : _ = Value.ref a := h
      rw [h2, refs_un t]; rfl
theorem vals_refs : ∀ (l : List Addr), Vals (l.map V.ref) (l.map Value.ref)
  | [] => .nil
  | a :: l => .cons rfl (vals_refs l)
theorem all_refs : ∀ (out : List Value), (∀ v ∈ out, ∃ p, Value.ref p = v) → ∃ ps' : List Addr, out = ps'.map Value.ref
  | [], _ => ⟨[], rfl⟩
  | v :: out, h => by
    obtain ⟨p, e⟩ := h v List.mem_cons_self
    obtain ⟨ps', e'⟩ := all_refs out fun u hu => h u (List.mem_cons_of_mem _ hu)
    exact ⟨p :: ps', by rw [← e, e']; rfl⟩
def rSortedE (K : PySem.W.Frag) : List V → Hp → VK → Prop := fun vs H Q => ∃ (a : Addr) (ps : List Addr) (l : List (Str × Int)), vs = [V.ref a] ∧ SqL K H a (ps.map V.ref) ∧ Paired (EnP K H) ps l ∧
  ∀ ps' l' p, Paired (EnP K H) ps' l' → SrtO.Srtd lexS l' → l'.Perm l → H p = none → Q (.ref p) (upd H p (.lst (ps'.map V.ref)))
theorem call_sortedE : CallR X (.builtin "sorted") (rSortedE X.K) := by
  intro pins s σ H vs us Q I r h
  obtain ⟨a, ps, l, rfl, hs, hps, q⟩ := h
  obtain ⟨its, rv, hl, hz⟩ := I.list hs
  rw [Vals.ref1 r]
  have ei := refs_un rv
  have un : ∀ (p : Addr) (e e' : Str × Int), EnP X.K H p e → EnP X.K H p e' → e = e' := fun p e e' h h' => by
    have z := I.tuple_inj h h'
    obtain ⟨e1, e2⟩ := e
    obtain ⟨f1, f2⟩ := e'
    injection z with z1 z2
    injection z2 with z2 _
    cases z1
    cases z2
    rfl
  obtain ⟨g, hg⟩ : ∃ g : Addr → Str × Int, ∀ p e, EnP X.K H p e → g p = e := by
    classical
    refine ⟨fun p => if h : ∃ e, EnP X.K H p e then Classical.choose h else ("", 0), fun p e h => ?_⟩
    have h1 : ∃ e, EnP X.K H p e := ⟨e, h⟩
    dsimp only
    rw [dif_pos h1]
    exact un _ _ _ (Classical.choose_spec h1) h
  have hall : ∀ p ∈ ps, EnP X.K H p (g p) := fun p hp => by
    obtain ⟨i, hi⟩ := List.mem_iff_getElem?.mp hp
    obtain ⟨e, _, he⟩ := paired_at hps hi
    rw [hg p e he]; exact he
  have hl2 : l = ps.map g := paired_eq un hps (paired_of g hall)
  let kk : Value → Str × Int := fun v => match v with | .ref p => g p | _ => ("", 0)
  have hp : ∀ v ∈ its, IsPairS s.heap v (kk v).1 (kk v).2 := fun v hv => by
    rw [ei] at hv
    obtain ⟨p, hp, rfl⟩ := List.mem_map.mp hv
    obtain ⟨its2, r2, ⟨o, ho, hc, n, hd⟩, _⟩ := I.tuple (hall p hp)
    obtain ⟨u1, u2, rfl, ri, rj⟩ := vals2 r2
    obtain ⟨t1, rfl⟩ := ri
    obtain ⟨t2, rfl⟩ := rj
    exact ⟨p, o, t1, t2, n, rfl, ho, hc, hd⟩
  refine SrtO.sorted_ord (swo_lexS kk) hl.isList (by rw [← rv.length]; exact hz) (fun h2 h₁ a ha k1 => ?_) fun out h1 h2 => ?_
  · refine pairs_sortableS (s := { s with heap := h₁ }) (by omega) (fun v hm => (hp v hm).keeps fun b o e _ => (k1 b o e).2) fun o e => ?_
    have e' : some o = some (seqObj "list" its.toArray 0) := e.symm.trans ha
    cases e'
    intro c
    exact absurd (Value.type.inj c) (by decide)
  · obtain ⟨ep, he'⟩ := PyProof.Rows.sortedAll_at s.heap its out.toArray
    obtain ⟨ps', eps⟩ : ∃ ps' : List Addr, out = ps'.map Value.ref := all_refs out fun v hv => by
      have := h2.perm.mem_iff.mp hv
      rw [ei] at this
      obtain ⟨p, _, e⟩ := List.mem_map.mp this
      exact ⟨p, e⟩
    have hperm : ps'.Perm ps := by
      have z := h2.perm
      rw [eps, ei] at z
      have z2 := z.map (fun v : Value => match v with | .ref p => p | _ => 0)
      rw [List.map_map, List.map_map] at z2
      have e0 : ((fun v : Value => match v with | .ref p => p | _ => 0) ∘ Value.ref) = (id : Addr → Addr) := rfl
      rw [e0, List.map_id, List.map_id] at z2
      exact z2
    have hlen : (ps'.map V.ref).length ≤ sizeLine := by
      rw [List.length_map, hperm.length_eq, ← List.length_map (f := V.ref)]
      exact hz
    refine ⟨.ref _, upd H (s.heap.objs.size + 1) (.lst (ps'.map V.ref)), I.laid (t' := s.toks) (fun _ _ => PyProof.Rows.sortedAll_old) (Nat.le_succ _) ⟨hlen, out, ep, (by rw [eps]; exact vals_refs ps'), he'⟩, rfl, q ps' (ps'.map g) _ (paired_of g fun p hp => hall p (hperm.mem_iff.mp hp)) ?_ ?_ (I.hok.fresh (Nat.le_succ _))⟩
    · refine List.pairwise_map.mpr ?_
      have z := h1
      rw [eps] at z
      exact List.pairwise_map.mp z
    · rw [hl2]; exact hperm.map g
/-! ### sorted(dict of int keys), any number of them -/
theorem call_sortedDA (hcalm : X.calm = true) : CallR X (.builtin "sorted") (fun xs H Q => ∃ (a : Addr) (kvs : List (Key × V)) (ks : List Int), xs = [.ref a] ∧ Rd H a (.dK kvs) ∧ kvs.map (·.1) = ks.map Sum.inl ∧ ks.length ≤ 1000 ∧
    ∀ (ys : List Int) (p : Addr), ys.Perm ks → ys.Pairwise (· ≤ ·) → H p = none → Q (.ref p) (upd H p (.lst (ys.map V.int)))) := by
  intro pins s σ H xs us Q I r q
  obtain ⟨a, kvs, ks, ex, hd, hks, h64, q⟩ := q
  subst ex
  obtain ⟨u, eu, rx⟩ := vals1 r
  subst eu
  cases rx
  obtain ⟨z, lo, vs, rel, dd⟩ := dk_rd I.hok hd
  obtain ⟨ep, hat⟩ := dd.dictAt
  have hkeys : vs.map (·.1) = ks.map Sum.inl := rel.keys.symm.trans hks
  have hl : vs.length = ks.length := by
    have e := congrArg List.length hkeys
    rw [List.length_map, List.length_map] at e
    exact e
  have h16 : vs.length ≤ sizeLine := by rw [hl, sizeLine_eq]; omega
  refine Calls.call_function_entry PyProof.Rows.kind_sorted PyProof.Rows.plain_sorted PyProof.Rows.entry_sorted (PyProof.Rows.args_sorted1 _) ?_
  unfold Builtin.«sorted»
  refine wpAny_bind (m := checkCount "sorted" 1 1 _) (wpAny_pure ?_)
  refine wpAny_bind (PySem.W.kdu_collect (A := X.A.in1) (PySem.W.kdl_dict (knd := mixKind X.prog X.w) (kvs := vs) (ep := ep) lo) (I.ok.hd hcalm) hat h16 fun h' tk acc hk hacc => ?_)
  have hal : acc.toList.length = ks.length := by rw [Array.length_toList, hacc.1, hl]
  have hS : IntsAre acc.toList ks := ints_each hal fun j v e => by
    obtain ⟨k, x, e1, e2⟩ := hacc.2 j v (by rw [← Array.getElem?_toList]; exact e)
    have e3 : (vs.map (·.1))[j]? = some k := by rw [List.getElem?_map, e1]; rfl
    rw [hkeys, List.getElem?_map] at e3
    cases e4 : ks[j]? with
    | none => rw [e4] at e3; cases e3
    | some y =>
      rw [e4] at e3
      have e5 : Sum.inl y = k := Option.some.inj e3
      subst e5
      rcases keyIs_shape (show keyIs (Sum.inl y) v = true from e2) with ⟨i, t, ek, ev⟩ | ⟨z, t, ek, ev⟩
      · cases ek
        exact ⟨y, t, rfl, ev⟩
      · cases ek
  have I1 : Inv X pins σ H { s with heap := h', toks := tk } := I.kept hk
  refine wpAny_bind (wpAny_newList ?_ (by rw [hal, sizeLine_eq]; omega))
  have hoL : (h'.push (seqObj "list" acc.toList.toArray 0)).get? h'.objs.size = some (seqObj "list" acc.toList.toArray 0) := Heap.get?_push_size _ rfl
  show wpAny _ _ _ _ _ { s with heap := h'.push (seqObj "list" acc.toList.toArray 0), toks := tk }
  refine wpAny_bind (wpAny_holding (wpAny_call_entry PyProof.Rows.slot_list_sort ⟨_, hoL, rfl⟩ PyProof.Rows.entry_list_sort
    (SrtO.list_sort_ord (s := { s with heap := h'.push (seqObj "list" acc.toList.toArray 0), toks := tk }) SrtO.swo_int hoL (by rw [hal, sizeLine_eq]; omega) (fun h2 => SrtO.ints_sortable hS h2) fun out h1 h2 => ⟨_, rfl, ?_⟩) (PyProof.Rows.args_list_sort _)))
  obtain ⟨k1, k2, k3⟩ := SrtO.ints_out hS h1 h2
  obtain ⟨e', he'⟩ := PyProof.Rows.sortedHeap_at (vs := acc.toList) (out := out.toArray) hoL
  have hlen : ((out.map SrtO.iv).map V.int).length ≤ sizeLine := by
    rw [List.length_map, k2.length_eq]
    exact Nat.le_trans h64 (by decide)
  refine wpAny_pure ⟨_, rfl, .ref h'.objs.size, upd H h'.objs.size (.lst ((out.map SrtO.iv).map V.int)), I1.laid (t' := tk) (fun b u e => ?_) (Nat.le_refl _)
    (show ObjOk X.prog X.w _ _ _ (.lst ((out.map SrtO.iv).map V.int)) from ⟨hlen, out, e', vals_of_ints k1, he'⟩), rfl, q _ _ k2 k3 (I1.hok.fresh (Nat.le_refl _))⟩
  have hb : b < h'.objs.size := Heap.lt_size e
  rw [PyProof.Rows.sortedHeap_old (Nat.ne_of_lt hb) (by rw [size_push']; exact Nat.lt_succ_of_lt hb)]
  exact Heap.get?_push_of_some _ e
end
/-! ### f(e, *es), f a local that holds a def -/
section
variable {X : Cx} {CX : CXT} {i : Nat} {E : XK} {x : Str} {e : Expr} {es : List Expr} {t : TA} {p pos : Pos}
theorem pe_callLS (hx : Passes CX X E) (hN : X.N[i]? = some x) (hv : Vis X.env.scope x) (ha : L2.PA X (e :: es) t)
    (hd : (x == ("__debug__" : Str)) = false := by decide) (hcd : (x == ("__classdict__" : Str)) = false := by decide)
    (he : starEach (e :: es) X.env = (false, eval e X.env) :: starEach es X.env := by rfl) (hst : (backTo pos (starEach es X.env)).any (·.1) = true := by rfl) :
    PE X (.Call (.Name x p) (e :: es) [] pos) (fun σ H Q => ∃ f k sp, σ[i]? = some (some (V.ref f)) ∧ PySem.W.keepIn X.K (.ref f) = true ∧ FnR X.prog X.w X.K X.mg X.base CX k f sp ∧ Room k X.A ∧ t σ H fun vs H1 => sp vs H1 Q E) := by
  refine ⟨fun pins s σ H Q I h => ?_⟩
  obtain ⟨f, k, sp, hs, hk, F, hr, h⟩ := h
  refine wpAny_Call_Name_kw (thn ((pe_var (pos := p) (i := i) hN hv hd hcd).run pins s σ H (fun v H1 => v = .ref f ∧ H1 = H) I ⟨.ref f, hs, rfl, rfl⟩) fun u s1 ⟨v, H1, I1, r1, ev, eH⟩ => ?_)
  subst ev
  rw [eH] at I1
  cases r1
  refine PySem.W.callWith_S2 (h₀ := X.base) I.ok.mod.kin hk (thn (ha.run pos pins s1 σ H _ I1 h) fun us s2 ⟨vs, H2, I2, r, q⟩ => ⟨I2.kIn, ?_⟩) he hst
  exact wpAny_call (run_fnR F hr hx I2 r q)
end
end Tm

set_option maxHeartbeats 4000000
namespace Tm
open PySem PySem.Spec PyProof.Rows L2
theorem ix_tupK {X : Cx} {K : PySem.W.Frag} (h : X.K = K := by rfl) : IxR X (rIxT K) := by
  subst h
  exact ix_tup
theorem ref_at {ps : List Addr} {i : Nat} {y : V} (hi : (ps.map V.ref)[i]? = some y) : ∃ q, ps[i]? = some q ∧ y = V.ref q := by
  rw [List.getElem?_map] at hi
  cases h1 : ps[i]? with
  | none => rw [h1] at hi; cases hi
  | some q => rw [h1] at hi; exact ⟨q, rfl, (Option.some.inj hi).symm⟩
/-! ### what changes -/
/-- all objects beside S stay -/
def Fr (S : Addr → Prop) (H H' : Hp) : Prop := ∀ b o, ¬ S b → H b = some o → H' b = some o
theorem Fr.of {S : Addr → Prop} {H H' : Hp} (h : Same H H') : Fr S H H' := fun b o _ e => h b o e
theorem Fr.trans {S : Addr → Prop} {H H1 H2 : Hp} (a : Fr S H H1) (b : Fr S H1 H2) : Fr S H H2 := fun c o n e => b c o n (a c o n e)
theorem Fr.refl {S : Addr → Prop} (H : Hp) : Fr S H H := fun _ _ _ e => e
theorem Fr.mono {S S' : Addr → Prop} {H H' : Hp} (h : Fr S H H') (m : ∀ b, S b → S' b) : Fr S' H H' := fun b o n e => h b o (fun z => n (m b z)) e
theorem fr_upd {S : Addr → Prop} {H : Hp} {a : Addr} {o : HO} (h : S a) : Fr S H (upd H a o) := fun b u n e => by rw [upd_ne (fun z => n (by rw [z]; exact h))]; exact e
abbrev S1 (d : Addr) : Addr → Prop := fun b => b = d
abbrev S2 (d hl : Addr) : Addr → Prop := fun b => b = d ∨ b = hl
/-- only things that are written are left out -/
theorem Fr.i {S : Addr → Prop} {H H' : Hp} (h : Fr S H H') (n : ∀ b o, S b → H b = some o → ¬ Imm o) : SameI H H' := fun b o i e => h b o (fun z => n b o z e i) e
theorem PA.ni {K : PySem.W.Frag} {H : Hp} {t d hl : Addr} {T : Tr} (h : PA K H t d hl T) : ∀ b o, S2 d hl b → H b = some o → ¬ Imm o := by
  obtain ⟨_, ⟨kvs, h2, _⟩, h4⟩ := h
  rintro b o (rfl | rfl) e i
  · rw [h2] at e; cases e; exact i
  · rw [h4] at e; cases e; exact i
theorem PA.ni1 {K : PySem.W.Frag} {H : Hp} {t d hl : Addr} {T : Tr} (h : PA K H t d hl T) : ∀ b o, S1 d b → H b = some o → ¬ Imm o := fun b o e => h.ni b o (.inl e)
/-! ### putting, dropping -/
theorem putK_pair {K : PySem.W.Frag} {H : Hp} {n : Int} {p : Addr} {nd : Nd} (np : NodeP K H p nd) {kvs : List (Key × V)} {l : Ns} (h : Paired (KvP K H) kvs l) : Paired (KvP K H) (putK kvs (Sum.inl n) (.ref p)) (putN l n nd) := by
  have hany : ∀ {kvs : List (Key × V)} {l : Ns}, Paired (KvP K H) kvs l → (kvs.any fun kv => decide (kv.1 = Sum.inl n)) = (l.any fun q => decide (q.1 = n)) := by
    intro kvs l h
    induction h with
    | nil => rfl
    | cons r t ih =>
      rw [List.any_cons, List.any_cons, ih]
      congr 1
      rw [r.1]
      rename_i a b l1 l2
      by_cases e : b.1 = n
      · rw [decide_eq_true e, decide_eq_true (by rw [e])]
      · rw [decide_eq_false e, decide_eq_false (fun z => e (Sum.inl.inj z))]
  have hmap : ∀ {kvs : List (Key × V)} {l : Ns}, Paired (KvP K H) kvs l → Paired (KvP K H) (kvs.map fun kv => if kv.1 = Sum.inl n then (kv.1, V.ref p) else kv) (l.map fun q => if q.1 = n then (q.1, nd) else q) := by
    intro kvs l h
    induction h with
    | nil => exact .nil
    | cons r t ih =>
      rw [List.map_cons, List.map_cons]
      refine .cons ?_ ih
      rename_i a b l1 l2
      by_cases e : b.1 = n
      · rw [if_pos e, if_pos (by rw [r.1, e])]
        exact ⟨r.1, p, rfl, np⟩
      · rw [if_neg e, if_neg (fun z => e (by rw [r.1] at z; exact Sum.inl.inj z))]
        exact r
  have happ : ∀ {kvs : List (Key × V)} {l : Ns}, Paired (KvP K H) kvs l → Paired (KvP K H) (kvs ++ [(Sum.inl n, V.ref p)]) (l ++ [(n, nd)]) := by
    intro kvs l h
    induction h with
    | nil => exact .cons ⟨rfl, p, rfl, np⟩ .nil
    | cons r t ih => exact .cons r ih
  unfold putK putN
  rw [hany h]
  by_cases c : (l.any fun q => decide (q.1 = n)) = true
  · rw [if_pos c, if_pos c]; exact hmap h
  · rw [if_neg c, if_neg c]; exact happ h
theorem dropK_pair {K : PySem.W.Frag} {H : Hp} {n : Int} {kvs : List (Key × V)} {l : Ns} (h : Paired (KvP K H) kvs l) : Paired (KvP K H) (dropK kvs (Sum.inl n)) (dropN l n) := by
  unfold dropK dropN
  induction h with
  | nil => exact .nil
  | cons r t ih =>
    rw [List.filter_cons, List.filter_cons]
    rename_i a b l1 l2
    by_cases e : b.1 = n
    · rw [if_neg (by rw [decide_eq_true_eq, r.1, e]; exact fun z => z rfl), if_neg (by rw [decide_eq_true_eq]; exact fun z => z e)]
      exact ih
    · rw [if_pos (by rw [decide_eq_true_eq, r.1]; exact fun z => e (Sum.inl.inj z)), if_pos (by rw [decide_eq_true_eq]; exact e)]
      exact .cons r ih
theorem kvs_len {K : PySem.W.Frag} {H : Hp} {kvs : List (Key × V)} {l : Ns} (h : Paired (KvP K H) kvs l) : kvs.length = l.length := paired_len h
/-- tree.nodes[n] = p -/
theorem PA.put {K : PySem.W.Frag} {H : Hp} {t d hl : Addr} {T : Tr} (h : PA K H t d hl T) {n : Int} {p : Addr} {nd : Nd} (np : NodeP K H p nd) (hz : T.nodes.length < 1000) :
    ∃ H', DPut H d (.int n) (.ref p) H' ∧ Fr (S1 d) H H' ∧ PA K H' t d hl ⟨putN T.nodes n nd, T.hs⟩ := by
  obtain ⟨⟨dx, h1⟩, ⟨kvs, h2, h3⟩, h4⟩ := id h
  have fr : Fr (S1 d) H (upd H d (.dK (putK kvs (Sum.inl n) (.ref p)))) := fr_upd rfl
  have si := fr.i h.ni1
  refine ⟨_, DPut.k (k := Sum.inl n) h2 (by rw [kvs_len h3, sizeLine_eq]; omega), fr, ⟨dx, si _ _ trivial h1⟩, ⟨_, upd_same, kvs_i si (putK_pair np h3)⟩, ?_⟩
  refine fr _ _ (fun z => ?_) h4
  have z : hl = d := z
  rw [z, h2] at h4
  cases h4
theorem PA.del {K : PySem.W.Frag} {H : Hp} {t d hl : Addr} {T : Tr} (h : PA K H t d hl T) {n : Int} (hn : (lk T.nodes n).isSome = true) {Q : Hp → Prop}
    (q : ∀ H', Fr (S1 d) H H' → PA K H' t d hl ⟨dropN T.nodes n, T.hs⟩ → Q H') : ∃ a kvs k, V.ref d = .ref a ∧ H a = some (.dK kvs) ∧ V.int n = kV k ∧ (valV kvs k).isSome = true ∧ Q (upd H a (.dK (dropK kvs k))) := by
  obtain ⟨⟨dx, h1⟩, ⟨kvs, h2, h3⟩, h4⟩ := id h
  have fr : Fr (S1 d) H (upd H d (.dK (dropK kvs (Sum.inl n)))) := fr_upd rfl
  have si := fr.i h.ni1
  refine ⟨d, kvs, Sum.inl n, rfl, h2, rfl, ?_, q _ fr ⟨⟨dx, si _ _ trivial h1⟩, ⟨_, upd_same, kvs_i si (dropK_pair h3)⟩, ?_⟩⟩
  · have z := kvs_val (n := n) h3
    cases e : lk T.nodes n with
    | none => rw [e] at hn; cases hn
    | some x => rw [e] at z; obtain ⟨p, z1, _⟩ := z; rw [z1]; rfl
  · refine fr _ _ (fun z => ?_) h4
    have z : hl = d := z
    rw [z, h2] at h4
    cases h4
/-! ### plain: entries -/
def sortE (l : List (Str × Int)) : List (Str × Int) := l.mergeSort fun a b => !lexS b a
def remE (e : List (Str × Int)) (x : Str) : List (Str × Int) := e.filter fun p => decide (p.1 ≠ x)
def insE (e : List (Str × Int)) (x : Str) (n : Int) : List (Str × Int) := sortE (remE e x ++ [(x, n)])
theorem remE_take {e : List (Str × Int)} {x : Str} {i : Nat} {en : Str × Int} (h : e[i]? = some en) : remE (e.take (i + 1)) x = remE (e.take i) x ++ (if en.1 ≠ x then [en] else []) := by
  unfold remE
  rw [List.take_succ, h, List.filter_append]
  congr 1
  show List.filter _ [en] = _
  rw [List.filter_cons]
  by_cases c : en.1 ≠ x
  · rw [if_pos c, if_pos (by simpa using c)]; rfl
  · rw [if_neg c, if_neg (by simpa using c)]; rfl
theorem lexS_tr : SrtO.Swo lexS := swo_lexS (fun p : Str × Int => p)
theorem lexS_anti {a b : Str × Int} (h1 : lexS b a = false) (h2 : lexS a b = false) : a = b := by
  obtain ⟨a1, a2⟩ := a
  obtain ⟨b1, b2⟩ := b
  rcases lexS_no.mp h1 with h1 | h1 <;> rcases lexS_no.mp h2 with h2 | h2
  · exact absurd (List.lt_trans h1 h2) (List.lt_irrefl _)
  · rw [show a1 = b1 from h2.1] at h1; exact absurd h1 (List.lt_irrefl _)
  · rw [show b1 = a1 from h1.1] at h2; exact absurd h2 (List.lt_irrefl _)
  · have e1 : b1 = a1 := h1.1
    have q1 : a2 ≤ b2 := h1.2
    have q2 : b2 ≤ a2 := h2.2
    rw [e1, Int.le_antisymm q1 q2]
theorem sortE_perm (l : List (Str × Int)) : (sortE l).Perm l := List.mergeSort_perm _ _
theorem sortE_srt (l : List (Str × Int)) : SrtO.Srtd lexS (sortE l) := by
  have h := List.pairwise_mergeSort (le := fun a b : Str × Int => !lexS b a) (fun a b c h1 h2 => ?_) (fun a b => ?_) l
  · exact h.imp fun {a b} h => by simpa using h
  · rw [Bool.not_eq_true'] at h1 h2 ⊢
    exact lexS_tr.tr _ _ _ h1 h2
  · cases h : lexS b a with
    | false => rfl
    | true => rw [lexS_tr.asym _ _ h]; rfl
theorem sortE_of {l l' : List (Str × Int)} (hs : SrtO.Srtd lexS l') (hp : l'.Perm l) : l' = sortE l :=
  List.Perm.eq_of_pairwise (le := fun a b => lexS b a = false) (fun a b _ _ h1 h2 => lexS_anti h1 h2) hs (sortE_srt l) (hp.trans (sortE_perm l).symm)
theorem paired_filter {α β : Type} {F : α → β → Prop} {f : α → Bool} {g : β → Bool} (h : ∀ a b, F a b → f a = g b) : ∀ {l : List α} {m : List β}, Paired F l m → Paired F (l.filter f) (m.filter g)
  | _, _, .nil => .nil
  | _, _, .cons (a := a) (b := b) r t => by
    rw [List.filter_cons, List.filter_cons, h _ _ r]
    by_cases c : g b = true
    · rw [if_pos c, if_pos c]; exact .cons r (paired_filter h t)
    · rw [if_neg c, if_neg c]; exact paired_filter h t
theorem paired_append {α β : Type} {F : α → β → Prop} : ∀ {l l' : List α} {m m' : List β}, Paired F l m → Paired F l' m' → Paired F (l ++ l') (m ++ m')
  | _, _, _, _, .nil, h => h
  | _, _, _, _, .cons r t, h => .cons r (paired_append t h)
theorem paired_snoc {α β : Type} {F : α → β → Prop} {l : List α} {m : List β} {a : α} {b : β} (h : Paired F l m) (r : F a b) : Paired F (l ++ [a]) (m ++ [b]) := paired_append h (.cons r .nil)
section
variable {P : Program} {w : World} {K : PySem.W.Frag} {mg : Str → Option Value} {base : Heap}
/-! ### writing tree.nodes[n] -/
section
variable {σ : L2.St} {H : Hp} {t d hl : Addr} {Tr : Tr} {i j : Nat} {n : Int} {nd : Nd}
theorem wr_nodes (T : Tx K mg) (pa : PA K H t d hl Tr) (hi : σ[i]? = some (some (.ref t))) (hj : σ[j]? = some (some (.int n))) {p : Addr} (np : NodeP K H p nd) (hz : Tr.nodes.length < 1000) {Q : Hp → Prop} (q : ∀ H', Fr (S1 d) H H' → PA K H' t d hl ⟨putN Tr.nodes n nd, Tr.hs⟩ → Q H') :
    ∃ v, σ[i]? = some (some v) ∧ ∃ a C dx fs v1, v = V.ref a ∧ H a = some (.ins C dx fs) ∧ Cls K C ∧ NoAttr K C "nodes" ∧ fs.lookup ("nodes" : Str) = some v1 ∧ ∃ v2, σ[j]? = some (some v2) ∧ ∃ a2 H4, v1 = V.ref a2 ∧ DPut H a2 v2 (.ref p) H4 ∧ Q H4 := by
  obtain ⟨dt, ht⟩ := pa.tree
  obtain ⟨H', h1, h2, h3⟩ := pa.put np hz
  exact ⟨_, hi, t, _, dt, _, _, rfl, ht, T.cT, T.n_nodes, tFs_nodes _ _, _, hj, d, H', rfl, h1, q H' h2 h3⟩
theorem rm_nodes (T : Tx K mg) (pa : PA K H t d hl Tr) (hi : σ[i]? = some (some (.ref t))) (hj : σ[j]? = some (some (.int n))) (hn : lk Tr.nodes n = some nd) {Q : Hp → Prop} (q : ∀ H', Fr (S1 d) H H' → PA K H' t d hl ⟨dropN Tr.nodes n, Tr.hs⟩ → Q H') :
    ∃ v, σ[i]? = some (some v) ∧ ∃ a C dx fs v1, v = V.ref a ∧ H a = some (.ins C dx fs) ∧ Cls K C ∧ NoAttr K C "nodes" ∧ fs.lookup ("nodes" : Str) = some v1 ∧ ∃ v2, σ[j]? = some (some v2) ∧ ∃ a2 kvs k, v1 = V.ref a2 ∧ H a2 = some (.dK kvs) ∧ v2 = kV k ∧ (valV kvs k).isSome = true ∧ Q (upd H a2 (.dK (dropK kvs k))) := by
  obtain ⟨dt, ht⟩ := pa.tree
  exact ⟨_, hi, t, _, dt, _, _, rfl, ht, T.cT, T.n_nodes, tFs_nodes _ _, _, hj, pa.del (by rw [hn]; rfl) q⟩
end
/-! ### Node -/
def spNodeInit (K : PySem.W.Frag) : Sp := fun vs H Q _ => ∃ (x dx : Addr) (s : Str) (bv : V) (k : Int), vs = [.ref x, .str s, bv, .int k] ∧ H x = some (.ins (aN K) dx []) ∧ Q .non (upd H x (.ins (aN K) dx [("kind", .str s), ("body", bv), ("links", .int k)]))
theorem sc_Node_init : FnScope ["self", "kind", "body", "links"] ["self", "kind", "body", "links"] (defScope s_Node_init) := ⟨rfl, rfl, rfl, by decide +kernel, rfl, by decide +kernel, by decide +kernel⟩
theorem ok_Node_init (T : Tx K mg) : ∃ fd, FnOk P w K mg base (L2.CX P w) 1 (He.ma K (He.ga K "Node") "__init__") fd ["self", "kind", "body", "links"] (spNodeInit K) ∧
    (∃ g, KBn K fd ["self", "kind", "body", "links"] 3 ["links"] g (fun vs zs => vs ++ zs)) ∧ (∃ g, KBn K fd ["self", "kind", "body", "links"] 3 [] g (fun vs zs => vs ++ [V.int 1])) := by
  obtain ⟨fd, F⟩ := df_Node_init T
  refine ⟨fd, F.ok sc_Node_init (fun vs H Q E h => ?_) (fun cdv A outer s H vs Q E hr h => ?_), ?_, ?_⟩
  · obtain ⟨_, _, _, _, _, rfl, _⟩ := h
    rfl
  · obtain ⟨x, dx, z, bv, k, rfl, hx, q⟩ := h
    refine ⟨_, (pss_cons (ps_fld (pv 0) (pv 1) rfl) (pss_cons (ps_fld (pv 0) (pv 2) rfl) (pss_one (ps_fld (pv 0) (pv 3) rfl)))), ?_⟩
    refine ⟨_, rfl, _, rfl, x, _, dx, _, rfl, hx, T.cN, T.n_kind, (by decide), ?_⟩
    refine ⟨_, rfl, _, rfl, x, _, dx, _, rfl, upd_same, T.cN, T.n_body, (by show 1 < 1000; decide), ?_⟩
    refine ⟨_, rfl, _, rfl, x, _, dx, _, rfl, upd_same, T.cN, T.n_links, (by show 2 < 1000; decide), ?_⟩
    rw [upd_upd, upd_upd]
    exact q
  · obtain ⟨mv, h⟩ := F.kbinds0 (ps := ["self", "kind", "body", "links"]) 3 ["links"] [] (fun vs mz zs => vs ++ zs) (by decide) (fun q hq => by cases hq) (fun r1 r2 r3 => r1.append r3)
      (fun D doc pm an cdv ct us mv ws l1 l2 l3 => match us, l1, ws, l3 with | [_, _, _], _, [_], _ => by rfl)
    exact ⟨_, h⟩
  · obtain ⟨mv, h⟩ := F.kbinds0 (ps := ["self", "kind", "body", "links"]) 3 [] [("links", V.int 1)] (fun vs mz zs => vs ++ mz) (by decide) (fun q hq => hq) (fun r1 r2 r3 => r1.append r2)
      (fun D doc pm an cdv ct us mv ws l1 l2 l3 => match us, l1, mv, l2, ws, l3 with | [_, _, _], _, [_], _, [], _ => ⟨_, _, _, _, _, _, rfl, rfl, rfl⟩)
    exact ⟨_, h⟩
/-- a new node is made: what is known of it -/
theorem made_node {H : Hp} {x dx : Addr} {nd : Nd} {bv : V} (hx : H x = none) (hd : H dx = none) (hb : BodyP K H nd.bd bv) : Same H (upd (upd (upd H dx (.own x)) x (.ins (aN K) dx [])) x (.ins (aN K) dx (nFs nd bv))) ∧
    NodeP K (upd (upd (upd H dx (.own x)) x (.ins (aN K) dx [])) x (.ins (aN K) dx (nFs nd bv))) x nd := by
  have s1 : Same H (upd (upd (upd H dx (.own x)) x (.ins (aN K) dx [])) x (.ins (aN K) dx (nFs nd bv))) := by
    rw [upd_upd]
    intro b o e
    rw [upd_ne (ne_of_none e hx), upd_ne (ne_of_none e hd)]
    exact e
  exact ⟨s1, dx, bv, upd_same, hb.i (same_i s1)⟩
def spWithBody (K : PySem.W.Frag) : Sp := fun vs H Q _ => ∃ (p : Addr) (nd : Nd) (bd : Bd) (bv : V), vs = [.ref p, bv] ∧ NodeP K H p nd ∧ BodyP K H bd bv ∧ bd.kind = nd.bd.kind ∧ ∀ q H', Same H H' → NodeP K H' q ⟨bd, nd.links⟩ → Q (.ref q) H'
-- slots of Node.with_body: 0 self, 1 body
theorem sc_Node_with_body : FnScope ["self", "body"] ["self", "body"] (defScope s_Node_with_body) := ⟨rfl, rfl, rfl, by decide +kernel, rfl, by decide +kernel, by decide +kernel⟩
theorem ok_Node_with_body (T : Tx K mg) : FnR P w K mg base (L2.CX P w) 3 (He.ma K (He.ga K "Node") "with_body") (spWithBody K) := by
  obtain ⟨fdI, G_Node_init, ⟨gX, KBx⟩, ⟨g0, KB0⟩⟩ := ok_Node_init (P := P) (w := w) (base := base) T
  refine mk_fn (df_Node_with_body T) sc_Node_with_body (fun _ _ _ _ _ _ us hl => match us, hl with | [_, _], _ => rfl) (fun vs H Q E h => ?_) (fun cdv A outer s H vs Q E tk po hr h => ?_)
  · obtain ⟨_, _, _, _, rfl, _⟩ := h
    rfl
  obtain ⟨p, nd, bd, bv, rfl, np, hb, hk, k⟩ := h
  refine ⟨_, (pss_one (ps_ret (pe_makeK (n := 2) T.mkN G_Node_init (hr.mono (by decide)) rfl (c_Node T) KBx pass0' (pa_cons (pe_fld (pv 0) rfl) (pa_cons (pv 1) pa_nil)) (pk_cons (pe_fld (pv 0) rfl) pk_nil)))), ?_⟩
  refine rd_fkind T np (by rfl) ?_
  refine ⟨_, rfl, ?_⟩
  refine rd_flinks T np (by rfl) ?_
  refine ⟨rfl, rfl, fun x dx hx hd hne => ?_⟩
  refine ⟨x, dx, _, _, _, rfl, upd_same, rfl, ?_⟩
  obtain ⟨m1, m2⟩ := made_node (K := K) (nd := ⟨bd, nd.links⟩) hx hd hb
  have e : nd.bd.kind = (⟨bd, nd.links⟩ : Nd).bd.kind := hk.symm
  rw [e]
  exact k x _ m1 m2
def spWithLinks (K : PySem.W.Frag) : Sp := fun vs H Q _ => ∃ (p : Addr) (nd : Nd) (i : Int), vs = [.ref p, .int i] ∧ NodeP K H p nd ∧ ∀ q H', Same H H' → NodeP K H' q ⟨nd.bd, i⟩ → Q (.ref q) H'
-- slots of Node.with_links: 0 self, 1 links
theorem sc_Node_with_links : FnScope ["self", "links"] ["self", "links"] (defScope s_Node_with_links) := ⟨rfl, rfl, rfl, by decide +kernel, rfl, by decide +kernel, by decide +kernel⟩
theorem ok_Node_with_links (T : Tx K mg) : FnR P w K mg base (L2.CX P w) 3 (He.ma K (He.ga K "Node") "with_links") (spWithLinks K) := by
  obtain ⟨fdI, G_Node_init, ⟨gX, KBx⟩, ⟨g0, KB0⟩⟩ := ok_Node_init (P := P) (w := w) (base := base) T
  refine mk_fn (df_Node_with_links T) sc_Node_with_links (fun _ _ _ _ _ _ us hl => match us, hl with | [_, _], _ => rfl) (fun vs H Q E h => ?_) (fun cdv A outer s H vs Q E tk po hr h => ?_)
  · obtain ⟨_, _, _, rfl, _⟩ := h
    rfl
  obtain ⟨p, nd, i, rfl, np, k⟩ := h
  refine ⟨_, (pss_one (ps_ret (pe_makeK (n := 2) T.mkN G_Node_init (hr.mono (by decide)) rfl (c_Node T) KBx pass0' (pa_cons (pe_fld (pv 0) rfl) (pa_cons (pe_fld (pv 0) rfl) pa_nil)) (pk_cons (pv 1) pk_nil)))), ?_⟩
  refine rd_fkind T np (by rfl) ?_
  refine rd_fbody T np (by rfl) (fun bv hb => ?_)
  refine ⟨_, rfl, ?_⟩
  refine ⟨rfl, rfl, fun x dx hx hd hne => ?_⟩
  refine ⟨x, dx, _, _, _, rfl, upd_same, rfl, ?_⟩
  obtain ⟨m1, m2⟩ := made_node (K := K) (nd := ⟨nd.bd, i⟩) hx hd hb
  exact k x _ m1 m2
/-! ### add_entry, remove_entry -/
def entOf (l : Ns) (d : Int) : List (Str × Int) := match lk l d with
  | some ⟨.ent e, _⟩ => e
  | _ => []
def lnk (l : Ns) (d : Int) : Int := match lk l d with
  | some x => x.links
  | none => 0
def addE (l : Ns) (d : Int) (x : Str) (n : Int) : Ns := putN l d ⟨.ent (insE (entOf l d) x n), lnk l d⟩
def delE (l : Ns) (d : Int) (x : Str) : Ns := putN l d ⟨.ent (remE (entOf l d) x), lnk l d⟩
theorem entOf_eq {l : Ns} {d : Int} {e : List (Str × Int)} {k : Int} (h : lk l d = some ⟨.ent e, k⟩) : entOf l d = e := by unfold entOf; rw [h]
theorem lnk_eq {l : Ns} {d : Int} {x : Nd} (h : lk l d = some x) : lnk l d = x.links := by unfold lnk; rw [h]
def spAddEntry (K : PySem.W.Frag) : Sp := fun vs H Q _ => ∃ (t d hl : Addr) (T : Tr) (n : Int) (x : Str) (c : Int) (e : List (Str × Int)) (k : Int), vs = [.ref t, .int n, .str x, .int c] ∧ PA K H t d hl T ∧ lk T.nodes n = some ⟨.ent e, k⟩ ∧ e.length ≤ 1000 ∧ T.nodes.length < 1000 ∧
  ∀ H', Fr (S1 d) H H' → PA K H' t d hl ⟨addE T.nodes n x c, T.hs⟩ → Q .non H'
-- slots of add_entry: 0 tree, 1 directory, 2 name, 3 number, 4 node, 5 entries, 6 pair
theorem sc_add_entry : FnScope ["tree", "directory", "name", "number", "node", "entries", "pair"] ["tree", "directory", "name", "number"] (defScope s_add_entry) := ⟨rfl, rfl, rfl, by decide +kernel, rfl, by decide +kernel, by decide +kernel⟩
theorem ok_add_entry (T : Tx K mg) : FnR P w K mg base (L2.CX P w) 4 (He.ga K "add_entry") (spAddEntry K) := by
  have G_Node_with_body := ok_Node_with_body (P := P) (w := w) (base := base) T
  refine mk_fn (df_add_entry T) sc_add_entry (fun _ _ _ _ _ _ us hl => match us, hl with | [_, _, _, _], _ => rfl) (fun vs H Q E h => ?_) (fun cdv A outer s H vs Q E tk po hr h => ?_)
  · obtain ⟨_, _, _, _, _, _, _, _, _, rfl, _⟩ := h
    rfl
  obtain ⟨t, d, hl, Tr, n, x, c, e, kk, rfl, pa, hn, he, hz, k⟩ := h
  refine ⟨_, (pss_cons (ps_set (i := 4) sc_add_entry.nd rfl (Or.inl rfl) (pe_dget (hu_of hr) (pe_fld (pv 0) rfl) (pv 1) (fun _ _ => rfl)))
    (pss_cons (ps_setLc (i := 5) (own := [("pair", 6)]) (g := gName 6)  rfl sc_add_entry.nd rfl rfl (sw_true rfl rfl rfl (by decide +kernel)) (pi_tup (pe_fld (pv 4) rfl)) (blkOk_by (N := ["tree", "directory", "name", "number", "node", "entries", "pair"]) (sc := defScope s_add_entry) (by decide +kernel)) (fun _ _ _ _ _ => (pg_name (i := 6) sc_add_entry.nd rfl (Or.inl rfl))) (fun _ _ _ _ _ => pts_one (pt_cmpR op_ne (pe_ix (ix_tupK (K := K)) (pv 6) pe_int (fun _ _ => rfl)) (pv 2) (nomark _))) (fun _ _ _ _ _ => (pv 6)))
    (pss_one (ps_dput (hu_of hr) (pe_fld (pv 0) rfl) (pv 1) (pe_methR (pv 4) T.cN T.m_with_body G_Node_with_body (hr.mono (by decide)) (pc_of tk) (pa_cons (pe_callTy call_tuple_of (by rfl) (f_tuple T) (by decide +kernel) (pa_cons (pe_callB call_sortedE (by rfl) (f_sorted T) (by decide +kernel) (pa_cons (pe_op op_cat (pv 5) (pe_lst (pa_cons (pe_tup (pa_cons (pv 2) (pa_cons (pv 3) pa_nil))) pa_nil))) pa_nil)) pa_nil)) pa_nil)) rfl)))), ?_⟩
  refine rd_nodes T pa (by rfl) (by rfl) hn (fun p np => ?_)
  refine rd_fbody T np (by rfl) (fun bv hb => ?_)
  obtain ⟨b, ps, rfl, hs, hps⟩ := hb
  refine ⟨b, rfl, ⟨_, hs⟩, fun D hD => lc_tup (K := K) (a := b) (xs := ps.map V.ref) (fun i H' => Same H H' ∧ ∃ qs, H' D = some (.lst (qs.map V.ref)) ∧ Paired (EnP K H') qs (remE (e.take i) x)) ⟨same_new hD, [], upd_same, .nil⟩ (fun i H' _ h => same_t h.1 hs) ?_ ?_⟩
  · rintro i y H' hi ⟨sm, qs, hD', hq⟩
    obtain ⟨q, hqi, rfl⟩ := ref_at hi
    obtain ⟨en, he1, hen⟩ := paired_at hps hqi
    have hlen : qs.length ≤ 1000 := by rw [paired_len hq]; exact Nat.le_trans (List.length_filter_le _ _) (by rw [List.length_take]; omega)
    refine ⟨rfl, _, rfl, q, _, 0, _, rfl, rfl, same_t sm hen, atI_nat (j := 0) rfl, _, rfl, rfl, _, rfl, ?_⟩
    refine ite2 (fun c1 => ?_) (fun c1 => ?_)
    · refine ⟨_, rfl, _, hD', by rw [List.length_map, sizeLine_eq]; omega, same_mut sm hD, qs ++ [q], by rw [upd_same, List.map_append]; rfl, ?_⟩
      have s3 := same_mut (o := .lst (qs.map V.ref ++ [V.ref q])) sm hD
      have hq3 : Paired (EnP K (upd H' D (.lst (qs.map V.ref ++ [V.ref q])))) qs (remE (e.take i) x) := paired_imp (fun _ _ z => samei_t (fun b o im e => by rw [upd_ne (fun z => by rw [z, hD'] at e; cases e; exact im)]; exact e) z) hq
      rw [remE_take he1, if_pos (ne_str.mp c1)]
      exact paired_snoc hq3 (same_t s3 hen)
    · refine ⟨sm, qs, hD', ?_⟩
      rw [remE_take he1, if_neg (fun z => c1 (ne_str.mpr z)), List.append_nil]
      exact hq
  · rintro H' ⟨sm, qs, hD', hq⟩
    rw [List.length_map, paired_len hps, List.take_length] at hq
    have hlen : qs.length ≤ 1000 := by rw [paired_len hq]; exact Nat.le_trans (List.length_filter_le _ _) he
    have np1 := np.i (same_i sm)
    obtain ⟨dx, bv, hp1, _⟩ := id np1
    refine ⟨_, rfl, p, dx, _, rfl, hp1, nFs_no _ _ (by decide +kernel) (by decide +kernel) (by decide +kernel), ?_⟩
    refine ⟨_, rfl, _, rfl, _, rfl, (by show 2 ≤ sizeLine; decide), fun r hr0 => ?_⟩
    have s2 := sm.trans (same_new (o := .tup [V.str x, V.int c]) hr0)
    have hD2 : upd H' r (.tup [V.str x, V.int c]) D = some (.lst (qs.map V.ref)) := by rw [upd_ne (ne_of_none hD' hr0)]; exact hD'
    refine ⟨(by show 1 ≤ sizeLine; decide), fun l hl0 => ?_⟩
    have s3 := s2.trans (same_new (o := .lst [V.ref r]) hl0)
    have hD3 : upd (upd H' r (.tup [V.str x, V.int c])) l (.lst [V.ref r]) D = some (.lst (qs.map V.ref)) := by rw [upd_ne (ne_of_none hD2 hl0)]; exact hD2
    refine ⟨D, l, _, _, rfl, rfl, hD3, upd_same, by rw [List.length_map, sizeLine_eq]; show qs.length + 1 ≤ _; omega, fun m hm0 => ?_⟩
    have s4 := s3.trans (same_new (o := .lst (qs.map V.ref ++ [V.ref r])) hm0)
    have hr4 : EnP K (upd (upd (upd H' r (.tup [V.str x, V.int c])) l (.lst [V.ref r])) m (.lst (qs.map V.ref ++ [V.ref r]))) r (x, c) := by
      refine same_t (same_new hm0) (same_t (same_new hl0) (SqT.of upd_same))
    have sq : Same H' (upd (upd (upd H' r (.tup [V.str x, V.int c])) l (.lst [V.ref r])) m (.lst (qs.map V.ref ++ [V.ref r]))) := ((same_new hr0).trans (same_new hl0)).trans (same_new hm0)
    have hq4 := paired_snoc (paired_imp (fun _ _ z => same_t sq z) hq) hr4
    refine ⟨m, qs ++ [r], _, rfl, SqL.of (by rw [List.map_append]; exact upd_same), hq4, fun ps' l' p' hp' hs' hpm hp0 => ?_⟩
    have el : l' = insE e x c := sortE_of hs' hpm
    subst el
    have s5 := s4.trans (same_new (o := .lst (ps'.map V.ref)) hp0)
    have hlen2 : (insE e x c).length ≤ 1001 := by
      unfold insE
      rw [(sortE_perm _).length_eq, List.length_append]
      show (remE e x).length + 1 ≤ 1001
      have : (remE e x).length ≤ e.length := List.length_filter_le _ _
      omega
    refine ⟨p', _, rfl, .inl ⟨SqL.of upd_same, fun l2 hl2 => ?_⟩⟩
    have s6 := s5.trans (same_new (o := .tup (ps'.map V.ref)) hl2)
    refine ⟨p, _, .ent (insE e x c), .ref l2, rfl, np.i (same_i s6), ⟨l2, ps', rfl, SqT.of upd_same, paired_imp (fun _ _ z => same_t (same_new hl2) (same_t (same_new hp0) z)) hp'⟩, rfl, fun q H5 s7 nq => ?_⟩
    have s8 := s6.trans s7
    refine wr_nodes T (pa.same s8) (by rfl) (by rfl) nq hz (fun H6 f6 pa6 => ?_)
    refine k H6 ((Fr.of s8).trans f6) ?_
    unfold addE
    rw [entOf_eq hn, lnk_eq hn]
    exact pa6
def spRemoveEntry (K : PySem.W.Frag) : Sp := fun vs H Q _ => ∃ (t d hl : Addr) (T : Tr) (n : Int) (x : Str) (e : List (Str × Int)) (k : Int), vs = [.ref t, .int n, .str x] ∧ PA K H t d hl T ∧ lk T.nodes n = some ⟨.ent e, k⟩ ∧ e.length ≤ 1000 ∧ T.nodes.length < 1000 ∧
  ∀ H', Fr (S1 d) H H' → PA K H' t d hl ⟨delE T.nodes n x, T.hs⟩ → Q .non H'
-- slots of remove_entry: 0 tree, 1 directory, 2 name, 3 node, 4 pair
theorem sc_remove_entry : FnScope ["tree", "directory", "name", "node", "pair"] ["tree", "directory", "name"] (defScope s_remove_entry) := ⟨rfl, rfl, rfl, by decide +kernel, rfl, by decide +kernel, by decide +kernel⟩
theorem ok_remove_entry (T : Tx K mg) : FnR P w K mg base (L2.CX P w) 4 (He.ga K "remove_entry") (spRemoveEntry K) := by
  have G_Node_with_body := ok_Node_with_body (P := P) (w := w) (base := base) T
  refine mk_fn (df_remove_entry T) sc_remove_entry (fun _ _ _ _ _ _ us hl => match us, hl with | [_, _, _], _ => rfl) (fun vs H Q E h => ?_) (fun cdv A outer s H vs Q E tk po hr h => ?_)
  · obtain ⟨_, _, _, _, _, _, _, _, rfl, _⟩ := h
    rfl
  obtain ⟨t, d, hl, Tr, n, x, e, kk, rfl, pa, hn, he, hz, k⟩ := h
  refine ⟨_, (pss_cons (ps_set (i := 3) sc_remove_entry.nd rfl (Or.inl rfl) (pe_dget (hu_of hr) (pe_fld (pv 0) rfl) (pv 1) (fun _ _ => rfl)))
    (pss_one (ps_dput (hu_of hr) (pe_fld (pv 0) rfl) (pv 1) (pe_methR (pv 3) T.cN T.m_with_body G_Node_with_body (hr.mono (by decide)) (pc_of tk) (pa_cons (pe_callTy call_tuple_of (by rfl) (f_tuple T) (by decide +kernel) (pa_cons (pe_lc (own := [("pair", 4)]) (g := gName 4)  rfl sc_remove_entry.nd (pi_tup (pe_fld (pv 3) rfl)) (blkOk_by (N := ["tree", "directory", "name", "node", "pair"]) (sc := defScope s_remove_entry) (by decide +kernel)) (fun _ _ _ _ _ => (pg_name (i := 4) sc_remove_entry.nd rfl (Or.inl rfl))) (fun _ _ _ _ _ => pts_one (pt_cmpR op_ne (pe_ix (ix_tupK (K := K)) (pv 4) pe_int (fun _ _ => rfl)) (pv 2) (nomark _))) (fun _ _ _ _ _ => (pv 4))) pa_nil)) pa_nil)) rfl))), ?_⟩
  refine rd_nodes T pa (by rfl) (by rfl) hn (fun p np => ?_)
  obtain ⟨dx, bv, hp1, hb⟩ := id np
  refine ⟨_, rfl, p, dx, _, rfl, hp1, nFs_no _ _ (by decide +kernel) (by decide +kernel) (by decide +kernel), ?_⟩
  refine rd_fbody T np (by rfl) (fun bv hb => ?_)
  obtain ⟨b, ps, rfl, hs, hps⟩ := hb
  refine ⟨b, rfl, ⟨_, hs⟩, fun D hD => lc_tup (K := K) (a := b) (xs := ps.map V.ref) (fun i H' => Same H H' ∧ ∃ qs, H' D = some (.lst (qs.map V.ref)) ∧ Paired (EnP K H') qs (remE (e.take i) x)) ⟨same_new hD, [], upd_same, .nil⟩ (fun i H' _ h => same_t h.1 hs) ?_ ?_⟩
  · rintro i y H' hi ⟨sm, qs, hD', hq⟩
    obtain ⟨q, hqi, rfl⟩ := ref_at hi
    obtain ⟨en, he1, hen⟩ := paired_at hps hqi
    have hlen : qs.length ≤ 1000 := by rw [paired_len hq]; exact Nat.le_trans (List.length_filter_le _ _) (by rw [List.length_take]; omega)
    refine ⟨rfl, _, rfl, q, _, 0, _, rfl, rfl, same_t sm hen, atI_nat (j := 0) rfl, _, rfl, rfl, _, rfl, ?_⟩
    refine ite2 (fun c1 => ?_) (fun c1 => ?_)
    · refine ⟨_, rfl, _, hD', by rw [List.length_map, sizeLine_eq]; omega, same_mut sm hD, qs ++ [q], by rw [upd_same, List.map_append]; rfl, ?_⟩
      have s3 := same_mut (o := .lst (qs.map V.ref ++ [V.ref q])) sm hD
      have hq3 : Paired (EnP K (upd H' D (.lst (qs.map V.ref ++ [V.ref q])))) qs (remE (e.take i) x) := paired_imp (fun _ _ z => samei_t (fun b o im e => by rw [upd_ne (fun z => by rw [z, hD'] at e; cases e; exact im)]; exact e) z) hq
      rw [remE_take he1, if_pos (ne_str.mp c1)]
      exact paired_snoc hq3 (same_t s3 hen)
    · refine ⟨sm, qs, hD', ?_⟩
      rw [remE_take he1, if_neg (fun z => c1 (ne_str.mpr z)), List.append_nil]
      exact hq
  · rintro H' ⟨sm, qs, hD', hq⟩
    rw [List.length_map, paired_len hps, List.take_length] at hq
    refine ⟨D, _, rfl, .inl ⟨SqL.of hD', fun l2 hl2 => ?_⟩⟩
    have s6 := sm.trans (same_new (o := .tup (qs.map V.ref)) hl2)
    refine ⟨p, _, .ent (remE e x), .ref l2, rfl, np.i (same_i s6), ⟨l2, qs, rfl, SqT.of upd_same, paired_imp (fun _ _ z => same_t (same_new hl2) z) hq⟩, rfl, fun q H5 s7 nq => ?_⟩
    have s8 := s6.trans s7
    refine wr_nodes T (pa.same s8) (by rfl) (by rfl) nq hz (fun H6 f6 pa6 => ?_)
    refine k H6 ((Fr.of s8).trans f6) ?_
    unfold delE
    rw [entOf_eq hn, lnk_eq hn]
    exact pa6
/-! ### drop_name -/
def loseN (T : Tr) (n : Int) : Ns := match lk T.nodes n with
  | some x => if x.links = 1 ∧ some n ∉ T.hs then dropN T.nodes n else putN T.nodes n ⟨x.bd, x.links - 1⟩
  | none => T.nodes
def spDropName (K : PySem.W.Frag) : Sp := fun vs H Q _ => ∃ (t d hl : Addr) (T : Tr) (n : Int) (nd : Nd), vs = [.ref t, .int n] ∧ PA K H t d hl T ∧ lk T.nodes n = some nd ∧ T.nodes.length < 1000 ∧
  ∀ H', Fr (S1 d) H H' → PA K H' t d hl ⟨loseN T n, T.hs⟩ → Q .non H'
-- slots of drop_name: 0 tree, 1 number, 2 node
theorem sc_drop_name : FnScope ["tree", "number", "node"] ["tree", "number"] (defScope s_drop_name) := ⟨rfl, rfl, rfl, by decide +kernel, rfl, by decide +kernel, by decide +kernel⟩
theorem ok_drop_name (T : Tx K mg) : FnR P w K mg base (L2.CX P w) 4 (He.ga K "drop_name") (spDropName K) := by
  have G_Node_with_links := ok_Node_with_links (P := P) (w := w) (base := base) T
  have G_FileTree_is_open := ok_FileTree_is_open (P := P) (w := w) (base := base) T
  refine mk_fn (df_drop_name T) sc_drop_name (fun _ _ _ _ _ _ us hl => match us, hl with | [_, _], _ => rfl) (fun vs H Q E h => ?_) (fun cdv A outer s H vs Q E tk po hr h => ?_)
  · obtain ⟨_, _, _, _, _, _, rfl, _⟩ := h
    rfl
  obtain ⟨t, d, hl, Tr, n, nd, rfl, pa, hn, hz, k⟩ := h
  refine ⟨_, (pss_cons (ps_set (i := 2) sc_drop_name.nd rfl (Or.inl rfl) (pe_dget (hu_of hr) (pe_fld (pv 0) rfl) (pv 1) (fun _ _ => rfl)))
    (pss_one (ps_if (PW.pt (pw_and (pt_cmpR op_eq (pe_fld (pv 2) rfl) pe_int (nomark _)) (pw_and1 (pt_not (pt_val (pe_methR (pv 0) T.cT T.m_is_open G_FileTree_is_open (hr.mono (by decide)) (pc_of tk) (pa_cons (pv 1) pa_nil)))))))
    (pss_one (ps_ddel (pe_fld (pv 0) rfl) (pv 1)))
    (pss_one (ps_dput (hu_of hr) (pe_fld (pv 0) rfl) (pv 1) (pe_methR (pv 2) T.cN T.m_with_links G_Node_with_links (hr.mono (by decide)) (pc_of tk) (pa_cons (pe_op op_sub (pe_fld (pv 2) rfl) pe_int) pa_nil)) rfl))))), ?_⟩
  obtain ⟨dt, ht⟩ := pa.tree
  refine rd_nodes T pa (by rfl) (by rfl) hn (fun p np => ?_)
  refine rd_flinks T np (by rfl) ?_
  have hl1 : loseN Tr n = if nd.links = 1 ∧ some n ∉ Tr.hs then dropN Tr.nodes n else putN Tr.nodes n ⟨nd.bd, nd.links - 1⟩ := by unfold loseN; rw [hn]
  have other : ∀ (hne : loseN Tr n = putN Tr.nodes n ⟨nd.bd, nd.links - 1⟩) (H1 : Hp), Same H H1 → (sDPut (tFld K (tVar 0) "nodes") (tVar 1) (tMethR (He.ga K "Node") "with_links" (spWithLinks K) E (tVar 2) (tCons (tOp (rI0 fun i j => V.int (i - j)) (tFld K (tVar 2) "links") (tC (V.int 1))) tNil)))
      { nx := fun x H' => Q V.non H', rt := Q } [some (.ref t), some (.int n), some (.ref p)] H1 := fun hne H1 s1 => by
    have np1 := np.i (same_i s1)
    obtain ⟨dx, bv, hp1, hb⟩ := id np1
    refine ⟨_, rfl, p, dx, _, rfl, hp1, nFs_no _ _ (by decide +kernel) (by decide +kernel) (by decide +kernel), ?_⟩
    refine rd_flinks T np1 (by rfl) ?_
    refine ⟨_, _, rfl, rfl, ?_⟩
    refine ⟨p, nd, nd.links - 1, rfl, np1, fun q H2 s2 nq => ?_⟩
    refine wr_nodes T (pa.same (s1.trans s2)) (by rfl) (by rfl) nq hz (fun H3 f3 pa3 => ?_)
    refine k H3 ((Fr.of (s1.trans s2)).trans f3) ?_
    rw [hne]
    exact pa3
  refine ⟨rfl, _, rfl, ?_⟩
  refine ite2 (fun c1 => ?_) (fun c1 => ?_)
  · have c1 := eq_int.mp c1
    refine ⟨_, rfl, t, dt, _, rfl, ht, tFs_no _ _ (by decide +kernel) (by decide +kernel), _, rfl, ?_⟩
    refine ⟨t, d, hl, Tr, n, rfl, pa, fun H1 s1 => ?_⟩
    refine ⟨_, rfl, ?_⟩
    refine ite2 (fun c2 => ?_) (fun c2 => ?_)
    · refine rm_nodes T (pa.same s1) (by rfl) (by rfl) hn (fun H2 f2 pa2 => ?_)
      refine k H2 ((Fr.of s1).trans f2) ?_
      rw [hl1, if_pos ⟨c1, by simpa using c2⟩]
      exact pa2
    · refine other ?_ H1 s1
      rw [hl1, if_neg (fun z => c2 (by simpa using z.2))]
  · refine other ?_ H (Same.refl _)
    rw [hl1, if_neg (fun z => c1 (eq_int.mpr z.1))]
end
end Tm

set_option maxHeartbeats 4000000
namespace Tm
open PySem PySem.Spec PyProof.Rows L2
/-! ### operations on entries, plainly -/
def freeN (l : Ns) : Option Nat := (List.range 256).find? fun i => (lk l (i : Int)).isNone
def freeS (l : Ns) (p : Str) : Except Er (Int × Str) := mapE (fun z : Int × Str => if (child l z.1 z.2).isSome then .error .ae else if 64 ≤ (entOf l z.1).length then .error .df else .ok z) (placeS l p)
def newS (T : Tr) (p : Str) (b : Bd) : Except Er (PyData × Tr) := mapE (fun z : Int × Str => match freeN T.nodes with
  | none => .error .tmf
  | some n => .ok (.none, ⟨addE (putN T.nodes n ⟨b, 1⟩) z.1 z.2 n, T.hs⟩)) (freeS T.nodes p)
theorem child_ent {l : Ns} {d : Int} {x : Str} {e : List (Str × Int)} {k : Int} (h : lk l d = some ⟨.ent e, k⟩) : child l d x = childL e x := by unfold child; rw [h]
theorem free_parts {l : Ns} {p : Str} {z : Int × Str} (h : freeS l p = .ok z) : placeS l p = .ok z ∧ child l z.1 z.2 = none ∧ (entOf l z.1).length < 64 := by
  unfold freeS mapE at h
  split at h
  · cases h
  · rename_i a ha
    dsimp only at h
    by_cases c1 : (child l a.1 a.2).isSome = true
    · rw [if_pos c1] at h; cases h
    · rw [if_neg c1] at h
      by_cases c2 : 64 ≤ (entOf l a.1).length
      · rw [if_pos c2] at h; cases h
      · rw [if_neg c2] at h
        have e := Except.ok.inj h
        subst e
        exact ⟨ha, Option.not_isSome_iff_eq_none.mp c1, by omega⟩
theorem keys_len {l : Ns} (h1 : (l.map (·.1)).Nodup) (h2 : ∀ p ∈ l, 0 ≤ p.1 ∧ p.1 < 256) : l.length ≤ 256 := by
  have h : (l.map (·.1)).length ≤ ((List.range 256).map fun i : Nat => (i : Int)).length := by
    refine List.Nodup.length_le_of_subset h1 fun n hn => ?_
    obtain ⟨p, hp, rfl⟩ := List.mem_map.mp hn
    obtain ⟨q1, q2⟩ := h2 p hp
    exact List.mem_map.mpr ⟨p.1.toNat, List.mem_range.mpr (by omega), by omega⟩
  simpa using h
theorem WF.len {T : Tr} (W : WF T) : T.nodes.length ≤ 256 := keys_len W.nd W.rng
theorem lk_put {l : Ns} {n m : Int} {x : Nd} : lk (putN l n x) m = if m = n then some x else lk l m := by
  have hmap : ∀ l : Ns, lk (l.map fun p => if p.1 = n then (p.1, x) else p) m = if m = n then (if l.any (fun p => decide (p.1 = n)) then some x else none) else lk l m := by
    intro l
    induction l with
    | nil => unfold lk; simp
    | cons p r ih =>
      unfold lk at ih ⊢
      rw [List.map_cons, List.find?_cons, List.find?_cons, List.any_cons]
      by_cases c : p.1 = n
      · rw [if_pos c]
        by_cases c2 : m = n
        · rw [if_pos c2, decide_eq_true c, decide_eq_true (show (p.1, x).1 = m by rw [c2]; exact c)]; rfl
        · rw [if_neg c2, decide_eq_false (show ¬ (p.1, x).1 = m from fun z => c2 (z.symm.trans c))]
          rw [if_neg c2] at ih
          exact ih
      · rw [if_neg c, decide_eq_false c, Bool.false_or]
        by_cases c3 : p.1 = m
        · rw [decide_eq_true c3, if_neg (fun z => c (c3.trans z))]
        · rw [decide_eq_false c3]; exact ih
  unfold putN
  by_cases c : (l.any fun p => decide (p.1 = n)) = true
  · rw [if_pos c, hmap, if_pos c]
  · rw [if_neg c]
    have hno : lk l n = none := by
      unfold lk
      rw [List.find?_eq_none.mpr fun q hq => by
        intro z
        exact c (List.any_eq_true.mpr ⟨q, hq, z⟩)]
      rfl
    unfold lk at hno ⊢
    rw [List.find?_append]
    by_cases c2 : m = n
    · rw [if_pos c2, c2]
      have : List.find? (fun p : Int × Nd => decide (p.1 = n)) l = none := by
        cases h : List.find? (fun p : Int × Nd => decide (p.1 = n)) l with
        | none => rfl
        | some q => rw [h] at hno; cases hno
      rw [this]
      simp
    · rw [if_neg c2]
      have : List.find? (fun p : Int × Nd => decide (p.1 = m)) [(n, x)] = none := by simp [Ne.symm c2]
      rw [this, Option.or_none]
theorem put_len {l : Ns} {n : Int} {x : Nd} : (putN l n x).length ≤ l.length + 1 := by
  unfold putN
  split
  · rw [List.length_map]; omega
  · rw [List.length_append]; exact Nat.le_refl _
theorem drop_len {l : Ns} {n : Int} : (dropN l n).length ≤ l.length := List.length_filter_le _ _
theorem addE_len {l : Ns} {n : Int} {x : Str} {c : Int} : (addE l n x c).length ≤ l.length + 1 := put_len
theorem delE_len {l : Ns} {n : Int} {x : Str} : (delE l n x).length ≤ l.length + 1 := put_len
theorem free_no {l : Ns} {n : Nat} (h : freeN l = some n) : n < 256 ∧ lk l n = none := by
  unfold freeN at h
  have h1 := List.find?_some h
  have h2 := List.mem_of_find?_eq_some h
  refine ⟨List.mem_range.mp h2, ?_⟩
  simpa using h1
/-- a value and a tree that changed, or an error and nothing changed -/
def MP (K : PySem.W.Frag) (t d hl : Addr) (r : Except Er (PyData × Tr)) (H : Hp) (Q : VK) (E : XK) : Prop := match r with
  | .ok z => ∀ v H', Fr (S2 d hl) H H' → PA K H' t d hl z.2 → Dp K H' v z.1 → Q v H'
  | .error e => ∀ H', Same H H' → E (.ref (He.ga K e.cls)) none H'
theorem MP.err {K : PySem.W.Frag} {t d hl : Addr} {r : Except Er (PyData × Tr)} {H : Hp} {Q : VK} {E : XK} {e : Er} (k : MP K t d hl r H Q E) (h : r = .error e) {H' : Hp} (s : Same H H') : E (.ref (He.ga K e.cls)) none H' := by
  subst h; exact k H' s
theorem MP.val {K : PySem.W.Frag} {t d hl : Addr} {r : Except Er (PyData × Tr)} {H : Hp} {Q : VK} {E : XK} {z : PyData × Tr} (k : MP K t d hl r H Q E) (h : r = .ok z) {v : V} {H' : Hp} (s : Fr (S2 d hl) H H') (p : PA K H' t d hl z.2) (q : Dp K H' v z.1) : Q v H' := by
  subst h; exact k v H' s p q
theorem MP.of {K : PySem.W.Frag} {t d hl : Addr} {r : Except Er (PyData × Tr)} {H : Hp} {Q : VK} {E : XK} (h1 : ∀ e, r = .error e → ∀ H', Same H H' → E (.ref (He.ga K e.cls)) none H') (h2 : ∀ z, r = .ok z → ∀ v H', Fr (S2 d hl) H H' → PA K H' t d hl z.2 → Dp K H' v z.1 → Q v H') : MP K t d hl r H Q E := by
  cases e : r with
  | error x => exact h1 x e
  | ok a => exact h2 a e
theorem Fr.two {d hl : Addr} {H H' : Hp} (h : Fr (S1 d) H H') : Fr (S2 d hl) H H' := h.mono fun _ z => .inl z
section
variable {P : Program} {w : World} {K : PySem.W.Frag} {mg : Str → Option Value} {base : Heap}
/-- tree.nodes, then n of it -/
theorem rd_in {σ : L2.St} {H : Hp} {t d hl : Addr} {Tr : Tr} {i j : Nat} {n : Int} (T : Tx K mg) (pa : PA K H t d hl Tr) (hi : σ[i]? = some (some (.ref t))) (hj : σ[j]? = some (some (.int n))) {Q : Option V → Prop} (q : ∀ o : Option V, o.isSome = (lk Tr.nodes n).isSome → Q o) :
    ∃ v2, σ[j]? = some (some v2) ∧ ∃ v, σ[i]? = some (some v) ∧ ∃ a C dx fs v1, v = V.ref a ∧ H a = some (.ins C dx fs) ∧ Cls K C ∧ NoAttr K C "nodes" ∧ fs.lookup ("nodes" : Str) = some v1 ∧ ∃ a2 o, v1 = V.ref a2 ∧ DGet H a2 v2 o ∧ Q o := by
  obtain ⟨dt, ht⟩ := pa.tree
  obtain ⟨o, h1, h2⟩ := pa.has n
  exact ⟨_, hj, _, hi, t, _, dt, _, _, rfl, ht, T.cT, T.n_nodes, tFs_nodes _ _, d, o, rfl, h1, q o h2⟩
def spNewNumber (K : PySem.W.Frag) : Sp := fun vs H Q E => ∃ (t d hl : Addr) (T : Tr), vs = [.ref t] ∧ PA K H t d hl T ∧ (match freeN T.nodes with
  | some n => ∀ H', Same H H' → Q (.int n) H'
  | none => ∀ H', Same H H' → E (.ref (He.ga K "TooManyFiles")) none H')
theorem find_step {α : Type} {p : α → Bool} {l : List α} {i : Nat} {x : α} (hi : l[i]? = some x) (hno : ∀ y ∈ l.take i, p y = false) : (p x = true → l.find? p = some x) := by
  intro hx
  obtain ⟨hl, hy⟩ := List.getElem?_eq_some_iff.mp hi
  have h1 : l = l.take i ++ (x :: l.drop (i + 1)) := by rw [← hy, ← List.drop_eq_getElem_cons hl, List.take_append_drop]
  rw [h1, List.find?_append, List.find?_eq_none.mpr fun z hz => by simp [hno z hz], List.find?_cons, hx]
  rfl
-- slots of new_number: 0 tree, 1 number
theorem sc_new_number : FnScope ["tree", "number"] ["tree"] (defScope s_new_number) := ⟨rfl, rfl, rfl, by decide +kernel, rfl, by decide +kernel, by decide +kernel⟩
theorem ok_new_number (T : Tx K mg) : FnR P w K mg base (L2.CX P w) 1 (He.ga K "new_number") (spNewNumber K) := by
  obtain ⟨t_NUMBERS, h_NUMBERS⟩ := T.i_NUMBERS
  refine mk_fn (df_new_number T) sc_new_number (fun _ _ _ _ _ _ us hl => match us, hl with | [_], _ => rfl) (fun vs H Q E h => ?_) (fun cdv A outer s H vs Q E tk po hr h => ?_)
  · obtain ⟨_, _, _, _, rfl, _⟩ := h
    rfl
  obtain ⟨t, d, hl, Tr, rfl, pa, k⟩ := h
  refine ⟨_, (pss_cons (ps_for po rfl (pi_range1 rfl (f_range T) (pa_cons (pe_glob (v := .int 256) rfl h_NUMBERS ⟨_, rfl⟩) pa_nil)) (pg_name (i := 1) sc_new_number.nd rfl (Or.inl rfl))
    (pss_one (ps_if (pt_cmp (pc_dnotin (hu_of hr) (pv 1) (pe_fld (pv 0) rfl)))
      (pss_one (ps_ret (pv 1)))
      pss_nil)))
    (pss_one (ps_raise rfl tk (pmk0 (e_TooManyFiles T) rfl)))), ?_⟩
  refine ⟨256, rfl, by decide, by decide, ?_⟩
  refine for_range (fun i σ H' => ∃ a1, σ = [some (.ref t), a1] ∧ H' = H ∧ ∀ y ∈ (List.range 256).take i, (fun i : Nat => (lk Tr.nodes (i : Int)).isNone) y = false) ⟨none, rfl, rfl, fun z hz => by simp at hz⟩ ?_ ?_
  · rintro i σ H' hi ⟨a1, rfl, rfl, hno⟩
    have e0 : (0 : Int) + (i : Int) = (i : Int) := by omega
    rw [e0]
    refine rd_in (n := (i : Int)) T pa (by rfl) (by rfl) (fun o ho => ?_)
    refine ⟨_, rfl, ?_⟩
    rw [ho]
    have hi2 : i < 256 := hi
    refine ite2 (fun c => ?_) (fun c => ?_)
    · have c1 : (fun i : Nat => (lk Tr.nodes (i : Int)).isNone) i = true := by
        cases h : lk Tr.nodes (i : Int) with
        | none => simp [h]
        | some z => simp [h] at c
      have e1 : freeN Tr.nodes = some i := find_step (List.getElem?_range hi2) hno c1
      rw [e1] at k
      exact ⟨_, rfl, k _ (Same.refl _)⟩
    · refine ⟨_, rfl, rfl, fun y hy => ?_⟩
      rw [List.take_succ, List.getElem?_range hi2] at hy
      rcases List.mem_append.mp hy with h1 | h1
      · exact hno y h1
      · have e1 : y = i := by simpa using h1
        rw [e1]
        cases h : lk Tr.nodes (i : Int) with
        | none => simp [h] at c
        | some z => simp [h]
  · rintro σ H' ⟨a1, rfl, rfl, hno⟩
    have e1 : freeN Tr.nodes = none := List.find?_eq_none.mpr fun y hy => by
      have z := hno y (by rw [List.take_of_length_le (by rw [List.length_range]; decide)]; exact hy)
      have z2 : (lk Tr.nodes (y : Int)).isNone = false := z
      show ¬ (lk Tr.nodes (y : Int)).isNone = true
      rw [z2]
      exact Bool.false_ne_true
    rw [e1] at k
    exact k _ (Same.refl _)
def spIsFull (K : PySem.W.Frag) : Sp := fun vs H Q _ => ∃ (t d hl : Addr) (T : Tr) (n : Int) (e : List (Str × Int)) (k : Int), vs = [.ref t, .int n] ∧ PA K H t d hl T ∧ lk T.nodes n = some ⟨.ent e, k⟩ ∧ e.length ≤ 1000 ∧ ∀ H', Same H H' → Q (.bl (decide (64 ≤ e.length))) H'
-- slots of is_full: 0 tree, 1 directory
theorem sc_is_full : FnScope ["tree", "directory"] ["tree", "directory"] (defScope s_is_full) := ⟨rfl, rfl, rfl, by decide +kernel, rfl, by decide +kernel, by decide +kernel⟩
theorem ok_is_full (T : Tx K mg) : FnR P w K mg base (L2.CX P w) 2 (He.ga K "is_full") (spIsFull K) := by
  have G_Node_measure := ok_Node_measure (P := P) (w := w) (base := base) T
  obtain ⟨t_ENTRIES_MOST, h_ENTRIES_MOST⟩ := T.i_ENTRIES_MOST
  refine mk_fn (df_is_full T) sc_is_full (fun _ _ _ _ _ _ us hl => match us, hl with | [_, _], _ => rfl) (fun vs H Q E h => ?_) (fun cdv A outer s H vs Q E tk po hr h => ?_)
  · obtain ⟨_, _, _, _, _, _, _, rfl, _⟩ := h
    rfl
  obtain ⟨t, d, hl, Tr, n, e, kk, rfl, pa, hn, he, k⟩ := h
  refine ⟨_, (pss_one (ps_ret (pe_cmpR op_ge (pe_methR0 (pe_dget (hu_of hr) (pe_fld (pv 0) rfl) (pv 1) (fun _ _ => rfl)) T.cN T.m_measure G_Node_measure (hr.mono (by decide)) (pc_of tk)) (pe_glob (v := .int 64) rfl h_ENTRIES_MOST ⟨_, rfl⟩) (nomark _)))), ?_⟩
  refine rd_nodes T pa (by rfl) (by rfl) hn (fun p np => ?_)
  obtain ⟨dx, bv, hp1, hb⟩ := id np
  refine ⟨p, dx, _, rfl, hp1, nFs_no _ _ (by decide +kernel) (by decide +kernel) (by decide +kernel), ?_⟩
  refine ⟨p, _, rfl, np, (by show e.length ≤ 30000; omega), fun H1 s1 => ?_⟩
  refine ⟨_, _, rfl, rfl, ?_⟩
  have z := k H1 s1
  have e1 : decide ((64 : Int) ≤ ((e.length : Nat) : Int)) = decide (64 ≤ e.length) := decide_eq_decide.mpr (by omega)
  rw [← e1] at z
  exact z
/-! ### free_place -/
def spFreePlace (K : PySem.W.Frag) : Sp := fun vs H Q E => ∃ (t d hl : Addr) (T : Tr) (p : Str), vs = [.ref t, .str p] ∧ PA K H t d hl T ∧ WF T ∧ p ∈ pathL ∧
  RP K (freeS T.nodes p) (fun z v H' => ∃ q, v = .ref q ∧ H' q = some (.tup [.int z.1, .str z.2])) H Q E
-- slots of free_place: 0 tree, 1 path, 2 directory, 3 name
theorem sc_free_place : FnScope ["tree", "path", "directory", "name"] ["tree", "path"] (defScope s_free_place) := ⟨rfl, rfl, rfl, by decide +kernel, rfl, by decide +kernel, by decide +kernel⟩
theorem ok_free_place (T : Tx K mg) : FnR P w K mg base (L2.CX P w) 4 (He.ga K "free_place") (spFreePlace K) := by
  have G_place_of := ok_place_of (P := P) (w := w) (base := base) T
  have G_is_full := ok_is_full (P := P) (w := w) (base := base) T
  have G_FileTree_entry := ok_FileTree_entry (P := P) (w := w) (base := base) T
  refine mk_fn (df_free_place T) sc_free_place (fun _ _ _ _ _ _ us hl => match us, hl with | [_, _], _ => rfl) (fun vs H Q E h => ?_) (fun cdv A outer s H vs Q E tk po hr h => ?_)
  · obtain ⟨_, _, _, _, _, rfl, _⟩ := h
    rfl
  obtain ⟨t, d, hl, Tr, p, rfl, pa, W, hp, k⟩ := h
  refine ⟨_, (pss_cons (ps_asg (pe_callR G_place_of (hr.mono (by decide)) rfl (g_place_of T) (k_place_of T) (pc_of tk) (pa_cons (pv 0) (pa_cons (pv 1) pa_nil))) (pg_tup rfl (pgs_cons (pg_name (i := 2) sc_free_place.nd rfl (Or.inl rfl)) (pgs_cons (pg_name (i := 3) sc_free_place.nd rfl (Or.inl rfl)) pgs_nil))))
    (pss_cons (ps_if (pt_cmpR op_notN (pe_methR (pv 0) T.cT T.m_entry G_FileTree_entry (hr.mono (by decide)) (pc_of tk) (pa_cons (pv 2) (pa_cons (pv 3) pa_nil))) pe_non (nomark _))
    (pss_one (ps_raise rfl tk (pmk0 (e_AlreadyExists T) rfl)))
    pss_nil)
    (pss_cons (ps_if (pt_val (pe_callR G_is_full (hr.mono (by decide)) rfl (g_is_full T) (k_is_full T) (pc_of tk) (pa_cons (pv 0) (pa_cons (pv 2) pa_nil))))
    (pss_one (ps_raise rfl tk (pmk0 (e_DirectoryFull T) rfl)))
    pss_nil)
    (pss_one (ps_ret (pe_tup (pa_cons (pv 2) (pa_cons (pv 3) pa_nil)))))))), ?_⟩
  refine ⟨_, rfl, _, rfl, t, d, hl, Tr, p, rfl, pa, W, hp, RP.of (fun e he H1 s1 => ?_) (fun z hz v H1 s1 rv => ?_)⟩
  · refine k.err (e := e) ?_ s1
    unfold freeS
    rw [he]; rfl
  · obtain ⟨n, x⟩ := z
    obtain ⟨q, rfl, hq⟩ := rv
    obtain ⟨e, kk, hn⟩ := place_dir hz
    have hlen := (W.ent _ _ _ hn).2.1
    have pa1 := pa.same s1
    obtain ⟨dt, ht⟩ := pa1.tree
    have hS : freeS Tr.nodes p = (if (childL e x).isSome then .error .ae else if 64 ≤ e.length then .error .df else .ok (n, x)) := by
      unfold freeS
      rw [hz]
      show (if (child Tr.nodes n x).isSome then _ else if 64 ≤ (entOf Tr.nodes n).length then _ else _) = _
      rw [child_ent hn, entOf_eq hn]
    refine ⟨q, _, rfl, SqT.of hq, rfl, _, _, rfl, _, _, rfl, rfl, ?_⟩
    refine ⟨_, rfl, t, dt, _, rfl, ht, tFs_no _ _ (by decide +kernel) (by decide +kernel), _, rfl, _, rfl, ?_⟩
    refine ⟨t, d, hl, Tr, n, x, e, kk, rfl, pa1, hn, fun H2 s2 => ?_⟩
    refine ⟨rfl, _, rfl, ?_⟩
    refine ite2 (fun c => ?_) (fun c => ?_)
    · have c1 := (not_non _).mp c
      refine k.err (e := .ae) ?_ (s1.trans s2)
      rw [hS, if_pos (Option.isSome_iff_ne_none.mpr c1)]
    · have c1 : ¬ (childL e x).isSome = true := fun z => c ((not_non _).mpr (Option.isSome_iff_ne_none.mp z))
      rw [if_neg c1] at hS
      refine ⟨_, rfl, _, rfl, t, d, hl, Tr, n, e, kk, rfl, pa.same (s1.trans s2), hn, by omega, fun H3 s3 => ?_⟩
      have s4 := (s1.trans s2).trans s3
      refine ⟨_, rfl, ?_⟩
      refine ite2 (fun c2 => ?_) (fun c2 => ?_)
      · refine k.err (e := .df) ?_ s4
        rw [hS, if_pos (of_decide_eq_true c2)]
      · rw [if_neg (fun z => c2 (decide_eq_true z))] at hS
        refine ⟨_, rfl, _, rfl, (by show 2 ≤ sizeLine; decide), fun r hr0 => ?_⟩
        exact k.val hS (s4.trans (same_new hr0)) ⟨r, rfl, upd_same⟩
/-! ### new_node -/
theorem free_ent {l : Ns} {p : Str} {n : Int} {x : Str} (h : freeS l p = .ok (n, x)) : ∃ e k, lk l n = some ⟨.ent e, k⟩ ∧ childL e x = none ∧ e.length < 64 := by
  obtain ⟨h1, h2, h3⟩ := free_parts h
  obtain ⟨e, k, h4⟩ := place_dir h1
  exact ⟨e, k, h4, by rw [← child_ent h4]; exact h2, by rw [← entOf_eq h4]; exact h3⟩
def spNewNode (K : PySem.W.Frag) : Sp := fun vs H Q E => ∃ (t d hl : Addr) (T : Tr) (p : Str) (b : Bd) (bv : V), vs = [.ref t, .str p, .str b.kind, bv] ∧ PA K H t d hl T ∧ WF T ∧ p ∈ pathL ∧ BodyP K H b bv ∧
  MP K t d hl (newS T p b) H Q E
-- slots of new_node: 0 tree, 1 path, 2 kind, 3 body, 4 directory, 5 name, 6 number
theorem sc_new_node : FnScope ["tree", "path", "kind", "body", "directory", "name", "number"] ["tree", "path", "kind", "body"] (defScope s_new_node) := ⟨rfl, rfl, rfl, by decide +kernel, rfl, by decide +kernel, by decide +kernel⟩
theorem ok_new_node (T : Tx K mg) : FnR P w K mg base (L2.CX P w) 5 (He.ga K "new_node") (spNewNode K) := by
  have G_free_place := ok_free_place (P := P) (w := w) (base := base) T
  have G_new_number := ok_new_number (P := P) (w := w) (base := base) T
  obtain ⟨fdI, G_Node_init, ⟨gX, KBx⟩, ⟨g0, KB0⟩⟩ := ok_Node_init (P := P) (w := w) (base := base) T
  have G_add_entry := ok_add_entry (P := P) (w := w) (base := base) T
  refine mk_fn (df_new_node T) sc_new_node (fun _ _ _ _ _ _ us hl => match us, hl with | [_, _, _, _], _ => rfl) (fun vs H Q E h => ?_) (fun cdv A outer s H vs Q E tk po hr h => ?_)
  · obtain ⟨_, _, _, _, _, _, _, rfl, _⟩ := h
    rfl
  obtain ⟨t, d, hl, Tr, p, b, bv, rfl, pa, W, hp, hb, k⟩ := h
  refine ⟨_, (pss_cons (ps_asg (pe_callR G_free_place (hr.mono (by decide)) rfl (g_free_place T) (k_free_place T) (pc_of tk) (pa_cons (pv 0) (pa_cons (pv 1) pa_nil))) (pg_tup rfl (pgs_cons (pg_name (i := 4) sc_new_node.nd rfl (Or.inl rfl)) (pgs_cons (pg_name (i := 5) sc_new_node.nd rfl (Or.inl rfl)) pgs_nil))))
    (pss_cons (ps_set (i := 6) sc_new_node.nd rfl (Or.inl rfl) (pe_callR G_new_number (hr.mono (by decide)) rfl (g_new_number T) (k_new_number T) (pc_of tk) (pa_cons (pv 0) pa_nil)))
    (pss_cons (ps_dput (hu_of hr) (pe_fld (pv 0) rfl) (pv 6) (pe_makeK (n := 2) T.mkN G_Node_init (hr.mono (by decide)) rfl (c_Node T) KB0 pass0' (pa_cons (pv 2) (pa_cons (pv 3) pa_nil)) pk_nil) rfl)
    (pss_one (ps_expr (pe_callR G_add_entry (hr.mono (by decide)) rfl (g_add_entry T) (k_add_entry T) (pc_of tk) (pa_cons (pv 0) (pa_cons (pv 4) (pa_cons (pv 5) (pa_cons (pv 6) pa_nil)))))))))), ?_⟩
  refine ⟨_, rfl, _, rfl, t, d, hl, Tr, p, rfl, pa, W, hp, RP.of (fun e he H1 s1 => ?_) (fun z hz v H1 s1 rv => ?_)⟩
  · refine k.err (e := e) ?_ s1
    unfold newS
    rw [he]; rfl
  · obtain ⟨n, x⟩ := z
    obtain ⟨q, rfl, hq⟩ := rv
    obtain ⟨e, kk, hn, _, hlen⟩ := free_ent hz
    have hS : newS Tr p b = (match freeN Tr.nodes with
      | none => .error .tmf
      | some m => .ok (.none, ⟨addE (putN Tr.nodes m ⟨b, 1⟩) n x m, Tr.hs⟩)) := by
      unfold newS
      rw [hz]; rfl
    have pa1 := pa.same s1
    refine ⟨q, _, rfl, SqT.of hq, rfl, _, _, rfl, _, _, rfl, rfl, ?_⟩
    refine ⟨_, rfl, t, d, hl, Tr, rfl, pa1, ?_⟩
    cases hf : freeN Tr.nodes with
    | none =>
      rw [hf] at hS
      exact fun H2 s2 => k.err (e := .tmf) hS (s1.trans s2)
    | some m =>
      rw [hf] at hS
      obtain ⟨hm, hm0⟩ := free_no hf
      refine fun H2 s2 => ?_
      have s3 := s1.trans s2
      refine ⟨_, rfl, _, rfl, rfl, rfl, fun y dx hy hd hne => ?_⟩
      refine ⟨y, dx, _, _, _, rfl, upd_same, rfl, ?_⟩
      obtain ⟨m1, m2⟩ := made_node (K := K) (nd := ⟨b, 1⟩) hy hd (hb.i (same_i s3))
      have s4 := s3.trans m1
      refine wr_nodes T (pa.same s4) (by rfl) (by rfl) m2 (by have := W.len; omega) (fun H3 f3 pa3 => ?_)
      have nm : ¬ n = (m : Int) := fun z => by rw [z, hm0] at hn; cases hn
      have hn3 : lk (putN Tr.nodes (m : Int) ⟨b, 1⟩) n = some ⟨.ent e, kk⟩ := by rw [lk_put, if_neg nm]; exact hn
      refine ⟨_, rfl, _, rfl, _, rfl, _, rfl, t, d, hl, _, n, x, (m : Int), e, kk, rfl, pa3, hn3, by omega, ?_, fun H4 f4 pa4 => ?_⟩
      · have := put_len (l := Tr.nodes) (n := (m : Int)) (x := ⟨b, 1⟩)
        have := W.len
        show (putN Tr.nodes (m : Int) ⟨b, 1⟩).length < 1000
        omega
      · exact k.val hS ((Fr.of s4).trans (f3.trans f4).two) pa4 .non
end
end Tm

set_option maxHeartbeats 4000000
namespace Tm
open PySem PySem.Spec PyProof.Rows L2
def bumpN (l : Ns) (n : Int) : Ns := match lk l n with
  | some x => putN l n ⟨x.bd, x.links + 1⟩
  | none => l
def linkS (T : Tr) (p q : Str) : Except Er (PyData × Tr) := mapE (fun z : Int × Str × Int => if isDir T.nodes z.2.2 then .error .isd else
  mapE (fun y : Int × Str => .ok (.none, ⟨bumpN (addE T.nodes y.1 y.2 z.2.2) z.2.2, T.hs⟩)) (freeS T.nodes q)) (entryS T.nodes p)
def rmdirS (T : Tr) (p : Str) : Except Er (PyData × Tr) := mapE (fun z : Int × Str × Int => if isDir T.nodes z.2.2 then (if 0 < (entOf T.nodes z.2.2).length then .error .ne else .ok (.none, ⟨dropN (delE T.nodes z.1 z.2.1) z.2.2, T.hs⟩)) else .error .nd) (entryS T.nodes p)
def unlinkS (T : Tr) (p : Str) : Except Er (PyData × Tr) := mapE (fun z : Int × Str × Int => if isDir T.nodes z.2.2 then .error .isd else .ok (.none, ⟨loseN ⟨delE T.nodes z.1 z.2.1, T.hs⟩ z.2.2, T.hs⟩)) (entryS T.nodes p)
theorem isDir_of {l : Ns} {n : Int} {x : Nd} (h : lk l n = some x) : isDir l n = true ↔ x.bd.kind = "directory" := by
  rw [isDir_iff, kind_dir]
  constructor
  · rintro ⟨e, k, h1⟩
    rw [h] at h1
    exact ⟨e, by cases h1; rfl⟩
  · rintro ⟨e, h1⟩
    obtain ⟨b, k⟩ := x
    have h1 : b = .ent e := h1
    subst h1
    exact ⟨e, k, h⟩
theorem mapE_ok {α β : Type} {f : α → Except Er β} {r : Except Er α} {b : β} (h : mapE f r = .ok b) : ∃ a, r = .ok a ∧ f a = .ok b := by
  cases r with
  | error e => cases h
  | ok a => exact ⟨a, rfl, h⟩
theorem newS_none {T : Tr} {p : Str} {b : Bd} {z : PyData × Tr} (h : newS T p b = .ok z) : z.1 = .none := by
  obtain ⟨y, _, h2⟩ := mapE_ok h
  split at h2
  · cases h2
  · cases h2; rfl
section
variable {P : Program} {w : World} {K : PySem.W.Frag} {mg : Str → Option Value} {base : Heap}
def spMk (K : PySem.W.Frag) (S : Tr → Str → Except Er (PyData × Tr)) : Sp := fun vs H Q E => ∃ (t d hl : Addr) (T : Tr) (p : Str), vs = [.ref t, .str p] ∧ PA K H t d hl T ∧ WF T ∧ p ∈ pathL ∧ MP K t d hl (S T p) H Q E
-- slots of mkdir: 0 tree, 1 path
theorem sc_mkdir : FnScope ["tree", "path"] ["tree", "path"] (defScope s_mkdir) := ⟨rfl, rfl, rfl, by decide +kernel, rfl, by decide +kernel, by decide +kernel⟩
theorem ok_mkdir (T : Tx K mg) : FnR P w K mg base (L2.CX P w) 6 (He.ga K "mkdir") (spMk K fun T p => newS T p (.ent [])) := by
  have G_new_node := ok_new_node (P := P) (w := w) (base := base) T
  refine mk_fn (df_mkdir T) sc_mkdir (fun _ _ _ _ _ _ us hl => match us, hl with | [_, _], _ => rfl) (fun vs H Q E h => ?_) (fun cdv A outer s H vs Q E tk po hr h => ?_)
  · obtain ⟨_, _, _, _, _, rfl, _⟩ := h
    rfl
  obtain ⟨t, d, hl, Tr, p, rfl, pa, W, hp, k⟩ := h
  refine ⟨_, (pss_one (ps_expr (pe_callR G_new_node (hr.mono (by decide)) rfl (g_new_node T) (k_new_node T) (pc_of tk) (pa_cons (pv 0) (pa_cons (pv 1) (pa_cons pe_str (pa_cons (pe_tup pa_nil) pa_nil))))))), ?_⟩
  refine ⟨_, rfl, _, rfl, (Nat.zero_le _), fun r hr0 => ?_⟩
  have s1 := same_new (o := .tup []) hr0
  refine ⟨t, d, hl, Tr, p, .ent [], .ref r, rfl, pa.same s1, W, hp, ⟨r, [], rfl, SqT.of upd_same, .nil⟩, MP.of (fun e he H1 s2 => k.err he (s1.trans s2)) (fun z hz v H1 f1 pa1 dv => ?_)⟩
  refine k.val hz ((Fr.of s1).trans f1) pa1 ?_
  rw [newS_none hz]
  exact .non
-- slots of symlink: 0 tree, 1 target, 2 path
theorem sc_symlink : FnScope ["tree", "target", "path"] ["tree", "target", "path"] (defScope s_symlink) := ⟨rfl, rfl, rfl, by decide +kernel, rfl, by decide +kernel, by decide +kernel⟩
theorem ok_symlink (T : Tx K mg) : FnR P w K mg base (L2.CX P w) 6 (He.ga K "symlink") (fun vs H Q E => ∃ (t d hl : Addr) (T : Tr) (g p : Str), vs = [.ref t, .str g, .str p] ∧ PA K H t d hl T ∧ WF T ∧ p ∈ pathL ∧ MP K t d hl (newS T p (.tgt g)) H Q E) := by
  have G_new_node := ok_new_node (P := P) (w := w) (base := base) T
  refine mk_fn (df_symlink T) sc_symlink (fun _ _ _ _ _ _ us hl => match us, hl with | [_, _, _], _ => rfl) (fun vs H Q E h => ?_) (fun cdv A outer s H vs Q E tk po hr h => ?_)
  · obtain ⟨_, _, _, _, _, _, rfl, _⟩ := h
    rfl
  obtain ⟨t, d, hl, Tr, g, p, rfl, pa, W, hp, k⟩ := h
  refine ⟨_, (pss_one (ps_expr (pe_callR G_new_node (hr.mono (by decide)) rfl (g_new_node T) (k_new_node T) (pc_of tk) (pa_cons (pv 0) (pa_cons (pv 2) (pa_cons pe_str (pa_cons (pv 1) pa_nil))))))), ?_⟩
  refine ⟨_, rfl, _, rfl, _, rfl, ?_⟩
  refine ⟨t, d, hl, Tr, p, .tgt g, .str g, rfl, pa, W, hp, rfl, MP.of (fun e he H1 s2 => k.err he s2) (fun z hz v H1 f1 pa1 dv => ?_)⟩
  refine k.val hz f1 pa1 ?_
  rw [newS_none hz]
  exact .non
-- slots of rmdir: 0 tree, 1 path, 2 directory, 3 name, 4 number
theorem sc_rmdir : FnScope ["tree", "path", "directory", "name", "number"] ["tree", "path"] (defScope s_rmdir) := ⟨rfl, rfl, rfl, by decide +kernel, rfl, by decide +kernel, by decide +kernel⟩
theorem ok_rmdir (T : Tx K mg) : FnR P w K mg base (L2.CX P w) 5 (He.ga K "rmdir") (spMk K rmdirS) := by
  have G_entry_of := ok_entry_of (P := P) (w := w) (base := base) T
  have G_remove_entry := ok_remove_entry (P := P) (w := w) (base := base) T
  have G_Node_measure := ok_Node_measure (P := P) (w := w) (base := base) T
  refine mk_fn (df_rmdir T) sc_rmdir (fun _ _ _ _ _ _ us hl => match us, hl with | [_, _], _ => rfl) (fun vs H Q E h => ?_) (fun cdv A outer s H vs Q E tk po hr h => ?_)
  · obtain ⟨_, _, _, _, _, rfl, _⟩ := h
    rfl
  obtain ⟨t, d, hl, Tr, p, rfl, pa, W, hp, k⟩ := h
  refine ⟨_, (pss_cons (ps_asg (pe_callR G_entry_of (hr.mono (by decide)) rfl (g_entry_of T) (k_entry_of T) (pc_of tk) (pa_cons (pv 0) (pa_cons (pv 1) pa_nil))) (pg_tup rfl (pgs_cons (pg_name (i := 2) sc_rmdir.nd rfl (Or.inl rfl)) (pgs_cons (pg_name (i := 3) sc_rmdir.nd rfl (Or.inl rfl)) (pgs_cons (pg_name (i := 4) sc_rmdir.nd rfl (Or.inl rfl)) pgs_nil)))))
    (pss_cons (ps_if (pt_cmpR op_ne (pe_fld (pe_dget (hu_of hr) (pe_fld (pv 0) rfl) (pv 4) (fun _ _ => rfl)) rfl) pe_str (nomark _))
    (pss_one (ps_raise rfl tk (pmk0 (e_NotDirectory T) rfl)))
    pss_nil)
    (pss_cons (ps_if (pt_cmpR op_gt (pe_methR0 (pe_dget (hu_of hr) (pe_fld (pv 0) rfl) (pv 4) (fun _ _ => rfl)) T.cN T.m_measure G_Node_measure (hr.mono (by decide)) (pc_of tk)) pe_int (nomark _))
    (pss_one (ps_raise rfl tk (pmk0 (e_NotEmpty T) rfl)))
    pss_nil)
    (pss_cons (ps_expr (pe_callR G_remove_entry (hr.mono (by decide)) rfl (g_remove_entry T) (k_remove_entry T) (pc_of tk) (pa_cons (pv 0) (pa_cons (pv 2) (pa_cons (pv 3) pa_nil)))))
    (pss_one (ps_ddel (pe_fld (pv 0) rfl) (pv 4))))))), ?_⟩
  refine ⟨_, rfl, _, rfl, t, d, hl, Tr, p, rfl, pa, W, hp, RP.of (fun e he H1 s1 => ?_) (fun z hz v H1 s1 rv => ?_)⟩
  · refine k.err (e := e) ?_ s1
    unfold rmdirS
    rw [he]; rfl
  · obtain ⟨n, x, c⟩ := z
    obtain ⟨q, rfl, hq⟩ := rv
    obtain ⟨_, nd, hc⟩ := entry_there W hz
    obtain ⟨h1, h2⟩ := entry_parts hz
    obtain ⟨e, kk, hn⟩ := place_dir h1
    have hlen := (W.ent _ _ _ hn).2.1
    have hS : rmdirS Tr p = (if isDir Tr.nodes c then (if 0 < (entOf Tr.nodes c).length then .error .ne else .ok (.none, ⟨dropN (delE Tr.nodes n x) c, Tr.hs⟩)) else .error .nd) := by
      unfold rmdirS
      rw [hz]; rfl
    have pa1 := pa.same s1
    refine ⟨q, _, rfl, SqT.of hq, rfl, _, _, rfl, _, _, rfl, _, _, rfl, rfl, ?_⟩
    refine rd_kind T pa1 (by rfl) (by rfl) hc ?_
    refine ⟨rfl, _, rfl, ?_⟩
    refine ite2 (fun c1 => ?_) (fun c1 => ?_)
    · have c2 := ne_str.mp c1
      refine k.err (e := .nd) ?_ s1
      rw [hS, if_neg (fun z => c2 ((isDir_of hc).mp z))]
    · have c2 : nd.bd.kind = "directory" := Classical.byContradiction fun z => c1 (ne_str.mpr z)
      rw [if_pos ((isDir_of hc).mpr c2)] at hS
      obtain ⟨ce, hce⟩ := (kind_dir nd.bd).mp c2
      obtain ⟨b, ck⟩ := nd
      have hce : b = .ent ce := hce
      subst hce
      rw [entOf_eq hc] at hS
      have clen := (W.ent _ _ _ hc).2.1
      refine rd_nodes T pa1 (by rfl) (by rfl) hc (fun p2 np => ?_)
      obtain ⟨dx, bv, hp1, hb⟩ := id np
      refine ⟨p2, dx, _, rfl, hp1, nFs_no _ _ (by decide +kernel) (by decide +kernel) (by decide +kernel), ?_⟩
      refine ⟨p2, _, rfl, np, (by show ce.length ≤ 30000; omega), fun H2 s2 => ?_⟩
      have s3 := s1.trans s2
      refine ⟨_, _, rfl, rfl, _, rfl, ?_⟩
      refine ite2 (fun c3 => ?_) (fun c3 => ?_)
      · have c4 : (0 : Int) < (ce.length : Nat) := of_decide_eq_true c3
        refine k.err (e := .ne) ?_ s3
        rw [hS, if_pos (by omega)]
      · have c4 : ¬ (0 : Int) < (ce.length : Nat) := fun z => c3 (decide_eq_true z)
        rw [if_neg (by omega)] at hS
        refine ⟨_, rfl, _, rfl, _, rfl, t, d, hl, Tr, n, x, e, kk, rfl, pa.same s3, hn, by omega, by have := W.len; omega, fun H3 f3 pa3 => ?_⟩
        have nc : ∃ y, lk (delE Tr.nodes n x) c = some y := by
          unfold delE
          rw [lk_put]
          by_cases q : c = n
          · exact ⟨_, if_pos q⟩
          · exact ⟨_, by rw [if_neg q]; exact hc⟩
        obtain ⟨y, hy⟩ := nc
        refine rm_nodes T pa3 (by rfl) (by rfl) hy (fun H4 f4 pa4 => ?_)
        exact k.val hS ((Fr.of s3).trans (f3.trans f4).two) pa4 .non
-- slots of unlink: 0 tree, 1 path, 2 directory, 3 name, 4 number
theorem sc_unlink : FnScope ["tree", "path", "directory", "name", "number"] ["tree", "path"] (defScope s_unlink) := ⟨rfl, rfl, rfl, by decide +kernel, rfl, by decide +kernel, by decide +kernel⟩
theorem ok_unlink (T : Tx K mg) : FnR P w K mg base (L2.CX P w) 5 (He.ga K "unlink") (spMk K unlinkS) := by
  have G_entry_of := ok_entry_of (P := P) (w := w) (base := base) T
  have G_remove_entry := ok_remove_entry (P := P) (w := w) (base := base) T
  have G_drop_name := ok_drop_name (P := P) (w := w) (base := base) T
  refine mk_fn (df_unlink T) sc_unlink (fun _ _ _ _ _ _ us hl => match us, hl with | [_, _], _ => rfl) (fun vs H Q E h => ?_) (fun cdv A outer s H vs Q E tk po hr h => ?_)
  · obtain ⟨_, _, _, _, _, rfl, _⟩ := h
    rfl
  obtain ⟨t, d, hl, Tr, p, rfl, pa, W, hp, k⟩ := h
  refine ⟨_, (pss_cons (ps_asg (pe_callR G_entry_of (hr.mono (by decide)) rfl (g_entry_of T) (k_entry_of T) (pc_of tk) (pa_cons (pv 0) (pa_cons (pv 1) pa_nil))) (pg_tup rfl (pgs_cons (pg_name (i := 2) sc_unlink.nd rfl (Or.inl rfl)) (pgs_cons (pg_name (i := 3) sc_unlink.nd rfl (Or.inl rfl)) (pgs_cons (pg_name (i := 4) sc_unlink.nd rfl (Or.inl rfl)) pgs_nil)))))
    (pss_cons (ps_if (pt_cmpR op_eq (pe_fld (pe_dget (hu_of hr) (pe_fld (pv 0) rfl) (pv 4) (fun _ _ => rfl)) rfl) pe_str (nomark _))
    (pss_one (ps_raise rfl tk (pmk0 (e_IsDirectory T) rfl)))
    pss_nil)
    (pss_cons (ps_expr (pe_callR G_remove_entry (hr.mono (by decide)) rfl (g_remove_entry T) (k_remove_entry T) (pc_of tk) (pa_cons (pv 0) (pa_cons (pv 2) (pa_cons (pv 3) pa_nil)))))
    (pss_one (ps_expr (pe_callR G_drop_name (hr.mono (by decide)) rfl (g_drop_name T) (k_drop_name T) (pc_of tk) (pa_cons (pv 0) (pa_cons (pv 4) pa_nil)))))))), ?_⟩
  refine ⟨_, rfl, _, rfl, t, d, hl, Tr, p, rfl, pa, W, hp, RP.of (fun e he H1 s1 => ?_) (fun z hz v H1 s1 rv => ?_)⟩
  · refine k.err (e := e) ?_ s1
    unfold unlinkS
    rw [he]; rfl
  · obtain ⟨n, x, c⟩ := z
    obtain ⟨q, rfl, hq⟩ := rv
    obtain ⟨_, nd, hc⟩ := entry_there W hz
    obtain ⟨h1, h2⟩ := entry_parts hz
    obtain ⟨e, kk, hn⟩ := place_dir h1
    have hlen := (W.ent _ _ _ hn).2.1
    have hS : unlinkS Tr p = (if isDir Tr.nodes c then .error .isd else .ok (.none, ⟨loseN ⟨delE Tr.nodes n x, Tr.hs⟩ c, Tr.hs⟩)) := by
      unfold unlinkS
      rw [hz]; rfl
    have pa1 := pa.same s1
    refine ⟨q, _, rfl, SqT.of hq, rfl, _, _, rfl, _, _, rfl, _, _, rfl, rfl, ?_⟩
    refine rd_kind T pa1 (by rfl) (by rfl) hc ?_
    refine ⟨rfl, _, rfl, ?_⟩
    refine ite2 (fun c1 => ?_) (fun c1 => ?_)
    · refine k.err (e := .isd) ?_ s1
      rw [hS, if_pos ((isDir_of hc).mpr (eq_str.mp c1))]
    · rw [if_neg (fun z => c1 (eq_str.mpr ((isDir_of hc).mp z)))] at hS
      refine ⟨_, rfl, _, rfl, _, rfl, t, d, hl, Tr, n, x, e, kk, rfl, pa1, hn, by omega, by have := W.len; omega, fun H3 f3 pa3 => ?_⟩
      have nc : ∃ y, lk (delE Tr.nodes n x) c = some y := by
        unfold delE
        rw [lk_put]
        by_cases q : c = n
        · exact ⟨_, if_pos q⟩
        · exact ⟨_, by rw [if_neg q]; exact hc⟩
      obtain ⟨y, hy⟩ := nc
      refine ⟨_, rfl, _, rfl, t, d, hl, _, c, y, rfl, pa3, hy, ?_, fun H4 f4 pa4 => ?_⟩
      · have := delE_len (l := Tr.nodes) (n := n) (x := x)
        have := W.len
        show (delE Tr.nodes n x).length < 1000
        omega
      · exact k.val hS ((Fr.of s1).trans (f3.trans f4).two) pa4 .non
-- slots of link: 0 tree, 1 source, 2 target, 3 number, 4 directory, 5 name, 6 node
theorem sc_link : FnScope ["tree", "source", "target", "number", "directory", "name", "node"] ["tree", "source", "target"] (defScope s_link) := ⟨rfl, rfl, rfl, by decide +kernel, rfl, by decide +kernel, by decide +kernel⟩
theorem ok_link (T : Tx K mg) : FnR P w K mg base (L2.CX P w) 5 (He.ga K "link") (fun vs H Q E => ∃ (t d hl : Addr) (T : Tr) (p g : Str), vs = [.ref t, .str p, .str g] ∧ PA K H t d hl T ∧ WF T ∧ p ∈ pathL ∧ g ∈ pathL ∧ MP K t d hl (linkS T p g) H Q E) := by
  have G_free_place := ok_free_place (P := P) (w := w) (base := base) T
  have G_add_entry := ok_add_entry (P := P) (w := w) (base := base) T
  have G_Node_with_links := ok_Node_with_links (P := P) (w := w) (base := base) T
  have G_entry_of := ok_entry_of (P := P) (w := w) (base := base) T
  refine mk_fn (df_link T) sc_link (fun _ _ _ _ _ _ us hl => match us, hl with | [_, _, _], _ => rfl) (fun vs H Q E h => ?_) (fun cdv A outer s H vs Q E tk po hr h => ?_)
  · obtain ⟨_, _, _, _, _, _, rfl, _⟩ := h
    rfl
  obtain ⟨t, d, hl, Tr, p, g, rfl, pa, W, hp, hg, k⟩ := h
  refine ⟨_, (pss_cons (ps_set (i := 3) sc_link.nd rfl (Or.inl rfl) (pe_ix (ix_tupK (K := K)) (pe_callR G_entry_of (hr.mono (by decide)) rfl (g_entry_of T) (k_entry_of T) (pc_of tk) (pa_cons (pv 0) (pa_cons (pv 1) pa_nil))) pe_int (fun _ _ => rfl)))
    (pss_cons (ps_if (pt_cmpR op_eq (pe_fld (pe_dget (hu_of hr) (pe_fld (pv 0) rfl) (pv 3) (fun _ _ => rfl)) rfl) pe_str (nomark _))
    (pss_one (ps_raise rfl tk (pmk0 (e_IsDirectory T) rfl)))
    pss_nil)
    (pss_cons (ps_asg (pe_callR G_free_place (hr.mono (by decide)) rfl (g_free_place T) (k_free_place T) (pc_of tk) (pa_cons (pv 0) (pa_cons (pv 2) pa_nil))) (pg_tup rfl (pgs_cons (pg_name (i := 4) sc_link.nd rfl (Or.inl rfl)) (pgs_cons (pg_name (i := 5) sc_link.nd rfl (Or.inl rfl)) pgs_nil))))
    (pss_cons (ps_expr (pe_callR G_add_entry (hr.mono (by decide)) rfl (g_add_entry T) (k_add_entry T) (pc_of tk) (pa_cons (pv 0) (pa_cons (pv 4) (pa_cons (pv 5) (pa_cons (pv 3) pa_nil))))))
    (pss_cons (ps_set (i := 6) sc_link.nd rfl (Or.inl rfl) (pe_dget (hu_of hr) (pe_fld (pv 0) rfl) (pv 3) (fun _ _ => rfl)))
    (pss_one (ps_dput (hu_of hr) (pe_fld (pv 0) rfl) (pv 3) (pe_methR (pv 6) T.cN T.m_with_links G_Node_with_links (hr.mono (by decide)) (pc_of tk) (pa_cons (pe_op op_add (pe_fld (pv 6) rfl) pe_int) pa_nil)) rfl))))))), ?_⟩
  refine ⟨_, rfl, _, rfl, t, d, hl, Tr, p, rfl, pa, W, hp, RP.of (fun e he H1 s1 => ?_) (fun z hz v H1 s1 rv => ?_)⟩
  · refine k.err (e := e) ?_ s1
    unfold linkS
    rw [he]; rfl
  · obtain ⟨n0, x0, c⟩ := z
    obtain ⟨q, rfl, hq⟩ := rv
    obtain ⟨_, nd, hc⟩ := entry_there W hz
    have hS : linkS Tr p g = (if isDir Tr.nodes c then .error .isd else mapE (fun y : Int × Str => .ok (.none, ⟨bumpN (addE Tr.nodes y.1 y.2 c) c, Tr.hs⟩)) (freeS Tr.nodes g)) := by
      unfold linkS
      rw [hz]; rfl
    have pa1 := pa.same s1
    refine ⟨q, _, 2, _, rfl, rfl, SqT.of hq, atI_nat (j := 2) rfl, ?_⟩
    refine rd_kind T pa1 (by rfl) (by rfl) hc ?_
    refine ⟨rfl, _, rfl, ?_⟩
    refine ite2 (fun c1 => ?_) (fun c1 => ?_)
    · refine k.err (e := .isd) ?_ s1
      rw [hS, if_pos ((isDir_of hc).mpr (eq_str.mp c1))]
    · have nd1 : ¬ isDir Tr.nodes c = true := fun z => c1 (eq_str.mpr ((isDir_of hc).mp z))
      rw [if_neg nd1] at hS
      refine ⟨_, rfl, _, rfl, t, d, hl, Tr, g, rfl, pa1, W, hg, RP.of (fun e he H2 s2 => ?_) (fun z hz2 v H2 s2 rv => ?_)⟩
      · refine k.err (e := e) ?_ (s1.trans s2)
        rw [hS, he]; rfl
      · obtain ⟨n, x⟩ := z
        obtain ⟨q2, rfl, hq2⟩ := rv
        obtain ⟨e, kk, hn, _, hlen⟩ := free_ent hz2
        rw [hz2] at hS
        have s3 := s1.trans s2
        have nm : ¬ c = n := fun z => nd1 (by rw [z]; exact isDir_iff.mpr ⟨e, kk, hn⟩)
        refine ⟨q2, _, rfl, SqT.of hq2, rfl, _, _, rfl, _, _, rfl, rfl, ?_⟩
        refine ⟨_, rfl, _, rfl, _, rfl, _, rfl, t, d, hl, Tr, n, x, c, e, kk, rfl, pa.same s3, hn, by omega, by have := W.len; omega, fun H3 f3 pa3 => ?_⟩
        have hc3 : lk (addE Tr.nodes n x c) c = some nd := by unfold addE; rw [lk_put, if_neg nm]; exact hc
        refine rd_nodes T pa3 (by rfl) (by rfl) hc3 (fun p2 np => ?_)
        obtain ⟨dx, bv, hp1, hb⟩ := id np
        refine ⟨_, rfl, p2, dx, _, rfl, hp1, nFs_no _ _ (by decide +kernel) (by decide +kernel) (by decide +kernel), ?_⟩
        refine rd_flinks T np (by rfl) ?_
        refine ⟨_, _, rfl, rfl, ?_⟩
        refine ⟨p2, nd, nd.links + 1, rfl, np, fun r H4 s4 nq => ?_⟩
        refine wr_nodes T (pa3.same s4) (by rfl) (by rfl) nq ?_ (fun H5 f5 pa5 => ?_)
        · have := addE_len (l := Tr.nodes) (n := n) (x := x) (c := c)
          have := W.len
          show (addE Tr.nodes n x c).length < 1000
          omega
        · refine k.val hS ((Fr.of s3).trans (f3.trans ((Fr.of s4).trans f5)).two) ?_ .non
          show PA K H5 t d hl ⟨bumpN (addE Tr.nodes n x c) c, Tr.hs⟩
          unfold bumpN
          rw [hc3]
          exact pa5
end
end Tm

set_option maxHeartbeats 4000000
namespace Tm
open PySem PySem.Spec PyProof.Rows L2
def writtenO (body : List Int) (off : Nat) (oct : List Int) : Except Er (List Int) := if oct.length = 0 then .ok body else if 28672 < off + oct.length then .error .ftl else
  .ok (body.take off ++ List.replicate (off - body.length) 0 ++ oct ++ body.drop (off + oct.length))
def resizedO (body : List Int) (n : Nat) : List Int := body.take n ++ List.replicate (n - body.length) 0
theorem rep_int (k : Nat) : List.replicate k (V.int 0) = (List.replicate k (0 : Int)).map V.int := by rw [List.map_replicate]
theorem sub_toNat (a b : Nat) : ((a : Int) - (b : Int)).toNat = a - b := by omega
theorem cutM_to (l : List Int) (k : Nat) : cutV (l.map V.int) none (some (k : Int)) = (l.take k).map V.int := by rw [cutV_to, List.map_take]
theorem cutM_from (l : List Int) (k : Nat) : cutV (l.map V.int) (some (k : Int)) none = (l.drop k).map V.int := by rw [cutV_from, List.map_drop]
theorem writtenO_len {body : List Int} {off : Nat} {oct l : List Int} (h : writtenO body off oct = .ok l) (hb : body.length ≤ 28672) : l.length ≤ 28672 := by
  unfold writtenO at h
  split at h
  · cases h; exact hb
  · split at h
    · cases h
    · have e := Except.ok.inj h
      rw [← e]
      simp only [List.length_append, List.length_take, List.length_replicate, List.length_drop]
      omega
section
variable {P : Program} {w : World} {K : PySem.W.Frag} {mg : Str → Option Value} {base : Heap}
theorem rd_repT {H : Hp} {l : Addr} {k : Int} {z : V} {Q : VK} (h : SqT K H l [z]) (h1 : k ≤ 1000000) (h2 : -1000000 ≤ k) (q : ∀ p H', Same H H' → SqT K H' p (List.replicate k.toNat z) → Q (.ref p) H') : rRepTA K (.ref l) (.int k) H Q := ⟨l, k, z, rfl, rfl, h, h1, h2, q⟩
def spResized (K : PySem.W.Frag) : Sp := fun vs H Q _ => ∃ (b : Addr) (body : List Int) (n : Nat), vs = [.ref b, .int n] ∧ SqT K H b (body.map V.int) ∧ body.length ≤ 28672 ∧ n ≤ 28672 ∧ ∀ c H', Same H H' → SqT K H' c ((resizedO body n).map V.int) → Q (.ref c) H'
-- slots of resized: 0 body, 1 length
theorem sc_resized : FnScope ["body", "length"] ["body", "length"] (defScope s_resized) := ⟨rfl, rfl, rfl, by decide +kernel, rfl, by decide +kernel, by decide +kernel⟩
theorem ok_resized (T : Tx K mg) : FnR P w K mg base (L2.CX P w) 1 (He.ga K "resized") (spResized K) := by
  refine mk_fn (df_resized T) sc_resized (fun _ _ _ _ _ _ us hl => match us, hl with | [_, _], _ => rfl) (fun vs H Q E h => ?_) (fun cdv A outer s H vs Q E tk po hr h => ?_)
  · obtain ⟨_, _, _, rfl, _⟩ := h
    rfl
  obtain ⟨b, body, n, rfl, hb, h1, h2, k⟩ := h
  refine ⟨_, (pss_one (ps_ret (pe_op op_catA (pe_slice sl_tupA (pv 0) po_none (po_some (pv 1))) (pe_op op_repTA (pe_tup (pa_cons pe_int pa_nil)) (pe_op op_sub (pv 1) (pe_callB call_len_seq (by rfl) (f_len T) PySem.boot_len (pa_cons (pv 0) pa_nil))))))), ?_⟩
  refine ⟨_, rfl, _, rfl, _, rfl, ?_⟩
  refine rd_slT hb (fun c1 H1 s1 hc1 => ?_)
  refine ⟨(by show 1 ≤ sizeLine; decide), fun r hr0 => ?_⟩
  have s2 := s1.trans (same_new (o := .tup [V.int 0]) hr0)
  refine ⟨_, rfl, _, rfl, _, _, rfl, .inr (same_t s2 hb), _, _, rfl, rfl, ?_⟩
  rw [List.length_map]
  refine rd_repT (SqT.of upd_same) (by omega) (by omega) (fun c2 H2 s3 hc2 => ?_)
  rw [cutM_to] at hc1
  rw [sub_toNat, rep_int] at hc2
  refine rd_catT (same_t s3 (same_t (same_new hr0) hc1)) hc2 ?_ (fun c3 H3 s4 hc3 => ?_)
  · rw [List.length_map, List.length_map, List.length_take, List.length_replicate, sizeLine_eq]; omega
  · rw [← List.map_append] at hc3
    exact k c3 H3 ((s2.trans s3).trans s4) hc3
def spWritten (K : PySem.W.Frag) : Sp := fun vs H Q E => ∃ (b : Addr) (body : List Int) (off : Nat) (o : Addr) (oct : List Int), vs = [.ref b, .int off, .ref o] ∧ SqT K H b (body.map V.int) ∧ SqL K H o (oct.map V.int) ∧ body.length ≤ 28672 ∧ off ≤ 28672 ∧ oct.length ≤ 10000 ∧
  RP K (writtenO body off oct) (fun l v H' => ∃ c, v = .ref c ∧ SqT K H' c (l.map V.int)) H Q E
theorem same_l {K : PySem.W.Frag} {H H' : Hp} {a : Addr} {xs : List V} (e : Same H H') (h : SqL K H a xs) : SqL K H' a xs := by
  rcases h with (h | ⟨o, h⟩) | h
  · exact .inl (.inl (e _ _ h))
  · exact .inl (.inr ⟨o, e _ _ h⟩)
  · exact .inr h
-- slots of written: 0 body, 1 offset, 2 octets, 3 front
theorem sc_written : FnScope ["body", "offset", "octets", "front"] ["body", "offset", "octets"] (defScope s_written) := ⟨rfl, rfl, rfl, by decide +kernel, rfl, by decide +kernel, by decide +kernel⟩
theorem ok_written (T : Tx K mg) : FnR P w K mg base (L2.CX P w) 1 (He.ga K "written") (spWritten K) := by
  obtain ⟨t_FILE_MOST, h_FILE_MOST⟩ := T.i_FILE_MOST
  refine mk_fn (df_written T) sc_written (fun _ _ _ _ _ _ us hl => match us, hl with | [_, _, _], _ => rfl) (fun vs H Q E h => ?_) (fun cdv A outer s H vs Q E tk po hr h => ?_)
  · obtain ⟨_, _, _, _, _, rfl, _⟩ := h
    rfl
  obtain ⟨b, body, off, o, oct, rfl, hb, ho, h1, h2, h3, k⟩ := h
  refine ⟨_, (pss_cons (ps_if (pt_cmpR op_eq (pe_callB call_len_seq (by rfl) (f_len T) PySem.boot_len (pa_cons (pv 2) pa_nil)) pe_int (nomark _))
    (pss_one (ps_ret (pv 0)))
    pss_nil)
    (pss_cons (ps_if (pt_cmpR op_gt (pe_op op_add (pv 1) (pe_callB call_len_seq (by rfl) (f_len T) PySem.boot_len (pa_cons (pv 2) pa_nil))) (pe_glob (v := .int 28672) rfl h_FILE_MOST ⟨_, rfl⟩) (nomark _))
    (pss_one (ps_raise rfl tk (pmk0 (e_FileTooLarge T) rfl)))
    pss_nil)
    (pss_cons (ps_set (i := 3) sc_written.nd rfl (Or.inl rfl) (pe_op op_catA (pe_slice sl_tupA (pv 0) po_none (po_some (pv 1))) (pe_op op_repTA (pe_tup (pa_cons pe_int pa_nil)) (pe_op op_sub (pv 1) (pe_callB call_len_seq (by rfl) (f_len T) PySem.boot_len (pa_cons (pv 0) pa_nil))))))
    (pss_one (ps_ret (pe_op op_catA (pe_op op_catA (pv 3) (pe_callTy call_tuple_of (by rfl) (f_tuple T) (by decide +kernel) (pa_cons (pv 2) pa_nil))) (pe_slice sl_tupA (pv 0) (po_some (pe_op op_add (pv 1) (pe_callB call_len_seq (by rfl) (f_len T) PySem.boot_len (pa_cons (pv 2) pa_nil)))) po_none))))))), ?_⟩
  refine ⟨_, rfl, _, _, rfl, .inl ho, rfl, _, rfl, ?_⟩
  refine ite2 (fun c => ?_) (fun c => ?_)
  · have c1 := eq_int.mp c
    rw [List.length_map] at c1
    have hS : writtenO body off oct = .ok body := if_pos (by omega)
    exact ⟨_, rfl, k.val hS (Same.refl _) ⟨b, rfl, hb⟩⟩
  · have c1 : ¬ oct.length = 0 := fun z => c (eq_int.mpr (by rw [List.length_map]; omega))
    refine ⟨_, rfl, _, rfl, _, _, rfl, .inl ho, _, _, rfl, rfl, _, _, rfl, rfl, _, rfl, ?_⟩
    rw [List.length_map]
    refine ite2 (fun c => ?_) (fun c => ?_)
    · have c2 : (28672 : Int) < (off : Int) + ((oct.length : Nat) : Int) := of_decide_eq_true c
      refine k.err (e := .ftl) ?_ (Same.refl _)
      unfold writtenO
      rw [if_neg c1, if_pos (by omega)]
    · have c2 : ¬ (28672 : Int) < (off : Int) + ((oct.length : Nat) : Int) := fun z => c (decide_eq_true z)
      have hS : writtenO body off oct = .ok (body.take off ++ List.replicate (off - body.length) 0 ++ oct ++ body.drop (off + oct.length)) := by
        unfold writtenO
        rw [if_neg c1, if_neg (by omega)]
      refine ⟨_, rfl, _, rfl, _, rfl, ?_⟩
      refine rd_slT hb (fun d1 H1 s1 hd1 => ?_)
      refine ⟨(by show 1 ≤ sizeLine; decide), fun r hr0 => ?_⟩
      have s2 := s1.trans (same_new (o := .tup [V.int 0]) hr0)
      refine ⟨_, rfl, _, rfl, _, _, rfl, .inr (same_t s2 hb), _, _, rfl, rfl, ?_⟩
      rw [List.length_map]
      refine rd_repT (SqT.of upd_same) (by omega) (by omega) (fun d2 H2 s3 hd2 => ?_)
      rw [cutM_to] at hd1
      rw [sub_toNat, rep_int] at hd2
      refine rd_catT (same_t s3 (same_t (same_new hr0) hd1)) hd2 ?_ (fun d3 H3 s4 hd3 => ?_)
      · rw [List.length_map, List.length_map, List.length_take, List.length_replicate, sizeLine_eq]; omega
      rw [← List.map_append] at hd3
      have s5 := (s2.trans s3).trans s4
      refine ⟨_, rfl, _, rfl, o, _, rfl, .inl ⟨same_l s5 ho, fun l hl0 => ?_⟩⟩
      have s6 := s5.trans (same_new (o := .tup (oct.map V.int)) hl0)
      refine rd_catT (same_t (same_new hl0) hd3) (SqT.of upd_same) ?_ (fun d4 H4 s7 hd4 => ?_)
      · simp only [List.length_map, List.length_append, List.length_take, List.length_replicate, sizeLine_eq]; omega
      rw [← List.map_append] at hd4
      have s8 := s6.trans s7
      refine ⟨_, rfl, _, rfl, _, rfl, _, _, rfl, .inl (same_l s8 ho), _, _, rfl, rfl, _, rfl, ?_⟩
      rw [List.length_map]
      dsimp only [tNoPart]
      refine rd_slT (same_t s8 hb) (fun d5 H5 s9 hd5 => ?_)
      have e5 : (off : Int) + ((oct.length : Nat) : Int) = ((off + oct.length : Nat) : Int) := by omega
      rw [e5, cutM_from] at hd5
      refine rd_catT (same_t s9 hd4) hd5 ?_ (fun d6 H6 s10 hd6 => ?_)
      · simp only [List.length_map, List.length_append, List.length_take, List.length_replicate, List.length_drop, sizeLine_eq]; omega
      rw [← List.map_append] at hd6
      exact k.val hS ((s8.trans s9).trans s10) ⟨d6, rfl, hd6⟩
/-! ### files that are written -/
def writeN (T : Tr) (n : Int) (off : Nat) (oct : List Int) : Except Er (PyData × Tr) := mapE (fun l => .ok (.none, ⟨putN T.nodes n ⟨.oct l, lnk T.nodes n⟩, T.hs⟩)) (writtenO (octsOf T.nodes n) off oct)
def sizeN (T : Tr) (n : Int) (len : Nat) : Tr := ⟨putN T.nodes n ⟨.oct (resizedO (octsOf T.nodes n) len), lnk T.nodes n⟩, T.hs⟩
def spWriteFile (K : PySem.W.Frag) : Sp := fun vs H Q E => ∃ (t d hl : Addr) (T : Tr) (n : Int) (off : Nat) (o : Addr) (oct : List Int) (body : List Int) (k : Int), vs = [.ref t, .int n, .int off, .ref o] ∧ PA K H t d hl T ∧ WF T ∧ lk T.nodes n = some ⟨.oct body, k⟩ ∧ SqL K H o (oct.map V.int) ∧ off ≤ 28672 ∧ oct.length ≤ 10000 ∧
  MP K t d hl (writeN T n off oct) H Q E
-- slots of write_file: 0 tree, 1 number, 2 offset, 3 octets, 4 node
theorem sc_write_file : FnScope ["tree", "number", "offset", "octets", "node"] ["tree", "number", "offset", "octets"] (defScope s_write_file) := ⟨rfl, rfl, rfl, by decide +kernel, rfl, by decide +kernel, by decide +kernel⟩
theorem ok_write_file (T : Tx K mg) : FnR P w K mg base (L2.CX P w) 4 (He.ga K "write_file") (spWriteFile K) := by
  have G_Node_with_body := ok_Node_with_body (P := P) (w := w) (base := base) T
  have G_written := ok_written (P := P) (w := w) (base := base) T
  refine mk_fn (df_write_file T) sc_write_file (fun _ _ _ _ _ _ us hl => match us, hl with | [_, _, _, _], _ => rfl) (fun vs H Q E h => ?_) (fun cdv A outer s H vs Q E tk po hr h => ?_)
  · obtain ⟨_, _, _, _, _, _, _, _, _, _, rfl, _⟩ := h
    rfl
  obtain ⟨t, d, hl, Tr, n, off, o, oct, body, kk, rfl, pa, W, hn, ho, h2, h3, k⟩ := h
  refine ⟨_, (pss_cons (ps_set (i := 4) sc_write_file.nd rfl (Or.inl rfl) (pe_dget (hu_of hr) (pe_fld (pv 0) rfl) (pv 1) (fun _ _ => rfl)))
    (pss_one (ps_dput (hu_of hr) (pe_fld (pv 0) rfl) (pv 1) (pe_methR (pv 4) T.cN T.m_with_body G_Node_with_body (hr.mono (by decide)) (pc_of tk) (pa_cons (pe_callR G_written (hr.mono (by decide)) rfl (g_written T) (k_written T) (pc_of tk) (pa_cons (pe_fld (pv 4) rfl) (pa_cons (pv 2) (pa_cons (pv 3) pa_nil)))) pa_nil)) rfl))), ?_⟩
  have hlen := W.oct _ _ _ hn
  have hS : writeN Tr n off oct = mapE (fun l => .ok (.none, ⟨putN Tr.nodes n ⟨.oct l, kk⟩, Tr.hs⟩)) (writtenO body off oct) := by
    unfold writeN
    rw [octsOf_eq hn, lnk_eq hn]
  refine rd_nodes T pa (by rfl) (by rfl) hn (fun p np => ?_)
  obtain ⟨dx, bv, hp1, hb⟩ := id np
  refine ⟨_, rfl, p, dx, _, rfl, hp1, nFs_no _ _ (by decide +kernel) (by decide +kernel) (by decide +kernel), ?_⟩
  refine rd_fbody T np (by rfl) (fun bv2 hb2 => ?_)
  obtain ⟨b, rfl, hs⟩ := hb2
  refine ⟨_, rfl, _, rfl, b, body, off, o, oct, rfl, hs, ho, hlen, h2, h3, RP.of (fun e he H1 s1 => ?_) (fun l hl1 v H1 s1 rv => ?_)⟩
  · refine k.err (e := e) ?_ s1
    rw [hS, he]; rfl
  · obtain ⟨c, rfl, hc⟩ := rv
    rw [hl1] at hS
    refine ⟨p, _, .oct l, .ref c, rfl, np.i (same_i s1), ⟨c, rfl, hc⟩, rfl, fun q H2 s2 nq => ?_⟩
    refine wr_nodes T (pa.same (s1.trans s2)) (by rfl) (by rfl) nq (by have := W.len; omega) (fun H3 f3 pa3 => ?_)
    exact k.val hS ((Fr.of (s1.trans s2)).trans f3.two) pa3 .non
def spResizeFile (K : PySem.W.Frag) : Sp := fun vs H Q _ => ∃ (t d hl : Addr) (T : Tr) (n : Int) (len : Nat) (body : List Int) (k : Int), vs = [.ref t, .int n, .int len] ∧ PA K H t d hl T ∧ WF T ∧ lk T.nodes n = some ⟨.oct body, k⟩ ∧ len ≤ 28672 ∧
  ∀ H', Fr (S1 d) H H' → PA K H' t d hl (sizeN T n len) → Q .non H'
-- slots of resize_file: 0 tree, 1 number, 2 length, 3 node
theorem sc_resize_file : FnScope ["tree", "number", "length", "node"] ["tree", "number", "length"] (defScope s_resize_file) := ⟨rfl, rfl, rfl, by decide +kernel, rfl, by decide +kernel, by decide +kernel⟩
theorem ok_resize_file (T : Tx K mg) : FnR P w K mg base (L2.CX P w) 4 (He.ga K "resize_file") (spResizeFile K) := by
  have G_Node_with_body := ok_Node_with_body (P := P) (w := w) (base := base) T
  have G_resized := ok_resized (P := P) (w := w) (base := base) T
  refine mk_fn (df_resize_file T) sc_resize_file (fun _ _ _ _ _ _ us hl => match us, hl with | [_, _, _], _ => rfl) (fun vs H Q E h => ?_) (fun cdv A outer s H vs Q E tk po hr h => ?_)
  · obtain ⟨_, _, _, _, _, _, _, _, rfl, _⟩ := h
    rfl
  obtain ⟨t, d, hl, Tr, n, len, body, kk, rfl, pa, W, hn, h2, k⟩ := h
  refine ⟨_, (pss_cons (ps_set (i := 3) sc_resize_file.nd rfl (Or.inl rfl) (pe_dget (hu_of hr) (pe_fld (pv 0) rfl) (pv 1) (fun _ _ => rfl)))
    (pss_one (ps_dput (hu_of hr) (pe_fld (pv 0) rfl) (pv 1) (pe_methR (pv 3) T.cN T.m_with_body G_Node_with_body (hr.mono (by decide)) (pc_of tk) (pa_cons (pe_callR G_resized (hr.mono (by decide)) rfl (g_resized T) (k_resized T) (pc_of tk) (pa_cons (pe_fld (pv 3) rfl) (pa_cons (pv 2) pa_nil))) pa_nil)) rfl))), ?_⟩
  have hlen := W.oct _ _ _ hn
  refine rd_nodes T pa (by rfl) (by rfl) hn (fun p np => ?_)
  obtain ⟨dx, bv, hp1, hb⟩ := id np
  refine ⟨_, rfl, p, dx, _, rfl, hp1, nFs_no _ _ (by decide +kernel) (by decide +kernel) (by decide +kernel), ?_⟩
  refine rd_fbody T np (by rfl) (fun bv2 hb2 => ?_)
  obtain ⟨b, rfl, hs⟩ := hb2
  refine ⟨_, rfl, b, body, len, rfl, hs, hlen, h2, fun c H1 s1 hc => ?_⟩
  refine ⟨p, _, .oct (resizedO body len), .ref c, rfl, np.i (same_i s1), ⟨c, rfl, hc⟩, rfl, fun q H2 s2 nq => ?_⟩
  refine wr_nodes T (pa.same (s1.trans s2)) (by rfl) (by rfl) nq (by have := W.len; omega) (fun H3 f3 pa3 => ?_)
  refine k H3 ((Fr.of (s1.trans s2)).trans f3) ?_
  unfold sizeN
  rw [octsOf_eq hn, lnk_eq hn]
  exact pa3
/-! ### truncate, write_at, resize -/
def truncS (T : Tr) (p : Str) (len : Nat) : Except Er (PyData × Tr) := mapE (fun n => .ok (.none, sizeN T n len)) (fileS T.nodes p)
def resizeS (T : Tr) (h : Nat) (len : Nat) : Except Er (PyData × Tr) := mapE (fun n => .ok (.none, sizeN T n len)) (openS T.hs h)
def writeAtS (T : Tr) (h : Nat) (off : Nat) (oct : List Int) : Except Er (PyData × Tr) := mapE (fun n => writeN T n off oct) (openS T.hs h)
-- slots of truncate: 0 tree, 1 path, 2 length
theorem sc_truncate : FnScope ["tree", "path", "length"] ["tree", "path", "length"] (defScope s_truncate) := ⟨rfl, rfl, rfl, by decide +kernel, rfl, by decide +kernel, by decide +kernel⟩
theorem ok_truncate (T : Tx K mg) : FnR P w K mg base (L2.CX P w) 5 (He.ga K "truncate") (fun vs H Q E => ∃ (t d hl : Addr) (T : Tr) (p : Str) (len : Nat), vs = [.ref t, .str p, .int len] ∧ PA K H t d hl T ∧ WF T ∧ p ∈ pathL ∧ len ≤ 28672 ∧ MP K t d hl (truncS T p len) H Q E) := by
  have G_resize_file := ok_resize_file (P := P) (w := w) (base := base) T
  have G_file_at := ok_file_at (P := P) (w := w) (base := base) T
  refine mk_fn (df_truncate T) sc_truncate (fun _ _ _ _ _ _ us hl => match us, hl with | [_, _, _], _ => rfl) (fun vs H Q E h => ?_) (fun cdv A outer s H vs Q E tk po hr h => ?_)
  · obtain ⟨_, _, _, _, _, _, rfl, _⟩ := h
    rfl
  obtain ⟨t, d, hl, Tr, p, len, rfl, pa, W, hp, h2, k⟩ := h
  refine ⟨_, (pss_one (ps_expr (pe_callR G_resize_file (hr.mono (by decide)) rfl (g_resize_file T) (k_resize_file T) (pc_of tk) (pa_cons (pv 0) (pa_cons (pe_callR G_file_at (hr.mono (by decide)) rfl (g_file_at T) (k_file_at T) (pc_of tk) (pa_cons (pv 0) (pa_cons (pv 1) pa_nil))) (pa_cons (pv 2) pa_nil)))))), ?_⟩
  refine ⟨_, rfl, _, rfl, _, rfl, t, d, hl, Tr, p, rfl, pa, W, hp, RP.of (fun e he H1 s1 => ?_) (fun n hn0 v H1 s1 rv => ?_)⟩
  · refine k.err (e := e) ?_ s1
    unfold truncS
    rw [he]; rfl
  · subst rv
    obtain ⟨o, kk, hn⟩ := file_parts hn0
    refine ⟨_, rfl, t, d, hl, Tr, n, len, o, kk, rfl, pa.same s1, W, hn, h2, fun H2 f2 pa2 => ?_⟩
    refine k.val (z := (.none, sizeN Tr n len)) ?_ ((Fr.of s1).trans f2.two) pa2 .non
    unfold truncS
    rw [hn0]; rfl
-- slots of resize: 0 tree, 1 handle, 2 length
theorem sc_resize : FnScope ["tree", "handle", "length"] ["tree", "handle", "length"] (defScope s_resize) := ⟨rfl, rfl, rfl, by decide +kernel, rfl, by decide +kernel, by decide +kernel⟩
theorem ok_resize (T : Tx K mg) : FnR P w K mg base (L2.CX P w) 5 (He.ga K "resize") (fun vs H Q E => ∃ (t d hl : Addr) (T : Tr) (h len : Nat), vs = [.ref t, .int h, .int len] ∧ PA K H t d hl T ∧ WF T ∧ h < 16 ∧ len ≤ 28672 ∧ MP K t d hl (resizeS T h len) H Q E) := by
  have G_resize_file := ok_resize_file (P := P) (w := w) (base := base) T
  have G_opened := ok_opened (P := P) (w := w) (base := base) T
  refine mk_fn (df_resize T) sc_resize (fun _ _ _ _ _ _ us hl => match us, hl with | [_, _, _], _ => rfl) (fun vs H Q E h => ?_) (fun cdv A outer s H vs Q E tk po hr h => ?_)
  · obtain ⟨_, _, _, _, _, _, rfl, _⟩ := h
    rfl
  obtain ⟨t, d, hl, Tr, i, len, rfl, pa, W, hp, h2, k⟩ := h
  refine ⟨_, (pss_one (ps_expr (pe_callR G_resize_file (hr.mono (by decide)) rfl (g_resize_file T) (k_resize_file T) (pc_of tk) (pa_cons (pv 0) (pa_cons (pe_callR G_opened (hr.mono (by decide)) rfl (g_opened T) (k_opened T) (pc_of tk) (pa_cons (pv 0) (pa_cons (pv 1) pa_nil))) (pa_cons (pv 2) pa_nil)))))), ?_⟩
  refine ⟨_, rfl, _, rfl, _, rfl, t, d, hl, Tr, i, rfl, pa, W, hp, RP.of (fun e he H1 s1 => ?_) (fun n hn0 v H1 s1 rv => ?_)⟩
  · refine k.err (e := e) ?_ s1
    unfold resizeS
    rw [he]; rfl
  · subst rv
    obtain ⟨o, kk, hn⟩ := W.opn hn0
    refine ⟨_, rfl, t, d, hl, Tr, n, len, o, kk, rfl, pa.same s1, W, hn, h2, fun H2 f2 pa2 => ?_⟩
    refine k.val (z := (.none, sizeN Tr n len)) ?_ ((Fr.of s1).trans f2.two) pa2 .non
    unfold resizeS
    rw [hn0]; rfl
theorem writeN_none {T : Tr} {n : Int} {off : Nat} {oct : List Int} {z : PyData × Tr} (h : writeN T n off oct = .ok z) : z.1 = .none := by
  obtain ⟨y, _, h2⟩ := mapE_ok h
  cases h2; rfl
-- slots of write_at: 0 tree, 1 handle, 2 offset, 3 octets
theorem sc_write_at : FnScope ["tree", "handle", "offset", "octets"] ["tree", "handle", "offset", "octets"] (defScope s_write_at) := ⟨rfl, rfl, rfl, by decide +kernel, rfl, by decide +kernel, by decide +kernel⟩
theorem ok_write_at (T : Tx K mg) : FnR P w K mg base (L2.CX P w) 5 (He.ga K "write_at") (fun vs H Q E => ∃ (t d hl : Addr) (T : Tr) (h off : Nat) (o : Addr) (oct : List Int), vs = [.ref t, .int h, .int off, .ref o] ∧ PA K H t d hl T ∧ WF T ∧ h < 16 ∧ SqL K H o (oct.map V.int) ∧ off ≤ 28672 ∧ oct.length ≤ 10000 ∧ MP K t d hl (writeAtS T h off oct) H Q E) := by
  have G_write_file := ok_write_file (P := P) (w := w) (base := base) T
  have G_opened := ok_opened (P := P) (w := w) (base := base) T
  refine mk_fn (df_write_at T) sc_write_at (fun _ _ _ _ _ _ us hl => match us, hl with | [_, _, _, _], _ => rfl) (fun vs H Q E h => ?_) (fun cdv A outer s H vs Q E tk po hr h => ?_)
  · obtain ⟨_, _, _, _, _, _, _, _, rfl, _⟩ := h
    rfl
  obtain ⟨t, d, hl, Tr, i, off, o, oct, rfl, pa, W, hp, ho, h2, h3, k⟩ := h
  refine ⟨_, (pss_one (ps_expr (pe_callR G_write_file (hr.mono (by decide)) rfl (g_write_file T) (k_write_file T) (pc_of tk) (pa_cons (pv 0) (pa_cons (pe_callR G_opened (hr.mono (by decide)) rfl (g_opened T) (k_opened T) (pc_of tk) (pa_cons (pv 0) (pa_cons (pv 1) pa_nil))) (pa_cons (pv 2) (pa_cons (pv 3) pa_nil))))))), ?_⟩
  refine ⟨_, rfl, _, rfl, _, rfl, t, d, hl, Tr, i, rfl, pa, W, hp, RP.of (fun e he H1 s1 => ?_) (fun n hn0 v H1 s1 rv => ?_)⟩
  · refine k.err (e := e) ?_ s1
    unfold writeAtS
    rw [he]; rfl
  · subst rv
    obtain ⟨body, kk, hn⟩ := W.opn hn0
    have hS : writeAtS Tr i off oct = writeN Tr n off oct := by
      unfold writeAtS
      rw [hn0]; rfl
    refine ⟨_, rfl, _, rfl, t, d, hl, Tr, n, off, o, oct, body, kk, rfl, pa.same s1, W, hn, same_l s1 ho, h2, h3, MP.of (fun e he H2 s2 => k.err (hS.trans he) (s1.trans s2)) (fun z hz v H2 f2 pa2 dv => ?_)⟩
    refine k.val (hS.trans hz) ((Fr.of s1).trans f2) pa2 ?_
    rw [writeN_none hz]
    exact .non
/-! ### write -/
def writeNewS (T : Tr) (p : Str) (off : Nat) (oct : List Int) : Except Er (PyData × Tr) := mapE (fun z : Int × Str => if (child T.nodes z.1 z.2).isSome then .error .nf else mapE (fun l => newS T p (.oct l)) (writtenO [] off oct)) (placeS T.nodes p)
def writeS (T : Tr) (p : Str) (off : Nat) (oct : List Int) : Except Er (PyData × Tr) := match followS T.nodes p with
  | .ok n => (match lk T.nodes n with
    | some ⟨.oct _, _⟩ => writeN T n off oct
    | _ => .error .isd)
  | .error .nf => writeNewS T p off oct
  | .error e => .error e
def spWr (K : PySem.W.Frag) (S : Tr → Str → Nat → List Int → Except Er (PyData × Tr)) : Sp := fun vs H Q E => ∃ (t d hl : Addr) (T : Tr) (p : Str) (off : Nat) (o : Addr) (oct : List Int), vs = [.ref t, .str p, .int off, .ref o] ∧ PA K H t d hl T ∧ WF T ∧ p ∈ pathL ∧ SqL K H o (oct.map V.int) ∧ off ≤ 28672 ∧ oct.length ≤ 10000 ∧ MP K t d hl (S T p off oct) H Q E
-- slots of write_new: 0 tree, 1 path, 2 offset, 3 octets, 4 directory, 5 name
theorem sc_write_new : FnScope ["tree", "path", "offset", "octets", "directory", "name"] ["tree", "path", "offset", "octets"] (defScope s_write_new) := ⟨rfl, rfl, rfl, by decide +kernel, rfl, by decide +kernel, by decide +kernel⟩
theorem ok_write_new (T : Tx K mg) : FnR P w K mg base (L2.CX P w) 6 (He.ga K "write_new") (spWr K writeNewS) := by
  have G_place_of := ok_place_of (P := P) (w := w) (base := base) T
  have G_new_node := ok_new_node (P := P) (w := w) (base := base) T
  have G_FileTree_entry := ok_FileTree_entry (P := P) (w := w) (base := base) T
  have G_written := ok_written (P := P) (w := w) (base := base) T
  refine mk_fn (df_write_new T) sc_write_new (fun _ _ _ _ _ _ us hl => match us, hl with | [_, _, _, _], _ => rfl) (fun vs H Q E h => ?_) (fun cdv A outer s H vs Q E tk po hr h => ?_)
  · obtain ⟨_, _, _, _, _, _, _, _, rfl, _⟩ := h
    rfl
  obtain ⟨t, d, hl, Tr, p, off, o, oct, rfl, pa, W, hp, ho, h2, h3, k⟩ := h
  refine ⟨_, (pss_cons (ps_asg (pe_callR G_place_of (hr.mono (by decide)) rfl (g_place_of T) (k_place_of T) (pc_of tk) (pa_cons (pv 0) (pa_cons (pv 1) pa_nil))) (pg_tup rfl (pgs_cons (pg_name (i := 4) sc_write_new.nd rfl (Or.inl rfl)) (pgs_cons (pg_name (i := 5) sc_write_new.nd rfl (Or.inl rfl)) pgs_nil))))
    (pss_cons (ps_if (pt_cmpR op_notN (pe_methR (pv 0) T.cT T.m_entry G_FileTree_entry (hr.mono (by decide)) (pc_of tk) (pa_cons (pv 4) (pa_cons (pv 5) pa_nil))) pe_non (nomark _))
    (pss_one (ps_raise rfl tk (pmk0 (e_NotFound T) rfl)))
    pss_nil)
    (pss_one (ps_expr (pe_callR G_new_node (hr.mono (by decide)) rfl (g_new_node T) (k_new_node T) (pc_of tk) (pa_cons (pv 0) (pa_cons (pv 1) (pa_cons pe_str (pa_cons (pe_callR G_written (hr.mono (by decide)) rfl (g_written T) (k_written T) (pc_of tk) (pa_cons (pe_tup pa_nil) (pa_cons (pv 2) (pa_cons (pv 3) pa_nil)))) pa_nil))))))))), ?_⟩
  refine ⟨_, rfl, _, rfl, t, d, hl, Tr, p, rfl, pa, W, hp, RP.of (fun e he H1 s1 => ?_) (fun z hz v H1 s1 rv => ?_)⟩
  · refine k.err (e := e) ?_ s1
    unfold writeNewS
    rw [he]; rfl
  · obtain ⟨n, x⟩ := z
    obtain ⟨q, rfl, hq⟩ := rv
    obtain ⟨e, kk, hn⟩ := place_dir hz
    have pa1 := pa.same s1
    obtain ⟨dt, ht⟩ := pa1.tree
    have hS : writeNewS Tr p off oct = (if (childL e x).isSome then .error .nf else mapE (fun l => newS Tr p (.oct l)) (writtenO [] off oct)) := by
      unfold writeNewS
      rw [hz]
      show (if (child Tr.nodes n x).isSome then _ else _) = _
      rw [child_ent hn]
    refine ⟨q, _, rfl, SqT.of hq, rfl, _, _, rfl, _, _, rfl, rfl, ?_⟩
    refine ⟨_, rfl, t, dt, _, rfl, ht, tFs_no _ _ (by decide +kernel) (by decide +kernel), _, rfl, _, rfl, ?_⟩
    refine ⟨t, d, hl, Tr, n, x, e, kk, rfl, pa1, hn, fun H2 s2 => ?_⟩
    have s3 := s1.trans s2
    refine ⟨rfl, _, rfl, ?_⟩
    refine ite2 (fun c => ?_) (fun c => ?_)
    · have c1 := (not_non _).mp c
      refine k.err (e := .nf) ?_ s3
      rw [hS, if_pos (Option.isSome_iff_ne_none.mpr c1)]
    · have c1 : ¬ (childL e x).isSome = true := fun z => c ((not_non _).mpr (Option.isSome_iff_ne_none.mp z))
      rw [if_neg c1] at hS
      refine ⟨_, rfl, _, rfl, (Nat.zero_le _), fun r hr0 => ?_⟩
      have s4 := s3.trans (same_new (o := .tup []) hr0)
      refine ⟨_, rfl, _, rfl, r, [], off, o, oct, rfl, SqT.of upd_same, same_l s4 ho, (by decide), h2, h3, RP.of (fun e he H3 s5 => ?_) (fun l hl1 v H3 s5 rv => ?_)⟩
      · refine k.err (e := e) ?_ (s4.trans s5)
        rw [hS, he]; rfl
      · obtain ⟨c2, rfl, hc⟩ := rv
        have s6 := s4.trans s5
        rw [hl1] at hS
        refine ⟨t, d, hl, Tr, p, .oct l, .ref c2, rfl, pa.same s6, W, hp, ⟨c2, rfl, hc⟩, MP.of (fun e he H4 s7 => k.err (hS.trans he) (s6.trans s7)) (fun z hz2 v H4 f4 pa4 dv => ?_)⟩
        refine k.val (hS.trans hz2) ((Fr.of s6).trans f4) pa4 ?_
        rw [newS_none hz2]
        exact .non
theorem nf_exm (T : Tx K mg) (e : Er) : PySem.W.exmOne K (.ref (He.ga K e.cls)) (.ref (He.ga K "NotFound")) = some (decide (e = .nf)) := by
  cases e
  · exact He.exm_ok (T.fact 73 rfl)
  · exact He.exm_ok (T.fact 74 rfl)
  · exact He.exm_ok (T.fact 75 rfl)
  · exact He.exm_ok (T.fact 76 rfl)
  · exact He.exm_ok (T.fact 77 rfl)
  · exact He.exm_ok (T.fact 78 rfl)
  · exact He.exm_ok (T.fact 79 rfl)
  · exact He.exm_ok (T.fact 80 rfl)
  · exact He.exm_ok (T.fact 81 rfl)
  · exact He.exm_ok (T.fact 82 rfl)
  · exact He.exm_ok (T.fact 83 rfl)
  · exact He.exm_ok (T.fact 84 rfl)
  · exact He.exm_ok (T.fact 85 rfl)
  · exact He.exm_ok (T.fact 86 rfl)
-- slots of write: 0 tree, 1 path, 2 offset, 3 octets, 4 number
theorem sc_write : FnScope ["tree", "path", "offset", "octets", "number"] ["tree", "path", "offset", "octets"] (defScope s_write) := ⟨rfl, rfl, rfl, by decide +kernel, rfl, by decide +kernel, by decide +kernel⟩
theorem ok_write (T : Tx K mg) : FnR P w K mg base (L2.CX P w) 7 (He.ga K "write") (spWr K writeS) := by
  have G_follow := ok_follow (P := P) (w := w) (base := base) T
  have G_write_new := ok_write_new (P := P) (w := w) (base := base) T
  have G_write_file := ok_write_file (P := P) (w := w) (base := base) T
  refine mk_fn (df_write T) sc_write (fun _ _ _ _ _ _ us hl => match us, hl with | [_, _, _, _], _ => rfl) (fun vs H Q E h => ?_) (fun cdv A outer s H vs Q E tk po hr h => ?_)
  · obtain ⟨_, _, _, _, _, _, _, _, rfl, _⟩ := h
    rfl
  obtain ⟨t, d, hl, Tr, p, off, o, oct, rfl, pa, W, hp, ho, h2, h3, k⟩ := h
  refine ⟨_, (pss_cons (ps_try_only rfl rfl ⟨rfl, by decide, .inl (e_NotFound T).g⟩ tk (fun W pn xe tk _ => (pss_one (ps_set (i := 4) sc_write.nd rfl (Or.inl rfl) (pe_callRS G_follow (hr.mono (by decide)) rfl (g_follow T) (k_follow T) (fun σ => passAt tk σ) (pa_cons (pv 0) (pa_cons (pv 1) pa_nil))))))
    (fun a oe cls d pn _ _ => (pss_one (ps_set (i := 4) sc_write.nd rfl (Or.inl rfl) pe_non))))
    (pss_one (ps_if (pt_cmpR op_isN (pv 4) pe_non (nomark _))
    (pss_one (ps_expr (pe_callR G_write_new (hr.mono (by decide)) rfl (g_write_new T) (k_write_new T) (pc_of tk) (pa_cons (pv 0) (pa_cons (pv 1) (pa_cons (pv 2) (pa_cons (pv 3) pa_nil)))))))
    (pss_one (ps_if (pt_cmpR op_ne (pe_fld (pe_dget (hu_of hr) (pe_fld (pv 0) rfl) (pv 4) (fun _ _ => rfl)) rfl) pe_str (nomark _))
      (pss_one (ps_raise rfl tk (pmk0 (e_IsDirectory T) rfl)))
      (pss_one (ps_expr (pe_callR G_write_file (hr.mono (by decide)) rfl (g_write_file T) (k_write_file T) (pc_of tk) (pa_cons (pv 0) (pa_cons (pv 4) (pa_cons (pv 2) (pa_cons (pv 3) pa_nil)))))))))))), ?_⟩
  refine ⟨_, rfl, _, rfl, t, d, hl, Tr, p, rfl, pa, W, hp, RP.of (fun e he H1 s1 => ?_) (fun n hn0 v H1 s1 rv => ?_)⟩
  · refine ⟨_, nf_exm T e, fun c a ha => ?_, fun c => ?_⟩
    · have e1 : e = .nf := of_decide_eq_true c
      subst e1
      have hS : writeS Tr p off oct = writeNewS Tr p off oct := by
        unfold writeS
        rw [he]
      refine ⟨_, rfl, rfl, _, rfl, ?_⟩
      refine ite2 (fun _ => ?_) (fun c => absurd (show decide (V.non = V.non) = true from decide_eq_true rfl) c)
      refine ⟨_, rfl, _, rfl, _, rfl, _, rfl, t, d, hl, Tr, p, off, o, oct, rfl, pa.same s1, W, hp, same_l s1 ho, h2, h3, MP.of (fun e he H2 s2 => k.err (hS.trans he) (s1.trans s2)) (fun z hz v H2 f2 pa2 dv => ?_)⟩
      refine k.val (hS.trans hz) ((Fr.of s1).trans f2) pa2 ?_
      obtain ⟨y, _, q2⟩ := mapE_ok hz
      have q3 : (if (child Tr.nodes y.1 y.2).isSome then .error .nf else mapE (fun l => newS Tr p (.oct l)) (writtenO [] off oct)) = Except.ok z := q2
      split at q3
      · cases q3
      · obtain ⟨l, _, q4⟩ := mapE_ok q3
        rw [newS_none q4]
        exact .non
    · have e1 : ¬ e = .nf := of_decide_eq_false c
      refine k.err (e := e) ?_ s1
      unfold writeS
      rw [he]
      cases e <;> first | rfl | exact absurd rfl e1
  · subst rv
    obtain ⟨nd, hn⟩ := follow_there W hn0
    have pa1 := pa.same s1
    refine ⟨_, rfl, rfl, _, rfl, ?_⟩
    refine ite2 (fun c => absurd ((is_non (some n)).mp c) (by simp)) (fun _ => ?_)
    refine rd_kind T pa1 (by rfl) (by rfl) hn ?_
    refine ⟨rfl, _, rfl, ?_⟩
    have hS : writeS Tr p off oct = (match (some nd : Option Nd) with
      | some ⟨.oct _, _⟩ => writeN Tr n off oct
      | _ => .error .isd) := by
      unfold writeS
      rw [hn0, ← hn]
    obtain ⟨b, kk⟩ := nd
    refine ite2 (fun c => ?_) (fun c => ?_)
    · have c1 := ne_str.mp c
      refine k.err (e := .isd) ?_ s1
      rw [hS]
      cases b with
      | oct z => exact absurd rfl c1
      | ent z => rfl
      | tgt z => rfl
    · obtain ⟨body, he⟩ := (kind_file b).mp (Classical.byContradiction fun q => c (ne_str.mpr q))
      subst he
      have hS : writeS Tr p off oct = writeN Tr n off oct := hS
      refine ⟨_, rfl, _, rfl, _, rfl, _, rfl, t, d, hl, Tr, n, off, o, oct, body, kk, rfl, pa1, W, hn, same_l s1 ho, h2, h3, MP.of (fun e he H2 s2 => k.err (hS.trans he) (s1.trans s2)) (fun z hz v H2 f2 pa2 dv => ?_)⟩
      refine k.val (hS.trans hz) ((Fr.of s1).trans f2) pa2 ?_
      rw [writeN_none hz]
      exact .non
/-! ### open_file, close_file -/
def freeH (hs : List (Option Int)) : Option Nat := (List.range 16).find? fun i => decide (hs[i]? = some none)
def openFileS (T : Tr) (p : Str) : Except Er (PyData × Tr) := mapE (fun n => match freeH T.hs with
  | none => .error .tmo
  | some i => .ok (.int i, ⟨T.nodes, T.hs.set i (some n)⟩)) (fileS T.nodes p)
def closeS (T : Tr) (h : Nat) : Except Er (PyData × Tr) := mapE (fun n => .ok (.none, ⟨if lnk T.nodes n = 0 ∧ some n ∉ T.hs.set h none then dropN T.nodes n else T.nodes, T.hs.set h none⟩)) (openS T.hs h)
theorem PA.seth {H : Hp} {t d hl : Addr} {T : Tr} (pa : PA K H t d hl T) {i : Nat} {o : Option Int} : Fr (S2 d hl) H (upd H hl (.lst ((T.hs.map hV).set i (hV o)))) ∧ PA K (upd H hl (.lst ((T.hs.map hV).set i (hV o)))) t d hl ⟨T.nodes, T.hs.set i o⟩ := by
  have fr : Fr (S2 d hl) H (upd H hl (.lst ((T.hs.map hV).set i (hV o)))) := fr_upd (.inr rfl)
  have si := fr.i pa.ni
  obtain ⟨⟨dx, h1⟩, ⟨kvs, h2, h3⟩, h4⟩ := id pa
  refine ⟨fr, ⟨dx, si _ _ trivial h1⟩, ⟨kvs, ?_, kvs_i si h3⟩, ?_⟩
  · rw [upd_ne (fun z => by rw [z, h4] at h2; cases h2)]
    exact h2
  · rw [upd_same, List.map_set]
-- slots of open_file: 0 tree, 1 path, 2 number, 3 handle
theorem sc_open_file : FnScope ["tree", "path", "number", "handle"] ["tree", "path"] (defScope s_open_file) := ⟨rfl, rfl, rfl, by decide +kernel, rfl, by decide +kernel, by decide +kernel⟩
theorem ok_open_file (T : Tx K mg) : FnR P w K mg base (L2.CX P w) 5 (He.ga K "open_file") (spMk K openFileS) := by
  have G_file_at := ok_file_at (P := P) (w := w) (base := base) T
  refine mk_fn (df_open_file T) sc_open_file (fun _ _ _ _ _ _ us hl => match us, hl with | [_, _], _ => rfl) (fun vs H Q E h => ?_) (fun cdv A outer s H vs Q E tk po hr h => ?_)
  · obtain ⟨_, _, _, _, _, rfl, _⟩ := h
    rfl
  obtain ⟨t, d, hl, Tr, p, rfl, pa, W, hp, k⟩ := h
  refine ⟨_, (pss_cons (ps_set (i := 2) sc_open_file.nd rfl (Or.inl rfl) (pe_callR G_file_at (hr.mono (by decide)) rfl (g_file_at T) (k_file_at T) (pc_of tk) (pa_cons (pv 0) (pa_cons (pv 1) pa_nil))))
    (pss_cons (ps_for po rfl (pi_range1 rfl (f_range T) (pa_cons (pe_callB call_len_seq (by rfl) (f_len T) PySem.boot_len (pa_cons (pe_fld (pv 0) rfl) pa_nil)) pa_nil)) (pg_name (i := 3) sc_open_file.nd rfl (Or.inl rfl))
    (pss_one (ps_if (pt_cmpR op_isN (pe_ix ix_list (pe_fld (pv 0) rfl) (pv 3) (fun _ _ => rfl)) pe_non (nomark _))
      (pss_cons (ps_asg (pv 2) (pg_sub (pe_fld (pv 0) rfl) (pv 3) set_list))
        (pss_one (ps_ret (pv 3))))
      pss_nil)))
    (pss_one (ps_raise rfl tk (pmk0 (e_TooManyOpen T) rfl))))), ?_⟩
  refine ⟨_, rfl, _, rfl, t, d, hl, Tr, p, rfl, pa, W, hp, RP.of (fun e he H1 s1 => ?_) (fun n hn0 v H1 s1 rv => ?_)⟩
  · refine k.err (e := e) ?_ s1
    unfold openFileS
    rw [he]; rfl
  · subst rv
    have hS : openFileS Tr p = (match freeH Tr.hs with
      | none => .error .tmo
      | some i => .ok (.int i, ⟨Tr.nodes, Tr.hs.set i (some n)⟩)) := by
      unfold openFileS
      rw [hn0]; rfl
    have pa1 := pa.same s1
    obtain ⟨dt, ht⟩ := pa1.tree
    have hh := pa1.hand
    have hlen : (Tr.hs.map hV).length = 16 := by rw [List.length_map]; exact W.hl
    refine ⟨_, rfl, t, _, dt, _, _, rfl, ht, T.cT, T.n_handles, tFs_handles _ _, hl, _, rfl, .inl (SqL.of hh), 16, by rw [hlen]; rfl, by decide, by decide, ?_⟩
    refine for_range (fun i σ H' => ∃ a3, σ = [some (.ref t), some (.str p), some (.int n), a3] ∧ H' = H1 ∧ ∀ y ∈ (List.range 16).take i, (fun i : Nat => decide (Tr.hs[i]? = some none)) y = false) ⟨none, rfl, rfl, fun z hz => by simp at hz⟩ ?_ ?_
    · rintro i σ H' hi ⟨a1, rfl, rfl, hno⟩
      have e0 : (0 : Int) + (i : Int) = (i : Int) := by omega
      rw [e0]
      have hi2 : i < 16 := hi
      obtain ⟨oo, ho⟩ : ∃ oo, Tr.hs[i]? = some oo := ⟨_, List.getElem?_eq_getElem (by rw [W.hl]; exact hi2)⟩
      have ho2 : (Tr.hs.map hV)[i]? = some (hV oo) := by rw [List.getElem?_map, ho]; rfl
      refine ⟨_, rfl, t, _, dt, _, _, rfl, ht, T.cT, T.n_handles, tFs_handles _ _, _, rfl, hl, _, _, _, rfl, rfl, SqL.of hh, atI_nat ho2, rfl, _, rfl, ?_⟩
      refine ite2 (fun c => ?_) (fun c => ?_)
      · have c1 := (is_non _).mp c
        subst c1
        have e1 : freeH Tr.hs = some i := find_step (p := fun i : Nat => decide (Tr.hs[i]? = some none)) (List.getElem?_range hi2) hno (decide_eq_true ho)
        rw [e1] at hS
        refine ⟨_, rfl, _, rfl, t, _, dt, _, _, rfl, ht, T.cT, T.n_handles, tFs_handles _ _, _, rfl, ?_⟩
        obtain ⟨q1, q2⟩ := PA.seth pa1 (i := i) (o := some n)
        refine ⟨hl, _, _, i, rfl, rfl, hh, Evl.ixN_nat (by rw [hlen]; exact hi2), _, rfl, ?_⟩
        exact k.val hS ((Fr.of s1).trans q1) q2 (.int _)
      · refine ⟨_, rfl, rfl, fun y hy => ?_⟩
        rw [List.take_succ, List.getElem?_range hi2] at hy
        rcases List.mem_append.mp hy with h1 | h1
        · exact hno y h1
        · have e1 : y = i := by simpa using h1
          rw [e1]
          exact decide_eq_false fun z => c ((is_non _).mpr (Option.some.inj (ho.symm.trans z)))
    · rintro σ H' ⟨a1, rfl, rfl, hno⟩
      have e1 : freeH Tr.hs = none := List.find?_eq_none.mpr fun y hy => by
        have z := hno y (by rw [List.take_of_length_le (by rw [List.length_range]; decide)]; exact hy)
        rw [show decide (Tr.hs[y]? = some none) = false from z]
        exact Bool.false_ne_true
      rw [e1] at hS
      exact k.err (e := .tmo) hS s1
-- slots of close_file: 0 tree, 1 handle, 2 number
theorem sc_close_file : FnScope ["tree", "handle", "number"] ["tree", "handle"] (defScope s_close_file) := ⟨rfl, rfl, rfl, by decide +kernel, rfl, by decide +kernel, by decide +kernel⟩
theorem ok_close_file (T : Tx K mg) : FnR P w K mg base (L2.CX P w) 2 (He.ga K "close_file") (fun vs H Q E => ∃ (t d hl : Addr) (T : Tr) (h : Nat), vs = [.ref t, .int h] ∧ PA K H t d hl T ∧ WF T ∧ h < 16 ∧ MP K t d hl (closeS T h) H Q E) := by
  have G_opened := ok_opened (P := P) (w := w) (base := base) T
  have G_FileTree_is_open := ok_FileTree_is_open (P := P) (w := w) (base := base) T
  refine mk_fn (df_close_file T) sc_close_file (fun _ _ _ _ _ _ us hl => match us, hl with | [_, _], _ => rfl) (fun vs H Q E h => ?_) (fun cdv A outer s H vs Q E tk po hr h => ?_)
  · obtain ⟨_, _, _, _, _, rfl, _⟩ := h
    rfl
  obtain ⟨t, d, hl, Tr, i, rfl, pa, W, hp, k⟩ := h
  refine ⟨_, (pss_cons (ps_set (i := 2) sc_close_file.nd rfl (Or.inl rfl) (pe_callR G_opened (hr.mono (by decide)) rfl (g_opened T) (k_opened T) (pc_of tk) (pa_cons (pv 0) (pa_cons (pv 1) pa_nil))))
    (pss_cons (ps_asg pe_non (pg_sub (pe_fld (pv 0) rfl) (pv 1) set_list))
    (pss_one (ps_if (PW.pt (pw_and (pt_cmpR op_eq (pe_fld (pe_dget (hu_of hr) (pe_fld (pv 0) rfl) (pv 2) (fun _ _ => rfl)) rfl) pe_int (nomark _)) (pw_and1 (pt_not (pt_val (pe_methR (pv 0) T.cT T.m_is_open G_FileTree_is_open (hr.mono (by decide)) (pc_of tk) (pa_cons (pv 2) pa_nil)))))))
    (pss_one (ps_ddel (pe_fld (pv 0) rfl) (pv 2)))
    pss_nil)))), ?_⟩
  refine ⟨_, rfl, _, rfl, t, d, hl, Tr, i, rfl, pa, W, hp, RP.of (fun e he H1 s1 => ?_) (fun n hn0 v H1 s1 rv => ?_)⟩
  · refine k.err (e := e) ?_ s1
    unfold closeS
    rw [he]; rfl
  · subst rv
    obtain ⟨o, kk, hn⟩ := W.opn hn0
    have pa1 := pa.same s1
    obtain ⟨dt, ht⟩ := pa1.tree
    have hlen : (Tr.hs.map hV).length = 16 := by rw [List.length_map]; exact W.hl
    have hS : closeS Tr i = .ok (.none, ⟨if kk = 0 ∧ some n ∉ Tr.hs.set i none then dropN Tr.nodes n else Tr.nodes, Tr.hs.set i none⟩) := by
      unfold closeS
      rw [hn0]
      show Except.ok (_, (⟨if lnk Tr.nodes n = 0 ∧ _ then _ else _, _⟩ : Tm.Tr)) = _
      rw [lnk_eq hn]
    obtain ⟨q1, q2⟩ := PA.seth pa1 (i := i) (o := none)
    refine ⟨_, rfl, t, _, dt, _, _, rfl, ht, T.cT, T.n_handles, tFs_handles _ _, _, rfl, ?_⟩
    refine ⟨hl, _, _, i, rfl, rfl, pa1.hand, Evl.ixN_nat (by rw [hlen]; exact hp), ?_⟩
    refine rd_nodes T q2 (by rfl) (by rfl) hn (fun p np => ?_)
    obtain ⟨dx, bv, hp1, hb⟩ := id np
    refine ⟨p, _, dx, _, _, rfl, hp1, T.cN, T.n_links, nFs_links _ _, rfl, _, rfl, ?_⟩
    refine ite2 (fun c1 => ?_) (fun c1 => ?_)
    · have c1 := eq_int.mp c1
      obtain ⟨dt2, ht2⟩ := q2.tree
      refine ⟨_, rfl, t, dt2, _, rfl, ht2, tFs_no _ _ (by decide +kernel) (by decide +kernel), _, rfl, ?_⟩
      refine ⟨t, d, hl, _, n, rfl, q2, fun H2 s2 => ?_⟩
      refine ⟨_, rfl, ?_⟩
      refine ite2 (fun c2 => ?_) (fun c2 => ?_)
      · refine rm_nodes T (q2.same s2) (by rfl) (by rfl) hn (fun H3 f3 pa3 => ?_)
        rw [if_pos ⟨c1, by simpa using c2⟩] at hS
        exact k.val hS ((Fr.of s1).trans (q1.trans ((Fr.of s2).trans f3.two))) pa3 .non
      · rw [if_neg (fun z => c2 (by simpa using z.2))] at hS
        exact k.val hS ((Fr.of s1).trans (q1.trans (Fr.of s2))) (q2.same s2) .non
    · rw [if_neg (fun z => c1 (eq_int.mpr z.1))] at hS
      exact k.val hS ((Fr.of s1).trans q1) q2 .non
end
end Tm

set_option maxHeartbeats 4000000
namespace Tm
open PySem PySem.Spec PyProof.Rows L2
/-! ### up and down -/
inductive UpN (l : Ns) : Nat → Int → Prop where
  | root : UpN l 0 0
  | up {m : Nat} {c d : Int} {e : List (Str × Int)} {k : Int} {x : Str} : lk l d = some ⟨.ent e, k⟩ → (x, c) ∈ e → UpN l m d → UpN l (m + 1) c
theorem Up.n {l : Ns} {c : Int} (h : Up l c) : ∃ m, UpN l m c := by
  induction h with
  | root => exact ⟨0, .root⟩
  | up h1 h2 _ ih => obtain ⟨m, hm⟩ := ih; exact ⟨m + 1, .up h1 h2 hm⟩
inductive Down (l : Ns) (n : Int) : Int → Prop where
  | refl : Down l n n
  | step {c d : Int} {e : List (Str × Int)} {k : Int} {x : Str} : Down l n d → lk l d = some ⟨.ent e, k⟩ → (x, c) ∈ e → Down l n c
theorem refs_two {c : Int} : ∀ {l : Ns}, (l.map (·.1)).Nodup → ∀ {p q : Int × Nd}, p ∈ l → q ∈ l → p.1 ≠ q.1 → 0 < cnt c p.2.bd → 0 < cnt c q.2.bd → 2 ≤ refs l c
  | a :: r, hd, p, q, hp, hq, ne, h1, h2 => by
    rw [List.map_cons, List.nodup_cons] at hd
    unfold refs
    rcases List.mem_cons.mp hp with e1 | hp <;> rcases List.mem_cons.mp hq with e2 | hq
    · rw [e1, e2] at ne; exact absurd rfl ne
    · rw [e1] at h1; have := refs_pos hq h2; omega
    · rw [e2] at h2; have := refs_pos hp h1; omega
    · have := refs_two hd.2 hp hq ne h1 h2; omega
theorem WF.par {T : Tr} (W : WF T) {c d d' : Int} {e e' : List (Str × Int)} {k k' : Int} {x x' : Str} (hc : isDir T.nodes c = true) (h : lk T.nodes d = some ⟨.ent e, k⟩) (hx : (x, c) ∈ e) (h' : lk T.nodes d' = some ⟨.ent e', k'⟩) (hx' : (x', c) ∈ e') : d = d' := by
  refine Classical.byContradiction fun ne => ?_
  have h2 := refs_two (c := c) W.nd (lk_mem h) (lk_mem h') ne (cnt_pos hx) (cnt_pos hx')
  obtain ⟨ce, ck, hce⟩ := isDir_iff.mp hc
  have h0 := (W.there h hx).1
  have r := W.ref c h0
  rw [hce] at r
  have k1 := (W.ent _ _ _ hce).2.2.1
  have r : (refs T.nodes c : Int) = ck := r
  omega
theorem Down.zero {T : Tr} (W : WF T) {n : Int} : Down T.nodes n 0 ↔ n = 0 := by
  constructor
  · intro h
    cases h with
    | refl => rfl
    | step _ h1 h2 => exact absurd rfl (W.there h1 h2).1
  · intro h; rw [h]; exact .refl
theorem Down.par {T : Tr} (W : WF T) {n c d : Int} {e : List (Str × Int)} {k : Int} {x : Str} (hc : isDir T.nodes c = true) (ne : c ≠ n) (h : lk T.nodes d = some ⟨.ent e, k⟩) (hx : (x, c) ∈ e) : Down T.nodes n c ↔ Down T.nodes n d := by
  constructor
  · intro z
    cases z with
    | refl => exact absurd rfl ne
    | step z1 h1 h2 => rw [W.par hc h hx h1 h2]; exact z1
  · intro z; exact .step z h hx
def replS (l : Ns) (n old : Int) : Option Er := if isDir l old then (if isDir l n then (if 0 < (entOf l old).length then some .ne else none) else some .isd) else if isDir l n then some .nd else none
open Classical in
noncomputable def rnS (T : Tr) (d : Int) (x : Str) (n g : Int) (y : Str) : Except Er (PyData × Tr) := if isDir T.nodes n = true ∧ Down T.nodes n g then .error .wi else match child T.nodes g y with
  | none => if g ≠ d ∧ 64 ≤ (entOf T.nodes g).length then .error .df else .ok (.none, ⟨addE (delE T.nodes d x) g y n, T.hs⟩)
  | some old => if old = n then .ok (.none, T) else match replS T.nodes n old with
    | some e => .error e
    | none => .ok (.none, ⟨loseN ⟨addE (delE T.nodes d x) g y n, T.hs⟩ old, T.hs⟩)
noncomputable def renameS (T : Tr) (p q : Str) : Except Er (PyData × Tr) := mapE (fun z : Int × Str × Int => mapE (fun y : Int × Str => rnS T z.1 z.2.1 z.2.2 y.1 y.2) (placeS T.nodes q)) (entryS T.nodes p)
section
variable {T : Tr} {d : Int} {x : Str} {n g : Int} {y : Str}
theorem rnS_wi (h : isDir T.nodes n = true ∧ Down T.nodes n g) : rnS T d x n g y = .error .wi := by unfold rnS; rw [if_pos h]
theorem rnS_df (h : ¬ (isDir T.nodes n = true ∧ Down T.nodes n g)) (hc : child T.nodes g y = none) (c : g ≠ d ∧ 64 ≤ (entOf T.nodes g).length) : rnS T d x n g y = .error .df := by
  unfold rnS; rw [if_neg h, hc]; exact if_pos c
theorem rnS_none (h : ¬ (isDir T.nodes n = true ∧ Down T.nodes n g)) (hc : child T.nodes g y = none) (c : ¬ (g ≠ d ∧ 64 ≤ (entOf T.nodes g).length)) : rnS T d x n g y = .ok (.none, ⟨addE (delE T.nodes d x) g y n, T.hs⟩) := by
  unfold rnS; rw [if_neg h, hc]; exact if_neg c
theorem rnS_same (h : ¬ (isDir T.nodes n = true ∧ Down T.nodes n g)) (hc : child T.nodes g y = some n) : rnS T d x n g y = .ok (.none, T) := by
  unfold rnS; rw [if_neg h, hc]; exact if_pos rfl
theorem rnS_err {o : Int} {e : Er} (h : ¬ (isDir T.nodes n = true ∧ Down T.nodes n g)) (hc : child T.nodes g y = some o) (c : o ≠ n) (hr : replS T.nodes n o = some e) : rnS T d x n g y = .error e := by
  unfold rnS; rw [if_neg h, hc]; show (if o = n then _ else match replS T.nodes n o with | some e => _ | none => _) = _; rw [if_neg c, hr]
theorem rnS_ok {o : Int} (h : ¬ (isDir T.nodes n = true ∧ Down T.nodes n g)) (hc : child T.nodes g y = some o) (c : o ≠ n) (hr : replS T.nodes n o = none) : rnS T d x n g y = .ok (.none, ⟨loseN ⟨addE (delE T.nodes d x) g y n, T.hs⟩ o, T.hs⟩) := by
  unfold rnS; rw [if_neg h, hc]; show (if o = n then _ else match replS T.nodes n o with | some e => _ | none => _) = _; rw [if_neg c, hr]
end
section
variable {P : Program} {w : World} {K : PySem.W.Frag} {mg : Str → Option Value} {base : Heap}
theorem kvs_keys {H : Hp} : ∀ {kvs : List (Key × V)} {l : Ns}, Paired (KvP K H) kvs l → kvs.map (·.1) = (l.map (·.1)).map Sum.inl
  | _, _, .nil => rfl
  | _, _, .cons r t => by rw [List.map_cons, List.map_cons, List.map_cons, kvs_keys t, r.1]
def spParentOf (K : PySem.W.Frag) : Sp := fun vs H Q _ => ∃ (t d hl : Addr) (T : Tr) (c n : Int) (e : List (Str × Int)) (k : Int) (x : Str), vs = [.ref t, .int c] ∧ PA K H t d hl T ∧ WF T ∧ isDir T.nodes c = true ∧ lk T.nodes n = some ⟨.ent e, k⟩ ∧ (x, c) ∈ e ∧
  ∀ q y H', Same H H' → H' q = some (.tup [.int n, .str y]) → Q (.ref q) H'
-- slots of parent_of: 0 tree, 1 number, 2 directory, 3 name, 4 child
theorem sc_parent_of : FnScope ["tree", "number", "directory", "name", "child"] ["tree", "number"] (defScope s_parent_of) := ⟨rfl, rfl, rfl, by decide +kernel, rfl, by decide +kernel, by decide +kernel⟩
theorem ok_parent_of (T : Tx K mg) : FnR P w K mg base (L2.CX P w) 1 (He.ga K "parent_of") (spParentOf K) := by
  refine mk_fn (df_parent_of T) sc_parent_of (fun _ _ _ _ _ _ us hl => match us, hl with | [_, _], _ => rfl) (fun vs H Q E h => ?_) (fun cdv A outer s H vs Q E tk po hr h => ?_)
  · obtain ⟨_, _, _, _, _, _, _, _, _, rfl, _⟩ := h
    rfl
  obtain ⟨t, d, hl, Tr, c, n, e, kk, x, rfl, pa, W, hcd, hn, hx, k⟩ := h
  refine ⟨_, (pss_cons (ps_for po rfl (pi_list (pe_callB (call_sortedDA rfl) (by rfl) (f_sorted T) (by decide +kernel) (pa_cons (pe_fld (pv 0) rfl) pa_nil))) (pg_name (i := 2) sc_parent_of.nd rfl (Or.inl rfl))
    (pss_one (ps_if (pt_cmpR op_eq (pe_fld (pe_dget (hu_of hr) (pe_fld (pv 0) rfl) (pv 2) (fun _ _ => rfl)) rfl) pe_str (nomark _))
      (pss_one (ps_for po rfl (pi_tup (pe_fld (pe_dget (hu_of hr) (pe_fld (pv 0) rfl) (pv 2) (fun _ _ => rfl)) rfl)) (pg_tup rfl (pgs_cons (pg_name (i := 3) sc_parent_of.nd rfl (Or.inl rfl)) (pgs_cons (pg_name (i := 4) sc_parent_of.nd rfl (Or.inl rfl)) pgs_nil)))
        (pss_one (ps_if (pt_cmpR op_eq (pv 4) (pv 1) (nomark _))
          (pss_one (ps_ret (pe_tup (pa_cons (pv 2) (pa_cons (pv 3) pa_nil)))))
          pss_nil))))
      pss_nil)))
    (pss_one (ps_raise rfl tk (pmk0 (e_NotFound T) rfl)))), ?_⟩
  obtain ⟨dt, ht⟩ := pa.tree
  obtain ⟨kvs, hd1, hd2⟩ := pa.dict
  refine ⟨_, rfl, t, _, dt, _, _, rfl, ht, T.cT, T.n_nodes, tFs_nodes _ _, ?_⟩
  refine ⟨d, kvs, _, rfl, .inl hd1, kvs_keys hd2, by rw [List.length_map]; have := W.len; omega, fun ys a hperm _ ha0 => ?_⟩
  have s1 := same_new (o := .lst (ys.map V.int)) ha0
  refine ⟨a, rfl, ⟨_, SqL.of upd_same⟩, ?_⟩
  refine for_list (K := K) (a := a) (xs := ys.map V.int) (fun i σ H' => ∃ a2 a3 a4, σ = [some (.ref t), some (.int c), a2, a3, a4] ∧ H' = upd H a (.lst (ys.map V.int)) ∧ n ∉ ys.take i) ⟨none, none, none, rfl, rfl, by simp⟩ (fun i σ H' _ ⟨_, _, _, _, eH, _⟩ => by rw [eH]; exact SqL.of upd_same) ?_ ?_
  · rintro i y σ H' hi ⟨a2, a3, a4, rfl, rfl, hno⟩
    obtain ⟨m, hm, rfl⟩ : ∃ m, ys[i]? = some m ∧ y = V.int m := by
      rw [List.getElem?_map] at hi
      cases h1 : ys[i]? with
      | none => rw [h1] at hi; cases hi
      | some q => rw [h1] at hi; exact ⟨q, rfl, (Option.some.inj hi).symm⟩
    have hmem : m ∈ Tr.nodes.map (·.1) := hperm.mem_iff.mp (List.mem_of_getElem? hm)
    obtain ⟨⟨m', nd⟩, hmp, rfl⟩ := List.mem_map.mp hmem
    have hml : lk Tr.nodes m' = some nd := lk_of_mem W.nd hmp
    have step : m' ≠ n → n ∉ ys.take (i + 1) := fun ne z => by
      rw [List.take_succ, hm] at z
      rcases List.mem_append.mp z with z | z
      · exact hno z
      · have : n = m' := by simpa using z
        exact ne this.symm
    have pa1 := pa.same s1
    refine rd_kind (n := m') T pa1 (by rfl) (by rfl) hml ?_
    refine ⟨rfl, _, rfl, ?_⟩
    obtain ⟨b, mk⟩ := nd
    refine ite2 (fun c1 => ?_) (fun c1 => ?_)
    · obtain ⟨e2, he2⟩ := (kind_dir b).mp (eq_str.mp c1)
      subst he2
      obtain ⟨p2, g2, dx, bv, hp2, b2, ps, rfl, hs, hps⟩ := pa1.get hml
      obtain ⟨dt1, ht1⟩ := pa1.tree
      refine ⟨_, rfl, t, _, dt1, _, _, rfl, ht1, T.cT, T.n_nodes, tFs_nodes _ _, _, rfl, d, _, rfl, g2, p2, _, dx, _, _, rfl, hp2, T.cN, T.n_body, nFs_body _ _, b2, rfl, ⟨_, hs⟩, ?_⟩
      refine for_tup (K := K) (a := b2) (xs := ps.map V.ref) (fun j σ H' => ∃ a3 a4, σ = [some (.ref t), some (.int c), some (.int m'), a3, a4] ∧ H' = upd H a (.lst (ys.map V.int)) ∧ ∀ z ∈ e2.take j, z.2 ≠ c) ⟨a3, a4, rfl, rfl, fun z hz => by simp at hz⟩ (fun i σ H' _ ⟨_, _, _, eH, _⟩ => by rw [eH]; exact hs) ?_ ?_
      · rintro j y σ H' hj ⟨a3, a4, rfl, rfl, hno2⟩
        obtain ⟨q, hq, rfl⟩ := ref_at hj
        obtain ⟨en, he, hen⟩ := paired_at hps hq
        refine ⟨q, _, rfl, hen, rfl, _, _, rfl, _, _, rfl, rfl, ?_⟩
        refine ⟨_, rfl, _, rfl, rfl, _, rfl, ?_⟩
        refine ite2 (fun c2 => ?_) (fun c2 => ?_)
        · have c3 : en.2 = c := eq_int.mp c2
          have e3 : m' = n := W.par hcd hml (x := en.1) (by rw [← c3]; exact List.mem_of_getElem? he) hn hx
          refine ⟨_, rfl, _, rfl, (by show 2 ≤ sizeLine; decide), fun r hr0 => ?_⟩
          refine k r en.1 _ (s1.trans (same_new hr0)) ?_
          rw [upd_same, e3]
        · refine ⟨_, _, rfl, rfl, fun z hz => ?_⟩
          rw [List.take_succ, he] at hz
          rcases List.mem_append.mp hz with h1 | h1
          · exact hno2 z h1
          · have e1 : z = en := by simpa using h1
            rw [e1]
            exact fun q => c2 (eq_int.mpr q)
      · rintro σ H' ⟨a3, a4, rfl, rfl, hno2⟩
        refine ⟨_, _, _, rfl, rfl, step fun z => ?_⟩
        rw [List.length_map, paired_len hps, List.take_length] at hno2
        rw [z, hn] at hml
        cases hml
        exact hno2 _ hx rfl
    · refine ⟨_, _, _, rfl, rfl, step fun z => ?_⟩
      rw [z, hn] at hml
      cases hml
      exact c1 (eq_str.mpr rfl)
  · rintro σ H' ⟨a2, a3, a4, rfl, rfl, hno⟩
    rw [List.length_map, List.take_length] at hno
    exact absurd (hperm.mem_iff.mpr (List.mem_map.mpr ⟨_, lk_mem hn, rfl⟩)) hno
open Classical in
def spIsWithin (K : PySem.W.Frag) : Sp := fun vs H Q _ => ∃ (t d hl : Addr) (T : Tr) (g n : Int), vs = [.ref t, .int g, .int n] ∧ PA K H t d hl T ∧ WF T ∧ isDir T.nodes g = true ∧ ∀ b H', Same H H' → (b = true ↔ Down T.nodes n g) → Q (.bl b) H'
-- slots of is_within: 0 tree, 1 directory, 2 number
theorem sc_is_within : FnScope ["tree", "directory", "number"] ["tree", "directory", "number"] (defScope s_is_within) := ⟨rfl, rfl, rfl, by decide +kernel, rfl, by decide +kernel, by decide +kernel⟩
theorem ok_is_within (T : Tx K mg) : FnR P w K mg base (L2.CX P w) 2 (He.ga K "is_within") (spIsWithin K) := by
  have G_parent_of := ok_parent_of (P := P) (w := w) (base := base) T
  refine mk_fn (df_is_within T) sc_is_within (fun _ _ _ _ _ _ us hl => match us, hl with | [_, _, _], _ => rfl) (fun vs H Q E h => ?_) (fun cdv A outer s H vs Q E tk po hr h => ?_)
  · obtain ⟨_, _, _, _, _, _, rfl, _⟩ := h
    rfl
  obtain ⟨t, d, hl, Tr, g, n, rfl, pa, W, hg, k⟩ := h
  refine ⟨_, (pss_cons (ps_while po (pt_cmpR op_ne (pv 1) pe_int (nomark _))
    (pss_cons (ps_if (pt_cmpR op_eq (pv 1) (pv 2) (nomark _))
      (pss_one (ps_ret pe_bl))
      pss_nil)
      (pss_one (ps_set (i := 1) sc_is_within.nd rfl (Or.inl rfl) (pe_ix (ix_tupK (K := K)) (pe_callR G_parent_of (hr.mono (by decide)) rfl (g_parent_of T) (k_parent_of T) (pc_of tk) (pa_cons (pv 0) (pa_cons (pv 1) pa_nil))) pe_int (fun _ _ => rfl))))))
    (pss_one (ps_ret (pe_cmpR op_eq (pv 2) pe_int (nomark _))))), ?_⟩
  obtain ⟨ge, gk, hge⟩ := isDir_iff.mp hg
  obtain ⟨m0, hm0⟩ := (W.ent _ _ _ hge).2.2.2.n
  refine ⟨fun m σ' H' => ∃ (c : Int), σ' = [some (.ref t), some (.int c), some (.int n)] ∧ Same H H' ∧ UpN Tr.nodes m c ∧ isDir Tr.nodes c = true ∧ (Down Tr.nodes n c ↔ Down Tr.nodes n g), ⟨m0, g, rfl, Same.refl _, hm0, hg, Iff.rfl⟩, ?_⟩
  rintro m σ' H' ⟨c, rfl, sm, hm, hc, hd⟩
  have pa1 := pa.same sm
  refine ⟨_, rfl, rfl, _, rfl, ?_⟩
  refine ite2 (fun c1 => ?_) (fun c1 => ?_)
  · have c0 := ne_int.mp c1
    refine ⟨fun σ2 H2 => ∃ m', m' < m ∧ ∃ (c : Int), σ2 = [some (.ref t), some (.int c), some (.int n)] ∧ Same H H2 ∧ UpN Tr.nodes m' c ∧ isDir Tr.nodes c = true ∧ (Down Tr.nodes n c ↔ Down Tr.nodes n g), fun σ2 H2 h => h, ?_⟩
    refine ⟨_, rfl, _, rfl, rfl, _, rfl, ?_⟩
    refine ite2 (fun c2 => ?_) (fun c2 => ?_)
    · have c3 : c = n := eq_int.mp c2
      refine k true H' sm ⟨fun _ => hd.mp ?_, fun _ => rfl⟩
      rw [c3]
      exact .refl
    · have c3 : ¬ c = n := fun z => c2 (eq_int.mpr z)
      cases hm with
      | root => exact absurd rfl c0
      | @up m' _ pd pe pk px h1 h2 h3 =>
        refine ⟨_, rfl, _, rfl, t, d, hl, Tr, c, pd, pe, pk, px, rfl, pa1, W, hc, h1, h2, fun q y H2 s2 hq => ?_⟩
        refine ⟨q, _, 0, _, rfl, rfl, SqT.of hq, atI_nat (j := 0) rfl, m', Nat.lt_succ_self _, pd, rfl, sm.trans s2, h3, isDir_iff.mpr ⟨_, _, h1⟩, (Down.par W hc c3 h1 h2).symm.trans hd⟩
  · have c0 : c = 0 := Classical.byContradiction fun z => c1 (ne_int.mpr z)
    subst c0
    refine ⟨_, rfl, rfl, ?_⟩
    refine k _ H' sm ?_
    rw [eq_int, ← hd, Down.zero W]
def spCheckReplaced (K : PySem.W.Frag) : Sp := fun vs H Q E => ∃ (t d hl : Addr) (T : Tr) (n o : Int) (nd od : Nd), vs = [.ref t, .int n, .int o] ∧ PA K H t d hl T ∧ WF T ∧ lk T.nodes n = some nd ∧ lk T.nodes o = some od ∧ (match replS T.nodes n o with
  | some e => ∀ H', Same H H' → E (.ref (He.ga K e.cls)) none H'
  | none => ∀ H', Same H H' → Q .non H')
-- slots of check_replaced: 0 tree, 1 number, 2 old
theorem sc_check_replaced : FnScope ["tree", "number", "old"] ["tree", "number", "old"] (defScope s_check_replaced) := ⟨rfl, rfl, rfl, by decide +kernel, rfl, by decide +kernel, by decide +kernel⟩
theorem ok_check_replaced (T : Tx K mg) : FnR P w K mg base (L2.CX P w) 2 (He.ga K "check_replaced") (spCheckReplaced K) := by
  have G_Node_measure := ok_Node_measure (P := P) (w := w) (base := base) T
  refine mk_fn (df_check_replaced T) sc_check_replaced (fun _ _ _ _ _ _ us hl => match us, hl with | [_, _, _], _ => rfl) (fun vs H Q E h => ?_) (fun cdv A outer s H vs Q E tk po hr h => ?_)
  · obtain ⟨_, _, _, _, _, _, _, _, rfl, _⟩ := h
    rfl
  obtain ⟨t, d, hl, Tr, n, o, nd, od, rfl, pa, W, hn, ho, k⟩ := h
  refine ⟨_, (pss_one (ps_if (pt_cmpR op_eq (pe_fld (pe_dget (hu_of hr) (pe_fld (pv 0) rfl) (pv 2) (fun _ _ => rfl)) rfl) pe_str (nomark _))
    (pss_cons (ps_if (pt_cmpR op_ne (pe_fld (pe_dget (hu_of hr) (pe_fld (pv 0) rfl) (pv 1) (fun _ _ => rfl)) rfl) pe_str (nomark _))
      (pss_one (ps_raise rfl tk (pmk0 (e_IsDirectory T) rfl)))
      pss_nil)
      (pss_one (ps_if (pt_cmpR op_gt (pe_methR0 (pe_dget (hu_of hr) (pe_fld (pv 0) rfl) (pv 2) (fun _ _ => rfl)) T.cN T.m_measure G_Node_measure (hr.mono (by decide)) (pc_of tk)) pe_int (nomark _))
      (pss_one (ps_raise rfl tk (pmk0 (e_NotEmpty T) rfl)))
      pss_nil)))
    (pss_one (ps_if (pt_cmpR op_eq (pe_fld (pe_dget (hu_of hr) (pe_fld (pv 0) rfl) (pv 1) (fun _ _ => rfl)) rfl) pe_str (nomark _))
      (pss_one (ps_raise rfl tk (pmk0 (e_NotDirectory T) rfl)))
      pss_nil)))), ?_⟩
  refine rd_kind T pa (by rfl) (by rfl) ho ?_
  refine ⟨rfl, _, rfl, ?_⟩
  refine ite2 (fun c1 => ?_) (fun c1 => ?_)
  · have c1 := eq_str.mp c1
    have d1 : isDir Tr.nodes o = true := (isDir_of ho).mpr c1
    obtain ⟨e, he⟩ := (kind_dir od.bd).mp c1
    obtain ⟨ob, ok⟩ := od
    have he : ob = .ent e := he
    subst he
    have hlen := (W.ent _ _ _ ho).2.1
    refine rd_kind T pa (by rfl) (by rfl) hn ?_
    refine ⟨rfl, _, rfl, ?_⟩
    refine ite2 (fun c2 => ?_) (fun c2 => ?_)
    · have d2 : ¬ isDir Tr.nodes n = true := fun z => ne_str.mp c2 ((isDir_of hn).mp z)
      unfold replS at k
      rw [if_pos d1, if_neg d2] at k
      exact k H (Same.refl _)
    · have d2 : isDir Tr.nodes n = true := (isDir_of hn).mpr (Classical.byContradiction fun z => c2 (ne_str.mpr z))
      refine rd_nodes T pa (by rfl) (by rfl) ho (fun p2 np => ?_)
      obtain ⟨dx, bv, hp1, hb⟩ := id np
      refine ⟨p2, dx, _, rfl, hp1, nFs_no _ _ (by decide +kernel) (by decide +kernel) (by decide +kernel), ?_⟩
      refine ⟨p2, _, rfl, np, (by show e.length ≤ 30000; omega), fun H2 s2 => ?_⟩
      refine ⟨_, _, rfl, rfl, _, rfl, ?_⟩
      unfold replS at k
      rw [if_pos d1, if_pos d2, entOf_eq ho] at k
      refine ite2 (fun c3 => ?_) (fun c3 => ?_)
      · have c4 : (0 : Int) < (e.length : Nat) := of_decide_eq_true c3
        rw [if_pos (by omega)] at k
        exact k H2 s2
      · have c4 : ¬ (0 : Int) < (e.length : Nat) := fun z => c3 (decide_eq_true z)
        rw [if_neg (by omega)] at k
        exact k H2 s2
  · have d1 : ¬ isDir Tr.nodes o = true := fun z => c1 (eq_str.mpr ((isDir_of ho).mp z))
    refine rd_kind T pa (by rfl) (by rfl) hn ?_
    refine ⟨rfl, _, rfl, ?_⟩
    unfold replS at k
    rw [if_neg d1] at k
    refine ite2 (fun c2 => ?_) (fun c2 => ?_)
    · rw [if_pos ((isDir_of hn).mpr (eq_str.mp c2))] at k
      exact k H (Same.refl _)
    · rw [if_neg (fun z => c2 (eq_str.mpr ((isDir_of hn).mp z)))] at k
      exact k H (Same.refl _)
def spRename (K : PySem.W.Frag) : Sp := fun vs H Q E => ∃ (t d hl : Addr) (T : Tr) (p g : Str), vs = [.ref t, .str p, .str g] ∧ PA K H t d hl T ∧ WF T ∧ p ∈ pathL ∧ g ∈ pathL ∧ MP K t d hl (renameS T p g) H Q E
-- slots of rename: 0 tree, 1 source, 2 target, 3 directory, 4 name, 5 number, 6 goal, 7 new_name, 8 old
theorem sc_rename : FnScope ["tree", "source", "target", "directory", "name", "number", "goal", "new_name", "old"] ["tree", "source", "target"] (defScope s_rename) := ⟨rfl, rfl, rfl, by decide +kernel, rfl, by decide +kernel, by decide +kernel⟩
theorem ok_rename (T : Tx K mg) : FnR P w K mg base (L2.CX P w) 5 (He.ga K "rename") (spRename K) := by
  have G_entry_of := ok_entry_of (P := P) (w := w) (base := base) T
  have G_place_of := ok_place_of (P := P) (w := w) (base := base) T
  have G_FileTree_entry := ok_FileTree_entry (P := P) (w := w) (base := base) T
  have G_remove_entry := ok_remove_entry (P := P) (w := w) (base := base) T
  have G_add_entry := ok_add_entry (P := P) (w := w) (base := base) T
  have G_is_within := ok_is_within (P := P) (w := w) (base := base) T
  have G_drop_name := ok_drop_name (P := P) (w := w) (base := base) T
  have G_is_full := ok_is_full (P := P) (w := w) (base := base) T
  have G_check_replaced := ok_check_replaced (P := P) (w := w) (base := base) T
  refine mk_fn (df_rename T) sc_rename (fun _ _ _ _ _ _ us hl => match us, hl with | [_, _, _], _ => rfl) (fun vs H Q E h => ?_) (fun cdv A outer s H vs Q E tk po hr h => ?_)
  · obtain ⟨_, _, _, _, _, _, rfl, _⟩ := h
    rfl
  obtain ⟨t, d, hl, Tr, p, g, rfl, pa, W, hp, hg, k⟩ := h
  refine ⟨_, (pss_cons (ps_asg (pe_callR G_entry_of (hr.mono (by decide)) rfl (g_entry_of T) (k_entry_of T) (pc_of tk) (pa_cons (pv 0) (pa_cons (pv 1) pa_nil))) (pg_tup rfl (pgs_cons (pg_name (i := 3) sc_rename.nd rfl (Or.inl rfl)) (pgs_cons (pg_name (i := 4) sc_rename.nd rfl (Or.inl rfl)) (pgs_cons (pg_name (i := 5) sc_rename.nd rfl (Or.inl rfl)) pgs_nil)))))
    (pss_cons (ps_asg (pe_callR G_place_of (hr.mono (by decide)) rfl (g_place_of T) (k_place_of T) (pc_of tk) (pa_cons (pv 0) (pa_cons (pv 2) pa_nil))) (pg_tup rfl (pgs_cons (pg_name (i := 6) sc_rename.nd rfl (Or.inl rfl)) (pgs_cons (pg_name (i := 7) sc_rename.nd rfl (Or.inl rfl)) pgs_nil))))
    (Evl.pss_cut (ps_if (PW.pt (pw_and (pt_cmpR op_eq (pe_fld (pe_dget (hu_of hr) (pe_fld (pv 0) rfl) (pv 5) (fun _ _ => rfl)) rfl) pe_str (nomark _)) (pw_and1 (pt_val (pe_callR G_is_within (hr.mono (by decide)) rfl (g_is_within T) (k_is_within T) (pc_of tk) (pa_cons (pv 0) (pa_cons (pv 6) (pa_cons (pv 5) pa_nil))))))))
    (pss_one (ps_raise rfl tk (pmk0 (e_WithinItself T) rfl)))
    pss_nil)
    (pss_cons (ps_set (i := 8) sc_rename.nd rfl (Or.inl rfl) (pe_methR (pv 0) T.cT T.m_entry G_FileTree_entry (hr.mono (by decide)) (pc_of tk) (pa_cons (pv 6) (pa_cons (pv 7) pa_nil))))
    (Evl.pss_cut (ps_if (pt_cmpR op_isN (pv 8) pe_non (nomark _))
    (pss_one (ps_if (PW.pt (pw_and (pt_cmpR op_ne (pv 6) (pv 3) (nomark _)) (pw_and1 (pt_val (pe_callR G_is_full (hr.mono (by decide)) rfl (g_is_full T) (k_is_full T) (pc_of tk) (pa_cons (pv 0) (pa_cons (pv 6) pa_nil)))))))
      (pss_one (ps_raise rfl tk (pmk0 (e_DirectoryFull T) rfl)))
      pss_nil))
    (pss_one (ps_if (pt_cmpR op_ne (pv 8) (pv 5) (nomark _))
      (pss_one (ps_expr (pe_callR G_check_replaced (hr.mono (by decide)) rfl (g_check_replaced T) (k_check_replaced T) (pc_of tk) (pa_cons (pv 0) (pa_cons (pv 5) (pa_cons (pv 8) pa_nil))))))
      pss_nil)))
    (pss_cons (ps_if (pt_cmpR op_eq (pv 8) (pv 5) (nomark _))
    (pss_one ps_retN)
    pss_nil)
    (pss_cons (ps_expr (pe_callR G_remove_entry (hr.mono (by decide)) rfl (g_remove_entry T) (k_remove_entry T) (pc_of tk) (pa_cons (pv 0) (pa_cons (pv 3) (pa_cons (pv 4) pa_nil)))))
    (pss_cons (ps_expr (pe_callR G_add_entry (hr.mono (by decide)) rfl (g_add_entry T) (k_add_entry T) (pc_of tk) (pa_cons (pv 0) (pa_cons (pv 6) (pa_cons (pv 7) (pa_cons (pv 5) pa_nil))))))
    (pss_one (ps_if (pt_cmpR op_notN (pv 8) pe_non (nomark _))
    (pss_one (ps_expr (pe_callR G_drop_name (hr.mono (by decide)) rfl (g_drop_name T) (k_drop_name T) (pc_of tk) (pa_cons (pv 0) (pa_cons (pv 8) pa_nil)))))
    pss_nil)))))))))), ?_⟩
  refine ⟨_, rfl, _, rfl, t, d, hl, Tr, p, rfl, pa, W, hp, RP.of (fun e he H1 s1 => ?_) (fun z hz v H1 s1 rv => ?_)⟩
  · refine k.err (e := e) ?_ s1
    unfold renameS
    rw [he]; rfl
  · obtain ⟨dn, x, n⟩ := z
    obtain ⟨q, rfl, hq⟩ := rv
    refine ⟨q, _, rfl, SqT.of hq, rfl, _, _, rfl, _, _, rfl, _, _, rfl, rfl, ?_⟩
    refine ⟨_, rfl, _, rfl, t, d, hl, Tr, g, rfl, pa.same s1, W, hg, RP.of (fun e he H2 s2 => ?_) (fun z hz2 v H2 s2 rv => ?_)⟩
    · refine k.err (e := e) ?_ (s1.trans s2)
      unfold renameS
      rw [hz, he]; rfl
    · obtain ⟨gn, y⟩ := z
      obtain ⟨q2, rfl, hq2⟩ := rv
      have s3 := s1.trans s2
      have pa2 := pa.same s3
      obtain ⟨e1, e2⟩ := entry_parts hz
      obtain ⟨de, dk, hdn⟩ := place_dir e1
      obtain ⟨ge, gk, hgn⟩ := place_dir hz2
      obtain ⟨_, nd, hn⟩ := entry_there W hz
      have dlen := (W.ent _ _ _ hdn).2.1
      have glen := (W.ent _ _ _ hgn).2.1
      have gdir : isDir Tr.nodes gn = true := isDir_iff.mpr ⟨_, _, hgn⟩
      refine ⟨q2, _, rfl, SqT.of hq2, rfl, _, _, rfl, _, _, rfl, rfl, ?_⟩
      have hS : renameS Tr p g = rnS Tr dn x n gn y := by
        unfold renameS
        rw [hz, hz2]
        rfl
      have hce := child_ent (x := y) hgn
      have hee := entOf_eq hgn
      refine ⟨fun σ' H' => σ' = [some (.ref t), some (.str p), some (.str g), some (.int dn), some (.str x), some (.int n), some (.int gn), some (.str y), none] ∧ Same H H' ∧ ¬ (isDir Tr.nodes n = true ∧ Down Tr.nodes n gn), ?_, ?_⟩
      · refine rd_kind T pa2 (by rfl) (by rfl) hn ?_
        refine ⟨rfl, _, rfl, ?_⟩
        refine ite2 (fun c => ?_) (fun c => ?_)
        · refine ⟨_, rfl, _, rfl, _, rfl, t, d, hl, Tr, gn, n, rfl, pa2, W, gdir, fun b H3 s4 hb => ?_⟩
          refine ⟨_, rfl, ?_⟩
          refine ite2 (fun c2 => ?_) (fun c2 => ?_)
          · refine k.err (e := .wi) ?_ (s3.trans s4)
            rw [hS, rnS_wi ⟨(isDir_of hn).mpr (eq_str.mp c), hb.mp c2⟩]
          · exact ⟨rfl, s3.trans s4, fun z => c2 (hb.mpr z.2)⟩
        · exact ⟨rfl, s3, fun z => c (eq_str.mpr ((isDir_of hn).mp z.1))⟩
      · rintro σ' H' ⟨rfl, s4, hw⟩
        have pa4 := pa.same s4
        obtain ⟨dt, ht⟩ := pa4.tree
        refine ⟨_, rfl, t, dt, _, rfl, ht, tFs_no _ _ (by decide +kernel) (by decide +kernel), _, rfl, _, rfl, ?_⟩
        refine ⟨t, d, hl, Tr, gn, y, ge, gk, rfl, pa4, hgn, fun H5 s5 => ?_⟩
        have s6 := s4.trans s5
        have pa6 := pa.same s6
        have hold : ∀ o, childL ge y = some o → ∃ od, lk Tr.nodes o = some od := fun o ho => (W.there hgn (childL_mem ho)).2
        refine ⟨fun σ' H' => σ' = [some (.ref t), some (.str p), some (.str g), some (.int dn), some (.str x), some (.int n), some (.int gn), some (.str y), some (hV (childL ge y))] ∧ Same H H' ∧ (match childL ge y with
          | none => ¬ (gn ≠ dn ∧ 64 ≤ ge.length)
          | some o => o ≠ n → replS Tr.nodes n o = none), ?_, ?_⟩
        · cases hc : childL ge y with
          | none =>
            refine ⟨_, rfl, rfl, _, rfl, ?_⟩
            refine ite2 (fun _ => ?_) (fun c => absurd ((is_non none).mpr rfl) c)
            refine ⟨_, rfl, _, rfl, rfl, _, rfl, ?_⟩
            refine ite2 (fun c => ?_) (fun c => ?_)
            · have c1 := ne_int.mp c
              refine ⟨_, rfl, _, rfl, t, d, hl, Tr, gn, ge, gk, rfl, pa6, hgn, by omega, fun H7 s7 => ?_⟩
              refine ⟨_, rfl, ?_⟩
              refine ite2 (fun c2 => ?_) (fun c2 => ?_)
              · refine k.err (e := .df) ?_ (s6.trans s7)
                rw [hS, rnS_df hw (hce.trans hc) ⟨c1, by rw [hee]; exact of_decide_eq_true c2⟩]
              · exact ⟨rfl, s6.trans s7, fun z => c2 (decide_eq_true z.2)⟩
            · exact ⟨rfl, s6, fun z => c (ne_int.mpr z.1)⟩
          | some o =>
            obtain ⟨od, ho⟩ := hold o hc
            refine ⟨_, rfl, rfl, _, rfl, ?_⟩
            refine ite2 (fun c => absurd ((is_non (some o)).mp c) (by simp)) (fun _ => ?_)
            refine ⟨_, rfl, _, rfl, rfl, _, rfl, ?_⟩
            refine ite2 (fun c => ?_) (fun c => ?_)
            · have c1 : o ≠ n := ne_int.mp c
              refine ⟨_, rfl, _, rfl, _, rfl, t, d, hl, Tr, n, o, nd, od, rfl, pa6, W, hn, ho, ?_⟩
              cases hr2 : replS Tr.nodes n o with
              | none => exact fun H7 s7 => ⟨rfl, s6.trans s7, fun _ => hr2⟩
              | some e =>
                refine fun H7 s7 => k.err (e := e) ?_ (s6.trans s7)
                rw [hS, rnS_err hw (hce.trans hc) c1 hr2]
            · exact ⟨rfl, s6, fun z => absurd (ne_int.mpr z) c⟩
        · rintro σ' H' ⟨rfl, s7, hcond⟩
          have pa7 := pa.same s7
          have alen := addE_len (l := delE Tr.nodes dn x) (n := gn) (x := y) (c := n)
          have elen := delE_len (l := Tr.nodes) (n := dn) (x := x)
          have wlen := W.len
          obtain ⟨ge2, gk2, hgn2, glen2⟩ : ∃ ge2 gk2, lk (delE Tr.nodes dn x) gn = some ⟨.ent ge2, gk2⟩ ∧ ge2.length ≤ 64 := by
            unfold delE
            rw [lk_put]
            by_cases q : gn = dn
            · refine ⟨_, _, if_pos q, ?_⟩
              rw [entOf_eq hdn]
              exact Nat.le_trans (List.length_filter_le _ _) dlen
            · exact ⟨ge, gk, by rw [if_neg q]; exact hgn, glen⟩
          cases hc : childL ge y with
          | none =>
            rw [hc] at hcond
            refine ⟨_, rfl, _, rfl, rfl, _, rfl, ?_⟩
            refine ite2 (fun c => (nomatch (of_decide_eq_true c : V.non = V.int n))) (fun _ => ?_)
            have hS : renameS Tr p g = .ok (.none, ⟨addE (delE Tr.nodes dn x) gn y n, Tr.hs⟩) := by
              rw [hS, rnS_none hw (hce.trans hc) (by rw [hee]; exact hcond)]
            refine ⟨_, rfl, _, rfl, _, rfl, t, d, hl, Tr, dn, x, de, dk, rfl, pa7, hdn, by omega, by omega, fun H8 f8 pa8 => ?_⟩
            refine ⟨_, rfl, _, rfl, _, rfl, _, rfl, t, d, hl, _, gn, y, n, ge2, gk2, rfl, pa8, hgn2, by omega, by show (delE Tr.nodes dn x).length < 1000; omega, fun H9 f9 pa9 => ?_⟩
            refine ⟨_, rfl, rfl, _, rfl, ?_⟩
            refine ite2 (fun c => absurd rfl ((not_non none).mp c)) (fun _ => ?_)
            exact k.val hS ((Fr.of s7).trans (f8.trans f9).two) pa9 .non
          | some o =>
            rw [hc] at hcond
            refine ⟨_, rfl, _, rfl, rfl, _, rfl, ?_⟩
            refine ite2 (fun c => ?_) (fun c => ?_)
            · have c1 : o = n := eq_int.mp c
              have hS : renameS Tr p g = .ok (.none, Tr) := by
                rw [hS, rnS_same hw (by rw [hce, hc, c1])]
              exact k.val hS (Fr.of s7) pa7 .non
            · have c1 : ¬ o = n := fun z => c (eq_int.mpr z)
              have hS : renameS Tr p g = .ok (.none, ⟨loseN ⟨addE (delE Tr.nodes dn x) gn y n, Tr.hs⟩ o, Tr.hs⟩) := by
                rw [hS, rnS_ok hw (hce.trans hc) c1 (hcond c1)]
              refine ⟨_, rfl, _, rfl, _, rfl, t, d, hl, Tr, dn, x, de, dk, rfl, pa7, hdn, by omega, by omega, fun H8 f8 pa8 => ?_⟩
              refine ⟨_, rfl, _, rfl, _, rfl, _, rfl, t, d, hl, _, gn, y, n, ge2, gk2, rfl, pa8, hgn2, by omega, by show (delE Tr.nodes dn x).length < 1000; omega, fun H9 f9 pa9 => ?_⟩
              refine ⟨_, rfl, rfl, _, rfl, ?_⟩
              refine ite2 (fun _ => ?_) (fun c => absurd ((not_non (some o)).mpr (by simp)) c)
              obtain ⟨od, ho⟩ := hold o hc
              have nc : ∃ od2, lk (addE (delE Tr.nodes dn x) gn y n) o = some od2 := by
                unfold addE delE
                rw [lk_put]
                by_cases q : o = gn
                · exact ⟨_, if_pos q⟩
                · rw [if_neg q, lk_put]
                  by_cases q : o = dn
                  · exact ⟨_, if_pos q⟩
                  · exact ⟨_, by rw [if_neg q]; exact ho⟩
              obtain ⟨od2, ho2⟩ := nc
              refine ⟨_, rfl, _, rfl, t, d, hl, _, o, od2, rfl, pa9, ho2, by show (addE (delE Tr.nodes dn x) gn y n).length < 1000; omega, fun H10 f10 pa10 => ?_⟩
              exact k.val hS ((Fr.of s7).trans ((f8.trans f9).trans f10).two) pa10 .non
end
end Tm

set_option maxHeartbeats 4000000
namespace Tm
open PySem PySem.Spec PyProof.Rows L2
inductive Op where
  | mkdir (p : Str) | rmdir (p : Str) | write (p : Str) (off : Nat) (oct : List Int) | read (p : Str) (off len : Nat) | truncate (p : Str) (len : Nat) | rename (p q : Str) | link (p q : Str) | unlink (p : Str)
  | symlink (g p : Str) | readlink (p : Str) | readdir (p : Str) | stat (p : Str) | lstat (p : Str) | openF (p : Str) | closeF (h : Nat) | readAt (h off len : Nat) | writeAt (h off : Nat) (oct : List Int) | resize (h len : Nat) | statAt (h : Nat)
def Op.word : Op → Str
  | .mkdir _ => "mkdir" | .rmdir _ => "rmdir" | .write _ _ _ => "write" | .read _ _ _ => "read" | .truncate _ _ => "truncate" | .rename _ _ => "rename" | .link _ _ => "link" | .unlink _ => "unlink"
  | .symlink _ _ => "symlink" | .readlink _ => "readlink" | .readdir _ => "readdir" | .stat _ => "stat" | .lstat _ => "lstat" | .openF _ => "open_file" | .closeF _ => "close_file" | .readAt _ _ _ => "read_at"
  | .writeAt _ _ _ => "write_at" | .resize _ _ => "resize" | .statAt _ => "stat_at"
/-- the arguments, as they stand -/
def OpA (K : PySem.W.Frag) (H : Hp) : Op → List V → Prop
  | .mkdir p, vs => vs = [.str p]
  | .rmdir p, vs => vs = [.str p]
  | .write p off oct, vs => ∃ o, vs = [.str p, .int off, .ref o] ∧ H o = some (.lst (oct.map V.int))
  | .read p off len, vs => vs = [.str p, .int off, .int len]
  | .truncate p len, vs => vs = [.str p, .int len]
  | .rename p q, vs => vs = [.str p, .str q]
  | .link p q, vs => vs = [.str p, .str q]
  | .unlink p, vs => vs = [.str p]
  | .symlink g p, vs => vs = [.str g, .str p]
  | .readlink p, vs => vs = [.str p]
  | .readdir p, vs => vs = [.str p]
  | .stat p, vs => vs = [.str p]
  | .lstat p, vs => vs = [.str p]
  | .openF p, vs => vs = [.str p]
  | .closeF h, vs => vs = [.int h]
  | .readAt h off len, vs => vs = [.int h, .int off, .int len]
  | .writeAt h off oct, vs => ∃ o, vs = [.int h, .int off, .ref o] ∧ H o = some (.lst (oct.map V.int))
  | .resize h len, vs => vs = [.int h, .int len]
  | .statAt h, vs => vs = [.int h]
def Op.good : Op → Prop
  | .mkdir p => p ∈ pathL
  | .rmdir p => p ∈ pathL
  | .write p off oct => p ∈ pathL ∧ off ≤ 28672 ∧ oct.length ≤ 10000
  | .read p off len => p ∈ pathL ∧ off ≤ 28672 ∧ len ≤ 28672
  | .truncate p len => p ∈ pathL ∧ len ≤ 28672
  | .rename p q => p ∈ pathL ∧ q ∈ pathL
  | .link p q => p ∈ pathL ∧ q ∈ pathL
  | .unlink p => p ∈ pathL
  | .symlink g p => g ∈ tgtL ∧ p ∈ pathL
  | .readlink p => p ∈ pathL
  | .readdir p => p ∈ pathL
  | .stat p => p ∈ pathL
  | .lstat p => p ∈ pathL
  | .openF p => p ∈ pathL
  | .closeF h => h < 16
  | .readAt h off len => h < 16 ∧ off ≤ 28672 ∧ len ≤ 28672
  | .writeAt h off oct => h < 16 ∧ off ≤ 28672 ∧ oct.length ≤ 10000
  | .resize h len => h < 16 ∧ len ≤ 28672
  | .statAt h => h < 16
def still (T : Tr) (r : Except Er PyData) : Except Er (PyData × Tr) := mapE (fun D => .ok (D, T)) r
noncomputable def stepS (T : Tr) : Op → Except Er (PyData × Tr)
  | .mkdir p => newS T p (.ent [])
  | .rmdir p => rmdirS T p
  | .write p off oct => writeS T p off oct
  | .read p off len => still T (readS T.nodes p off len)
  | .truncate p len => truncS T p len
  | .rename p q => renameS T p q
  | .link p q => linkS T p q
  | .unlink p => unlinkS T p
  | .symlink g p => newS T p (.tgt g)
  | .readlink p => still T (readlinkS T.nodes p)
  | .readdir p => still T (readdirS T.nodes p)
  | .stat p => still T (statS T.nodes p)
  | .lstat p => still T (lstatS T.nodes p)
  | .openF p => openFileS T p
  | .closeF h => closeS T h
  | .readAt h off len => still T (readAtS T h off len)
  | .writeAt h off oct => writeAtS T h off oct
  | .resize h len => resizeS T h len
  | .statAt h => still T (statAtS T h)
theorem ix_kdictK {X : Cx} {K : PySem.W.Frag} {w : World} (h : X.K = K := by rfl) (h2 : X.w = w := by rfl) : IxR X (rIxD K w) := by
  subst h h2
  exact ix_kdict
/-- the table of the actions -/
def Acts (K : PySem.W.Frag) (w : World) : Prop := ∀ o : Op, KDct K w (He.ga K "ACTIONS") o.word (.ref (He.ga K o.word))
section
variable {P : Program} {w : World} {K : PySem.W.Frag} {mg : Str → Option Value} {base : Heap}
theorem MP.mp0 {t d hl : Addr} {T : Tr} {r : Except Er PyData} {H : Hp} {Q : VK} {E : XK} (k : MP K t d hl (still T r) H Q E) (pa : PA K H t d hl T) : RP K r (fun z v H' => Dp K H' v z) H Q E :=
  RP.of (fun e he H1 s1 => k.err (e := e) (by rw [he]; rfl) s1) (fun z hz v H1 s1 dv => k.val (z := (z, T)) (by rw [hz]; rfl) (Fr.of s1) (pa.same s1) dv)
def spMakeOp (K : PySem.W.Frag) : Sp := fun vs H Q E => ∃ (t d hl a : Addr) (T : Tr) (o : Op) (xs : List V), vs = [.ref t, .ref a] ∧ PA K H t d hl T ∧ WF T ∧ SqT K H a (.str o.word :: xs) ∧ OpA K H o xs ∧ o.good ∧ MP K t d hl (stepS T o) H Q E
theorem OpA.same {H H' : Hp} {o : Op} {xs : List V} (s : Same H H') (h : OpA K H o xs) : OpA K H' o xs := by
  cases o <;> first | exact h | (obtain ⟨b, e, h⟩ := h; exact ⟨b, e, s _ _ h⟩)
-- slots of make_operation: 0 tree, 1 operation, 2 action, 3 rest
theorem sc_make_operation : FnScope ["tree", "operation", "action", "rest"] ["tree", "operation"] (defScope s_make_operation) := ⟨rfl, rfl, rfl, by decide +kernel, rfl, by decide +kernel, by decide +kernel⟩
theorem ok_make_operation (T : Tx K mg) (Ac : Acts K w) : FnR P w K mg base (L2.CX P w) 8 (He.ga K "make_operation") (spMakeOp K) := by
  refine mk_fn (df_make_operation T) sc_make_operation (fun _ _ _ _ _ _ us hl => match us, hl with | [_, _], _ => rfl) (fun vs H Q E h => ?_) (fun cdv A outer s H vs Q E tk po hr h => ?_)
  · obtain ⟨_, _, _, _, _, _, _, rfl, _⟩ := h
    rfl
  obtain ⟨t, d, hl, a, Tr, o, xs, rfl, pa, W, ha, hA, hg, k⟩ := h
  refine ⟨_, (pss_cons (ps_set (i := 2) sc_make_operation.nd rfl (Or.inl rfl) (pe_ix (ix_kdictK (K := K) (w := w)) (pe_glob (v := .ref (He.ga K "ACTIONS")) rfl T.gActions rfl) (pe_ix (ix_tupK (K := K)) (pv 1) pe_int (fun _ _ => rfl)) (fun _ _ => rfl)))
    (pss_cons (ps_set (i := 3) sc_make_operation.nd rfl (Or.inl rfl) (pe_slice sl_tupA (pv 1) (po_some pe_int) po_none))
    (pss_one (ps_ret (pe_callLS (i := 2) (pc_of tk) rfl (Or.inl rfl) (pa_cons (pv 0) (StX.pa_star (pv 3) pa_nil))))))), ?_⟩
  refine ⟨_, rfl, a, _, 0, _, rfl, rfl, ha, atI_nat (j := 0) rfl, ?_⟩
  refine ⟨_, _, _, rfl, rfl, Ac o, ?_⟩
  refine ⟨_, rfl, _, rfl, ?_⟩
  dsimp only [tNoPart]
  refine rd_slT ha (fun b H1 s1 hb => ?_)
  have hcut : cutV (V.str o.word :: xs) (some 1) none = xs := cutV_from _ 1
  rw [hcut] at hb
  have pa1 := pa.same s1
  have hA1 := hA.same s1
  have k1 : MP K t d hl (stepS Tr o) H1 Q E := MP.of (fun e he H2 s2 => k.err he (s1.trans s2)) (fun z hz v H2 f2 pa2 dv => k.val hz ((Fr.of s1).trans f2) pa2 dv)
  cases o with
  | mkdir p =>
    have e : xs = [.str p] := hA1
    subst e
    refine ⟨_, _, _, rfl, k_mkdir T, ok_mkdir (P := P) (w := w) (base := base) T, hr.mono (by decide), _, rfl, _, rfl, b, _, rfl, .inl hb, ?_⟩
    exact ⟨t, d, hl, Tr, p, rfl, pa1, W, hg, k1⟩
  | rmdir p =>
    have e : xs = [.str p] := hA1
    subst e
    refine ⟨_, _, _, rfl, k_rmdir T, ok_rmdir (P := P) (w := w) (base := base) T, hr.mono (by decide), _, rfl, _, rfl, b, _, rfl, .inl hb, ?_⟩
    exact ⟨t, d, hl, Tr, p, rfl, pa1, W, hg, k1⟩
  | write p off oct =>
    obtain ⟨oa, e, ho⟩ := hA1
    subst e
    refine ⟨_, _, _, rfl, k_write T, ok_write (P := P) (w := w) (base := base) T, hr.mono (by decide), _, rfl, _, rfl, b, _, rfl, .inl hb, ?_⟩
    exact ⟨t, d, hl, Tr, p, off, oa, oct, rfl, pa1, W, hg.1, SqL.of ho, hg.2.1, hg.2.2, k1⟩
  | read p off len =>
    have e : xs = [.str p, .int off, .int len] := hA1
    subst e
    refine ⟨_, _, _, rfl, k_read T, ok_read (P := P) (w := w) (base := base) T, hr.mono (by decide), _, rfl, _, rfl, b, _, rfl, .inl hb, ?_⟩
    exact ⟨t, d, hl, Tr, p, off, len, rfl, pa1, W, hg.1, k1.mp0 pa1⟩
  | truncate p len =>
    have e : xs = [.str p, .int len] := hA1
    subst e
    refine ⟨_, _, _, rfl, k_truncate T, ok_truncate (P := P) (w := w) (base := base) T, hr.mono (by decide), _, rfl, _, rfl, b, _, rfl, .inl hb, ?_⟩
    exact ⟨t, d, hl, Tr, p, len, rfl, pa1, W, hg.1, hg.2, k1⟩
  | rename p q =>
    have e : xs = [.str p, .str q] := hA1
    subst e
    refine ⟨_, _, _, rfl, k_rename T, ok_rename (P := P) (w := w) (base := base) T, hr.mono (by decide), _, rfl, _, rfl, b, _, rfl, .inl hb, ?_⟩
    exact ⟨t, d, hl, Tr, p, q, rfl, pa1, W, hg.1, hg.2, k1⟩
  | link p q =>
    have e : xs = [.str p, .str q] := hA1
    subst e
    refine ⟨_, _, _, rfl, k_link T, ok_link (P := P) (w := w) (base := base) T, hr.mono (by decide), _, rfl, _, rfl, b, _, rfl, .inl hb, ?_⟩
    exact ⟨t, d, hl, Tr, p, q, rfl, pa1, W, hg.1, hg.2, k1⟩
  | unlink p =>
    have e : xs = [.str p] := hA1
    subst e
    refine ⟨_, _, _, rfl, k_unlink T, ok_unlink (P := P) (w := w) (base := base) T, hr.mono (by decide), _, rfl, _, rfl, b, _, rfl, .inl hb, ?_⟩
    exact ⟨t, d, hl, Tr, p, rfl, pa1, W, hg, k1⟩
  | symlink g p =>
    have e : xs = [.str g, .str p] := hA1
    subst e
    refine ⟨_, _, _, rfl, k_symlink T, ok_symlink (P := P) (w := w) (base := base) T, hr.mono (by decide), _, rfl, _, rfl, b, _, rfl, .inl hb, ?_⟩
    exact ⟨t, d, hl, Tr, g, p, rfl, pa1, W, hg.2, k1⟩
  | readlink p =>
    have e : xs = [.str p] := hA1
    subst e
    refine ⟨_, _, _, rfl, k_readlink T, ok_readlink (P := P) (w := w) (base := base) T, hr.mono (by decide), _, rfl, _, rfl, b, _, rfl, .inl hb, ?_⟩
    exact ⟨t, d, hl, Tr, p, rfl, pa1, W, hg, k1.mp0 pa1⟩
  | readdir p =>
    have e : xs = [.str p] := hA1
    subst e
    refine ⟨_, _, _, rfl, k_readdir T, ok_readdir (P := P) (w := w) (base := base) T, hr.mono (by decide), _, rfl, _, rfl, b, _, rfl, .inl hb, ?_⟩
    exact ⟨t, d, hl, Tr, p, rfl, pa1, W, hg, k1.mp0 pa1⟩
  | stat p =>
    have e : xs = [.str p] := hA1
    subst e
    refine ⟨_, _, _, rfl, k_stat T, ok_stat (P := P) (w := w) (base := base) T, hr.mono (by decide), _, rfl, _, rfl, b, _, rfl, .inl hb, ?_⟩
    exact ⟨t, d, hl, Tr, p, rfl, pa1, W, hg, k1.mp0 pa1⟩
  | lstat p =>
    have e : xs = [.str p] := hA1
    subst e
    refine ⟨_, _, _, rfl, k_lstat T, ok_lstat (P := P) (w := w) (base := base) T, hr.mono (by decide), _, rfl, _, rfl, b, _, rfl, .inl hb, ?_⟩
    exact ⟨t, d, hl, Tr, p, rfl, pa1, W, hg, k1.mp0 pa1⟩
  | openF p =>
    have e : xs = [.str p] := hA1
    subst e
    refine ⟨_, _, _, rfl, k_open_file T, ok_open_file (P := P) (w := w) (base := base) T, hr.mono (by decide), _, rfl, _, rfl, b, _, rfl, .inl hb, ?_⟩
    exact ⟨t, d, hl, Tr, p, rfl, pa1, W, hg, k1⟩
  | closeF h =>
    have e : xs = [.int h] := hA1
    subst e
    refine ⟨_, _, _, rfl, k_close_file T, ok_close_file (P := P) (w := w) (base := base) T, hr.mono (by decide), _, rfl, _, rfl, b, _, rfl, .inl hb, ?_⟩
    exact ⟨t, d, hl, Tr, h, rfl, pa1, W, hg, k1⟩
  | readAt h off len =>
    have e : xs = [.int h, .int off, .int len] := hA1
    subst e
    refine ⟨_, _, _, rfl, k_read_at T, ok_read_at (P := P) (w := w) (base := base) T, hr.mono (by decide), _, rfl, _, rfl, b, _, rfl, .inl hb, ?_⟩
    exact ⟨t, d, hl, Tr, h, off, len, rfl, pa1, W, hg.1, k1.mp0 pa1⟩
  | writeAt h off oct =>
    obtain ⟨oa, e, ho⟩ := hA1
    subst e
    refine ⟨_, _, _, rfl, k_write_at T, ok_write_at (P := P) (w := w) (base := base) T, hr.mono (by decide), _, rfl, _, rfl, b, _, rfl, .inl hb, ?_⟩
    exact ⟨t, d, hl, Tr, h, off, oa, oct, rfl, pa1, W, hg.1, SqL.of ho, hg.2.1, hg.2.2, k1⟩
  | resize h len =>
    have e : xs = [.int h, .int len] := hA1
    subst e
    refine ⟨_, _, _, rfl, k_resize T, ok_resize (P := P) (w := w) (base := base) T, hr.mono (by decide), _, rfl, _, rfl, b, _, rfl, .inl hb, ?_⟩
    exact ⟨t, d, hl, Tr, h, len, rfl, pa1, W, hg.1, hg.2, k1⟩
  | statAt h =>
    have e : xs = [.int h] := hA1
    subst e
    refine ⟨_, _, _, rfl, k_stat_at T, ok_stat_at (P := P) (w := w) (base := base) T, hr.mono (by decide), _, rfl, _, rfl, b, _, rfl, .inl hb, ?_⟩
    exact ⟨t, d, hl, Tr, h, rfl, pa1, W, hg, k1.mp0 pa1⟩
end
end Tm

set_option maxHeartbeats 4000000
namespace Tm
open PySem PySem.Spec PyProof.Rows L2
def tree0 : Tr := ⟨[(0, ⟨.ent [], 1⟩)], List.replicate 16 none⟩
section
variable {P : Program} {w : World} {K : PySem.W.Frag} {mg : Str → Option Value} {base : Heap}
theorem samex {H H' : Hp} {x C dx : Addr} {fs : List (Str × V)} (hx : H x = some (.ins C dx fs)) (f : Fr (fun b => b = x) H H') {a : Addr} {xs : List V} (h : SqT K H a xs) : SqT K H' a xs := by
  rcases h with (h | ⟨o, h⟩) | h
  · exact .inl (.inl (f _ _ (fun z => by have z : a = x := z; rw [z, hx] at h; cases h) h))
  · exact .inl (.inr ⟨o, f _ _ (fun z => by have z : a = x := z; rw [z, hx] at h; cases h) h⟩)
  · exact .inr h
def spTreeInit (K : PySem.W.Frag) : Sp := fun vs H Q _ => ∃ (x dx : Addr), vs = [.ref x] ∧ H x = some (.ins (aT K) dx []) ∧ ∀ d hl H', Fr (fun b => b = x) H H' → PA K H' x d hl tree0 → H d = none → H hl = none → Q .non H'
-- slots of FileTree.__init__: 0 self
theorem sc_FileTree_init : FnScope ["self"] ["self"] (defScope s_FileTree_init) := ⟨rfl, rfl, rfl, by decide +kernel, rfl, by decide +kernel, by decide +kernel⟩
theorem ok_FileTree_init (T : Tx K mg) : FnR P w K mg base (L2.CX P w) 3 (He.ma K (He.ga K "FileTree") "__init__") (spTreeInit K) := by
  obtain ⟨fdI, G_Node_init, ⟨gX, KBx⟩, ⟨g0, KB0⟩⟩ := ok_Node_init (P := P) (w := w) (base := base) T
  obtain ⟨t_HANDLES, h_HANDLES⟩ := T.i_HANDLES
  refine mk_fn (df_FileTree_init T) sc_FileTree_init (fun _ _ _ _ _ _ us hl => match us, hl with | [_], _ => rfl) (fun vs H Q E h => ?_) (fun cdv A outer s H vs Q E tk po hr h => ?_)
  · obtain ⟨_, _, rfl, _⟩ := h
    rfl
  obtain ⟨x, dx, rfl, hx, k⟩ := h
  refine ⟨_, (pss_cons (ps_fld (pv 0) (pe_disp (pps_cons pe_int (pe_makeK (n := 2) T.mkN G_Node_init (hr.mono (by decide)) rfl (c_Node T) KB0 pass0' (pa_cons pe_str (pa_cons (pe_tup pa_nil) pa_nil)) pk_nil) pps_nil) (by rfl) (by rfl) (fun z => by cases z) (by decide)) rfl)
    (pss_one (ps_fld (pv 0) (pe_op op_rep (pe_lst (pa_cons pe_non pa_nil)) (pe_glob (v := .int 16) rfl h_HANDLES ⟨_, rfl⟩)) rfl))), ?_⟩
  intro d hd0
  refine ⟨(Nat.zero_le _), fun r hr0 => ?_⟩
  refine ⟨rfl, rfl, fun y dy hy hdy hne => ?_⟩
  refine ⟨y, dy, _, _, _, rfl, upd_same, rfl, ?_⟩
  have s0 := same_new (o := .dK []) hd0
  have s1 := same_new (o := .tup []) hr0
  obtain ⟨m1, m2⟩ := made_node (K := K) (nd := ⟨.ent [], 1⟩) (bv := .ref r) hy hdy ⟨r, [], rfl, SqT.of upd_same, .nil⟩
  have hd2 := (s1.trans m1) d _ upd_same
  have s2 := (s0.trans s1).trans m1
  refine ⟨hd2, [(Sum.inl 0, .ref y)], rfl, (by show 1 ≤ 15; decide), ?_⟩
  have eN : nFs ⟨.ent [], 1⟩ (V.ref r) = ([(("kind" : Str), V.str "directory"), (("body" : Str), V.ref r), (("links" : Str), V.int 1)] : List (Str × V)) := rfl
  rw [eN] at m1 m2 hd2 s2
  dsimp only [aN] at m1 m2 hd2 s2 ⊢
  generalize upd (upd (upd (upd (upd H d (.dK [])) r (.tup [])) dy (.own y)) y (.ins (He.ga K "Node") dy [])) y (.ins (He.ga K "Node") dy [("kind", V.str "directory"), ("body", V.ref r), ("links", V.int 1)]) = H3 at m1 m2 hd2 s2 ⊢
  have f4 : Fr (fun b => b = d) H3 (upd H3 d (.dK (mergeK [] [(Sum.inl 0, .ref y)]))) := fr_upd rfl
  have hd4 : upd H3 d (.dK (mergeK [] [(Sum.inl 0, .ref y)])) d = some (.dK [(Sum.inl 0, .ref y)]) := upd_same
  generalize upd H3 d (.dK (mergeK [] [(Sum.inl 0, .ref y)])) = H4 at f4 hd4 ⊢
  have nx : x ≠ d := ne_of_none hx hd0
  have f5 : ∀ b o, H b = some o → H4 b = some o := fun b o e => f4 b o (fun z => ne_of_none e hd0 z) (s2 b o e)
  have n4 : NodeP K H4 y ⟨.ent [], 1⟩ := m2.i (fun b o i e => f4 b o (fun z => by have z : b = d := z; rw [z, hd2] at e; cases e; exact i) e)
  refine ⟨_, rfl, x, _, dx, _, rfl, f5 _ _ hx, T.cT, T.n_nodes, (by decide), ?_⟩
  have eP : putF ("nodes" : Str) (V.ref d) [] = [(("nodes" : Str), V.ref d)] := rfl
  dsimp only [sFld]
  rw [eP]
  have f6 : Fr (fun b => b = x) H (upd H4 x (.ins (aT K) dx [("nodes", .ref d)])) := fun b o nb e => by rw [upd_ne nb]; exact f5 b o e
  have x6 : upd H4 x (.ins (aT K) dx [("nodes", .ref d)]) x = some (.ins (aT K) dx [("nodes", .ref d)]) := upd_same
  have d6 : upd H4 x (.ins (aT K) dx [("nodes", .ref d)]) d = some (.dK [(Sum.inl 0, .ref y)]) := by rw [upd_ne (Ne.symm nx)]; exact hd4
  have n6 : NodeP K (upd H4 x (.ins (aT K) dx [("nodes", .ref d)])) y ⟨.ent [], 1⟩ := by
    obtain ⟨ndx, bv, q1, b, ps, q2, q3, q4⟩ := n4
    have yx : y ≠ x := fun z => by
      rw [z, f5 _ _ hx] at q1
      injection q1 with q1
      injection q1 with q1 q5 q6
      exact absurd q6 (by simp [nFs])
    exact ⟨ndx, bv, by rw [upd_ne yx]; exact q1, b, ps, q2, samex (f5 _ _ hx) (fr_upd rfl) q3, paired_imp (fun _ _ z => samex (f5 _ _ hx) (fr_upd rfl) z) q4⟩
  generalize upd H4 x (.ins (aT K) dx [("nodes", .ref d)]) = H6 at f6 x6 d6 n6 ⊢
  refine ⟨(by show 1 ≤ sizeLine; decide), fun l hl0 => ?_⟩
  refine ⟨l, 16, _, rfl, rfl, upd_same, by decide, by decide, by decide, fun hl hl1 => ?_⟩
  have s7 := (same_new (o := .lst [V.non]) hl0).trans (same_new (o := .lst (List.replicate (Int.toNat 16) [V.non]).flatten) hl1)
  have nhl : H6 hl = none := by
    cases e : H6 hl with
    | none => rfl
    | some o => have := same_new (o := .lst [V.non]) hl0 _ _ e; rw [hl1] at this; cases this
  have h7 : upd (upd H6 l (.lst [V.non])) hl (.lst (List.replicate (Int.toNat 16) [V.non]).flatten) hl = some (.lst ((List.replicate 16 (none : Option Int)).map hV)) := by rw [upd_same]; rfl
  generalize upd (upd H6 l (.lst [V.non])) hl (.lst (List.replicate (Int.toNat 16) [V.non]).flatten) = H7 at s7 h7 ⊢
  refine ⟨_, rfl, x, _, dx, _, rfl, s7 _ _ x6, T.cT, T.n_handles, (by show 1 < 1000; decide), ?_⟩
  refine k d hl _ (fun b o nb e => ?_) ⟨⟨dx, upd_same⟩, ⟨[(Sum.inl 0, .ref y)], ?_, .cons ⟨rfl, y, rfl, ?_⟩ .nil⟩, ?_⟩ hd0 ?_
  · rw [upd_ne nb]
    exact s7 _ _ (f6 b o nb e)
  · rw [upd_ne (Ne.symm nx)]
    exact s7 _ _ d6
  · obtain ⟨ndx, bv, q1, b, ps, q2, q3, q4⟩ := n6.i (same_i s7)
    have hx7 := s7 _ _ x6
    have yx : y ≠ x := fun z => by
      rw [z, hx7] at q1
      injection q1 with q1
      injection q1 with q1 q5 q6
      exact absurd (congrArg List.length q6) (by simp [nFs])
    exact ⟨ndx, bv, by rw [upd_ne yx]; exact q1, b, ps, q2, samex hx7 (fr_upd rfl) q3, paired_imp (fun _ _ z => samex hx7 (fr_upd rfl) z) q4⟩
  · rw [upd_ne (fun z => by rw [z, x6] at nhl; cases nhl)]
    exact h7
  · cases e : H hl with
    | none => rfl
    | some o => 
      by_cases q : hl = x
      · rw [q, x6] at nhl; cases nhl
      · have := f6 _ _ q e; rw [nhl] at this; cases this
/-- C() by a positional promise -/
theorem pe_makeR0 {X : Cx} {CX : CXT} {k : Nat} {f C : Addr} {sp : Sp} {E : XK} {x : Str} {p pos : Pos} (M : Mk X.K C f) (F : FnR X.prog X.w X.K X.mg X.base CX k f sp) (hr : Room (k + 1) X.A) (hg : Gl X x) (hm : X.mg x = some (.ref C)) (hx : Passes CX X E) (hdb : (x == ("__debug__" : Str)) = false := by decide) :
    PE X (.Call (.Name x p) [] [] pos) (StX.tMakeR C sp E tNil) := by
  refine ⟨fun pins s σ H Q I h => ?_⟩
  refine wpAny_Call_Name_kw (ld_glob I hg hm ?_ hdb)
  exact PySem.W.callWith_K0 I.kIn M.kp (StX.run_makeR (us := []) (vs := []) M F hr hx I .nil h)
end
end Tm

set_option maxHeartbeats 4000000
namespace Tm
open PySem PySem.Spec PyProof.Rows L2
theorem none_same {H H' : Hp} {a : Addr} (s : Same H H') (h : H' a = none) : H a = none := by
  cases e : H a with
  | none => rfl
  | some o => rw [s a o e] at h; cases h
theorem splits_all : ((pathL ++ tgtL).all fun s => decide ((Txt.split s "/").length ≤ 100) && decide (cutS s none (some 1) = "/" ↔ absOf s = true)) = true := by decide +kernel
theorem split_ok {s : Str} (h : s ∈ pathL ∨ s ∈ tgtL) : (Txt.split s "/").length ≤ 100 := by
  have q := List.all_eq_true.mp splits_all s (List.mem_append.mpr h)
  simp only [Bool.and_eq_true, decide_eq_true_eq] at q
  exact q.1
theorem abs_ok {s : Str} (h : s ∈ pathL ∨ s ∈ tgtL) : cutS s none (some 1) = "/" ↔ absOf s = true := by
  have q := List.all_eq_true.mp splits_all s (List.mem_append.mpr h)
  simp only [Bool.and_eq_true, decide_eq_true_eq] at q
  exact q.2
/-! ### the plain tree of the law, as it stands -/
def nV (nd : Nd) (bv : V) : List V := [.str nd.bd.kind, bv, .int nd.links]
def BodyL (K : PySem.W.Frag) (hn av : Addr) (H : Hp) : Bd → V → Prop
  | .oct l, v => ∃ b, v = .ref b ∧ b ≠ hn ∧ b ≠ av ∧ H b = some (.lst (l.map V.int))
  | .ent l, v => ∃ (b : Addr) (ps : List Addr), v = .ref b ∧ b ≠ hn ∧ b ≠ av ∧ H b = some (.lst (ps.map V.ref)) ∧ Paired (EnP K H) ps l
  | .tgt s, v => v = .str s
def NodeL (K : PySem.W.Frag) (hn av : Addr) (H : Hp) (q : Addr) (nd : Nd) : Prop := ∃ bv, H q = some (.lst (nV nd bv)) ∧ BodyL K hn av H nd.bd bv
abbrev KvL (K : PySem.W.Frag) (hn av : Addr) (H : Hp) (kv : Key × V) (nn : Int × Nd) : Prop := kv.1 = Sum.inl nn.1 ∧ ∃ q, kv.2 = .ref q ∧ NodeL K hn av H q nn.2
structure LA (K : PySem.W.Frag) (dn hn av : Addr) (H : Hp) (T : Tr) : Prop where
  dict : ∃ kvs : List (Key × V), H dn = some (.dK kvs) ∧ Paired (KvL K hn av H) kvs T.nodes ∧ (kvs.map (·.2)).Nodup
  hand : H hn = some (.lst (T.hs.map hV))
  ava : ∃ hs : List (Option Int), H av = some (.lst (hs.map hV))
  ne : hn ≠ av
  nd : (T.nodes.map (·.1)).Nodup
theorem BodyL.i {K : PySem.W.Frag} {hn av : Addr} {H H' : Hp} (e : Same H H') : ∀ {b : Bd} {v : V}, BodyL K hn av H b v → BodyL K hn av H' b v
  | .oct _, _, ⟨b, e1, n1, n2, h⟩ => ⟨b, e1, n1, n2, e _ _ h⟩
  | .ent _, _, ⟨b, ps, e1, n1, n2, h, q⟩ => ⟨b, ps, e1, n1, n2, e _ _ h, paired_imp (fun _ _ z => same_t e z) q⟩
  | .tgt _, _, h => h
theorem NodeL.same {K : PySem.W.Frag} {hn av : Addr} {H H' : Hp} (e : Same H H') {q : Addr} {nd : Nd} (h : NodeL K hn av H q nd) : NodeL K hn av H' q nd := by
  obtain ⟨bv, h1, h2⟩ := h
  exact ⟨bv, e _ _ h1, h2.i e⟩
theorem LA.same {K : PySem.W.Frag} {dn hn av : Addr} {H H' : Hp} {T : Tr} (e : Same H H') (h : LA K dn hn av H T) : LA K dn hn av H' T := by
  obtain ⟨⟨kvs, h1, h2, h3⟩, h4, ⟨hs, h5⟩, h6, h7⟩ := h
  exact ⟨⟨kvs, e _ _ h1, paired_imp (fun _ _ ⟨a, q, b, c⟩ => ⟨a, q, b, c.same e⟩) h2, h3⟩, e _ _ h4, ⟨hs, e _ _ h5⟩, h6, h7⟩
theorem kvl_val {K : PySem.W.Frag} {hn av : Addr} {H : Hp} {n : Int} : ∀ {kvs : List (Key × V)} {l : Ns}, Paired (KvL K hn av H) kvs l →
    (match lk l n with | none => valV kvs (Sum.inl n) = none | some nd => ∃ q, valV kvs (Sum.inl n) = some (.ref q) ∧ NodeL K hn av H q nd)
  | _, _, .nil => rfl
  | kv :: _, nn :: l, .cons ⟨e1, p, e2, h⟩ t => by
    have ih := kvl_val (n := n) t
    by_cases q : nn.1 = n
    · have : lk (nn :: l) n = some nn.2 := by unfold lk; rw [List.find?_cons, decide_eq_true q]; rfl
      rw [this]
      exact ⟨p, by rw [valV_pos (by rw [e1, q]), e2], h⟩
    · have e3 : lk (nn :: l) n = lk l n := by unfold lk; rw [List.find?_cons, decide_eq_false q]
      have e4 : ¬ kv.1 = Sum.inl n := by rw [e1]; intro z; exact q (Sum.inl.inj z)
      rw [e3, valV_neg e4]
      exact ih
theorem LA.get {K : PySem.W.Frag} {dn hn av : Addr} {H : Hp} {T : Tr} (h : LA K dn hn av H T) {n : Int} {nd : Nd} (hl : lk T.nodes n = some nd) : ∃ q, DGet H dn (.int n) (some (.ref q)) ∧ NodeL K hn av H q nd := by
  obtain ⟨kvs, h1, h2, h3⟩ := h.dict
  have z := kvl_val (n := n) h2
  rw [hl] at z
  obtain ⟨q, q1, q2⟩ := z
  refine ⟨q, ?_, q2⟩
  have g := DGet.k (k := Sum.inl n) h1
  rw [q1] at g
  exact g
theorem LA.has {K : PySem.W.Frag} {dn hn av : Addr} {H : Hp} {T : Tr} (h : LA K dn hn av H T) (n : Int) : ∃ o, DGet H dn (.int n) o ∧ o.isSome = (lk T.nodes n).isSome := by
  obtain ⟨kvs, h1, h2, h3⟩ := h.dict
  have z := kvl_val (n := n) h2
  refine ⟨_, DGet.k (k := Sum.inl n) h1, ?_⟩
  cases e : lk T.nodes n with
  | none => rw [e] at z; have z2 : valV kvs (Sum.inl n) = none := z; rw [z2]; rfl
  | some nd => rw [e] at z; obtain ⟨q, q1, _⟩ := z; rw [q1]; rfl
/-! ### readings -/
section
variable {K : PySem.W.Frag} {dn hn av : Addr} {H : Hp} {T : Tr} {n : Int} {nd : Nd}
theorem ld_node (la : LA K dn hn av H T) (hl : lk T.nodes n = some nd) {Q : V → Prop} (q : ∀ q, NodeL K hn av H q nd → Q (.ref q)) : ∃ a v3, V.ref dn = V.ref a ∧ DGet H a (.int n) (some v3) ∧ Q v3 := by
  obtain ⟨p, g, np⟩ := la.get hl
  exact ⟨dn, _, rfl, g, q p np⟩
theorem ld_kind (la : LA K dn hn av H T) (hl : lk T.nodes n = some nd) {Q : V → Prop} (q : Q (.str nd.bd.kind)) : ∃ a v3, V.ref dn = V.ref a ∧ DGet H a (.int n) (some v3) ∧ ∃ p xs i v, v3 = V.ref p ∧ V.int 0 = V.int i ∧ SqL K H p xs ∧ atI xs i = some v ∧ Q v := by
  obtain ⟨p, g, bv, hp, hb⟩ := la.get hl
  exact ⟨dn, _, rfl, g, p, _, 0, _, rfl, rfl, SqL.of hp, atI_nat (j := 0) rfl, q⟩
theorem ld_body (la : LA K dn hn av H T) (hl : lk T.nodes n = some nd) {Q : V → Prop} (q : ∀ bv, BodyL K hn av H nd.bd bv → Q bv) : ∃ a v3, V.ref dn = V.ref a ∧ DGet H a (.int n) (some v3) ∧ ∃ p xs i v, v3 = V.ref p ∧ V.int 1 = V.int i ∧ SqL K H p xs ∧ atI xs i = some v ∧ Q v := by
  obtain ⟨p, g, bv, hp, hb⟩ := la.get hl
  exact ⟨dn, _, rfl, g, p, _, 1, _, rfl, rfl, SqL.of hp, atI_nat (j := 1) rfl, q bv hb⟩
theorem ld_links (la : LA K dn hn av H T) (hl : lk T.nodes n = some nd) {Q : V → Prop} (q : Q (.int nd.links)) : ∃ a v3, V.ref dn = V.ref a ∧ DGet H a (.int n) (some v3) ∧ ∃ p xs i v, v3 = V.ref p ∧ V.int 2 = V.int i ∧ SqL K H p xs ∧ atI xs i = some v ∧ Q v := by
  obtain ⟨p, g, bv, hp, hb⟩ := la.get hl
  exact ⟨dn, _, rfl, g, p, _, 2, _, rfl, rfl, SqL.of hp, atI_nat (j := 2) rfl, q⟩
end
/-- an answer of the law's helpers: a new tuple -/
def eV {α : Type} (f : α → List V) : Except Er α → List V
  | .ok a => f a
  | .error e => [.str "error", .str e.word]
section
variable {P : Program} {w : World} {K : PySem.W.Frag} {mg : Str → Option Value} {base : Heap}
def spLNames : Sp := fun vs H Q _ => ∃ s : Str, vs = [.str s] ∧ (s ∈ pathL ∨ s ∈ tgtL) ∧ ∀ p H', Same H H' → H p = none → H' p = some (.lst ((namesOf s).map V.str)) → Q (.ref p) H'
-- slots of _law_names: 0 _law_path_here, 1 _law_name
theorem sc_law_names : FnScope ["_law_path_here", "_law_name"] ["_law_path_here"] (defScope s_law_names) := ⟨rfl, rfl, rfl, by decide +kernel, rfl, by decide +kernel, by decide +kernel⟩
theorem ok_law_names (T : Tx K mg) : FnR P w K mg base (L2.CX P w) 1 (He.ga K "_law_names") spLNames := by
  refine mk_fn (df_law_names T) sc_law_names (fun _ _ _ _ _ _ us hl => match us, hl with | [_], _ => rfl) (fun vs H Q E h => ?_) (fun cdv A outer s H vs Q E tk po hr h => ?_)
  · obtain ⟨_, rfl, _⟩ := h
    rfl
  obtain ⟨z, rfl, hz, k⟩ := h
  refine ⟨_, (pss_one (ps_ret (pe_lc (own := [("_law_name", 1)]) (g := gName 1)  rfl sc_law_names.nd (pi_list (pe_split (pv 0) pe_str)) (blkOk_by (N := ["_law_path_here", "_law_name"]) (sc := defScope s_law_names) (by decide +kernel)) (fun _ _ _ _ _ => (pg_name (i := 1) sc_law_names.nd rfl (Or.inl rfl))) (fun _ _ _ _ _ => pts_one (pt_cmpR op_ne (pv 1) pe_str (nomark _))) (fun _ _ _ _ _ => (pv 1))))), ?_⟩
  obtain ⟨n1, n2, n3, n4⟩ := names_ok hz
  refine ⟨_, rfl, ⟨_, rfl⟩, _, _, rfl, rfl, rfl, (by rw [sizeLine_eq]; omega), fun l hl0 => ?_⟩
  have s1 := same_new (o := .lst ((Txt.split z "/").map V.str)) hl0
  refine ⟨l, rfl, ⟨_, SqL.of upd_same⟩, fun D hD => lc_list (K := K) (a := l) (xs := (Txt.split z "/").map V.str) (fun i H' => Same (upd H l (.lst ((Txt.split z "/").map V.str))) H' ∧ H' D = some (.lst ((((Txt.split z "/").take i).filter fun x : Str => decide (x ≠ "")).map V.str))) ⟨same_new hD, upd_same⟩ (fun i H' _ h => same_l h.1 (SqL.of upd_same)) ?_ ?_⟩
  · rintro i y H' hi ⟨sm, hD'⟩
    obtain ⟨m, hm, rfl⟩ : ∃ m, (Txt.split z "/")[i]? = some m ∧ y = V.str m := by
      rw [List.getElem?_map] at hi
      cases h1 : (Txt.split z "/")[i]? with
      | none => rw [h1] at hi; cases hi
      | some q => rw [h1] at hi; exact ⟨q, rfl, (Option.some.inj hi).symm⟩
    refine ⟨rfl, _, rfl, rfl, _, rfl, ?_⟩
    have hlen : ((((Txt.split z "/").take i).filter fun x : Str => decide (x ≠ "")).map V.str).length < sizeLine := by
      rw [List.length_map]
      have q1 : (((Txt.split z "/").take i).filter fun x : Str => decide (x ≠ "")).length ≤ ((Txt.split z "/").take i).length := List.length_filter_le _ _
      have q2 := split_ok hz
      rw [List.length_take] at q1
      rw [sizeLine_eq]
      omega
    refine ite2 (fun c => ?_) (fun c => ?_)
    · refine ⟨_, rfl, _, hD', hlen, same_mut sm hD, ?_⟩
      rw [upd_same, List.take_succ, hm, List.filter_append, List.map_append]
      congr 3
      show _ = (List.filter _ [m]).map V.str
      rw [List.filter_cons, if_pos (by rw [decide_eq_true_eq]; exact ne_str.mp c)]
      rfl
    · refine ⟨sm, ?_⟩
      rw [List.take_succ, hm, List.filter_append, hD']
      congr 3
      show _ = _ ++ (List.filter _ [m])
      rw [List.filter_cons, if_neg (by rw [decide_eq_true_eq]; exact fun q => c (ne_str.mpr q))]
      simp
  · rintro H' ⟨sm, hD'⟩
    rw [List.length_map, List.take_length] at hD'
    exact k D H' (s1.trans sm) (none_same s1 hD) hD'
/-! ### _law_child -/
def spLChild (K : PySem.W.Frag) : Sp := fun vs H Q _ => ∃ (dn hn av : Addr) (T : Tr) (n : Int) (x : Str) (e : List (Str × Int)) (k : Int), vs = [.ref dn, .int n, .str x] ∧ LA K dn hn av H T ∧ lk T.nodes n = some ⟨.ent e, k⟩ ∧
  ∀ H', Same H H' → Q (hV (childL e x)) H'
-- slots of _law_child: 0 _law_nodes, 1 _law_directory, 2 _law_name, 3 _law_pair
theorem sc_law_child : FnScope ["_law_nodes", "_law_directory", "_law_name", "_law_pair"] ["_law_nodes", "_law_directory", "_law_name"] (defScope s_law_child) := ⟨rfl, rfl, rfl, by decide +kernel, rfl, by decide +kernel, by decide +kernel⟩
theorem ok_law_child (T : Tx K mg) : FnR P w K mg base (L2.CX P w) 1 (He.ga K "_law_child") (spLChild K) := by
  refine mk_fn (df_law_child T) sc_law_child (fun _ _ _ _ _ _ us hl => match us, hl with | [_, _, _], _ => rfl) (fun vs H Q E h => ?_) (fun cdv A outer s H vs Q E tk po hr h => ?_)
  · obtain ⟨_, _, _, _, _, _, _, _, rfl, _⟩ := h
    rfl
  obtain ⟨dn, hn, av, Tr, n, x, e, kk, rfl, la, hl, k⟩ := h
  refine ⟨_, (pss_cons (ps_for po rfl (pi_list (pe_ix ix_list (pe_dget (hu_of hr) (pv 0) (pv 1) (fun _ _ => rfl)) pe_int (fun _ _ => rfl))) (pg_name (i := 3) sc_law_child.nd rfl (Or.inl rfl))
    (pss_one (ps_if (pt_cmpR op_eq (pe_ix (ix_tupK (K := K)) (pv 3) pe_int (fun _ _ => rfl)) (pv 2) (nomark _))
      (pss_one (ps_ret (pe_ix (ix_tupK (K := K)) (pv 3) pe_int (fun _ _ => rfl))))
      pss_nil)))
    (pss_one (ps_ret pe_non))), ?_⟩
  refine ⟨_, rfl, _, rfl, ?_⟩
  refine ld_body la hl (fun bv hb => ?_)
  obtain ⟨b, ps, rfl, _, _, hs, hps⟩ := hb
  refine ⟨b, rfl, ⟨_, SqL.of hs⟩, ?_⟩
  refine for_list (K := K) (a := b) (xs := ps.map V.ref) (fun i σ H' => ∃ a3, σ = [some (.ref dn), some (.int n), some (.str x), a3] ∧ H' = H ∧ ∀ z ∈ e.take i, z.1 ≠ x) ⟨none, rfl, rfl, fun z hz => by simp at hz⟩ (fun i σ H' _ ⟨_, _, eH, _⟩ => by rw [eH]; exact SqL.of hs) ?_ ?_
  · rintro i y σ H' hi ⟨a3, rfl, rfl, hno⟩
    obtain ⟨q, hq, rfl⟩ := ref_at hi
    obtain ⟨en, he, hen⟩ := paired_at hps hq
    refine ⟨_, rfl, q, _, 0, _, rfl, rfl, hen, atI_nat (j := 0) rfl, _, rfl, rfl, _, rfl, ?_⟩
    refine ite2 (fun c => ?_) (fun c => ?_)
    · have c1 : en.1 = x := V.str.inj (of_decide_eq_true c)
      refine ⟨_, rfl, q, _, 1, _, rfl, rfl, hen, atI_nat (j := 1) rfl, ?_⟩
      have z := k H' (Same.refl _)
      rw [find_drop he hno, if_pos c1] at z
      exact z
    · refine ⟨_, rfl, rfl, fun z hz => ?_⟩
      rw [List.take_succ, he] at hz
      rcases List.mem_append.mp hz with h1 | h1
      · exact hno z h1
      · have e1 : z = en := by simpa using h1
        rw [e1]
        exact fun q => c (decide_eq_true (by rw [q]))
  · rintro σ H' ⟨a3, rfl, rfl, hno⟩
    have z := k H' (Same.refl _)
    rw [List.length_map, paired_len hps, List.take_length] at hno
    have e0 : childL e x = none := by
      unfold childL
      rw [List.find?_eq_none.mpr fun q hq => by simp [hno q hq]]; rfl
    rw [e0] at z
    exact z
/-! ### _law_follow -/
def foundV (n : Int) : List V := [.str "node", .int n]
def spLFollow (K : PySem.W.Frag) : Sp := fun vs H Q _ => ∃ (dn hn av a : Addr) (T : Tr) (ns : List Str), vs = [.ref dn, .ref a] ∧ LA K dn hn av H T ∧ WF T ∧ SqL K H a (ns.map V.str) ∧ ns.length ≤ 3 ∧
  ∀ p H', Same H H' → H' p = some (.tup (eV foundV (fol 2000 T.nodes ns 0 0))) → Q (.ref p) H'
-- slots of _law_follow: 0 _law_nodes, 1 _law_names_here, 2 _law_at, 3 _law_left, 4 _law_hops, 5 _law_turn, 6 _law_child_here
theorem sc_law_follow : FnScope ["_law_nodes", "_law_names_here", "_law_at", "_law_left", "_law_hops", "_law_turn", "_law_child_here"] ["_law_nodes", "_law_names_here"] (defScope s_law_follow) := ⟨rfl, rfl, rfl, by decide +kernel, rfl, by decide +kernel, by decide +kernel⟩
theorem ok_law_follow (T : Tx K mg) : FnR P w K mg base (L2.CX P w) 2 (He.ga K "_law_follow") (spLFollow K) := by
  have G_law_child := ok_law_child (P := P) (w := w) (base := base) T
  have G_law_names := ok_law_names (P := P) (w := w) (base := base) T
  refine mk_fn (df_law_follow T) sc_law_follow (fun _ _ _ _ _ _ us hl => match us, hl with | [_, _], _ => rfl) (fun vs H Q E h => ?_) (fun cdv A outer s H vs Q E tk po hr h => ?_)
  · obtain ⟨_, _, _, _, _, _, rfl, _⟩ := h
    rfl
  obtain ⟨dn, hn, av, a, Tr, ns, rfl, la, W, ha, h3, k⟩ := h
  refine ⟨_, (pss_cons (ps_set (i := 2) sc_law_follow.nd rfl (Or.inl rfl) pe_int)
    (pss_cons (ps_set (i := 3) sc_law_follow.nd rfl (Or.inl rfl) (pe_callTy call_list_of (by rfl) (f_list T) (by decide +kernel) (pa_cons (pv 1) pa_nil)))
    (pss_cons (ps_set (i := 4) sc_law_follow.nd rfl (Or.inl rfl) pe_int)
    (pss_cons (ps_for po rfl (pi_range1 rfl (f_range T) (pa_cons pe_int pa_nil)) (pg_name (i := 5) sc_law_follow.nd rfl (Or.inl rfl))
    (pss_cons (ps_if (pt_cmpR op_eq (pe_callB call_len_seq (by rfl) (f_len T) PySem.boot_len (pa_cons (pv 3) pa_nil)) pe_int (nomark _))
      (pss_one (ps_ret (pe_tup (pa_cons pe_str (pa_cons (pv 2) pa_nil)))))
      pss_nil)
      (pss_cons (ps_if (pt_cmpR op_ne (pe_ix ix_list (pe_dget (hu_of hr) (pv 0) (pv 2) (fun _ _ => rfl)) pe_int (fun _ _ => rfl)) pe_str (nomark _))
      (pss_one (ps_ret (pe_tup (pa_cons pe_str (pa_cons pe_str pa_nil)))))
      pss_nil)
      (pss_cons (ps_set (i := 6) sc_law_follow.nd rfl (Or.inl rfl) (pe_callR G_law_child (hr.mono (by decide)) rfl (g_law_child T) (k_law_child T) (pc_of tk) (pa_cons (pv 0) (pa_cons (pv 2) (pa_cons (pe_ix ix_list (pv 3) pe_int (fun _ _ => rfl)) pa_nil)))))
      (pss_cons (ps_if (pt_cmpR op_isN (pv 6) pe_non (nomark _))
      (pss_one (ps_ret (pe_tup (pa_cons pe_str (pa_cons pe_str pa_nil)))))
      pss_nil)
      (pss_cons (ps_set (i := 3) sc_law_follow.nd rfl (Or.inl rfl) (pe_slice sl_list (pv 3) (po_some pe_int) po_none))
      (pss_one (ps_if (pt_cmpR op_ne (pe_ix ix_list (pe_dget (hu_of hr) (pv 0) (pv 6) (fun _ _ => rfl)) pe_int (fun _ _ => rfl)) pe_str (nomark _))
      (pss_one (ps_set (i := 2) sc_law_follow.nd rfl (Or.inl rfl) (pv 6)))
      (pss_one (ps_if (pt_cmpR op_eq (pv 4) pe_int (nomark _))
        (pss_one (ps_ret (pe_tup (pa_cons pe_str (pa_cons pe_str pa_nil)))))
        (pss_cons (ps_set (i := 4) sc_law_follow.nd rfl (Or.inl rfl) (pe_op op_add (pv 4) pe_int))
          (pss_cons (ps_set (i := 3) sc_law_follow.nd rfl (Or.inl rfl) (pe_op op_cat (pe_callR G_law_names (hr.mono (by decide)) rfl (g_law_names T) (k_law_names T) (pc_of tk) (pa_cons (pe_ix ix_list (pe_dget (hu_of hr) (pv 0) (pv 6) (fun _ _ => rfl)) pe_int (fun _ _ => rfl)) pa_nil)) (pv 3)))
          (pss_one (ps_if (pt_cmpR op_eq (pe_slice sl_str (pe_ix ix_list (pe_dget (hu_of hr) (pv 0) (pv 6) (fun _ _ => rfl)) pe_int (fun _ _ => rfl)) po_none (po_some pe_int)) pe_str (nomark _))
          (pss_one (ps_set (i := 2) sc_law_follow.nd rfl (Or.inl rfl) pe_int))
          pss_nil))))))))))))))
    (pss_one (ps_ret (pe_tup (pa_cons pe_str (pa_cons pe_str pa_nil))))))))), ?_⟩
  obtain ⟨root, hroot⟩ := W.root
  refine ⟨_, rfl, a, _, rfl, .inl ha, fun l0 hl0 => ?_⟩
  refine ⟨2000, rfl, by decide, by decide, ?_⟩
  refine for_range (fun i σ' H' => ∃ (left : List Str) (n : Int) (hops : Nat) (l : Addr) (a5 a6 : Option V) (nd : Nd), σ' = [some (.ref dn), some (.ref a), some (.int n), some (.ref l), some (.int hops), a5, a6] ∧ Same H H' ∧ H' l = some (.lst (left.map V.str)) ∧
    fol (2000 - i) Tr.nodes left n hops = fol 2000 Tr.nodes ns 0 0 ∧ (8 - hops) * 4 + left.length + i ≤ 35 ∧ hops ≤ 8 ∧ lk Tr.nodes n = some nd) ⟨ns, 0, 0, l0, none, none, _, rfl, same_new hl0, upd_same, rfl, by omega, by omega, hroot⟩ ?_ ?_
  · rintro i σ' H' hi ⟨left, n, hops, l, a5, a6, nd, rfl, sm, hL, hR, hB, h8, hn⟩
    have hi2 : i < 2000 := hi
    obtain ⟨F, hF⟩ : ∃ G, 2000 - i = G + 1 := ⟨2000 - i - 1, by omega⟩
    have hF2 : 2000 - (i + 1) = F := by omega
    rw [hF] at hR
    have la1 := la.same sm
    refine ⟨_, rfl, l, _, rfl, .inl (SqL.of hL), rfl, _, rfl, ?_⟩
    cases left with
    | nil =>
      refine ite2 (fun _ => ?_) (fun c => absurd (eq_int.mpr rfl) c)
      have hR : Except.ok n = fol 2000 Tr.nodes ns 0 0 := hR
      refine ⟨_, rfl, (by show 2 ≤ sizeLine; decide), fun r hr0 => ?_⟩
      refine k r _ (sm.trans (same_new hr0)) ?_
      rw [← hR]
      exact upd_same
    | cons x r =>
      refine ite2 (fun c => absurd (eq_int.mp c) (by simp only [List.length_map, List.length_cons]; omega)) (fun _ => ?_)
      refine ⟨_, rfl, _, rfl, ?_⟩
      refine ld_kind la1 hn ?_
      refine ⟨rfl, _, rfl, ?_⟩
      refine ite2 (fun c => ?_) (fun c => ?_)
      · have c1 := ne_str.mp c
        refine ⟨(by show 2 ≤ sizeLine; decide), fun p hp => ?_⟩
        refine k p _ (sm.trans (same_new hp)) ?_
        rw [← hR]
        have e : fol (F + 1) Tr.nodes (x :: r) n hops = .error .nd := by
          unfold fol
          rw [hn]
          obtain ⟨b, kk⟩ := nd
          cases b with
          | ent e => exact absurd rfl c1
          | oct e => rfl
          | tgt e => rfl
        rw [e]
        exact upd_same
      · obtain ⟨e, he⟩ := (kind_dir nd.bd).mp (Classical.byContradiction fun z => c (ne_str.mpr z))
        obtain ⟨b, kk⟩ := nd
        have he : b = .ent e := he
        subst he
        refine ⟨_, rfl, _, rfl, _, rfl, l, _, 0, _, rfl, rfl, SqL.of hL, atI_nat (j := 0) rfl, ?_⟩
        refine ⟨dn, _, av, Tr, n, x, e, kk, rfl, la1, hn, fun H2 s2 => ?_⟩
        refine ⟨_, rfl, rfl, _, rfl, ?_⟩
        have hfol : fol (F + 1) Tr.nodes (x :: r) n hops = (match childL e x with
          | none => .error .nf
          | some c => match lk Tr.nodes c with
            | some ⟨.tgt s, _⟩ => if hops = 8 then .error .tml else fol F Tr.nodes (namesOf s ++ r) (if absOf s then 0 else n) (hops + 1)
            | _ => fol F Tr.nodes r c hops) := by
          conv => lhs; unfold fol
          rw [hn]
          all_goals rfl
        have sm2 := sm.trans s2
        have la2 := la.same sm2
        refine ite2 (fun c => ?_) (fun c => ?_)
        · have c1 := (is_non _).mp c
          refine ⟨(by show 2 ≤ sizeLine; decide), fun p hp => ?_⟩
          refine k p _ (sm2.trans (same_new hp)) ?_
          rw [← hR, hfol, c1]
          exact upd_same
        · cases hc : childL e x with
          | none => exact absurd ((is_non _).mpr hc) c
          | some cc =>
            rw [hc] at hfol
            obtain ⟨_, nd2, hn2⟩ := W.there hn (childL_mem hc)
            have hl2 := s2 l _ hL
            refine ⟨_, rfl, _, rfl, l, _, rfl, SqL.of hl2, fun l1 hl1 => ?_⟩
            have cut : cutV ((x :: r).map V.str) (some 1) none = r.map V.str := cutV_from _ 1
            rw [cut]
            have sm3 := sm2.trans (same_new (o := .lst (r.map V.str)) hl1)
            have la3 := la.same sm3
            refine ⟨_, rfl, _, rfl, ?_⟩
            refine ld_kind la3 hn2 ?_
            refine ⟨rfl, _, rfl, ?_⟩
            have hl3 : upd H2 l1 (.lst (r.map V.str)) l1 = some (.lst (r.map V.str)) := upd_same
            obtain ⟨b2, k2⟩ := nd2
            refine ite2 (fun c => ?_) (fun c => ?_)
            · have c1 := ne_str.mp c
              have hf2 : fol (F + 1) Tr.nodes (x :: r) n hops = fol F Tr.nodes r cc hops := by
                rw [hfol]
                dsimp only
                rw [hn2]
                cases b2 with
                | tgt z => exact absurd rfl c1
                | oct z => rfl
                | ent z => rfl
              refine ⟨_, rfl, r, cc, hops, l1, _, _, _, rfl, sm3, hl3, by rw [hF2]; exact hf2.symm.trans hR, ?_, h8, hn2⟩
              simp only [List.length_cons] at hB; omega
            · obtain ⟨z, hz⟩ := (kind_link b2).mp (Classical.byContradiction fun q => c (ne_str.mpr q))
              subst hz
              have hf2 : fol (F + 1) Tr.nodes (x :: r) n hops = if hops = 8 then .error .tml else fol F Tr.nodes (namesOf z ++ r) (if absOf z then 0 else n) (hops + 1) := by
                rw [hfol]
                dsimp only
                rw [hn2]
              have hz := W.tg _ _ _ hn2
              obtain ⟨_, n3, n4, _⟩ := names_ok (.inr hz)
              refine ⟨_, rfl, rfl, _, rfl, ?_⟩
              refine ite2 (fun c => ?_) (fun c => ?_)
              · have c1 : hops = 8 := by have := eq_int.mp c; omega
                refine ⟨(by show 2 ≤ sizeLine; decide), fun p hp => ?_⟩
                refine k p _ (sm3.trans (same_new hp)) ?_
                rw [← hR, hf2, if_pos c1]
                exact upd_same
              · have c1 : ¬ hops = 8 := fun q => c (eq_int.mpr (by omega))
                rw [if_neg c1] at hf2
                refine ⟨_, rfl, _, _, rfl, rfl, ?_⟩
                refine ⟨_, rfl, _, rfl, ?_⟩
                refine ld_body la3 hn2 (fun bv hb => ?_)
                have hb : bv = V.str z := hb
                subst hb
                refine ⟨z, rfl, .inr hz, fun q H4 s4 hq0 hq => ?_⟩
                refine ⟨_, rfl, q, l1, _, _, rfl, rfl, hq, s4 _ _ hl3, ?_, fun q5 hq5 => ?_⟩
                · rw [sizeLine_eq, List.length_map, List.length_map]; simp only [List.length_cons] at hB; omega
                have sm5 := (sm3.trans s4).trans (same_new (o := .lst ((namesOf z).map V.str ++ r.map V.str)) hq5)
                have eL : (namesOf z).map V.str ++ r.map V.str = (namesOf z ++ r).map V.str := List.map_append.symm
                rw [eL] at sm5 ⊢
                refine ⟨_, rfl, _, rfl, ?_⟩
                refine ld_body (la.same sm5) hn2 (fun bv hb => ?_)
                have hb : bv = V.str z := hb
                subst hb
                refine ⟨_, rfl, _, rfl, (by rw [sizeLine_eq]; omega), ?_⟩
                refine ⟨rfl, _, rfl, ?_⟩
                have hB2 : (8 - (hops + 1)) * 4 + (namesOf z ++ r).length + (i + 1) ≤ 35 := by
                  simp only [List.length_append, List.length_cons] at hB ⊢; omega
                refine ite2 (fun c => ?_) (fun c => ?_)
                · have ca : absOf z = true := (abs_ok (.inr hz)).mp (eq_str.mp c)
                  rw [ca] at hf2
                  refine ⟨namesOf z ++ r, 0, hops + 1, q5, _, _, _, rfl, sm5, upd_same, by rw [hF2]; exact hf2.symm.trans hR, hB2, by omega, hroot⟩
                · have ca : absOf z = false := Bool.eq_false_iff.mpr fun q => c (eq_str.mpr ((abs_ok (.inr hz)).mpr q))
                  rw [ca] at hf2
                  refine ⟨namesOf z ++ r, n, hops + 1, q5, _, _, _, rfl, sm5, upd_same, by rw [hF2]; exact hf2.symm.trans hR, hB2, by omega, hn⟩
  · rintro σ' H' ⟨left, n, hops, l, a5, a6, nd, rfl, sm, hL, hR, hB, h8, hn⟩
    have : (Int.toNat 2000) = 2000 := rfl
    omega
/-! ### _law_place, _law_entry -/
def placeV (z : Int × Str) : List V := [.str "place", .int z.1, .str z.2]
def entryV (z : Int × Str × Int) : List V := [.str "entry", .int z.1, .str z.2.1, .int z.2.2]
theorem lkd1 : ¬ (("error" : Str) = "node") := by decide +kernel
theorem lkd2 : ¬ (("node" : Str) = "error") := by decide +kernel
theorem lkd3 : ¬ (("place" : Str) = "error") := by decide +kernel
theorem lkd4 : ¬ (("entry" : Str) = "error") := by decide +kernel
theorem lkd5 : ¬ (("error" : Str) = "entry") := by decide +kernel
def spLPath (K : PySem.W.Frag) (S : Tr → Str → List V) : Sp := fun vs H Q _ => ∃ (dn hn av : Addr) (T : Tr) (s : Str), vs = [.ref dn, .str s] ∧ LA K dn hn av H T ∧ WF T ∧ s ∈ pathL ∧ ∀ p H', Same H H' → H' p = some (.tup (S T s)) → Q (.ref p) H'
-- slots of _law_place: 0 _law_nodes, 1 _law_path_here, 2 _law_names_here, 3 _law_found
theorem sc_law_place : FnScope ["_law_nodes", "_law_path_here", "_law_names_here", "_law_found"] ["_law_nodes", "_law_path_here"] (defScope s_law_place) := ⟨rfl, rfl, rfl, by decide +kernel, rfl, by decide +kernel, by decide +kernel⟩
theorem ok_law_place (T : Tx K mg) : FnR P w K mg base (L2.CX P w) 3 (He.ga K "_law_place") (spLPath K fun T s => eV placeV (placeS T.nodes s)) := by
  have G_law_names := ok_law_names (P := P) (w := w) (base := base) T
  have G_law_follow := ok_law_follow (P := P) (w := w) (base := base) T
  refine mk_fn (df_law_place T) sc_law_place (fun _ _ _ _ _ _ us hl => match us, hl with | [_, _], _ => rfl) (fun vs H Q E h => ?_) (fun cdv A outer s H vs Q E tk po hr h => ?_)
  · obtain ⟨_, _, _, _, _, rfl, _⟩ := h
    rfl
  obtain ⟨dn, hn, av, Tr, s, rfl, la, W, hs, k⟩ := h
  replace k : ∀ p H', Same H H' → H' p = some (.tup (eV placeV (placeS Tr.nodes s))) → Q (.ref p) H' := k
  refine ⟨_, (pss_cons (ps_set (i := 2) sc_law_place.nd rfl (Or.inl rfl) (pe_callR G_law_names (hr.mono (by decide)) rfl (g_law_names T) (k_law_names T) (pc_of tk) (pa_cons (pv 1) pa_nil)))
    (pss_cons (ps_if (pt_cmpR op_eq (pe_callB call_len_seq (by rfl) (f_len T) PySem.boot_len (pa_cons (pv 2) pa_nil)) pe_int (nomark _))
    (pss_one (ps_ret (pe_tup (pa_cons pe_str (pa_cons pe_str pa_nil)))))
    pss_nil)
    (pss_cons (ps_set (i := 3) sc_law_place.nd rfl (Or.inl rfl) (pe_callR G_law_follow (hr.mono (by decide)) rfl (g_law_follow T) (k_law_follow T) (pc_of tk) (pa_cons (pv 0) (pa_cons (pe_slice sl_list (pv 2) po_none (po_some (pe_un un_neg pe_int))) pa_nil))))
    (pss_cons (ps_if (PW.pt (pw_and (pt_cmpR op_eq (pe_ix (ix_tupK (K := K)) (pv 3) pe_int (fun _ _ => rfl)) pe_str (nomark _)) (pw_and1 (pt_cmpR op_ne (pe_ix ix_list (pe_dget (hu_of hr) (pv 0) (pe_ix (ix_tupK (K := K)) (pv 3) pe_int (fun _ _ => rfl)) (fun _ _ => rfl)) pe_int (fun _ _ => rfl)) pe_str (nomark _)))))
    (pss_one (ps_ret (pe_tup (pa_cons pe_str (pa_cons pe_str pa_nil)))))
    pss_nil)
    (pss_cons (ps_if (pt_cmpR op_eq (pe_ix (ix_tupK (K := K)) (pv 3) pe_int (fun _ _ => rfl)) pe_str (nomark _))
    (pss_one (ps_ret (pv 3)))
    pss_nil)
    (pss_one (ps_ret (pe_tup (pa_cons pe_str (pa_cons (pe_ix (ix_tupK (K := K)) (pv 3) pe_int (fun _ _ => rfl)) (pa_cons (pe_ix ix_list (pv 2) (pe_un un_neg pe_int) (fun _ _ => rfl)) pa_nil))))))))))), ?_⟩
  obtain ⟨n1, n2, _, _⟩ := names_ok (.inl hs)
  refine ⟨_, rfl, s, rfl, .inl hs, fun q H1 s1 hq0 hq => ?_⟩
  refine ⟨_, rfl, q, _, rfl, .inl (SqL.of hq), rfl, _, rfl, ?_⟩
  refine ite2 (fun c => ?_) (fun c => ?_)
  · have c1 := eq_int.mp c
    have c2 : namesOf s = [] := by
      rw [List.length_map] at c1
      exact List.eq_nil_of_length_eq_zero (by omega)
    refine ⟨(by show 2 ≤ sizeLine; decide), fun p hp => ?_⟩
    refine k p _ (s1.trans (same_new hp)) ?_
    have e : placeS Tr.nodes s = .error .rf := by
      unfold placeS placeN
      rw [c2]
      rfl
    rw [e]
    exact upd_same
  · have c1 : namesOf s ≠ [] := fun e => c (eq_int.mpr (by rw [e]; rfl))
    obtain ⟨x, hx⟩ : ∃ x, (namesOf s).getLast? = some x := by
      cases e : (namesOf s).getLast? with
      | none => exact absurd (List.getLast?_eq_none_iff.mp e) c1
      | some x => exact ⟨x, rfl⟩
    have hpl : placeS Tr.nodes s = (match fol 2000 Tr.nodes (namesOf s).dropLast 0 0 with
      | .error e => .error e
      | .ok d => if isDir Tr.nodes d then .ok (d, x) else .error .nd) := by
      unfold placeS placeN
      rw [hx]
      all_goals rfl
    refine ⟨_, rfl, _, rfl, _, rfl, _, rfl, q, _, rfl, SqL.of hq, fun l hl0 => ?_⟩
    have ed : cutV ((namesOf s).map V.str) none (some (-1)) = ((namesOf s).dropLast).map V.str := by
      rw [dropL_cut, List.map_dropLast]
    have s2 := s1.trans (same_new (o := .lst (cutV ((namesOf s).map V.str) none (some (-1)))) hl0)
    refine ⟨dn, hn, av, l, Tr, (namesOf s).dropLast, rfl, la.same s2, W, SqL.of (by rw [← ed]; exact upd_same), by rw [List.length_dropLast]; omega, fun f H3 s3 hf => ?_⟩
    have s4 := s2.trans s3
    have la4 := la.same s4
    cases hr2 : fol 2000 Tr.nodes (namesOf s).dropLast 0 0 with
    | error e =>
      rw [hr2] at hf hpl
      refine ⟨_, rfl, f, _, 0, _, rfl, rfl, SqT.of hf, atI_nat (j := 0) rfl, rfl, _, rfl, ?_⟩
      refine ite2 (fun c => absurd (eq_str.mp c) lkd1) (fun _ => ?_)
      refine ⟨_, rfl, f, _, 0, _, rfl, rfl, SqT.of hf, atI_nat (j := 0) rfl, rfl, _, rfl, ?_⟩
      refine ite2 (fun _ => ?_) (fun c => absurd (eq_str.mpr rfl) c)
      refine ⟨_, rfl, k f H3 s4 ?_⟩
      rw [hpl]
      exact hf
    | ok n =>
      rw [hr2] at hf hpl
      obtain ⟨root, hroot⟩ := W.root
      obtain ⟨nd, hnd⟩ := fol_there W ⟨_, hroot⟩ hr2
      refine ⟨_, rfl, f, _, 0, _, rfl, rfl, SqT.of hf, atI_nat (j := 0) rfl, rfl, _, rfl, ?_⟩
      refine ite2 (fun _ => ?_) (fun c => absurd (eq_str.mpr rfl) c)
      refine ⟨_, rfl, _, rfl, f, _, 1, _, rfl, rfl, SqT.of hf, atI_nat (j := 1) rfl, ?_⟩
      refine ld_kind la4 hnd ?_
      refine ⟨rfl, _, rfl, ?_⟩
      refine ite2 (fun c => ?_) (fun c => ?_)
      · have c1 := ne_str.mp c
        refine ⟨(by show 2 ≤ sizeLine; decide), fun p hp => ?_⟩
        refine k p _ (s4.trans (same_new hp)) ?_
        have e : placeS Tr.nodes s = .error .nd := by
          rw [hpl]
          exact if_neg (fun z => c1 ((isDir_of hnd).mp z))
        rw [e]
        exact upd_same
      · have c1 : isDir Tr.nodes n = true := (isDir_of hnd).mpr (Classical.byContradiction fun z => c (ne_str.mpr z))
        refine ⟨_, rfl, f, _, 0, _, rfl, rfl, SqT.of hf, atI_nat (j := 0) rfl, rfl, _, rfl, ?_⟩
        refine ite2 (fun c => absurd (eq_str.mp c) lkd2) (fun _ => ?_)
        have hq4 : H3 q = some (.lst ((namesOf s).map V.str)) := s3 _ _ (same_new (o := .lst (cutV ((namesOf s).map V.str) none (some (-1)))) hl0 _ _ hq)
        have hlst : atI ((namesOf s).map V.str) (-1) = some (V.str x) := by
          rw [getLast_app hx, List.map_append]
          exact atI_last _ _
        refine ⟨_, rfl, f, _, 1, _, rfl, rfl, SqT.of hf, atI_nat (j := 1) rfl, ?_⟩
        refine ⟨_, rfl, _, rfl, q, _, _, _, rfl, rfl, SqL.of hq4, hlst, (by show 3 ≤ sizeLine; decide), fun r hr0 => ?_⟩
        refine k r _ (s4.trans (same_new hr0)) ?_
        have e : placeS Tr.nodes s = .ok (n, x) := by
          rw [hpl]
          exact if_pos c1
        rw [e]
        exact upd_same
-- slots of _law_entry: 0 _law_nodes, 1 _law_path_here, 2 _law_place_here, 3 _law_child_here
theorem sc_law_entry : FnScope ["_law_nodes", "_law_path_here", "_law_place_here", "_law_child_here"] ["_law_nodes", "_law_path_here"] (defScope s_law_entry) := ⟨rfl, rfl, rfl, by decide +kernel, rfl, by decide +kernel, by decide +kernel⟩
theorem ok_law_entry (T : Tx K mg) : FnR P w K mg base (L2.CX P w) 4 (He.ga K "_law_entry") (spLPath K fun T s => eV entryV (entryS T.nodes s)) := by
  have G_law_place := ok_law_place (P := P) (w := w) (base := base) T
  have G_law_child := ok_law_child (P := P) (w := w) (base := base) T
  refine mk_fn (df_law_entry T) sc_law_entry (fun _ _ _ _ _ _ us hl => match us, hl with | [_, _], _ => rfl) (fun vs H Q E h => ?_) (fun cdv A outer s H vs Q E tk po hr h => ?_)
  · obtain ⟨_, _, _, _, _, rfl, _⟩ := h
    rfl
  obtain ⟨dn, hn, av, Tr, s, rfl, la, W, hs, k⟩ := h
  replace k : ∀ p H', Same H H' → H' p = some (.tup (eV entryV (entryS Tr.nodes s))) → Q (.ref p) H' := k
  refine ⟨_, (pss_cons (ps_set (i := 2) sc_law_entry.nd rfl (Or.inl rfl) (pe_callR G_law_place (hr.mono (by decide)) rfl (g_law_place T) (k_law_place T) (pc_of tk) (pa_cons (pv 0) (pa_cons (pv 1) pa_nil))))
    (pss_cons (ps_if (pt_cmpR op_eq (pe_ix (ix_tupK (K := K)) (pv 2) pe_int (fun _ _ => rfl)) pe_str (nomark _))
    (pss_one (ps_ret (pv 2)))
    pss_nil)
    (pss_cons (ps_set (i := 3) sc_law_entry.nd rfl (Or.inl rfl) (pe_callR G_law_child (hr.mono (by decide)) rfl (g_law_child T) (k_law_child T) (pc_of tk) (pa_cons (pv 0) (pa_cons (pe_ix (ix_tupK (K := K)) (pv 2) pe_int (fun _ _ => rfl)) (pa_cons (pe_ix (ix_tupK (K := K)) (pv 2) pe_int (fun _ _ => rfl)) pa_nil)))))
    (pss_cons (ps_if (pt_cmpR op_isN (pv 3) pe_non (nomark _))
    (pss_one (ps_ret (pe_tup (pa_cons pe_str (pa_cons pe_str pa_nil)))))
    pss_nil)
    (pss_one (ps_ret (pe_tup (pa_cons pe_str (pa_cons (pe_ix (ix_tupK (K := K)) (pv 2) pe_int (fun _ _ => rfl)) (pa_cons (pe_ix (ix_tupK (K := K)) (pv 2) pe_int (fun _ _ => rfl)) (pa_cons (pv 3) pa_nil))))))))))), ?_⟩
  refine ⟨_, rfl, _, rfl, dn, hn, av, Tr, s, rfl, la, W, hs, fun f H1 s1 hf => ?_⟩
  replace hf : H1 f = some (.tup (eV placeV (placeS Tr.nodes s))) := hf
  have la1 := la.same s1
  cases hp : placeS Tr.nodes s with
  | error e =>
    rw [hp] at hf
    have hS : entryS Tr.nodes s = .error e := by unfold entryS; rw [hp]
    refine ⟨_, rfl, f, _, 0, _, rfl, rfl, SqT.of hf, atI_nat (j := 0) rfl, rfl, _, rfl, ?_⟩
    refine ite2 (fun _ => ?_) (fun c => absurd (eq_str.mpr rfl) c)
    refine ⟨_, rfl, k f H1 s1 ?_⟩
    rw [hS]
    exact hf
  | ok z =>
    rw [hp] at hf
    obtain ⟨n, x⟩ := z
    obtain ⟨e, kk, hd⟩ := place_dir hp
    refine ⟨_, rfl, f, _, 0, _, rfl, rfl, SqT.of hf, atI_nat (j := 0) rfl, rfl, _, rfl, ?_⟩
    refine ite2 (fun c => absurd (eq_str.mp c) lkd3) (fun _ => ?_)
    refine ⟨_, rfl, _, rfl, f, _, 1, _, rfl, rfl, SqT.of hf, atI_nat (j := 1) rfl, _, rfl, f, _, 2, _, rfl, rfl, SqT.of hf, atI_nat (j := 2) rfl, ?_⟩
    refine ⟨dn, hn, av, Tr, n, x, e, kk, rfl, la1, hd, fun H2 s2 => ?_⟩
    refine ⟨_, rfl, rfl, _, rfl, ?_⟩
    have s3 := s1.trans s2
    have hf2 := s2 _ _ hf
    have hc : entryS Tr.nodes s = (match childL e x with | none => .error .nf | some c => .ok (n, x, c)) := by
      unfold entryS
      rw [hp]
      dsimp only
      rw [child_ent hd]
      all_goals rfl
    cases h2 : childL e x with
    | none =>
      rw [h2] at hc
      refine ite2 (fun _ => ?_) (fun c => absurd ((is_non none).mpr rfl) c)
      refine ⟨(by show 2 ≤ sizeLine; decide), fun p hp => ?_⟩
      refine k p _ (s3.trans (same_new hp)) ?_
      rw [hc]
      exact upd_same
    | some cc =>
      rw [h2] at hc
      refine ite2 (fun c => absurd ((is_non (some cc)).mp c) (by simp)) (fun _ => ?_)
      refine ⟨_, rfl, f, _, 1, _, rfl, rfl, SqT.of hf2, atI_nat (j := 1) rfl, _, rfl, f, _, 2, _, rfl, rfl, SqT.of hf2, atI_nat (j := 2) rfl, _, rfl, (by show 4 ≤ sizeLine; decide), fun p hp => ?_⟩
      refine k p _ (s3.trans (same_new hp)) ?_
      rw [hc]
      exact upd_same
end
end Tm

set_option maxHeartbeats 4000000
namespace Tm
open PySem PySem.Spec PyProof.Rows L2
/-! ### what the law's helpers may write -/
def IsQ (H : Hp) (dn b : Addr) : Prop := ∃ (kvs : List (Key × V)) (k : Key), H dn = some (.dK kvs) ∧ (k, V.ref b) ∈ kvs
structure FL (dn hn : Addr) (H H' : Hp) : Prop where
  keep : ∀ b o, H b = some o → b ≠ dn → b ≠ hn → ¬ IsQ H dn b → H' b = some o
  new : ∀ b, IsQ H' dn b → IsQ H dn b ∨ H b = none
  there : ∀ b, H' b = none → H b = none
theorem FL.trans {dn hn : Addr} {H H1 H2 : Hp} (a : FL dn hn H H1) (b : FL dn hn H1 H2) : FL dn hn H H2 := by
  refine ⟨fun c o e n1 n2 nq => b.keep c o (a.keep c o e n1 n2 nq) n1 n2 fun z => ?_, fun c z => ?_, fun c z => a.there c (b.there c z)⟩
  · rcases a.new c z with h | h
    · exact nq h
    · rw [e] at h; cases h
  · rcases b.new c z with h | h
    · exact a.new c h
    · exact .inr (a.there c h)
theorem FL.same {dn hn : Addr} {H H' : Hp} {kvs : List (Key × V)} (hd : H dn = some (.dK kvs)) (s : Same H H') : FL dn hn H H' := by
  refine ⟨fun b o e _ _ _ => s b o e, fun b ⟨kvs2, k, h1, h2⟩ => .inl ⟨kvs, k, hd, ?_⟩, fun b z => none_same s z⟩
  rw [s _ _ hd] at h1
  cases h1
  exact h2
section
variable {K : PySem.W.Frag} {dn hn av : Addr} {H : Hp} {T : Tr}
theorem LA.fl (la : LA K dn hn av H T) {H' : Hp} (s : Same H H') : FL dn hn H H' := by
  obtain ⟨kvs, h1, _⟩ := la.dict
  exact FL.same h1 s
/-- the list of a node: no list of ints, of refs, of handles -/
theorem nV_ints {nd : Nd} {bv : V} {l : List Int} : nV nd bv ≠ l.map V.int := by
  intro h
  cases l with
  | nil => cases h
  | cons a l => injection h with h _; cases h
theorem nV_refs {nd : Nd} {bv : V} {l : List Addr} : nV nd bv ≠ l.map V.ref := by
  intro h
  cases l with
  | nil => cases h
  | cons a l => injection h with h _; cases h
theorem nV_hs {nd : Nd} {bv : V} {l : List (Option Int)} : nV nd bv ≠ l.map hV := by
  intro h
  cases l with
  | nil => cases h
  | cons a l => injection h with h _; cases a <;> cases h
theorem BodyL.put {q : Addr} {nd : Nd} {bv : V} {xs : List V} (hq : H q = some (.lst (nV nd bv))) : ∀ {b : Bd} {v : V}, BodyL K hn av H b v → BodyL K hn av (upd H q (.lst xs)) b v
  | .oct _, _, ⟨b, e1, n1, n2, h⟩ => ⟨b, e1, n1, n2, by rw [upd_ne (fun z => by rw [z, hq] at h; injection h with h; injection h with h; exact nV_ints h)]; exact h⟩
  | .ent _, _, ⟨b, ps, e1, n1, n2, h, r⟩ => ⟨b, ps, e1, n1, n2, by rw [upd_ne (fun z => by rw [z, hq] at h; injection h with h; injection h with h; exact nV_refs h)]; exact h,
      paired_imp (fun _ _ z => samei_t (fun b o im e => by rw [upd_ne (fun z => by rw [z, hq] at e; cases e; exact im)]; exact e) z) r⟩
  | .tgt _, _, h => h
theorem kvl_mem {n : Int} {q : Addr} {nd : Nd} : ∀ {kvs : List (Key × V)} {l : Ns}, Paired (KvL K hn av H) kvs l → valV kvs (Sum.inl n) = some (.ref q) → (Sum.inl n, V.ref q) ∈ kvs
  | _, _, .nil, h => by cases h
  | kv :: kvs, nn :: l, .cons ⟨e1, p, e2, h⟩ t, hv => by
    by_cases e : nn.1 = n
    · rw [valV_pos (by rw [e1, e]), e2] at hv
      cases hv
      refine List.mem_cons.mpr (.inl ?_)
      obtain ⟨a, b⟩ := kv
      dsimp only at e1 e2
      rw [e1, e2, e]
    · rw [valV_neg (by rw [e1]; intro z; exact e (Sum.inl.inj z))] at hv
      exact List.mem_cons_of_mem _ (kvl_mem (nd := nd) t hv)
theorem kvl_put {n : Int} {q : Addr} {nd nd' : Nd} {bv bv' : V} (hq : H q = some (.lst (nV nd bv))) (hb : BodyL K hn av H nd'.bd bv') : ∀ {kvs : List (Key × V)} {l : Ns}, Paired (KvL K hn av H) kvs l → (kvs.map (·.2)).Nodup → (l.map (·.1)).Nodup →
    ((Sum.inl n, V.ref q) ∈ kvs ∨ V.ref q ∉ kvs.map (·.2) ∧ n ∉ l.map (·.1)) → Paired (KvL K hn av (upd H q (.lst (nV nd' bv')))) kvs (l.map fun p => if p.1 = n then (p.1, nd') else p)
  | _, _, .nil, _, _, _ => .nil
  | kv :: kvs, nn :: l, .cons ⟨e1, p, e2, h⟩ t, hn1, hn2, hm => by
    rw [List.map_cons, List.nodup_cons] at hn1 hn2
    rw [List.map_cons]
    by_cases e : nn.1 = n
    · have hpq : p = q := by
        rcases hm with hm | hm
        · rcases List.mem_cons.mp hm with z | z
          · rw [← z] at e2; cases e2; rfl
          · exfalso
            have : (Sum.inl n : Key) ∈ kvs.map (·.1) := List.mem_map.mpr ⟨_, z, rfl⟩
            have keys : kvs.map (·.1) = (l.map (·.1)).map Sum.inl := by
              clear hn1 hn2 hm z this
              induction t with
              | nil => rfl
              | cons r _ ih => rw [List.map_cons, List.map_cons, List.map_cons, ih, r.1]
            rw [keys] at this
            obtain ⟨m, hm, em⟩ := List.mem_map.mp this
            have em : m = n := Sum.inl.inj em
            rw [em, ← e] at hm
            exact hn2.1 hm
        · exfalso; exact hm.2 (List.mem_cons.mpr (.inl e.symm))
      subst hpq
      rw [if_pos e]
      refine .cons ⟨e1, p, e2, bv', upd_same, hb.put hq⟩ (kvl_put hq hb t hn1.2 hn2.2 (.inr ⟨by rw [← e2]; exact hn1.1, by rw [← e]; exact hn2.1⟩))
    · rw [if_neg e]
      have hpq : p ≠ q := fun z => by
        rcases hm with hm | hm
        · rcases List.mem_cons.mp hm with y | y
          · rw [← y] at e1; exact e (Sum.inl.inj e1).symm
          · exact hn1.1 (List.mem_map.mpr ⟨_, y, by rw [e2, z]⟩)
        · exact hm.1 (List.mem_cons.mpr (.inl (by rw [← z]; exact e2.symm)))
      obtain ⟨bv2, h1, h2⟩ := h
      refine .cons ⟨e1, p, e2, bv2, by rw [upd_ne hpq]; exact h1, h2.put hq⟩ (kvl_put hq hb t hn1.2 hn2.2 ?_)
      rcases hm with hm | hm
      · rcases List.mem_cons.mp hm with y | y
        · rw [← y] at e1; exact absurd (Sum.inl.inj e1).symm e
        · exact .inl y
      · exact .inr ⟨fun y => hm.1 (List.mem_cons_of_mem _ y), fun y => hm.2 (List.mem_cons_of_mem _ y)⟩
theorem putN_of {l : Ns} {n : Int} {nd x : Nd} (h : lk l n = some nd) : putN l n x = l.map fun p => if p.1 = n then (p.1, x) else p := by
  unfold putN
  rw [if_pos (List.any_eq_true.mpr ⟨_, lk_mem h, by simp⟩)]
theorem keys_put {l : Ns} {n : Int} {nd x : Nd} (h : lk l n = some nd) : (putN l n x).map (·.1) = l.map (·.1) := by
  rw [putN_of h, List.map_map]
  refine List.map_congr_left fun p _ => ?_
  show (if p.1 = n then (p.1, x) else p).1 = p.1
  split <;> rfl
/-- a node's list, and what writing it does -/
theorem LA.w (la : LA K dn hn av H T) {n : Int} {nd : Nd} (hl : lk T.nodes n = some nd) : ∃ q bv, DGet H dn (.int n) (some (.ref q)) ∧ H q = some (.lst (nV nd bv)) ∧ BodyL K hn av H nd.bd bv ∧ ∀ nd' bv', BodyL K hn av H nd'.bd bv' →
    FL dn hn H (upd H q (.lst (nV nd' bv'))) ∧ LA K dn hn av (upd H q (.lst (nV nd' bv'))) ⟨putN T.nodes n nd', T.hs⟩ := by
  obtain ⟨⟨kvs, h1, h2, h3⟩, h4, ⟨hs, h5⟩, h6, h7⟩ := la
  have z := kvl_val (n := n) h2
  rw [hl] at z
  obtain ⟨q, hv, bv, hq, hb0⟩ := z
  have g := DGet.k (k := Sum.inl n) h1
  rw [hv] at g
  refine ⟨q, bv, g, hq, hb0, fun nd' bv' hb => ?_⟩
  have hm := kvl_mem (nd := nd) h2 hv
  have qd : dn ≠ q := fun z => by rw [z, hq] at h1; cases h1
  have d1 : upd H q (.lst (nV nd' bv')) dn = some (.dK kvs) := by rw [upd_ne qd]; exact h1
  refine ⟨⟨fun b o e _ _ nq => ?_, fun b ⟨kvs2, k, y1, y2⟩ => ?_, fun b z => ?_⟩, ⟨kvs, d1, ?_, h3⟩, ?_, ⟨hs, ?_⟩, h6, ?_⟩
  · rw [upd_ne (fun z => nq ⟨kvs, _, h1, by rw [z]; exact hm⟩)]; exact e
  · rw [d1] at y1; cases y1
    exact .inl ⟨kvs, k, h1, y2⟩
  · by_cases e : b = q
    · rw [e, upd_same] at z; cases z
    · rw [upd_ne e] at z; exact z
  · show Paired _ kvs (putN T.nodes n nd')
    rw [putN_of hl]
    exact kvl_put hq hb h2 h3 h7 (.inl hm)
  · rw [upd_ne (fun z => by rw [z, hq] at h4; injection h4 with h4; injection h4 with h4; exact nV_hs h4)]; exact h4
  · rw [upd_ne (fun z => by rw [z, hq] at h5; injection h5 with h5; injection h5 with h5; exact nV_hs h5)]; exact h5
  · show ((putN T.nodes n nd').map (·.1)).Nodup
    rw [keys_put hl]
    exact h7
theorem wl_body (la : LA K dn hn av H T) {n : Int} {nd : Nd} (hl : lk T.nodes n = some nd) {bd' : Bd} {bv' : V} (hk : bd'.kind = nd.bd.kind) (hb : BodyL K hn av H bd' bv') {Q : Hp → Prop} (f : ∀ H', FL dn hn H H' → LA K dn hn av H' ⟨putN T.nodes n ⟨bd', nd.links⟩, T.hs⟩ → Q H') :
    ∃ a v3, V.ref dn = V.ref a ∧ DGet H a (.int n) (some v3) ∧ ∃ p xs k j, v3 = V.ref p ∧ V.int 1 = V.int k ∧ H p = some (.lst xs) ∧ ixN xs.length k = some j ∧ Q (upd H p (.lst (xs.set j bv'))) := by
  obtain ⟨q, bv, g, hq, hb0, w⟩ := la.w hl
  obtain ⟨w1, w2⟩ := w ⟨bd', nd.links⟩ bv' hb
  refine ⟨dn, _, rfl, g, q, _, 1, 1, rfl, rfl, hq, Evl.ixN_nat (j := 1) (by show 1 < 3; decide), ?_⟩
  have e : (nV nd bv).set 1 bv' = nV ⟨bd', nd.links⟩ bv' := by
    unfold nV
    rw [← hk]
    rfl
  rw [e]
  exact f _ w1 w2
theorem wl_links (la : LA K dn hn av H T) {n : Int} {nd : Nd} (hl : lk T.nodes n = some nd) {i : Int} {Q : Hp → Prop} (f : ∀ H', FL dn hn H H' → LA K dn hn av H' ⟨putN T.nodes n ⟨nd.bd, i⟩, T.hs⟩ → Q H') :
    ∃ a v3, V.ref dn = V.ref a ∧ DGet H a (.int n) (some v3) ∧ ∃ p xs k j, v3 = V.ref p ∧ V.int 2 = V.int k ∧ H p = some (.lst xs) ∧ ixN xs.length k = some j ∧ Q (upd H p (.lst (xs.set j (.int i)))) := by
  obtain ⟨q, bv, g, hq, hb0, w⟩ := la.w hl
  obtain ⟨w1, w2⟩ := w ⟨nd.bd, i⟩ bv hb0
  exact ⟨dn, _, rfl, g, q, _, 2, 2, rfl, rfl, hq, Evl.ixN_nat (j := 2) (by show 2 < 3; decide), f _ w1 w2⟩
/-- a new node -/
theorem LA.add (la : LA K dn hn av H T) {n : Int} {nd : Nd} {bv : V} (hl : lk T.nodes n = none) (hb : BodyL K hn av H nd.bd bv) {q : Addr} (hq : H q = some (.lst (nV nd bv))) (hq0 : ¬ IsQ H dn q) (hz : T.nodes.length < 1000) :
    ∃ H', DPut H dn (.int n) (.ref q) H' ∧ (∀ b o, H b = some o → b ≠ dn → H' b = some o) ∧ (∀ b, IsQ H' dn b → IsQ H dn b ∨ b = q) ∧ (∀ b, H' b = none → H b = none) ∧ LA K dn hn av H' ⟨putN T.nodes n nd, T.hs⟩ := by
  obtain ⟨⟨kvs, h1, h2, h3⟩, h4, ⟨hs, h5⟩, h6, h7⟩ := la
  have hlen : kvs.length = T.nodes.length := paired_len h2
  have z := kvl_val (n := n) h2
  rw [hl] at z
  have z : valV kvs (Sum.inl n) = none := z
  have hno : ¬ (T.nodes.any fun p => decide (p.1 = n)) = true := fun c => by
    obtain ⟨p, hp, e⟩ := List.any_eq_true.mp c
    have e : p.1 = n := of_decide_eq_true e
    have := lk_of_mem (n := n) (x := p.2) h7 (by rw [← e]; exact hp)
    rw [hl] at this
    cases this
  have hno2 : ¬ (kvs.any fun kv => decide (kv.1 = Sum.inl n)) = true := fun c => by
    obtain ⟨p, hp, e⟩ := List.any_eq_true.mp c
    unfold valV at z
    cases hf : kvs.find? fun kv => decide (kv.1 = Sum.inl n) with
    | none => exact (List.find?_eq_none.mp hf p hp) e
    | some y => rw [hf] at z; cases z
  have ek : putK kvs (Sum.inl n) (.ref q) = kvs ++ [(Sum.inl n, .ref q)] := if_neg hno2
  have en : putN T.nodes n nd = T.nodes ++ [(n, nd)] := if_neg hno
  refine ⟨_, DPut.k (k := Sum.inl n) h1 (by rw [hlen, sizeLine_eq]; omega), fun b o e nb => by rw [upd_ne nb]; exact e, fun b ⟨kvs2, k, y1, y2⟩ => ?_, fun b y => ?_, ⟨_, upd_same, ?_, ?_⟩, ?_, ⟨hs, ?_⟩, h6, ?_⟩
  · rw [upd_same, ek] at y1
    cases y1
    rcases List.mem_append.mp y2 with y2 | y2
    · exact .inl ⟨kvs, k, h1, y2⟩
    · have := List.mem_singleton.mp y2
      cases this
      exact .inr rfl
  · by_cases e : b = dn
    · rw [e, upd_same] at y; cases y
    · rw [upd_ne e] at y; exact y
  · rw [ek]
    show Paired _ _ (putN T.nodes n nd)
    rw [en]
    have fr : ∀ b o, H b = some o → b ≠ dn → upd H dn (.dK (putK kvs (Sum.inl n) (.ref q))) b = some o := fun b o e nb => by rw [upd_ne nb]; exact e
    rw [ek] at fr
    have up : ∀ {b : Bd} {v : V}, BodyL K hn av H b v → BodyL K hn av (upd H dn (.dK (kvs ++ [(Sum.inl n, .ref q)]))) b v := fun {b v} hb => by
      cases b with
      | tgt z => exact hb
      | oct l => obtain ⟨b, e1, n1, n2, h⟩ := hb; exact ⟨b, e1, n1, n2, fr _ _ h (fun z => by rw [z, h1] at h; cases h)⟩
      | ent l =>
        obtain ⟨b, ps, e1, n1, n2, h, r⟩ := hb
        exact ⟨b, ps, e1, n1, n2, fr _ _ h (fun z => by rw [z, h1] at h; cases h), paired_imp (fun _ _ z => samei_t (fun b o im e => fr b o e (fun z => by rw [z, h1] at e; cases e; exact im)) z) r⟩
    refine paired_snoc (paired_imp (fun a b ⟨x1, p, x2, bv2, x3, x4⟩ => ⟨x1, p, x2, bv2, fr _ _ x3 (fun z => by rw [z, h1] at x3; cases x3), up x4⟩) h2) ⟨rfl, q, rfl, bv, fr _ _ hq (fun z => by rw [z, h1] at hq; cases hq), up hb⟩
  · rw [ek, List.map_append, List.nodup_append]
    refine ⟨h3, by simp, fun a ha b hb => ?_⟩
    have hb : b = V.ref q := by simpa using hb
    subst hb
    rintro rfl
    obtain ⟨⟨k, v⟩, hkv, e⟩ := List.mem_map.mp ha
    have e : v = V.ref q := e
    subst e
    exact hq0 ⟨kvs, k, h1, hkv⟩
  · rw [upd_ne (fun z => by rw [z, h1] at h4; cases h4)]; exact h4
  · rw [upd_ne (fun z => by rw [z, h1] at h5; cases h5)]; exact h5
  · show ((putN T.nodes n nd).map (·.1)).Nodup
    rw [en, List.map_append, List.nodup_append]
    refine ⟨h7, by simp, fun a ha b hb => ?_⟩
    have hb : b = n := by simpa using hb
    subst hb
    rintro rfl
    obtain ⟨p, hp, e⟩ := List.mem_map.mp ha
    exact hno (List.any_eq_true.mpr ⟨p, hp, decide_eq_true e⟩)
/-- a node is taken out -/
theorem LA.pop (la : LA K dn hn av H T) {n : Int} {nd : Nd} (hl : lk T.nodes n = some nd) : ∃ kvs v, H dn = some (.dK kvs) ∧ valV kvs (Sum.inl n) = some v ∧ FL dn hn H (upd H dn (.dK (dropK kvs (Sum.inl n)))) ∧ LA K dn hn av (upd H dn (.dK (dropK kvs (Sum.inl n)))) ⟨dropN T.nodes n, T.hs⟩ := by
  obtain ⟨⟨kvs, h1, h2, h3⟩, h4, ⟨hs, h5⟩, h6, h7⟩ := la
  have z := kvl_val (n := n) h2
  rw [hl] at z
  obtain ⟨q, hv, _⟩ := z
  have fr : ∀ b o, H b = some o → b ≠ dn → upd H dn (.dK (dropK kvs (Sum.inl n))) b = some o := fun b o e nb => by rw [upd_ne nb]; exact e
  have up : ∀ {b : Bd} {v : V}, BodyL K hn av H b v → BodyL K hn av (upd H dn (.dK (dropK kvs (Sum.inl n)))) b v := fun {b v} hb => by
    cases b with
    | tgt z => exact hb
    | oct l => obtain ⟨b, e1, n1, n2, h⟩ := hb; exact ⟨b, e1, n1, n2, fr _ _ h (fun z => by rw [z, h1] at h; cases h)⟩
    | ent l =>
      obtain ⟨b, ps, e1, n1, n2, h, r⟩ := hb
      exact ⟨b, ps, e1, n1, n2, fr _ _ h (fun z => by rw [z, h1] at h; cases h), paired_imp (fun _ _ z => samei_t (fun b o im e => fr b o e (fun z => by rw [z, h1] at e; cases e; exact im)) z) r⟩
  have hd : ∀ {kvs : List (Key × V)} {l : Ns}, Paired (KvL K hn av H) kvs l → Paired (KvL K hn av H) (dropK kvs (Sum.inl n)) (dropN l n) := by
    intro kvs l h
    unfold dropK dropN
    induction h with
    | nil => exact .nil
    | cons r t ih =>
      rw [List.filter_cons, List.filter_cons]
      rename_i a b l1 l2
      by_cases e : b.1 = n
      · rw [if_neg (by rw [decide_eq_true_eq, r.1, e]; exact fun z => z rfl), if_neg (by rw [decide_eq_true_eq]; exact fun z => z e)]
        exact ih
      · rw [if_pos (by rw [decide_eq_true_eq, r.1]; exact fun z => e (Sum.inl.inj z)), if_pos (by rw [decide_eq_true_eq]; exact e)]
        exact .cons r ih
  refine ⟨kvs, _, h1, hv, ⟨fun b o e n1 _ _ => fr b o e n1, fun b ⟨kvs2, k, y1, y2⟩ => ?_, fun b y => ?_⟩, ⟨_, upd_same, ?_, ?_⟩, ?_, ⟨hs, ?_⟩, h6, ?_⟩
  · rw [upd_same] at y1
    cases y1
    exact .inl ⟨kvs, k, h1, (List.mem_filter.mp y2).1⟩
  · by_cases e : b = dn
    · rw [e, upd_same] at y; cases y
    · rw [upd_ne e] at y; exact y
  · exact paired_imp (fun a b ⟨x1, p, x2, bv2, x3, x4⟩ => ⟨x1, p, x2, bv2, fr _ _ x3 (fun z => by rw [z, h1] at x3; cases x3), up x4⟩) (hd h2)
  · exact List.Nodup.sublist (List.Sublist.map _ List.filter_sublist) h3
  · rw [upd_ne (fun z => by rw [z, h1] at h4; cases h4)]; exact h4
  · rw [upd_ne (fun z => by rw [z, h1] at h5; cases h5)]; exact h5
  · exact List.Nodup.sublist (List.Sublist.map _ List.filter_sublist) h7
/-- a handle is written -/
theorem LA.seth (la : LA K dn hn av H T) {i : Nat} {o : Option Int} : FL dn hn H (upd H hn (.lst ((T.hs.map hV).set i (hV o)))) ∧ LA K dn hn av (upd H hn (.lst ((T.hs.map hV).set i (hV o)))) ⟨T.nodes, T.hs.set i o⟩ := by
  obtain ⟨⟨kvs, h1, h2, h3⟩, h4, ⟨hs, h5⟩, h6, h7⟩ := la
  have fr : ∀ b o2, H b = some o2 → b ≠ hn → upd H hn (.lst ((T.hs.map hV).set i (hV o))) b = some o2 := fun b o2 e nb => by rw [upd_ne nb]; exact e
  have hd : dn ≠ hn := fun z => by rw [z, h4] at h1; cases h1
  have up : ∀ {b : Bd} {v : V}, BodyL K hn av H b v → BodyL K hn av (upd H hn (.lst ((T.hs.map hV).set i (hV o)))) b v := fun {b v} hb => by
    cases b with
    | tgt z => exact hb
    | oct l => obtain ⟨b, e1, n1, n2, h⟩ := hb; exact ⟨b, e1, n1, n2, fr _ _ h n1⟩
    | ent l =>
      obtain ⟨b, ps, e1, n1, n2, h, r⟩ := hb
      exact ⟨b, ps, e1, n1, n2, fr _ _ h n1, paired_imp (fun _ _ z => samei_t (fun b o im e => fr b o e (fun z => by rw [z, h4] at e; cases e; exact im)) z) r⟩
  refine ⟨⟨fun b o e _ n2 _ => fr b o e n2, fun b ⟨kvs2, k, y1, y2⟩ => ?_, fun b y => ?_⟩, ⟨kvs, fr _ _ h1 hd, ?_, h3⟩, ?_, ⟨hs, fr _ _ h5 (Ne.symm h6)⟩, h6, h7⟩
  · rw [upd_ne hd] at y1
    exact .inl ⟨kvs2, k, y1, y2⟩
  · by_cases e : b = hn
    · rw [e, upd_same] at y; cases y
    · rw [upd_ne e] at y; exact y
  · refine paired_imp (fun a b ⟨x1, p, x2, bv2, x3, x4⟩ => ⟨x1, p, x2, bv2, fr _ _ x3 (fun z => ?_), up x4⟩) h2
    rw [z, h4] at x3
    injection x3 with x3
    injection x3 with x3
    exact nV_hs x3.symm
  · rw [upd_same, List.map_set]
end
section
variable {P : Program} {w : World} {K : PySem.W.Frag} {mg : Str → Option Value} {base : Heap}
theorem srt_lex {e : List (Str × Int)} (h : Srt e) : SrtO.Srtd lexS e := h.imp fun {a b} h => lexS_no.mpr (.inl h)
theorem sortE_id {e : List (Str × Int)} (h : Srt e) : sortE e = e := (sortE_of (srt_lex h) (List.Perm.refl _)).symm
theorem srt_rem {e : List (Str × Int)} {x : Str} (h : Srt e) : Srt (remE e x) := List.Pairwise.sublist List.filter_sublist h
def setE (e : List (Str × Int)) (x : Str) : Option Int → List (Str × Int)
  | none => remE e x
  | some n => insE e x n
def spLSet (K : PySem.W.Frag) : Sp := fun vs H Q _ => ∃ (dn hn av : Addr) (T : Tr) (n : Int) (x : Str) (o : Option Int) (e : List (Str × Int)) (k : Int), vs = [.ref dn, .int n, .str x, hV o] ∧ LA K dn hn av H T ∧ lk T.nodes n = some ⟨.ent e, k⟩ ∧ Srt e ∧ e.length ≤ 1000 ∧
  ∀ H', FL dn hn H H' → LA K dn hn av H' ⟨putN T.nodes n ⟨.ent (setE e x o), k⟩, T.hs⟩ → Q .non H'
-- slots of _law_set: 0 _law_nodes, 1 _law_directory, 2 _law_name, 3 _law_number, 4 _law_pairs, 5 _law_pair
theorem sc_law_set : FnScope ["_law_nodes", "_law_directory", "_law_name", "_law_number", "_law_pairs", "_law_pair"] ["_law_nodes", "_law_directory", "_law_name", "_law_number"] (defScope s_law_set) := ⟨rfl, rfl, rfl, by decide +kernel, rfl, by decide +kernel, by decide +kernel⟩
theorem ok_law_set (T : Tx K mg) : FnR P w K mg base (L2.CX P w) 1 (He.ga K "_law_set") (spLSet K) := by
  refine mk_fn (df_law_set T) sc_law_set (fun _ _ _ _ _ _ us hl => match us, hl with | [_, _, _, _], _ => rfl) (fun vs H Q E h => ?_) (fun cdv A outer s H vs Q E tk po hr h => ?_)
  · obtain ⟨_, _, _, _, _, _, _, _, _, rfl, _⟩ := h
    rfl
  obtain ⟨dn, hn, av, Tr, n, x, o, e, kk, rfl, la, hl, hsrt, he, k⟩ := h
  refine ⟨_, (pss_cons (ps_setLc (i := 4) (own := [("_law_pair", 5)]) (g := gName 5)  rfl sc_law_set.nd rfl rfl (sw_true rfl rfl rfl (by decide +kernel)) (pi_list (pe_ix ix_list (pe_dget (hu_of hr) (pv 0) (pv 1) (fun _ _ => rfl)) pe_int (fun _ _ => rfl))) (blkOk_by (N := ["_law_nodes", "_law_directory", "_law_name", "_law_number", "_law_pairs", "_law_pair"]) (sc := defScope s_law_set) (by decide +kernel)) (fun _ _ _ _ _ => (pg_name (i := 5) sc_law_set.nd rfl (Or.inl rfl))) (fun _ _ _ _ _ => pts_one (pt_cmpR op_ne (pe_ix (ix_tupK (K := K)) (pv 5) pe_int (fun _ _ => rfl)) (pv 2) (nomark _))) (fun _ _ _ _ _ => (pv 5)))
    (pss_cons (ps_if (pt_cmpR op_notN (pv 3) pe_non (nomark _))
    (pss_one (ps_expr (pe_bm PySem.F.plainAttrs_list PySem.F.slot_list_append PySem.F.type_list_append mt_append (pv 4) (pa_cons (pe_tup (pa_cons (pv 2) (pa_cons (pv 3) pa_nil))) pa_nil))))
    pss_nil)
    (pss_one (ps_asg (pe_callB call_sortedE (by rfl) (f_sorted T) (by decide +kernel) (pa_cons (pv 4) pa_nil)) (pg_sub (pe_dget (hu_of hr) (pv 0) (pv 1) (fun _ _ => rfl)) pe_int set_list))))), ?_⟩
  refine ⟨_, rfl, _, rfl, ?_⟩
  refine ld_body la hl (fun bv hb => ?_)
  obtain ⟨b, ps, rfl, bn, ba2, hs, hps⟩ := hb
  refine ⟨b, rfl, ⟨_, SqL.of hs⟩, fun D hD => lc_list (K := K) (a := b) (xs := ps.map V.ref) (fun i H' => Same H H' ∧ ∃ qs, H' D = some (.lst (qs.map V.ref)) ∧ Paired (EnP K H') qs (remE (e.take i) x)) ⟨same_new hD, [], upd_same, .nil⟩ (fun i H' _ h => same_l h.1 (SqL.of hs)) ?_ ?_⟩
  · rintro i y H' hi ⟨sm, qs, hD', hq⟩
    obtain ⟨q, hqi, rfl⟩ := ref_at hi
    obtain ⟨en, he1, hen⟩ := paired_at hps hqi
    have hlen : qs.length ≤ 1000 := by rw [paired_len hq]; exact Nat.le_trans (List.length_filter_le _ _) (by rw [List.length_take]; omega)
    refine ⟨rfl, _, rfl, q, _, 0, _, rfl, rfl, same_t sm hen, atI_nat (j := 0) rfl, _, rfl, rfl, _, rfl, ?_⟩
    refine ite2 (fun c1 => ?_) (fun c1 => ?_)
    · refine ⟨_, rfl, _, hD', by rw [List.length_map, sizeLine_eq]; omega, same_mut sm hD, qs ++ [q], by rw [upd_same, List.map_append]; rfl, ?_⟩
      have s3 := same_mut (o := .lst (qs.map V.ref ++ [V.ref q])) sm hD
      have hq3 : Paired (EnP K (upd H' D (.lst (qs.map V.ref ++ [V.ref q])))) qs (remE (e.take i) x) := paired_imp (fun _ _ z => samei_t (fun b o im e => by rw [upd_ne (fun z => by rw [z, hD'] at e; cases e; exact im)]; exact e) z) hq
      rw [remE_take he1, if_pos (ne_str.mp c1)]
      exact paired_snoc hq3 (same_t s3 hen)
    · refine ⟨sm, qs, hD', ?_⟩
      rw [remE_take he1, if_neg (fun z => c1 (ne_str.mpr z)), List.append_nil]
      exact hq
  · rintro H' ⟨sm, qs, hD', hq⟩
    rw [List.length_map, paired_len hps, List.take_length] at hq
    have hlen : qs.length ≤ 1000 := by rw [paired_len hq]; exact Nat.le_trans (List.length_filter_le _ _) he
    have fin : ∀ (l : List (Str × Int)) (H2 : Hp) (qs2 : List Addr), Same H H2 → sortE l = setE e x o → H2 D = some (.lst (qs2.map V.ref)) → Paired (EnP K H2) qs2 l →
      rSortedE K [.ref D] H2 fun v H3 => ∃ v2, [some (V.ref dn), some (V.int n), some (V.str x), some (hV o), some (V.ref D), (none : Option V)][0]? = some (some v2) ∧ ∃ v4, [some (V.ref dn), some (V.int n), some (V.str x), some (hV o), some (V.ref D), (none : Option V)][1]? = some (some v4) ∧
        ∃ a v5, v2 = V.ref a ∧ DGet H3 a v4 (some v5) ∧ ∃ p xs k j, v5 = V.ref p ∧ V.int 1 = V.int k ∧ H3 p = some (.lst xs) ∧ ixN xs.length k = some j ∧ Q .non (upd H3 p (.lst (xs.set j v))) := by
      intro l H2 qs2 s2 hsort hD2 hq2
      refine ⟨D, qs2, l, rfl, SqL.of hD2, hq2, fun ps' l' p hp' hs' hpm hp0 => ?_⟩
      have el : l' = setE e x o := (sortE_of hs' hpm).trans hsort
      subst el
      have s3 := s2.trans (same_new (o := .lst (ps'.map V.ref)) hp0)
      refine ⟨_, rfl, _, rfl, ?_⟩
      have la3 := la.same s3
      have pn : p ≠ hn := fun z => by rw [z] at hp0; have := s2 _ _ la.hand; rw [hp0] at this; cases this
      have pa : p ≠ av := fun z => by
        obtain ⟨hs, h5⟩ := la.ava
        rw [z] at hp0; have := s2 _ _ h5; rw [hp0] at this; cases this
      refine wl_body la3 hl (bd' := .ent (setE e x o)) rfl ⟨p, ps', rfl, pn, pa, upd_same, paired_imp (fun _ _ z => same_t (same_new hp0) z) hp'⟩ (fun H4 f4 la4 => ?_)
      exact k H4 ((la.fl s3).trans f4) la4
    cases o with
    | none =>
      refine ⟨_, rfl, rfl, _, rfl, ?_⟩
      refine ite2 (fun c => absurd rfl ((not_non none).mp c)) (fun _ => ?_)
      refine ⟨_, rfl, ?_⟩
      exact fin _ H' qs sm (sortE_id (srt_rem hsrt)) hD' hq
    | some m =>
      refine ⟨_, rfl, rfl, _, rfl, ?_⟩
      refine ite2 (fun _ => ?_) (fun c => absurd ((not_non (some m)).mpr (by simp)) c)
      refine ⟨_, rfl, .inl ⟨rfl, _, SqL.of hD'⟩, _, rfl, _, rfl, (by show 2 ≤ sizeLine; decide), fun r hr0 => ?_⟩
      have s2 := sm.trans (same_new (o := .tup [V.str x, V.int m]) hr0)
      have hD2 : upd H' r (.tup [V.str x, V.int m]) D = some (.lst (qs.map V.ref)) := by rw [upd_ne (ne_of_none hD' hr0)]; exact hD'
      refine ⟨D, _, _, rfl, rfl, hD2, by rw [List.length_map, sizeLine_eq]; omega, ?_⟩
      have hr2 : EnP K (upd H' r (.tup [V.str x, V.int m])) r (x, m) := SqT.of upd_same
      have f3 : SameI (upd H' r (.tup [V.str x, V.int m])) (upd (upd H' r (.tup [V.str x, V.int m])) D (.lst (qs.map V.ref ++ [V.ref r]))) := fun b o im e => by rw [upd_ne (fun z => by rw [z, hD2] at e; cases e; exact im)]; exact e
      refine ⟨_, rfl, ?_⟩
      refine fin (remE e x ++ [(x, m)]) _ (qs ++ [r]) (same_mut s2 hD) rfl (by rw [upd_same, List.map_append]; rfl) ?_
      exact paired_snoc (paired_imp (fun _ _ z => samei_t f3 (same_t (same_new hr0) z)) hq) (samei_t f3 hr2)
/-! ### _law_lose -/
theorem drop_put {l : Ns} {n : Int} {nd x : Nd} (h : lk l n = some nd) : dropN (putN l n x) n = dropN l n := by
  rw [putN_of h]
  unfold dropN
  clear h
  induction l with
  | nil => rfl
  | cons p r ih =>
    rw [List.map_cons, List.filter_cons, List.filter_cons, ih]
    by_cases e : p.1 = n
    · rw [if_pos e]
      simp [e]
    · rw [if_neg e]
def spLLose (K : PySem.W.Frag) : Sp := fun vs H Q _ => ∃ (dn hn av : Addr) (T : Tr) (n : Int) (nd : Nd), vs = [.ref dn, .ref hn, .int n] ∧ LA K dn hn av H T ∧ lk T.nodes n = some nd ∧ ∀ H', FL dn hn H H' → LA K dn hn av H' ⟨loseN T n, T.hs⟩ → Q .non H'
-- slots of _law_lose: 0 _law_nodes, 1 _law_handles, 2 _law_number
theorem sc_law_lose : FnScope ["_law_nodes", "_law_handles", "_law_number"] ["_law_nodes", "_law_handles", "_law_number"] (defScope s_law_lose) := ⟨rfl, rfl, rfl, by decide +kernel, rfl, by decide +kernel, by decide +kernel⟩
theorem ok_law_lose (T : Tx K mg) : FnR P w K mg base (L2.CX P w) 1 (He.ga K "_law_lose") (spLLose K) := by
  refine mk_fn (df_law_lose T) sc_law_lose (fun _ _ _ _ _ _ us hl => match us, hl with | [_, _, _], _ => rfl) (fun vs H Q E h => ?_) (fun cdv A outer s H vs Q E tk po hr h => ?_)
  · obtain ⟨_, _, _, _, _, _, rfl, _⟩ := h
    rfl
  obtain ⟨dn, hn, av, Tr, n, nd, rfl, la, hl, k⟩ := h
  refine ⟨_, (pss_cons (ps_asg (pe_op op_sub (pe_ix ix_list (pe_dget (hu_of hr) (pv 0) (pv 2) (fun _ _ => rfl)) pe_int (fun _ _ => rfl)) pe_int) (pg_sub (pe_dget (hu_of hr) (pv 0) (pv 2) (fun _ _ => rfl)) pe_int set_list))
    (pss_one (ps_if (PW.pt (pw_and (pt_cmpR op_eq (pe_ix ix_list (pe_dget (hu_of hr) (pv 0) (pv 2) (fun _ _ => rfl)) pe_int (fun _ _ => rfl)) pe_int (nomark _)) (pw_and1 (pt_cmpR op_notIn_seq (pv 2) (pv 1) (by rfl)))))
    (pss_one (ps_expr (pe_dpop1 (pv 0) (pv 2) (by exact ⟨rfl, rfl, rfl, rfl⟩))))
    pss_nil))), ?_⟩
  have hl1 : loseN Tr n = if nd.links = 1 ∧ some n ∉ Tr.hs then dropN Tr.nodes n else putN Tr.nodes n ⟨nd.bd, nd.links - 1⟩ := by unfold loseN; rw [hl]
  refine ⟨_, rfl, _, rfl, ?_⟩
  refine ld_links la hl ?_
  refine ⟨_, _, rfl, rfl, _, rfl, _, rfl, ?_⟩
  refine wl_links la hl (fun H1 f1 la1 => ?_)
  have hl2 : lk (putN Tr.nodes n ⟨nd.bd, nd.links - 1⟩) n = some ⟨nd.bd, nd.links - 1⟩ := by rw [lk_put, if_pos rfl]
  refine ⟨_, rfl, _, rfl, ?_⟩
  refine ld_links la1 hl2 ?_
  refine ⟨rfl, _, rfl, ?_⟩
  refine ite2 (fun c1 => ?_) (fun c1 => ?_)
  · have c1 := eq_int.mp c1
    refine ⟨_, rfl, _, rfl, hn, _, rfl, .inl (SqL.of la1.hand), rfl, flat_hV _, ?_⟩
    refine ⟨_, rfl, ?_⟩
    rw [in_hV]
    refine ite2 (fun c2 => ?_) (fun c2 => ?_)
    · obtain ⟨kvs, v, y1, y2, y3, y4⟩ := la1.pop hl2
      refine ⟨_, rfl, dn, rfl, .inl ⟨kvs, .inl y1⟩, _, rfl, kvs, Sum.inl n, v, y1, rfl, y2, ?_⟩
      refine k _ (f1.trans y3) ?_
      have y5 : LA K dn hn av (upd H1 dn (.dK (dropK kvs (Sum.inl n)))) ⟨dropN (putN Tr.nodes n ⟨nd.bd, nd.links - 1⟩) n, Tr.hs⟩ := y4
      rw [drop_put hl] at y5
      have c3 : nd.links - 1 = 0 := c1
      rw [hl1, if_pos ⟨by omega, by simpa using c2⟩]
      exact y5
    · refine k H1 f1 ?_
      rw [hl1, if_neg (fun z => c2 (by simpa using z.2))]
      exact la1
  · refine k H1 f1 ?_
    rw [hl1, if_neg (fun z => c1 (eq_int.mpr (by show nd.links - 1 = 0; omega)))]
    exact la1
end
end Tm

set_option maxHeartbeats 4000000
namespace Tm
open PySem PySem.Spec PyProof.Rows L2
section
variable {K : PySem.W.Frag} {dn hn av : Addr} {H : Hp} {T : Tr}
theorem LA.isq (la : LA K dn hn av H T) {q : Addr} (h : IsQ H dn q) : ∃ nd bv, H q = some (.lst (nV nd bv)) := by
  obtain ⟨kvs, h1, h2, h3⟩ := la.dict
  obtain ⟨kvs2, k, z1, z2⟩ := h
  rw [h1] at z1
  cases z1
  obtain ⟨i, hi⟩ := List.mem_iff_getElem?.mp z2
  obtain ⟨nn, _, e1, p, e2, bv, hp, _⟩ := paired_at h2 hi
  cases e2
  exact ⟨_, bv, hp⟩
theorem LA.isq_back (la : LA K dn hn av H T) {H' : Hp} (s : Same H H') {q : Addr} (h : IsQ H' dn q) : IsQ H dn q := by
  obtain ⟨kvs, h1, h2, h3⟩ := la.dict
  obtain ⟨kvs2, k, z1, z2⟩ := h
  rw [s _ _ h1] at z1
  cases z1
  exact ⟨kvs, k, h1, z2⟩
end
/-- data that stands whatever old things change -/
def DpF (K : PySem.W.Frag) (H H' : Hp) (x : V) (D : PyData) : Prop := ∀ H'', (∀ a o, H a = none → H' a = some o → H'' a = some o) → SameI H' H'' → Dp K H'' x D
/-- what an operation of the plain tree gives -/
def LM (K : PySem.W.Frag) (dn hn av : Addr) (r : Except Er (PyData × Tr)) (H : Hp) (Q : VK) : Prop := match r with
  | .ok z => ∀ p x H', FL dn hn H H' → LA K dn hn av H' z.2 → H' p = some (.tup [.str "ok", x]) → DpF K H H' x z.1 → Q (.ref p) H'
  | .error e => ∀ p H', Same H H' → H' p = some (.tup [.str "error", .str e.word]) → Q (.ref p) H'
section
variable {K : PySem.W.Frag} {dn hn av : Addr} {r : Except Er (PyData × Tr)} {H : Hp} {Q : VK}
theorem LM.err {e : Er} (k : LM K dn hn av r H Q) (h : r = .error e) {p : Addr} {H' : Hp} (s : Same H H') (hp : H' p = some (.tup [.str "error", .str e.word])) : Q (.ref p) H' := by
  subst h; exact k p H' s hp
theorem LM.val {z : PyData × Tr} (k : LM K dn hn av r H Q) (h : r = .ok z) {p : Addr} {x : V} {H' : Hp} (f : FL dn hn H H') (la : LA K dn hn av H' z.2) (hp : H' p = some (.tup [.str "ok", x])) (d : DpF K H H' x z.1) : Q (.ref p) H' := by
  subst h; exact k p x H' f la hp d
theorem LM.of (h1 : ∀ e, r = .error e → ∀ p H', Same H H' → H' p = some (.tup [.str "error", .str e.word]) → Q (.ref p) H')
    (h2 : ∀ z, r = .ok z → ∀ p x H', FL dn hn H H' → LA K dn hn av H' z.2 → H' p = some (.tup [.str "ok", x]) → DpF K H H' x z.1 → Q (.ref p) H') : LM K dn hn av r H Q := by
  cases e : r with
  | error x => exact h1 x e
  | ok a => exact h2 a e
theorem DpF.non {H H' : Hp} : DpF K H H' .non .none := fun _ _ _ => .non
theorem DpF.int {H H' : Hp} (i : Int) : DpF K H H' (.int i) (.int i) := fun _ _ _ => .int i
theorem DpF.str {H H' : Hp} (i : Str) : DpF K H H' (.str i) (.str i) := fun _ _ _ => .str i
theorem DpF.down {H H1 H' : Hp} {x : V} {D : PyData} (s : ∀ a, H1 a = none → H a = none) (h : DpF K H1 H' x D) : DpF K H H' x D := fun H'' f i => h H'' (fun a o e1 e2 => f a o (s a e1) e2) i
/-- ("ok", None) is returned -/
theorem LM.fin {z : PyData × Tr} (k : LM K dn hn av r H Q) (h : r = .ok z) {x : V} {H1 : Hp} (f : FL dn hn H H1) (la : LA K dn hn av H1 z.2) {p : Addr} (hp : H1 p = none) (d : DpF K H H1 x z.1) : Q (.ref p) (upd H1 p (.tup [.str "ok", x])) := by
  have s := same_new (o := .tup [.str "ok", x]) hp
  refine k.val h (f.trans (la.fl s)) (la.same s) upd_same (fun H'' g i => d H'' (fun a o e1 e2 => g a o e1 (s a o e2)) fun b o im e => i b o im (s b o e))
theorem LM.fail {e : Er} (k : LM K dn hn av r H Q) (h : r = .error e) {H1 : Hp} (s : Same H H1) {p : Addr} (hp : H1 p = none) : Q (.ref p) (upd H1 p (.tup [.str "error", .str e.word])) := k.err h (s.trans (same_new hp)) upd_same
end
section
variable {P : Program} {w : World} {K : PySem.W.Frag} {mg : Str → Option Value} {base : Heap}
-- slots of _law_free: 0 _law_nodes, 1 _law_path_here, 2 _law_place_here
theorem sc_law_free : FnScope ["_law_nodes", "_law_path_here", "_law_place_here"] ["_law_nodes", "_law_path_here"] (defScope s_law_free) := ⟨rfl, rfl, rfl, by decide +kernel, rfl, by decide +kernel, by decide +kernel⟩
theorem ok_law_free (T : Tx K mg) : FnR P w K mg base (L2.CX P w) 4 (He.ga K "_law_free") (spLPath K fun T s => eV placeV (freeS T.nodes s)) := by
  have G_law_place := ok_law_place (P := P) (w := w) (base := base) T
  have G_law_child := ok_law_child (P := P) (w := w) (base := base) T
  refine mk_fn (df_law_free T) sc_law_free (fun _ _ _ _ _ _ us hl => match us, hl with | [_, _], _ => rfl) (fun vs H Q E h => ?_) (fun cdv A outer s H vs Q E tk po hr h => ?_)
  · obtain ⟨_, _, _, _, _, rfl, _⟩ := h
    rfl
  obtain ⟨dn, hn, av, Tr, s, rfl, la, W, hs, k⟩ := h
  replace k : ∀ p H', Same H H' → H' p = some (.tup (eV placeV (freeS Tr.nodes s))) → Q (.ref p) H' := k
  refine ⟨_, (pss_cons (ps_set (i := 2) sc_law_free.nd rfl (Or.inl rfl) (pe_callR G_law_place (hr.mono (by decide)) rfl (g_law_place T) (k_law_place T) (pc_of tk) (pa_cons (pv 0) (pa_cons (pv 1) pa_nil))))
    (pss_cons (ps_if (pt_cmpR op_eq (pe_ix (ix_tupK (K := K)) (pv 2) pe_int (fun _ _ => rfl)) pe_str (nomark _))
    (pss_one (ps_ret (pv 2)))
    pss_nil)
    (pss_cons (ps_if (pt_cmpR op_notN (pe_callR G_law_child (hr.mono (by decide)) rfl (g_law_child T) (k_law_child T) (pc_of tk) (pa_cons (pv 0) (pa_cons (pe_ix (ix_tupK (K := K)) (pv 2) pe_int (fun _ _ => rfl)) (pa_cons (pe_ix (ix_tupK (K := K)) (pv 2) pe_int (fun _ _ => rfl)) pa_nil)))) pe_non (nomark _))
    (pss_one (ps_ret (pe_tup (pa_cons pe_str (pa_cons pe_str pa_nil)))))
    pss_nil)
    (pss_cons (ps_if (pt_cmpR op_ge (pe_callB call_len_seq (by rfl) (f_len T) PySem.boot_len (pa_cons (pe_ix ix_list (pe_dget (hu_of hr) (pv 0) (pe_ix (ix_tupK (K := K)) (pv 2) pe_int (fun _ _ => rfl)) (fun _ _ => rfl)) pe_int (fun _ _ => rfl)) pa_nil)) pe_int (nomark _))
    (pss_one (ps_ret (pe_tup (pa_cons pe_str (pa_cons pe_str pa_nil)))))
    pss_nil)
    (pss_one (ps_ret (pv 2))))))), ?_⟩
  refine ⟨_, rfl, _, rfl, dn, hn, av, Tr, s, rfl, la, W, hs, fun f H1 s1 hf => ?_⟩
  replace hf : H1 f = some (.tup (eV placeV (placeS Tr.nodes s))) := hf
  have la1 := la.same s1
  cases hp : placeS Tr.nodes s with
  | error e =>
    rw [hp] at hf
    have hS : freeS Tr.nodes s = .error e := by unfold freeS; rw [hp]; rfl
    refine ⟨_, rfl, f, _, 0, _, rfl, rfl, SqT.of hf, atI_nat (j := 0) rfl, rfl, _, rfl, ?_⟩
    refine ite2 (fun _ => ?_) (fun c => absurd (eq_str.mpr rfl) c)
    refine ⟨_, rfl, k f H1 s1 ?_⟩
    rw [hS]
    exact hf
  | ok z =>
    rw [hp] at hf
    obtain ⟨n, x⟩ := z
    obtain ⟨e, kk, hd⟩ := place_dir hp
    have hlen := (W.ent _ _ _ hd).2.1
    have hS : freeS Tr.nodes s = (if (childL e x).isSome then .error .ae else if 64 ≤ e.length then .error .df else .ok (n, x)) := by
      unfold freeS
      rw [hp]
      show (if (child Tr.nodes n x).isSome then _ else if 64 ≤ (entOf Tr.nodes n).length then _ else _) = _
      rw [child_ent hd, entOf_eq hd]
    refine ⟨_, rfl, f, _, 0, _, rfl, rfl, SqT.of hf, atI_nat (j := 0) rfl, rfl, _, rfl, ?_⟩
    refine ite2 (fun c => absurd (eq_str.mp c) lkd3) (fun _ => ?_)
    refine ⟨_, rfl, _, rfl, f, _, 1, _, rfl, rfl, SqT.of hf, atI_nat (j := 1) rfl, _, rfl, f, _, 2, _, rfl, rfl, SqT.of hf, atI_nat (j := 2) rfl, ?_⟩
    refine ⟨dn, hn, av, Tr, n, x, e, kk, rfl, la1, hd, fun H2 s2 => ?_⟩
    refine ⟨rfl, _, rfl, ?_⟩
    have s3 := s1.trans s2
    have hf2 := s2 _ _ hf
    refine ite2 (fun c => ?_) (fun c => ?_)
    · have c1 := (not_non _).mp c
      refine ⟨(by show 2 ≤ sizeLine; decide), fun p hp => ?_⟩
      refine k p _ (s3.trans (same_new hp)) ?_
      rw [hS, if_pos (Option.isSome_iff_ne_none.mpr c1)]
      exact upd_same
    · have c1 : ¬ (childL e x).isSome = true := fun z => c ((not_non _).mpr (Option.isSome_iff_ne_none.mp z))
      rw [if_neg c1] at hS
      refine ⟨_, rfl, _, rfl, f, _, 1, _, rfl, rfl, SqT.of hf2, atI_nat (j := 1) rfl, ?_⟩
      refine ld_body (la.same s3) hd (fun bv hb => ?_)
      obtain ⟨b, ps, rfl, _, _, hs2, hps⟩ := hb
      refine ⟨b, _, rfl, .inl (SqL.of hs2), _, _, rfl, rfl, _, rfl, ?_⟩
      rw [List.length_map, paired_len hps]
      refine ite2 (fun c2 => ?_) (fun c2 => ?_)
      · have c3 : (64 : Int) ≤ (e.length : Nat) := of_decide_eq_true c2
        refine ⟨(by show 2 ≤ sizeLine; decide), fun p hp => ?_⟩
        refine k p _ (s3.trans (same_new hp)) ?_
        rw [hS, if_pos (by omega)]
        exact upd_same
      · have c3 : ¬ (64 : Int) ≤ (e.length : Nat) := fun z => c2 (decide_eq_true z)
        refine ⟨_, rfl, k f H2 s3 ?_⟩
        rw [hS, if_neg (by omega)]
        exact hf2
-- slots of _law_file: 0 _law_nodes, 1 _law_path_here, 2 _law_found
theorem sc_law_file : FnScope ["_law_nodes", "_law_path_here", "_law_found"] ["_law_nodes", "_law_path_here"] (defScope s_law_file) := ⟨rfl, rfl, rfl, by decide +kernel, rfl, by decide +kernel, by decide +kernel⟩
theorem ok_law_file (T : Tx K mg) : FnR P w K mg base (L2.CX P w) 3 (He.ga K "_law_file") (spLPath K fun T s => eV foundV (fileS T.nodes s)) := by
  have G_law_follow := ok_law_follow (P := P) (w := w) (base := base) T
  have G_law_names := ok_law_names (P := P) (w := w) (base := base) T
  refine mk_fn (df_law_file T) sc_law_file (fun _ _ _ _ _ _ us hl => match us, hl with | [_, _], _ => rfl) (fun vs H Q E h => ?_) (fun cdv A outer s H vs Q E tk po hr h => ?_)
  · obtain ⟨_, _, _, _, _, rfl, _⟩ := h
    rfl
  obtain ⟨dn, hn, av, Tr, s, rfl, la, W, hs, k⟩ := h
  replace k : ∀ p H', Same H H' → H' p = some (.tup (eV foundV (fileS Tr.nodes s))) → Q (.ref p) H' := k
  refine ⟨_, (pss_cons (ps_set (i := 2) sc_law_file.nd rfl (Or.inl rfl) (pe_callR G_law_follow (hr.mono (by decide)) rfl (g_law_follow T) (k_law_follow T) (pc_of tk) (pa_cons (pv 0) (pa_cons (pe_callR G_law_names (hr.mono (by decide)) rfl (g_law_names T) (k_law_names T) (pc_of tk) (pa_cons (pv 1) pa_nil)) pa_nil))))
    (pss_cons (ps_if (PW.pt (pw_and (pt_cmpR op_eq (pe_ix (ix_tupK (K := K)) (pv 2) pe_int (fun _ _ => rfl)) pe_str (nomark _)) (pw_and1 (pt_cmpR op_ne (pe_ix ix_list (pe_dget (hu_of hr) (pv 0) (pe_ix (ix_tupK (K := K)) (pv 2) pe_int (fun _ _ => rfl)) (fun _ _ => rfl)) pe_int (fun _ _ => rfl)) pe_str (nomark _)))))
    (pss_one (ps_ret (pe_tup (pa_cons pe_str (pa_cons pe_str pa_nil)))))
    pss_nil)
    (pss_one (ps_ret (pv 2))))), ?_⟩
  obtain ⟨n1, n2, _, _⟩ := names_ok (.inl hs)
  refine ⟨_, rfl, _, rfl, s, rfl, .inl hs, fun q H1 s1 hq0 hq => ?_⟩
  refine ⟨dn, hn, av, q, Tr, _, rfl, la.same s1, W, SqL.of hq, n2, fun f H2 s2 hf => ?_⟩
  have s3 := s1.trans s2
  have la3 := la.same s3
  replace hf : H2 f = some (.tup (eV foundV (followS Tr.nodes s))) := hf
  cases hfo : followS Tr.nodes s with
  | error e =>
    rw [hfo] at hf
    have hS : fileS Tr.nodes s = .error e := by unfold fileS; rw [hfo]; rfl
    refine ⟨_, rfl, f, _, 0, _, rfl, rfl, SqT.of hf, atI_nat (j := 0) rfl, rfl, _, rfl, ?_⟩
    refine ite2 (fun c => absurd (eq_str.mp c) lkd1) (fun _ => ?_)
    refine ⟨_, rfl, k f H2 s3 ?_⟩
    rw [hS]
    exact hf
  | ok n =>
    rw [hfo] at hf
    obtain ⟨nd, hnd⟩ := follow_there W hfo
    have hS : fileS Tr.nodes s = (match (some nd : Option Nd) with
      | some ⟨.oct _, _⟩ => .ok n
      | _ => .error .isd) := by
      unfold fileS
      rw [hfo, ← hnd]; rfl
    refine ⟨_, rfl, f, _, 0, _, rfl, rfl, SqT.of hf, atI_nat (j := 0) rfl, rfl, _, rfl, ?_⟩
    refine ite2 (fun _ => ?_) (fun c => absurd (eq_str.mpr rfl) c)
    refine ⟨_, rfl, _, rfl, f, _, 1, _, rfl, rfl, SqT.of hf, atI_nat (j := 1) rfl, ?_⟩
    refine ld_kind la3 hnd ?_
    refine ⟨rfl, _, rfl, ?_⟩
    obtain ⟨b, kk⟩ := nd
    refine ite2 (fun c => ?_) (fun c => ?_)
    · have c1 := ne_str.mp c
      refine ⟨(by show 2 ≤ sizeLine; decide), fun p hp => ?_⟩
      refine k p _ (s3.trans (same_new hp)) ?_
      rw [hS]
      cases b with
      | oct z => exact absurd rfl c1
      | ent z => exact upd_same
      | tgt z => exact upd_same
    · obtain ⟨e, he⟩ := (kind_file b).mp (Classical.byContradiction fun q => c (ne_str.mpr q))
      subst he
      refine ⟨_, rfl, k f H2 s3 ?_⟩
      rw [hS]
      exact hf
/-! ### _law_new -/
def spLNew (K : PySem.W.Frag) : Sp := fun vs H Q _ => ∃ (dn hn av : Addr) (T : Tr) (s : Str) (b : Bd) (bv : V), vs = [.ref dn, .str s, .str b.kind, bv] ∧ LA K dn hn av H T ∧ WF T ∧ s ∈ pathL ∧ BodyL K hn av H b bv ∧ LM K dn hn av (newS T s b) H Q
-- slots of _law_new: 0 _law_nodes, 1 _law_path_here, 2 _law_kind, 3 _law_body, 4 _law_place_here, 5 _law_spare, 6 _law_number
theorem sc_law_new : FnScope ["_law_nodes", "_law_path_here", "_law_kind", "_law_body", "_law_place_here", "_law_spare", "_law_number"] ["_law_nodes", "_law_path_here", "_law_kind", "_law_body"] (defScope s_law_new) := ⟨rfl, rfl, rfl, by decide +kernel, rfl, by decide +kernel, by decide +kernel⟩
theorem ok_law_new (T : Tx K mg) : FnR P w K mg base (L2.CX P w) 5 (He.ga K "_law_new") (spLNew K) := by
  have G_law_free := ok_law_free (P := P) (w := w) (base := base) T
  have G_law_set := ok_law_set (P := P) (w := w) (base := base) T
  refine mk_fn (df_law_new T) sc_law_new (fun _ _ _ _ _ _ us hl => match us, hl with | [_, _, _, _], _ => rfl) (fun vs H Q E h => ?_) (fun cdv A outer s H vs Q E tk po hr h => ?_)
  · obtain ⟨_, _, _, _, _, _, _, rfl, _⟩ := h
    rfl
  obtain ⟨dn, hn, av, Tr, s, b, bv, rfl, la, W, hs, hb, k⟩ := h
  refine ⟨_, (pss_cons (ps_set (i := 4) sc_law_new.nd rfl (Or.inl rfl) (pe_callR G_law_free (hr.mono (by decide)) rfl (g_law_free T) (k_law_free T) (pc_of tk) (pa_cons (pv 0) (pa_cons (pv 1) pa_nil))))
    (pss_cons (ps_if (pt_cmpR op_eq (pe_ix (ix_tupK (K := K)) (pv 4) pe_int (fun _ _ => rfl)) pe_str (nomark _))
    (pss_one (ps_ret (pv 4)))
    pss_nil)
    (pss_cons (ps_setLc (i := 5) (own := [("_law_number", 6)]) (g := gName 6)  rfl sc_law_new.nd rfl rfl (sw_true rfl rfl rfl (by decide +kernel)) (pi_range1 rfl (f_range T) (pa_cons pe_int pa_nil)) (blkOk_by (N := ["_law_nodes", "_law_path_here", "_law_kind", "_law_body", "_law_place_here", "_law_spare", "_law_number"]) (sc := defScope s_law_new) (by decide +kernel)) (fun _ _ _ _ _ => (pg_name (i := 6) sc_law_new.nd rfl (Or.inl rfl))) (fun _ _ _ _ _ => pts_one (pt_cmp (pc_dnotin (hu_of hr) (pv 6) (pv 0)))) (fun _ _ _ _ _ => (pv 6)))
    (pss_cons (ps_if (pt_cmpR op_eq (pe_callB call_len_seq (by rfl) (f_len T) PySem.boot_len (pa_cons (pv 5) pa_nil)) pe_int (nomark _))
    (pss_one (ps_ret (pe_tup (pa_cons pe_str (pa_cons pe_str pa_nil)))))
    pss_nil)
    (pss_cons (ps_dput (hu_of hr) (pv 0) (pe_ix ix_list (pv 5) pe_int (fun _ _ => rfl)) (pe_lst (pa_cons (pv 2) (pa_cons (pv 3) (pa_cons pe_int pa_nil)))) rfl)
    (pss_cons (ps_expr (pe_callR G_law_set (hr.mono (by decide)) rfl (g_law_set T) (k_law_set T) (pc_of tk) (pa_cons (pv 0) (pa_cons (pe_ix (ix_tupK (K := K)) (pv 4) pe_int (fun _ _ => rfl)) (pa_cons (pe_ix (ix_tupK (K := K)) (pv 4) pe_int (fun _ _ => rfl)) (pa_cons (pe_ix ix_list (pv 5) pe_int (fun _ _ => rfl)) pa_nil))))))
    (pss_one (ps_ret (pe_tup (pa_cons pe_str (pa_cons pe_non pa_nil))))))))))), ?_⟩
  refine ⟨_, rfl, _, rfl, dn, hn, av, Tr, s, rfl, la, W, hs, fun f H1 s1 hf => ?_⟩
  replace hf : H1 f = some (.tup (eV placeV (freeS Tr.nodes s))) := hf
  have la1 := la.same s1
  cases hfr : freeS Tr.nodes s with
  | error e =>
    rw [hfr] at hf
    have hS : newS Tr s b = .error e := by unfold newS; rw [hfr]; rfl
    refine ⟨_, rfl, f, _, 0, _, rfl, rfl, SqT.of hf, atI_nat (j := 0) rfl, rfl, _, rfl, ?_⟩
    refine ite2 (fun _ => ?_) (fun c => absurd (eq_str.mpr rfl) c)
    exact ⟨_, rfl, k.err hS s1 hf⟩
  | ok z =>
    rw [hfr] at hf
    obtain ⟨n, x⟩ := z
    obtain ⟨e, kk, hn2, _, hlen⟩ := free_ent hfr
    have hsrt := (W.ent _ _ _ hn2).1
    have hS : newS Tr s b = (match freeN Tr.nodes with
      | none => .error .tmf
      | some m => .ok (.none, ⟨addE (putN Tr.nodes m ⟨b, 1⟩) n x m, Tr.hs⟩)) := by
      unfold newS
      rw [hfr]; rfl
    refine ⟨_, rfl, f, _, 0, _, rfl, rfl, SqT.of hf, atI_nat (j := 0) rfl, rfl, _, rfl, ?_⟩
    refine ite2 (fun c => absurd (eq_str.mp c) lkd3) (fun _ => ?_)
    refine ⟨256, rfl, by decide, by decide, fun D hD => lc_range (fun i H' => Same H1 H' ∧ H' D = some (.lst ((((List.range 256).take i).filter fun i : Nat => (lk Tr.nodes (i : Int)).isNone).map fun i : Nat => V.int i))) ⟨same_new hD, upd_same⟩ ?_ ?_⟩
    · rintro i H' hi ⟨sm, hD'⟩
      have hi2 : i < 256 := hi
      have e0 : (0 : Int) + (i : Int) = (i : Int) := by omega
      rw [e0]
      obtain ⟨o, hg, ho⟩ := (la1.same sm).has (i : Int)
      refine ⟨rfl, _, rfl, _, rfl, dn, o, rfl, hg, _, rfl, ?_⟩
      have hlen : ((((List.range 256).take i).filter fun i : Nat => (lk Tr.nodes (i : Int)).isNone).map fun i : Nat => V.int i).length < sizeLine := by
        rw [List.length_map]
        have q1 : (((List.range 256).take i).filter fun i : Nat => (lk Tr.nodes (i : Int)).isNone).length ≤ ((List.range 256).take i).length := List.length_filter_le _ _
        rw [List.length_take] at q1
        rw [sizeLine_eq]
        omega
      rw [ho]
      refine ite2 (fun c => ?_) (fun c => ?_)
      · refine ⟨_, rfl, _, hD', hlen, same_mut sm hD, ?_⟩
        rw [upd_same, List.take_succ, List.getElem?_range hi2, List.filter_append, List.map_append]
        congr 3
        show _ = (List.filter _ [i]).map _
        rw [List.filter_cons, if_pos (by cases h : lk Tr.nodes (i : Int) with | none => rfl | some z => rw [h] at c; cases c)]
        rfl
      · refine ⟨sm, ?_⟩
        rw [List.take_succ, List.getElem?_range hi2, List.filter_append, hD']
        congr 3
        show _ = _ ++ (List.filter _ [i])
        rw [List.filter_cons, if_neg (by cases h : lk Tr.nodes (i : Int) with | none => rw [h] at c; exact absurd rfl c | some z => simp)]
        simp
    · rintro H' ⟨sm, hD'⟩
      rw [show Int.toNat 256 = (List.range 256).length from by rw [List.length_range]; rfl, List.take_length] at hD'
      have s2 := s1.trans sm
      have hf2 := sm _ _ hf
      refine ⟨_, rfl, D, _, rfl, .inl (SqL.of hD'), rfl, _, rfl, ?_⟩
      have hhead : ((List.range 256).filter fun i : Nat => (lk Tr.nodes (i : Int)).isNone).head? = freeN Tr.nodes := List.head?_filter
      cases hfl : (List.range 256).filter fun i : Nat => (lk Tr.nodes (i : Int)).isNone with
      | nil =>
        rw [hfl] at hhead
        rw [← hhead] at hS
        refine ite2 (fun _ => ?_) (fun c => absurd (eq_int.mpr rfl) c)
        exact ⟨(by show 2 ≤ sizeLine; decide), fun p hp => k.fail (e := .tmf) hS s2 hp⟩
      | cons m ms =>
        rw [hfl] at hhead hD'
        rw [← hhead] at hS
        obtain ⟨hm, hm0⟩ := free_no hhead.symm
        refine ite2 (fun c => absurd (eq_int.mp c) (by rw [List.length_map, List.length_cons]; omega)) (fun _ => ?_)
        refine ⟨_, rfl, _, rfl, (by show 3 ≤ sizeLine; decide), fun q hq0 => ?_⟩
        have s3 := s2.trans (same_new (o := .lst [V.str b.kind, bv, V.int 1]) hq0)
        have hq : upd H' q (.lst [V.str b.kind, bv, V.int 1]) q = some (.lst (nV ⟨b, 1⟩ bv)) := upd_same
        have hD3 := same_new (o := .lst [V.str b.kind, bv, V.int 1]) hq0 _ _ hD'
        have hf3 := same_new (o := .lst [V.str b.kind, bv, V.int 1]) hq0 _ _ hf2
        have hq1 : H q = none := none_same s2 hq0
        generalize upd H' q (.lst [V.str b.kind, bv, V.int 1]) = H3 at s3 hq hD3 hf3 ⊢
        have la3 := la.same s3
        have nq : ¬ IsQ H3 dn q := fun z => by
          obtain ⟨nd2, bv2, z2⟩ := la.isq (la.isq_back s3 z)
          rw [hq1] at z2; cases z2
        obtain ⟨H4, w1, w2, w3, w4, w5⟩ := la3.add (nd := ⟨b, 1⟩) hm0 (hb.i s3) hq nq (by have := W.len; omega)
        refine ⟨_, rfl, _, rfl, D, _, 0, _, rfl, rfl, SqL.of hD3, atI_nat (j := 0) rfl, dn, H4, rfl, w1, ?_⟩
        have f4 : FL dn hn H H4 := ⟨fun c o e n1 _ _ => w2 c o (s3 c o e) n1, fun c z => by
          rcases w3 c z with z | z
          · exact (la.fl s3).new c z
          · rw [z]; exact .inr hq1, fun c z => none_same s3 (w4 c z)⟩
        have nm : ¬ n = (m : Int) := fun z => by rw [z, hm0] at hn2; cases hn2
        have hn3 : lk (putN Tr.nodes (m : Int) ⟨b, 1⟩) n = some ⟨.ent e, kk⟩ := by rw [lk_put, if_neg nm]; exact hn2
        have dndk : ∃ kvs, H3 dn = some (.dK kvs) := by obtain ⟨kvs, y, _⟩ := la3.dict; exact ⟨kvs, y⟩
        obtain ⟨kvs3, hdn3⟩ := dndk
        have hf4 : H4 f = some (.tup (eV placeV (.ok (n, x)))) := w2 _ _ hf3 (fun z => by rw [z, hdn3] at hf3; cases hf3)
        have hD4 := w2 _ _ hD3 (fun z => by rw [z, hdn3] at hD3; cases hD3)
        refine ⟨_, rfl, _, rfl, f, _, 1, _, rfl, rfl, SqT.of hf4, atI_nat (j := 1) rfl, _, rfl, f, _, 2, _, rfl, rfl, SqT.of hf4, atI_nat (j := 2) rfl, _, rfl, D, _, 0, _, rfl, rfl, SqL.of hD4, atI_nat (j := 0) rfl, ?_⟩
        refine ⟨dn, hn, av, _, n, x, some (m : Int), e, kk, rfl, w5, hn3, hsrt, by omega, fun H5 f5 la5 => ?_⟩
        refine ⟨(by show 2 ≤ sizeLine; decide), fun p hp => ?_⟩
        refine k.fin (z := (.none, ⟨addE (putN Tr.nodes m ⟨b, 1⟩) n x m, Tr.hs⟩)) hS (f4.trans f5) ?_ hp DpF.non
        show LA K dn hn av H5 ⟨addE (putN Tr.nodes m ⟨b, 1⟩) n x m, Tr.hs⟩
        unfold addE
        rw [entOf_eq hn3, lnk_eq hn3]
        exact la5
end
end Tm

set_option maxHeartbeats 4000000
namespace Tm
open PySem PySem.Spec PyProof.Rows L2
theorem grown_eq (body oct : List Int) (off : Nat) : ((body ++ List.replicate (off + oct.length - body.length) 0).take off) = body.take off ++ List.replicate (off - body.length) (0 : Int) := by
  rw [List.take_append, List.take_replicate, Nat.min_eq_left (by omega)]
theorem grown_eq2 (body oct : List Int) (off : Nat) : ((body ++ List.replicate (off + oct.length - body.length) 0).drop (off + oct.length)) = body.drop (off + oct.length) := by
  rw [List.drop_append, List.drop_replicate, show off + oct.length - body.length - (off + oct.length - body.length) = 0 by omega]
  simp
theorem writtenO_err {body oct : List Int} {off : Nat} {e : Er} (h : writtenO body off oct = .error e) : e = .ftl := by
  unfold writtenO at h
  split at h
  · cases h
  · split at h
    · cases h; rfl
    · cases h
section
variable {P : Program} {w : World} {K : PySem.W.Frag} {mg : Str → Option Value} {base : Heap}
def spLWritten (K : PySem.W.Frag) : Sp := fun vs H Q _ => ∃ (b o : Addr) (body oct : List Int) (off : Nat), vs = [.ref b, .int off, .ref o] ∧ H b = some (.lst (body.map V.int)) ∧ SqL K H o (oct.map V.int) ∧ body.length ≤ 28672 ∧ off ≤ 28672 ∧ oct.length ≤ 10000 ∧
  (match writtenO body off oct with
  | .ok l => ∀ c H', Same H H' → H' c = some (.lst (l.map V.int)) → c = b ∨ H c = none → Q (.ref c) H'
  | .error _ => ∀ H', Same H H' → Q .non H')
-- slots of _law_written: 0 _law_body, 1 _law_offset_here, 2 _law_octets_here, 3 _law_grown
theorem sc_law_written : FnScope ["_law_body", "_law_offset_here", "_law_octets_here", "_law_grown"] ["_law_body", "_law_offset_here", "_law_octets_here"] (defScope s_law_written) := ⟨rfl, rfl, rfl, by decide +kernel, rfl, by decide +kernel, by decide +kernel⟩
theorem ok_law_written (T : Tx K mg) : FnR P w K mg base (L2.CX P w) 1 (He.ga K "_law_written") (spLWritten K) := by
  refine mk_fn (df_law_written T) sc_law_written (fun _ _ _ _ _ _ us hl => match us, hl with | [_, _, _], _ => rfl) (fun vs H Q E h => ?_) (fun cdv A outer s H vs Q E tk po hr h => ?_)
  · obtain ⟨_, _, _, _, _, rfl, _⟩ := h
    rfl
  obtain ⟨b, o, body, oct, off, rfl, hb, ho, h1, h2, h3, k⟩ := h
  refine ⟨_, (pss_cons (ps_if (pt_cmpR op_eq (pe_callB call_len_seq (by rfl) (f_len T) PySem.boot_len (pa_cons (pv 2) pa_nil)) pe_int (nomark _))
    (pss_one (ps_ret (pv 0)))
    pss_nil)
    (pss_cons (ps_if (pt_cmpR op_gt (pe_op op_add (pv 1) (pe_callB call_len_seq (by rfl) (f_len T) PySem.boot_len (pa_cons (pv 2) pa_nil))) pe_int (nomark _))
    (pss_one (ps_ret pe_non))
    pss_nil)
    (pss_cons (ps_set (i := 3) sc_law_written.nd rfl (Or.inl rfl) (pe_op op_cat (pv 0) (pe_op op_rep (pe_lst (pa_cons pe_int pa_nil)) (pe_op op_sub (pe_op op_add (pv 1) (pe_callB call_len_seq (by rfl) (f_len T) PySem.boot_len (pa_cons (pv 2) pa_nil))) (pe_callB call_len_seq (by rfl) (f_len T) PySem.boot_len (pa_cons (pv 0) pa_nil))))))
    (pss_one (ps_ret (pe_op op_cat (pe_op op_cat (pe_slice sl_list (pv 3) po_none (po_some (pv 1))) (pe_callTy call_list_of (by rfl) (f_list T) (by decide +kernel) (pa_cons (pv 2) pa_nil))) (pe_slice sl_list (pv 3) (po_some (pe_op op_add (pv 1) (pe_callB call_len_seq (by rfl) (f_len T) PySem.boot_len (pa_cons (pv 2) pa_nil)))) po_none))))))), ?_⟩
  refine ⟨_, rfl, _, _, rfl, .inl ho, rfl, _, rfl, ?_⟩
  refine ite2 (fun c => ?_) (fun c => ?_)
  · have c1 := eq_int.mp c
    rw [List.length_map] at c1
    have hS : writtenO body off oct = .ok body := if_pos (by omega)
    rw [hS] at k
    exact ⟨_, rfl, k b H (Same.refl _) hb (.inl rfl)⟩
  · have c1 : ¬ oct.length = 0 := fun z => c (eq_int.mpr (by rw [List.length_map]; omega))
    refine ⟨_, rfl, _, rfl, _, _, rfl, .inl ho, _, _, rfl, rfl, _, _, rfl, rfl, _, rfl, ?_⟩
    rw [List.length_map]
    refine ite2 (fun c => ?_) (fun c => ?_)
    · have c2 : (28672 : Int) < (off : Int) + ((oct.length : Nat) : Int) := of_decide_eq_true c
      have hS : writtenO body off oct = .error .ftl := by
        unfold writtenO
        rw [if_neg c1, if_pos (by omega)]
      rw [hS] at k
      exact k H (Same.refl _)
    · have c2 : ¬ (28672 : Int) < (off : Int) + ((oct.length : Nat) : Int) := fun z => c (decide_eq_true z)
      have hS : writtenO body off oct = .ok (body.take off ++ List.replicate (off - body.length) 0 ++ oct ++ body.drop (off + oct.length)) := by
        unfold writtenO
        rw [if_neg c1, if_neg (by omega)]
      rw [hS] at k
      refine ⟨_, rfl, (by show 1 ≤ sizeLine; decide), fun r hr0 => ?_⟩
      have s1 := same_new (o := .lst [V.int 0]) hr0
      refine ⟨_, rfl, _, rfl, _, _, rfl, .inl (same_l s1 ho), _, _, rfl, rfl, _, rfl, _, _, rfl, .inl (SqL.of (s1 _ _ hb)), _, _, rfl, rfl, ?_⟩
      rw [List.length_map, List.length_map]
      have ek : ((off : Int) + ((oct.length : Nat) : Int) - ((body.length : Nat) : Int)).toNat = off + oct.length - body.length := by omega
      refine ⟨r, _, _, rfl, rfl, upd_same, by omega, by omega, by rw [ek, sizeLine_eq]; show 1 * (off + oct.length - body.length) ≤ _; omega, fun g hg0 => ?_⟩
      rw [ek, rep_one, rep_int]
      have s2 := s1.trans (same_new (o := .lst ((List.replicate (off + oct.length - body.length) 0).map V.int)) hg0)
      refine ⟨b, g, _, _, rfl, rfl, s2 _ _ hb, upd_same, by rw [List.length_map, List.length_map, List.length_replicate, sizeLine_eq]; omega, fun gr hgr0 => ?_⟩
      rw [← List.map_append]
      have s3 := s2.trans (same_new (o := .lst ((body ++ List.replicate (off + oct.length - body.length) 0).map V.int)) hgr0)
      have hgr : upd (upd (upd H r (.lst [V.int 0])) g (.lst ((List.replicate (off + oct.length - body.length) 0).map V.int))) gr (.lst ((body ++ List.replicate (off + oct.length - body.length) 0).map V.int)) gr = some (.lst ((body ++ List.replicate (off + oct.length - body.length) 0).map V.int)) := upd_same
      generalize upd (upd (upd H r (.lst [V.int 0])) g (.lst ((List.replicate (off + oct.length - body.length) 0).map V.int))) gr (.lst ((body ++ List.replicate (off + oct.length - body.length) 0).map V.int)) = H3 at s3 hgr ⊢
      refine ⟨_, rfl, _, rfl, _, rfl, gr, _, rfl, SqL.of hgr, fun a1 ha1 => ?_⟩
      rw [cutM_to, grown_eq]
      have s4 := s3.trans (same_new (o := .lst ((body.take off ++ List.replicate (off - body.length) (0 : Int)).map V.int)) ha1)
      have t4 := same_new (o := .lst ((body.take off ++ List.replicate (off - body.length) (0 : Int)).map V.int)) ha1
      have h4 : upd H3 a1 (.lst ((body.take off ++ List.replicate (off - body.length) (0 : Int)).map V.int)) a1 = some (.lst ((body.take off ++ List.replicate (off - body.length) (0 : Int)).map V.int)) := upd_same
      generalize upd H3 a1 (.lst ((body.take off ++ List.replicate (off - body.length) (0 : Int)).map V.int)) = H4 at s4 t4 h4 ⊢
      refine ⟨_, rfl, o, _, rfl, .inl (same_l s4 ho), fun a2 ha2 => ?_⟩
      have t5 := same_new (o := .lst (oct.map V.int)) ha2
      have h5 : upd H4 a2 (.lst (oct.map V.int)) a2 = some (.lst (oct.map V.int)) := upd_same
      generalize upd H4 a2 (.lst (oct.map V.int)) = H5 at t5 h5 ⊢
      refine ⟨a1, a2, _, _, rfl, rfl, t5 _ _ h4, h5, ?_, fun a3 ha3 => ?_⟩
      · simp only [List.length_map, List.length_append, List.length_take, List.length_replicate, sizeLine_eq]; omega
      rw [← List.map_append]
      have t6 := same_new (o := .lst ((body.take off ++ List.replicate (off - body.length) (0 : Int) ++ oct).map V.int)) ha3
      have h6 : upd H5 a3 (.lst ((body.take off ++ List.replicate (off - body.length) (0 : Int) ++ oct).map V.int)) a3 = some (.lst ((body.take off ++ List.replicate (off - body.length) (0 : Int) ++ oct).map V.int)) := upd_same
      generalize upd H5 a3 (.lst ((body.take off ++ List.replicate (off - body.length) (0 : Int) ++ oct).map V.int)) = H6 at t6 h6 ⊢
      have s6 := (s4.trans t5).trans t6
      have hgr6 := (t4.trans t5).trans t6 _ _ hgr
      refine ⟨_, rfl, _, rfl, _, rfl, _, _, rfl, .inl (same_l s6 ho), _, _, rfl, rfl, _, rfl, ?_⟩
      rw [List.length_map]
      dsimp only [tNoPart]
      refine ⟨gr, _, rfl, SqL.of hgr6, fun a4 ha4 => ?_⟩
      have e5 : (off : Int) + ((oct.length : Nat) : Int) = ((off + oct.length : Nat) : Int) := by omega
      rw [e5, cutM_from, grown_eq2]
      have t7 := same_new (o := .lst ((body.drop (off + oct.length)).map V.int)) ha4
      have h7 : upd H6 a4 (.lst ((body.drop (off + oct.length)).map V.int)) a4 = some (.lst ((body.drop (off + oct.length)).map V.int)) := upd_same
      generalize upd H6 a4 (.lst ((body.drop (off + oct.length)).map V.int)) = H7 at t7 h7 ⊢
      have s7 := s6.trans t7
      refine ⟨a3, a4, _, _, rfl, rfl, t7 _ _ h6, h7, ?_, fun a5 ha5 => ?_⟩
      · simp only [List.length_map, List.length_append, List.length_take, List.length_replicate, List.length_drop, sizeLine_eq]; omega
      rw [← List.map_append]
      exact k a5 _ (s7.trans (same_new ha5)) upd_same (.inr (none_same s7 ha5))
/-! ### _law_put, _law_status -/
def putO (T : Tr) (n : Int) (r : Except Er (List Int)) : Except Er (PyData × Tr) := mapE (fun l => .ok (.none, ⟨putN T.nodes n ⟨.oct l, lnk T.nodes n⟩, T.hs⟩)) r
def spLPut (K : PySem.W.Frag) : Sp := fun vs H Q _ => ∃ (dn hn av : Addr) (T : Tr) (n : Int) (v : V) (body : List Int) (k : Int) (r : Except Er (List Int)), vs = [.ref dn, .int n, v] ∧ LA K dn hn av H T ∧ lk T.nodes n = some ⟨.oct body, k⟩ ∧
  (match r with
  | .ok l => BodyL K hn av H (.oct l) v
  | .error e => v = .non ∧ e = .ftl) ∧ LM K dn hn av (putO T n r) H Q
-- slots of _law_put: 0 _law_nodes, 1 _law_number, 2 _law_body
theorem sc_law_put : FnScope ["_law_nodes", "_law_number", "_law_body"] ["_law_nodes", "_law_number", "_law_body"] (defScope s_law_put) := ⟨rfl, rfl, rfl, by decide +kernel, rfl, by decide +kernel, by decide +kernel⟩
theorem ok_law_put (T : Tx K mg) : FnR P w K mg base (L2.CX P w) 1 (He.ga K "_law_put") (spLPut K) := by
  refine mk_fn (df_law_put T) sc_law_put (fun _ _ _ _ _ _ us hl => match us, hl with | [_, _, _], _ => rfl) (fun vs H Q E h => ?_) (fun cdv A outer s H vs Q E tk po hr h => ?_)
  · obtain ⟨_, _, _, _, _, _, _, _, _, rfl, _⟩ := h
    rfl
  obtain ⟨dn, hn, av, Tr, n, v, body, kk, r, rfl, la, hl, hv, k⟩ := h
  refine ⟨_, (pss_cons (ps_if (pt_cmpR op_isN (pv 2) pe_non (nomark _))
    (pss_one (ps_ret (pe_tup (pa_cons pe_str (pa_cons pe_str pa_nil)))))
    pss_nil)
    (pss_cons (ps_asg (pv 2) (pg_sub (pe_dget (hu_of hr) (pv 0) (pv 1) (fun _ _ => rfl)) pe_int set_list))
    (pss_one (ps_ret (pe_tup (pa_cons pe_str (pa_cons pe_non pa_nil))))))), ?_⟩
  cases r with
  | error e =>
    obtain ⟨rfl, rfl⟩ := hv
    refine ⟨_, rfl, rfl, _, rfl, ?_⟩
    refine ite2 (fun _ => ?_) (fun c => absurd ((is_non none).mpr rfl) c)
    exact ⟨(by show 2 ≤ sizeLine; decide), fun p hp => k.fail (e := .ftl) rfl (Same.refl _) hp⟩
  | ok l =>
    have hv : BodyL K hn av H (.oct l) v := hv
    obtain ⟨b, rfl, y1, y2, y3⟩ := id hv
    refine ⟨_, rfl, rfl, _, rfl, ?_⟩
    refine ite2 (fun c => (nomatch (of_decide_eq_true c : V.ref b = V.non))) (fun _ => ?_)
    refine ⟨_, rfl, _, rfl, _, rfl, ?_⟩
    refine wl_body la hl (bd' := .oct l) rfl hv (fun H1 f1 la1 => ?_)
    refine ⟨(by show 2 ≤ sizeLine; decide), fun p hp => ?_⟩
    refine k.fin (z := (.none, ⟨putN Tr.nodes n ⟨.oct l, lnk Tr.nodes n⟩, Tr.hs⟩)) rfl f1 ?_ hp DpF.non
    show LA K dn hn av H1 ⟨putN Tr.nodes n ⟨.oct l, lnk Tr.nodes n⟩, Tr.hs⟩
    rw [lnk_eq hl]
    exact la1
def spLStatus (K : PySem.W.Frag) : Sp := fun vs H Q _ => ∃ (dn hn av : Addr) (T : Tr) (n : Int) (nd : Nd), vs = [.ref dn, .int n] ∧ LA K dn hn av H T ∧ WF T ∧ lk T.nodes n = some nd ∧ LM K dn hn av (.ok (statD n nd, T)) H Q
-- slots of _law_status: 0 _law_nodes, 1 _law_number
theorem sc_law_status : FnScope ["_law_nodes", "_law_number"] ["_law_nodes", "_law_number"] (defScope s_law_status) := ⟨rfl, rfl, rfl, by decide +kernel, rfl, by decide +kernel, by decide +kernel⟩
theorem ok_law_status (T : Tx K mg) : FnR P w K mg base (L2.CX P w) 1 (He.ga K "_law_status") (spLStatus K) := by
  refine mk_fn (df_law_status T) sc_law_status (fun _ _ _ _ _ _ us hl => match us, hl with | [_, _], _ => rfl) (fun vs H Q E h => ?_) (fun cdv A outer s H vs Q E tk po hr h => ?_)
  · obtain ⟨_, _, _, _, _, _, rfl, _⟩ := h
    rfl
  obtain ⟨dn, hn, av, Tr, n, nd, rfl, la, W, hl, k⟩ := h
  refine ⟨_, (pss_one (ps_ret (pe_tup (pa_cons pe_str (pa_cons (pe_tup (pa_cons (pe_ix ix_list (pe_dget (hu_of hr) (pv 0) (pv 1) (fun _ _ => rfl)) pe_int (fun _ _ => rfl)) (pa_cons (pv 1) (pa_cons (pe_ix ix_list (pe_dget (hu_of hr) (pv 0) (pv 1) (fun _ _ => rfl)) pe_int (fun _ _ => rfl)) (pa_cons (pe_callB call_len (by rfl) (f_len T) PySem.boot_len (pa_cons (pe_ix ix_list (pe_dget (hu_of hr) (pv 0) (pv 1) (fun _ _ => rfl)) pe_int (fun _ _ => rfl)) pa_nil)) pa_nil))))) pa_nil))))), ?_⟩
  refine ⟨_, rfl, _, rfl, ?_⟩
  refine ld_kind la hl ?_
  refine ⟨_, rfl, _, rfl, _, rfl, ?_⟩
  refine ld_links la hl ?_
  refine ⟨_, rfl, _, rfl, ?_⟩
  refine ld_body la hl (fun bv hb => ?_)
  have small := bd_small W hl
  refine ⟨bv, nd.bd.len, rfl, ?_, (by show 4 ≤ sizeLine; decide), fun t ht => ⟨(by show 2 ≤ sizeLine; decide), fun p hp => ?_⟩⟩
  · obtain ⟨bd, lks⟩ := nd
    cases bd with
    | oct l =>
      obtain ⟨b, rfl, _, _, hs⟩ := hb
      exact .inl ⟨_, SqL.of hs, (by rw [List.length_map]; rfl)⟩
    | ent l =>
      obtain ⟨b, ps, rfl, _, _, hs, hq⟩ := hb
      exact .inl ⟨_, SqL.of hs, (by rw [List.length_map]; exact (paired_len hq).symm)⟩
    | tgt z =>
      have e : bv = V.str z := hb
      subst e
      exact ⟨by rw [sizeLine_eq]; have : z.length ≤ 30000 := small; omega, rfl⟩
  · have s1 := same_new (o := .tup (statV n nd)) ht
    have ht2 : upd H t (.tup (statV n nd)) t = some (.tup (statV n nd)) := upd_same
    exact k.fin (z := (statD n nd, Tr)) rfl (la.fl s1) (la.same s1) hp (fun H'' _ i => dp_stat (i _ _ trivial ht2))
/-! ### _law_write -/
theorem word_nf (e : Er) : (e.word == ("notfound" : Str)) = decide (e = .nf) := by cases e <;> decide +kernel
theorem eqv_err (e : Er) : PyData.eqv (.tuple [.str "error", .str e.word]) (.tuple [.str "error", .str "notfound"]) = decide (e = .nf) := by
  show ((("error" : Str) == ("error" : Str)) && ((e.word == ("notfound" : Str)) && true)) = _
  rw [word_nf, Bool.and_true, beq_self_eq_true, Bool.true_and]
theorem shaped_err {x y : Str} (hx : PyData.strOk x = true) (hy : PyData.strOk y = true) : SeqAt.shaped (.tuple [.str x, .str y]) = true := by
  simp [SeqAt.shaped, PyData.canLay0, PyData.canLayAll0, PyData.depth, PyData.depthAll, hx, hy]
theorem shaped_node {x : Str} {y : Int} (hx : PyData.strOk x = true) : SeqAt.shaped (.tuple [.str x, .int y]) = true := by
  simp [SeqAt.shaped, PyData.canLay0, PyData.canLayAll0, PyData.depth, PyData.depthAll, hx]
theorem ok_error : PyData.strOk ("error" : Str) = true := by decide +kernel
theorem ok_node : PyData.strOk ("node" : Str) = true := by decide +kernel
theorem ok_ok : PyData.strOk ("ok" : Str) = true := by decide +kernel
theorem ok_word (e : Er) : PyData.strOk e.word = true := by cases e <;> decide +kernel
theorem eqv_node (n : Int) : PyData.eqv (.tuple [.str "node", .int n]) (.tuple [.str "error", .str "notfound"]) = false := by
  show ((("node" : Str) == ("error" : Str)) && (PyData.eqvAll [.int n] [.str "notfound"])) = _
  have h : (("node" : Str) == ("error" : Str)) = false := by decide +kernel
  rw [h]; rfl
theorem dp_err {H : Hp} {p : Addr} {e : Er} (h : H p = some (.tup [.str "error", .str e.word])) : Dp K H (.ref p) (.tuple [.str "error", .str e.word]) := .tup (SqT.of h) (.cons (.str _) (.cons (.str _) .nil))
theorem dp_node {H : Hp} {p : Addr} {n : Int} (h : H p = some (.tup [.str "node", .int n])) : Dp K H (.ref p) (.tuple [.str "node", .int n]) := .tup (SqT.of h) (.cons (.str _) (.cons (.int _) .nil))
def spLWrite (K : PySem.W.Frag) : Sp := fun vs H Q _ => ∃ (dn hn av o : Addr) (T : Tr) (s : Str) (off : Nat) (oct : List Int), vs = [.ref dn, .str s, .int off, .ref o] ∧ LA K dn hn av H T ∧ WF T ∧ s ∈ pathL ∧ SqL K H o (oct.map V.int) ∧ off ≤ 28672 ∧ oct.length ≤ 10000 ∧ LM K dn hn av (writeS T s off oct) H Q
-- slots of _law_write: 0 _law_nodes, 1 _law_path_here, 2 _law_offset_here, 3 _law_octets_here, 4 _law_found, 5 _law_place_here, 6 _law_body
theorem sc_law_write : FnScope ["_law_nodes", "_law_path_here", "_law_offset_here", "_law_octets_here", "_law_found", "_law_place_here", "_law_body"] ["_law_nodes", "_law_path_here", "_law_offset_here", "_law_octets_here"] (defScope s_law_write) := ⟨rfl, rfl, rfl, by decide +kernel, rfl, by decide +kernel, by decide +kernel⟩
theorem ok_law_write (T : Tx K mg) : FnR P w K mg base (L2.CX P w) 6 (He.ga K "_law_write") (spLWrite K) := by
  have G_law_follow := ok_law_follow (P := P) (w := w) (base := base) T
  have G_law_put := ok_law_put (P := P) (w := w) (base := base) T
  have G_law_names := ok_law_names (P := P) (w := w) (base := base) T
  have G_law_place := ok_law_place (P := P) (w := w) (base := base) T
  have G_law_written := ok_law_written (P := P) (w := w) (base := base) T
  have G_law_new := ok_law_new (P := P) (w := w) (base := base) T
  have G_law_child := ok_law_child (P := P) (w := w) (base := base) T
  refine mk_fn (df_law_write T) sc_law_write (fun _ _ _ _ _ _ us hl => match us, hl with | [_, _, _, _], _ => rfl) (fun vs H Q E h => ?_) (fun cdv A outer s H vs Q E tk po hr h => ?_)
  · obtain ⟨_, _, _, _, _, _, _, _, rfl, _⟩ := h
    rfl
  obtain ⟨dn, hn, av, o, Tr, s, off, oct, rfl, la, W, hs, ho, h2, h3, k⟩ := h
  refine ⟨_, (pss_cons (ps_set (i := 4) sc_law_write.nd rfl (Or.inl rfl) (pe_callR G_law_follow (hr.mono (by decide)) rfl (g_law_follow T) (k_law_follow T) (pc_of tk) (pa_cons (pv 0) (pa_cons (pe_callR G_law_names (hr.mono (by decide)) rfl (g_law_names T) (k_law_names T) (pc_of tk) (pa_cons (pv 1) pa_nil)) pa_nil))))
    (pss_cons (ps_if (pt_cmpR (op_eqD hr.units) (pv 4) (pe_tup (pa_cons pe_str (pa_cons pe_str pa_nil))) (nomark _))
    (pss_cons (ps_set (i := 5) sc_law_write.nd rfl (Or.inl rfl) (pe_callR G_law_place (hr.mono (by decide)) rfl (g_law_place T) (k_law_place T) (pc_of tk) (pa_cons (pv 0) (pa_cons (pv 1) pa_nil))))
      (pss_cons (ps_if (pt_cmpR op_eq (pe_ix (ix_tupK (K := K)) (pv 5) pe_int (fun _ _ => rfl)) pe_str (nomark _))
      (pss_one (ps_ret (pv 5)))
      pss_nil)
      (pss_cons (ps_if (pt_cmpR op_notN (pe_callR G_law_child (hr.mono (by decide)) rfl (g_law_child T) (k_law_child T) (pc_of tk) (pa_cons (pv 0) (pa_cons (pe_ix (ix_tupK (K := K)) (pv 5) pe_int (fun _ _ => rfl)) (pa_cons (pe_ix (ix_tupK (K := K)) (pv 5) pe_int (fun _ _ => rfl)) pa_nil)))) pe_non (nomark _))
      (pss_one (ps_ret (pv 4)))
      pss_nil)
      (pss_cons (ps_set (i := 6) sc_law_write.nd rfl (Or.inl rfl) (pe_callR G_law_written (hr.mono (by decide)) rfl (g_law_written T) (k_law_written T) (pc_of tk) (pa_cons (pe_lst pa_nil) (pa_cons (pv 2) (pa_cons (pv 3) pa_nil)))))
      (pss_cons (ps_if (pt_cmpR op_isN (pv 6) pe_non (nomark _))
      (pss_one (ps_ret (pe_tup (pa_cons pe_str (pa_cons pe_str pa_nil)))))
      pss_nil)
      (pss_one (ps_ret (pe_callR G_law_new (hr.mono (by decide)) rfl (g_law_new T) (k_law_new T) (pc_of tk) (pa_cons (pv 0) (pa_cons (pv 1) (pa_cons pe_str (pa_cons (pv 6) pa_nil))))))))))))
    pss_nil)
    (pss_cons (ps_if (PW.pt (pw_and (pt_cmpR op_eq (pe_ix (ix_tupK (K := K)) (pv 4) pe_int (fun _ _ => rfl)) pe_str (nomark _)) (pw_and1 (pt_cmpR op_ne (pe_ix ix_list (pe_dget (hu_of hr) (pv 0) (pe_ix (ix_tupK (K := K)) (pv 4) pe_int (fun _ _ => rfl)) (fun _ _ => rfl)) pe_int (fun _ _ => rfl)) pe_str (nomark _)))))
    (pss_one (ps_ret (pe_tup (pa_cons pe_str (pa_cons pe_str pa_nil)))))
    pss_nil)
    (pss_cons (ps_if (pt_cmpR op_eq (pe_ix (ix_tupK (K := K)) (pv 4) pe_int (fun _ _ => rfl)) pe_str (nomark _))
    (pss_one (ps_ret (pv 4)))
    pss_nil)
    (pss_one (ps_ret (pe_callR G_law_put (hr.mono (by decide)) rfl (g_law_put T) (k_law_put T) (pc_of tk) (pa_cons (pv 0) (pa_cons (pe_ix (ix_tupK (K := K)) (pv 4) pe_int (fun _ _ => rfl)) (pa_cons (pe_callR G_law_written (hr.mono (by decide)) rfl (g_law_written T) (k_law_written T) (pc_of tk) (pa_cons (pe_ix ix_list (pe_dget (hu_of hr) (pv 0) (pe_ix (ix_tupK (K := K)) (pv 4) pe_int (fun _ _ => rfl)) (fun _ _ => rfl)) pe_int (fun _ _ => rfl)) (pa_cons (pv 2) (pa_cons (pv 3) pa_nil)))) pa_nil)))))))))), ?_⟩
  obtain ⟨n1, n2, _, _⟩ := names_ok (.inl hs)
  refine ⟨_, rfl, _, rfl, s, rfl, .inl hs, fun q H1 s1 hq0 hq => ?_⟩
  refine ⟨dn, hn, av, q, Tr, _, rfl, la.same s1, W, SqL.of hq, n2, fun f H2 s2 hf => ?_⟩
  have s3 := s1.trans s2
  have la3 := la.same s3
  replace hf : H2 f = some (.tup (eV foundV (followS Tr.nodes s))) := hf
  refine ⟨_, rfl, (by show 2 ≤ sizeLine; decide), fun c0 hc0 => ?_⟩
  have s4 := s3.trans (same_new (o := .tup [V.str "error", V.str "notfound"]) hc0)
  have hf4 := same_new (o := .tup [V.str "error", V.str "notfound"]) hc0 _ _ hf
  have hc4 : upd H2 c0 (.tup [V.str "error", V.str "notfound"]) c0 = some (.tup [V.str "error", V.str Er.nf.word]) := upd_same
  generalize upd H2 c0 (.tup [V.str "error", V.str "notfound"]) = H4 at s4 hf4 hc4 ⊢
  have la4 := la.same s4
  cases hfo : followS Tr.nodes s with
  | error e =>
    rw [hfo] at hf4
    refine ⟨_, _, dp_err hf4, dp_err hc4, shaped_err ok_error (ok_word _), shaped_err ok_error (ok_word _), _, rfl, ?_⟩
    have e0 : PyData.eqv (.tuple [.str "error", .str e.word]) (.tuple [.str "error", .str Er.nf.word]) = decide (e = .nf) := eqv_err e
    rw [e0]
    refine ite2 (fun c => ?_) (fun c => ?_)
    · have e1 : e = .nf := of_decide_eq_true c
      subst e1
      have hS : writeS Tr s off oct = writeNewS Tr s off oct := by
        unfold writeS
        rw [hfo]
      refine ⟨_, rfl, _, rfl, dn, hn, av, Tr, s, rfl, la4, W, hs, fun f2 H5 s5 hf5 => ?_⟩
      have s6 := s4.trans s5
      have la6 := la.same s6
      replace hf5 : H5 f2 = some (.tup (eV placeV (placeS Tr.nodes s))) := hf5
      have hf6 := s5 _ _ hf4
      cases hp : placeS Tr.nodes s with
      | error e =>
        rw [hp] at hf5
        refine ⟨_, rfl, f2, _, 0, _, rfl, rfl, SqT.of hf5, atI_nat (j := 0) rfl, rfl, _, rfl, ?_⟩
        refine ite2 (fun _ => ?_) (fun c => absurd (eq_str.mpr rfl) c)
        refine ⟨_, rfl, k.err (e := e) ?_ s6 hf5⟩
        rw [hS]; unfold writeNewS; rw [hp]; rfl
      | ok z =>
        rw [hp] at hf5
        obtain ⟨n, x⟩ := z
        obtain ⟨e, kk, hd⟩ := place_dir hp
        have hS2 : writeNewS Tr s off oct = (if (childL e x).isSome then .error .nf else mapE (fun l => newS Tr s (.oct l)) (writtenO [] off oct)) := by
          unfold writeNewS
          rw [hp]
          show (if (child Tr.nodes n x).isSome then _ else _) = _
          rw [child_ent hd]
        refine ⟨_, rfl, f2, _, 0, _, rfl, rfl, SqT.of hf5, atI_nat (j := 0) rfl, rfl, _, rfl, ?_⟩
        refine ite2 (fun c => absurd (eq_str.mp c) lkd3) (fun _ => ?_)
        refine ⟨_, rfl, _, rfl, f2, _, 1, _, rfl, rfl, SqT.of hf5, atI_nat (j := 1) rfl, _, rfl, f2, _, 2, _, rfl, rfl, SqT.of hf5, atI_nat (j := 2) rfl, ?_⟩
        refine ⟨dn, hn, av, Tr, n, x, e, kk, rfl, la6, hd, fun H7 s7 => ?_⟩
        have s8 := s6.trans s7
        refine ⟨rfl, _, rfl, ?_⟩
        refine ite2 (fun c => ?_) (fun c => ?_)
        · have c1 := (not_non _).mp c
          refine ⟨_, rfl, k.err (e := .nf) ?_ s8 (s7 _ _ hf6)⟩
          rw [hS, hS2, if_pos (Option.isSome_iff_ne_none.mpr c1)]
        · have c1 : ¬ (childL e x).isSome = true := fun z => c ((not_non _).mpr (Option.isSome_iff_ne_none.mp z))
          rw [if_neg c1] at hS2
          refine ⟨(Nat.zero_le _), fun r hr0 => ?_⟩
          have s9 := s8.trans (same_new (o := .lst []) hr0)
          have hr9 : upd H7 r (.lst []) r = some (.lst (([] : List Int).map V.int)) := upd_same
          have hr8 : H r = none := none_same s8 hr0
          generalize upd H7 r (.lst []) = H9 at s9 hr9 ⊢
          refine ⟨_, rfl, _, rfl, r, o, [], oct, off, rfl, hr9, same_l s9 ho, (by decide), h2, h3, ?_⟩
          cases hw : writtenO [] off oct with
          | error e =>
            have e1 := writtenO_err hw
            subst e1
            rw [hw] at hS2
            refine fun H10 s10 => ?_
            refine ⟨_, rfl, rfl, _, rfl, ?_⟩
            refine ite2 (fun _ => ?_) (fun c => absurd ((is_non none).mpr rfl) c)
            exact ⟨(by show 2 ≤ sizeLine; decide), fun p hp => k.fail (e := .ftl) (hS.trans hS2) (s9.trans s10) hp⟩
          | ok l =>
            rw [hw] at hS2
            refine fun c H10 s10 hc hor => ?_
            refine ⟨_, rfl, rfl, _, rfl, ?_⟩
            refine ite2 (fun c => (nomatch (of_decide_eq_true c : V.ref _ = V.non))) (fun _ => ?_)
            have s11 := s9.trans s10
            have hc0 : H c = none := by
              rcases hor with e | e
              · rw [e]; exact hr8
              · exact none_same s9 e
            have cn : c ≠ hn := fun z => by rw [z, la.hand] at hc0; cases hc0
            have ca : c ≠ av := fun z => by
              obtain ⟨hs, h5⟩ := la.ava
              rw [z, h5] at hc0; cases hc0
            refine ⟨_, rfl, _, rfl, _, rfl, dn, hn, av, Tr, s, .oct l, .ref c, rfl, la.same s11, W, hs, ⟨c, rfl, cn, ca, hc⟩, ?_⟩
            exact LM.of (fun e he p H12 s12 hp => k.err ((hS.trans hS2).trans he) (s11.trans s12) hp) (fun z hz p x H12 f12 la12 hp d => k.val ((hS.trans hS2).trans hz) ((la.fl s11).trans f12) la12 hp (d.down fun a e => none_same s11 e))
    · have e1 : ¬ e = .nf := fun z => c (decide_eq_true z)
      have hS : writeS Tr s off oct = .error e := by
        unfold writeS
        rw [hfo]
        cases e <;> first | rfl | exact absurd rfl e1
      refine ⟨_, rfl, f, _, 0, _, rfl, rfl, SqT.of hf4, atI_nat (j := 0) rfl, rfl, _, rfl, ?_⟩
      refine ite2 (fun c => absurd (eq_str.mp c) lkd1) (fun _ => ?_)
      refine ⟨_, rfl, f, _, 0, _, rfl, rfl, SqT.of hf4, atI_nat (j := 0) rfl, rfl, _, rfl, ?_⟩
      refine ite2 (fun _ => ?_) (fun c => absurd (eq_str.mpr rfl) c)
      exact ⟨_, rfl, k.err hS s4 hf4⟩
  | ok n =>
    rw [hfo] at hf4
    refine ⟨_, _, dp_node hf4, dp_err hc4, shaped_node ok_node, shaped_err ok_error (ok_word _), _, rfl, ?_⟩
    have e0 : PyData.eqv (.tuple [.str "node", .int n]) (.tuple [.str "error", .str Er.nf.word]) = false := eqv_node n
    rw [e0]
    refine ite2 (fun c => absurd c (by decide)) (fun _ => ?_)
    obtain ⟨nd, hnd⟩ := follow_there W hfo
    have hS : writeS Tr s off oct = (match (some nd : Option Nd) with
      | some ⟨.oct _, _⟩ => writeN Tr n off oct
      | _ => .error .isd) := by
      unfold writeS
      rw [hfo, ← hnd]
      all_goals rfl
    refine ⟨_, rfl, f, _, 0, _, rfl, rfl, SqT.of hf4, atI_nat (j := 0) rfl, rfl, _, rfl, ?_⟩
    refine ite2 (fun _ => ?_) (fun c => absurd (eq_str.mpr rfl) c)
    refine ⟨_, rfl, _, rfl, f, _, 1, _, rfl, rfl, SqT.of hf4, atI_nat (j := 1) rfl, ?_⟩
    refine ld_kind la4 hnd ?_
    refine ⟨rfl, _, rfl, ?_⟩
    obtain ⟨b, kk⟩ := nd
    refine ite2 (fun c => ?_) (fun c => ?_)
    · have c1 := ne_str.mp c
      refine ⟨(by show 2 ≤ sizeLine; decide), fun p hp => k.fail (e := .isd) ?_ s4 hp⟩
      rw [hS]
      cases b with
      | oct z => exact absurd rfl c1
      | ent z => rfl
      | tgt z => rfl
    · obtain ⟨body, he⟩ := (kind_file b).mp (Classical.byContradiction fun q => c (ne_str.mpr q))
      subst he
      have hS : writeS Tr s off oct = writeN Tr n off oct := hS
      refine ⟨_, rfl, f, _, 0, _, rfl, rfl, SqT.of hf4, atI_nat (j := 0) rfl, rfl, _, rfl, ?_⟩
      refine ite2 (fun c => absurd (eq_str.mp c) lkd2) (fun _ => ?_)
      refine ⟨_, rfl, _, rfl, f, _, 1, _, rfl, rfl, SqT.of hf4, atI_nat (j := 1) rfl, _, rfl, _, rfl, f, _, 1, _, rfl, rfl, SqT.of hf4, atI_nat (j := 1) rfl, ?_⟩
      refine ld_body la4 hnd (fun bv hb => ?_)
      obtain ⟨b, rfl, bn, ba, hb2⟩ := hb
      have hlen := W.oct _ _ _ hnd
      refine ⟨_, rfl, _, rfl, b, o, body, oct, off, rfl, hb2, same_l s4 ho, hlen, h2, h3, ?_⟩
      have hS3 : writeN Tr n off oct = putO Tr n (writtenO body off oct) := by
        unfold writeN putO
        rw [octsOf_eq hnd]
      cases hw : writtenO body off oct with
      | error e =>
        have e1 := writtenO_err hw
        subst e1
        rw [hw] at hS3
        refine fun H10 s10 => ?_
        have s11 := s4.trans s10
        refine ⟨dn, hn, av, Tr, n, .non, body, kk, .error .ftl, rfl, la.same s11, hnd, ⟨rfl, rfl⟩, ?_⟩
        exact LM.of (fun e he p H12 s12 hp => k.err ((hS.trans hS3).trans he) (s11.trans s12) hp) (fun z hz p x H12 f12 la12 hp d => k.val ((hS.trans hS3).trans hz) ((la.fl s11).trans f12) la12 hp (d.down fun a e => none_same s11 e))
      | ok l =>
        rw [hw] at hS3
        refine fun c H10 s10 hc hor => ?_
        have s11 := s4.trans s10
        have cn : c ≠ hn := fun z => by
          rcases hor with e | e
          · exact bn (e.symm.trans z)
          · have := none_same s4 e; rw [z, la.hand] at this; cases this
        have ca : c ≠ av := fun z => by
          rcases hor with e | e
          · exact ba (e.symm.trans z)
          · obtain ⟨hs, h5⟩ := la.ava
            have := none_same s4 e; rw [z, h5] at this; cases this
        refine ⟨dn, hn, av, Tr, n, .ref c, body, kk, .ok l, rfl, la.same s11, hnd, ⟨c, rfl, cn, ca, hc⟩, ?_⟩
        exact LM.of (fun e he p H12 s12 hp => k.err ((hS.trans hS3).trans he) (s11.trans s12) hp) (fun z hz p x H12 f12 la12 hp d => k.val ((hS.trans hS3).trans hz) ((la.fl s11).trans f12) la12 hp (d.down fun a e => none_same s11 e))
end
end Tm

set_option maxHeartbeats 4000000
namespace Tm
open PySem PySem.Spec PyProof.Rows L2
theorem LA.fi {K : PySem.W.Frag} {dn hn av : Addr} {H H' : Hp} {T : Tr} (la : LA K dn hn av H T) (f : FL dn hn H H') : SameI H H' := fun b o i e => by
  refine f.keep b o e (fun z => ?_) (fun z => ?_) (fun z => ?_)
  · obtain ⟨kvs, h1, _⟩ := la.dict
    rw [z, h1] at e; cases e; exact i
  · rw [z, la.hand] at e; cases e; exact i
  · obtain ⟨nd, bv, h⟩ := la.isq z
    rw [h] at e; cases e; exact i
theorem lk_del {l : Ns} {n m : Int} {x : Str} {y : Nd} (h : lk l m = some y) : ∃ y2, lk (delE l n x) m = some y2 := by
  unfold delE
  rw [lk_put]
  by_cases q : m = n
  · exact ⟨_, if_pos q⟩
  · exact ⟨y, by rw [if_neg q]; exact h⟩
theorem kw1 : ¬ (("unlink" : Str) = "rmdir") := by decide +kernel
/-- a directory loses its only name -/
theorem lose_dir {T : Tr} (W : WF T) {n c : Int} {x : Str} {e : List (Str × Int)} {k : Int} (hc : lk T.nodes c = some ⟨.ent e, k⟩) {ne : List (Str × Int)} {nk : Int} (hn : lk T.nodes n = some ⟨.ent ne, nk⟩) : loseN ⟨delE T.nodes n x, T.hs⟩ c = dropN (delE T.nodes n x) c := by
  have hk := (W.ent _ _ _ hc).2.2.1
  have hnk := (W.ent _ _ _ hn).2.2.1
  have hno : some c ∉ T.hs := fun z => by
    obtain ⟨l, k2, h⟩ := W.hf _ z
    rw [hc] at h; cases h
  have h1 : ∃ y, lk (delE T.nodes n x) c = some y ∧ y.links = 1 := by
    unfold delE
    rw [lk_put]
    by_cases q : c = n
    · exact ⟨_, if_pos q, by rw [lnk_eq hn]; exact hnk⟩
    · exact ⟨_, by rw [if_neg q]; exact hc, hk⟩
  obtain ⟨y, h2, h3⟩ := h1
  unfold loseN
  rw [h2]
  exact if_pos ⟨h3, hno⟩
section
variable {P : Program} {w : World} {K : PySem.W.Frag} {mg : Str → Option Value} {base : Heap}
def removeS (T : Tr) (b : Bool) (p : Str) : Except Er (PyData × Tr) := if b then rmdirS T p else unlinkS T p
def rmW (b : Bool) : Str := if b then "rmdir" else "unlink"
def spLRemove (K : PySem.W.Frag) : Sp := fun vs H Q _ => ∃ (dn hn av a : Addr) (T : Tr) (b : Bool) (s : Str), vs = [.ref dn, .ref hn, .ref a] ∧ LA K dn hn av H T ∧ WF T ∧ s ∈ pathL ∧ SqT K H a [.str (rmW b), .str s] ∧ LM K dn hn av (removeS T b s) H Q
-- slots of _law_remove: 0 _law_nodes, 1 _law_handles, 2 _law_operation_here, 3 _law_found, 4 _law_kind
theorem sc_law_remove : FnScope ["_law_nodes", "_law_handles", "_law_operation_here", "_law_found", "_law_kind"] ["_law_nodes", "_law_handles", "_law_operation_here"] (defScope s_law_remove) := ⟨rfl, rfl, rfl, by decide +kernel, rfl, by decide +kernel, by decide +kernel⟩
theorem ok_law_remove (T : Tx K mg) : FnR P w K mg base (L2.CX P w) 5 (He.ga K "_law_remove") (spLRemove K) := by
  have G_law_entry := ok_law_entry (P := P) (w := w) (base := base) T
  have G_law_set := ok_law_set (P := P) (w := w) (base := base) T
  have G_law_lose := ok_law_lose (P := P) (w := w) (base := base) T
  refine mk_fn (df_law_remove T) sc_law_remove (fun _ _ _ _ _ _ us hl => match us, hl with | [_, _, _], _ => rfl) (fun vs H Q E h => ?_) (fun cdv A outer s H vs Q E tk po hr h => ?_)
  · obtain ⟨_, _, _, _, _, _, _, rfl, _⟩ := h
    rfl
  obtain ⟨dn, hn, av, a, Tr, bb, s, rfl, la, W, hs, ha, k⟩ := h
  refine ⟨_, (pss_cons (ps_set (i := 3) sc_law_remove.nd rfl (Or.inl rfl) (pe_callR G_law_entry (hr.mono (by decide)) rfl (g_law_entry T) (k_law_entry T) (pc_of tk) (pa_cons (pv 0) (pa_cons (pe_ix (ix_tupK (K := K)) (pv 2) pe_int (fun _ _ => rfl)) pa_nil))))
    (pss_cons (ps_if (pt_cmpR op_eq (pe_ix (ix_tupK (K := K)) (pv 3) pe_int (fun _ _ => rfl)) pe_str (nomark _))
    (pss_one (ps_ret (pv 3)))
    pss_nil)
    (pss_cons (ps_set (i := 4) sc_law_remove.nd rfl (Or.inl rfl) (pe_ix ix_list (pe_dget (hu_of hr) (pv 0) (pe_ix (ix_tupK (K := K)) (pv 3) pe_int (fun _ _ => rfl)) (fun _ _ => rfl)) pe_int (fun _ _ => rfl)))
    (pss_cons (ps_if (pt_cmpR op_eq (pe_ix (ix_tupK (K := K)) (pv 2) pe_int (fun _ _ => rfl)) pe_str (nomark _))
    (pss_cons (ps_if (pt_cmpR op_ne (pv 4) pe_str (nomark _))
      (pss_one (ps_ret (pe_tup (pa_cons pe_str (pa_cons pe_str pa_nil)))))
      pss_nil)
      (pss_one (ps_if (pt_cmpR op_gt (pe_callB call_len_seq (by rfl) (f_len T) PySem.boot_len (pa_cons (pe_ix ix_list (pe_dget (hu_of hr) (pv 0) (pe_ix (ix_tupK (K := K)) (pv 3) pe_int (fun _ _ => rfl)) (fun _ _ => rfl)) pe_int (fun _ _ => rfl)) pa_nil)) pe_int (nomark _))
      (pss_one (ps_ret (pe_tup (pa_cons pe_str (pa_cons pe_str pa_nil)))))
      pss_nil)))
    (pss_one (ps_if (pt_cmpR op_eq (pv 4) pe_str (nomark _))
      (pss_one (ps_ret (pe_tup (pa_cons pe_str (pa_cons pe_str pa_nil)))))
      pss_nil)))
    (pss_cons (ps_expr (pe_callR G_law_set (hr.mono (by decide)) rfl (g_law_set T) (k_law_set T) (pc_of tk) (pa_cons (pv 0) (pa_cons (pe_ix (ix_tupK (K := K)) (pv 3) pe_int (fun _ _ => rfl)) (pa_cons (pe_ix (ix_tupK (K := K)) (pv 3) pe_int (fun _ _ => rfl)) (pa_cons pe_non pa_nil))))))
    (pss_cons (ps_expr (pe_callR G_law_lose (hr.mono (by decide)) rfl (g_law_lose T) (k_law_lose T) (pc_of tk) (pa_cons (pv 0) (pa_cons (pv 1) (pa_cons (pe_ix (ix_tupK (K := K)) (pv 3) pe_int (fun _ _ => rfl)) pa_nil)))))
    (pss_one (ps_ret (pe_tup (pa_cons pe_str (pa_cons pe_non pa_nil))))))))))), ?_⟩
  refine ⟨_, rfl, _, rfl, a, _, 1, _, rfl, rfl, ha, atI_nat (j := 1) rfl, dn, hn, av, Tr, s, rfl, la, W, hs, fun f H1 s1 hf => ?_⟩
  replace hf : H1 f = some (.tup (eV entryV (entryS Tr.nodes s))) := hf
  have la1 := la.same s1
  have ha1 := same_t s1 ha
  cases he : entryS Tr.nodes s with
  | error e =>
    rw [he] at hf
    refine ⟨_, rfl, f, _, 0, _, rfl, rfl, SqT.of hf, atI_nat (j := 0) rfl, rfl, _, rfl, ?_⟩
    refine ite2 (fun _ => ?_) (fun c => absurd (eq_str.mpr rfl) c)
    refine ⟨_, rfl, k.err (e := e) ?_ s1 hf⟩
    cases bb
    · show unlinkS Tr s = _; unfold unlinkS; rw [he]; rfl
    · show rmdirS Tr s = _; unfold rmdirS; rw [he]; rfl
  | ok z =>
    rw [he] at hf
    obtain ⟨n, x, c⟩ := z
    obtain ⟨_, nd, hc⟩ := entry_there W he
    obtain ⟨h1, h2⟩ := entry_parts he
    obtain ⟨e, kk, hd⟩ := place_dir h1
    have hlen := (W.ent _ _ _ hd).2.1
    have hsrt := (W.ent _ _ _ hd).1
    refine ⟨_, rfl, f, _, 0, _, rfl, rfl, SqT.of hf, atI_nat (j := 0) rfl, rfl, _, rfl, ?_⟩
    refine ite2 (fun c => absurd (eq_str.mp c) lkd4) (fun _ => ?_)
    refine ⟨_, rfl, _, rfl, f, _, 3, _, rfl, rfl, SqT.of hf, atI_nat (j := 3) rfl, ?_⟩
    refine ld_kind la1 hc ?_
    refine ⟨_, rfl, a, _, 0, _, rfl, rfl, ha1, atI_nat (j := 0) rfl, rfl, _, rfl, ?_⟩
    have tail : ∀ (z : PyData × Tm.Tr), removeS Tr bb s = .ok z → z = (.none, ⟨loseN ⟨delE Tr.nodes n x, Tr.hs⟩ c, Tr.hs⟩) →
      (tSeq (tDrop fun σ H Q => (tCons (tVar 0) (tCons (tOp (rIxT K) (tVar 3) (tC (.int 1))) (tCons (tOp (rIxT K) (tVar 3) (tC (.int 2))) (tCons (tC .non) tNil)))) σ H fun vs H1 => spLSet K vs H1 Q E)
        (tSeq (tDrop fun σ H Q => (tCons (tVar 0) (tCons (tVar 1) (tCons (tOp (rIxT K) (tVar 3) (tC (.int 3))) tNil))) σ H fun vs H1 => spLLose K vs H1 Q E) (tRet (tTup (tCons (tC (.str "ok")) (tCons (tC .non) tNil))))))
        { nx := fun _ H' => Q .non H', rt := Q } [some (.ref dn), some (.ref hn), some (.ref a), some (.ref f), some (.str nd.bd.kind)] H1 := by
      intro z hz ez
      refine ⟨_, rfl, _, rfl, f, _, 1, _, rfl, rfl, SqT.of hf, atI_nat (j := 1) rfl, _, rfl, f, _, 2, _, rfl, rfl, SqT.of hf, atI_nat (j := 2) rfl, ?_⟩
      refine ⟨dn, hn, av, Tr, n, x, none, e, kk, rfl, la1, hd, hsrt, by omega, fun H2 f2 la2 => ?_⟩
      have hf2 := la1.fi f2 f (.tup _) trivial hf
      have la2 : LA K dn hn av H2 ⟨delE Tr.nodes n x, Tr.hs⟩ := by
        unfold delE
        rw [entOf_eq hd, lnk_eq hd]
        exact la2
      obtain ⟨y, hy⟩ := lk_del (n := n) (x := x) hc
      refine ⟨_, rfl, _, rfl, _, rfl, f, _, 3, _, rfl, rfl, SqT.of hf2, atI_nat (j := 3) rfl, ?_⟩
      refine ⟨dn, hn, av, _, c, y, rfl, la2, hy, fun H3 f3 la3 => ?_⟩
      refine ⟨(by show 2 ≤ sizeLine; decide), fun p hp => ?_⟩
      subst ez
      exact k.fin hz ((la.fl s1).trans (f2.trans f3)) la3 hp DpF.non
    cases bb with
    | true =>
      refine ite2 (fun _ => ?_) (fun c => absurd (eq_str.mpr rfl) c)
      have hS : removeS Tr true s = (if isDir Tr.nodes c then (if 0 < (entOf Tr.nodes c).length then .error .ne else .ok (.none, ⟨dropN (delE Tr.nodes n x) c, Tr.hs⟩)) else .error .nd) := by
        show rmdirS Tr s = _
        unfold rmdirS
        rw [he]; rfl
      refine ⟨_, rfl, rfl, _, rfl, ?_⟩
      refine ite2 (fun c1 => ?_) (fun c1 => ?_)
      · have c2 := ne_str.mp c1
        refine ⟨(by show 2 ≤ sizeLine; decide), fun p hp => k.fail (e := .nd) ?_ s1 hp⟩
        rw [hS, if_neg (fun z => c2 ((isDir_of hc).mp z))]
      · have c2 : nd.bd.kind = "directory" := Classical.byContradiction fun z => c1 (ne_str.mpr z)
        rw [if_pos ((isDir_of hc).mpr c2)] at hS
        obtain ⟨ce, hce⟩ := (kind_dir nd.bd).mp c2
        obtain ⟨b, ck⟩ := nd
        have hce : b = .ent ce := hce
        subst hce
        rw [entOf_eq hc] at hS
        have clen := (W.ent _ _ _ hc).2.1
        refine ⟨_, rfl, _, rfl, f, _, 3, _, rfl, rfl, SqT.of hf, atI_nat (j := 3) rfl, ?_⟩
        refine ld_body la1 hc (fun bv hb => ?_)
        obtain ⟨b, ps, rfl, _, _, hs2, hps⟩ := hb
        refine ⟨b, _, rfl, .inl (SqL.of hs2), _, _, rfl, rfl, _, rfl, ?_⟩
        rw [List.length_map, paired_len hps]
        refine ite2 (fun c3 => ?_) (fun c3 => ?_)
        · have c4 : (0 : Int) < (ce.length : Nat) := of_decide_eq_true c3
          refine ⟨(by show 2 ≤ sizeLine; decide), fun p hp => k.fail (e := .ne) ?_ s1 hp⟩
          rw [hS, if_pos (by omega)]
        · have c4 : ¬ (0 : Int) < (ce.length : Nat) := fun z => c3 (decide_eq_true z)
          rw [if_neg (by omega)] at hS
          refine tail _ hS ?_
          rw [lose_dir W hc hd]
    | false =>
      refine ite2 (fun c => absurd (eq_str.mp c) kw1) (fun _ => ?_)
      have hS : removeS Tr false s = (if isDir Tr.nodes c then .error .isd else .ok (.none, ⟨loseN ⟨delE Tr.nodes n x, Tr.hs⟩ c, Tr.hs⟩)) := by
        show unlinkS Tr s = _
        unfold unlinkS
        rw [he]; rfl
      refine ⟨_, rfl, rfl, _, rfl, ?_⟩
      refine ite2 (fun c1 => ?_) (fun c1 => ?_)
      · refine ⟨(by show 2 ≤ sizeLine; decide), fun p hp => k.fail (e := .isd) ?_ s1 hp⟩
        rw [hS, if_pos ((isDir_of hc).mpr (eq_str.mp c1))]
      · rw [if_neg (fun z => c1 (eq_str.mpr ((isDir_of hc).mp z)))] at hS
        exact tail _ hS rfl
theorem putN_comm {l : Ns} {a b : Int} {x y u v : Nd} (h : a ≠ b) (ha : lk l a = some u) (hb : lk l b = some v) : putN (putN l a x) b y = putN (putN l b y) a x := by
  have h1 : lk (putN l a x) b = some v := by rw [lk_put, if_neg (Ne.symm h)]; exact hb
  have h2 : lk (putN l b y) a = some u := by rw [lk_put, if_neg h]; exact ha
  rw [putN_of h1, putN_of h2, putN_of ha, putN_of hb, List.map_map, List.map_map]
  refine List.map_congr_left fun p _ => ?_
  show (if (if p.1 = a then (p.1, x) else p).1 = b then ((if p.1 = a then (p.1, x) else p).1, y) else (if p.1 = a then (p.1, x) else p)) = (if (if p.1 = b then (p.1, y) else p).1 = a then ((if p.1 = b then (p.1, y) else p).1, x) else (if p.1 = b then (p.1, y) else p))
  by_cases e1 : p.1 = a
  · have e2 : ¬ p.1 = b := fun z => h (e1.symm.trans z)
    simp [e1, e2, h]
  · by_cases e2 : p.1 = b
    · simp [e1, e2, Ne.symm h]
    · simp [e1, e2]
theorem bump_add {l : Ns} {n c : Int} {x : Str} {e : List (Str × Int)} {k : Int} {nd : Nd} (h : c ≠ n) (hc : lk l c = some nd) (hn : lk l n = some ⟨.ent e, k⟩) : addE (bumpN l c) n x c = bumpN (addE l n x c) c := by
  have h1 : bumpN l c = putN l c ⟨nd.bd, nd.links + 1⟩ := by unfold bumpN; rw [hc]
  have h2 : lk (putN l c ⟨nd.bd, nd.links + 1⟩) n = some ⟨.ent e, k⟩ := by rw [lk_put, if_neg (Ne.symm h)]; exact hn
  have h3 : lk (addE l n x c) c = some nd := by unfold addE; rw [lk_put, if_neg h]; exact hc
  have h4 : bumpN (addE l n x c) c = putN (addE l n x c) c ⟨nd.bd, nd.links + 1⟩ := by unfold bumpN; rw [h3]
  rw [h4, h1]
  unfold addE
  rw [entOf_eq h2, lnk_eq h2, entOf_eq hn, lnk_eq hn]
  exact putN_comm h hc hn
def spLLink (K : PySem.W.Frag) : Sp := fun vs H Q _ => ∃ (dn hn av a : Addr) (T : Tr) (s g w : Str), vs = [.ref dn, .ref a] ∧ LA K dn hn av H T ∧ WF T ∧ s ∈ pathL ∧ g ∈ pathL ∧ SqT K H a [.str w, .str s, .str g] ∧ LM K dn hn av (linkS T s g) H Q
-- slots of _law_link: 0 _law_nodes, 1 _law_operation_here, 2 _law_found, 3 _law_place_here
theorem sc_law_link : FnScope ["_law_nodes", "_law_operation_here", "_law_found", "_law_place_here"] ["_law_nodes", "_law_operation_here"] (defScope s_law_link) := ⟨rfl, rfl, rfl, by decide +kernel, rfl, by decide +kernel, by decide +kernel⟩
theorem ok_law_link (T : Tx K mg) : FnR P w K mg base (L2.CX P w) 5 (He.ga K "_law_link") (spLLink K) := by
  have G_law_entry := ok_law_entry (P := P) (w := w) (base := base) T
  have G_law_free := ok_law_free (P := P) (w := w) (base := base) T
  have G_law_set := ok_law_set (P := P) (w := w) (base := base) T
  refine mk_fn (df_law_link T) sc_law_link (fun _ _ _ _ _ _ us hl => match us, hl with | [_, _], _ => rfl) (fun vs H Q E h => ?_) (fun cdv A outer s H vs Q E tk po hr h => ?_)
  · obtain ⟨_, _, _, _, _, _, _, _, rfl, _⟩ := h
    rfl
  obtain ⟨dn, hn, av, a, Tr, s, g, wd, rfl, la, W, hs, hg, ha, k⟩ := h
  refine ⟨_, (pss_cons (ps_set (i := 2) sc_law_link.nd rfl (Or.inl rfl) (pe_callR G_law_entry (hr.mono (by decide)) rfl (g_law_entry T) (k_law_entry T) (pc_of tk) (pa_cons (pv 0) (pa_cons (pe_ix (ix_tupK (K := K)) (pv 1) pe_int (fun _ _ => rfl)) pa_nil))))
    (pss_cons (ps_if (PW.pt (pw_and (pt_cmpR op_eq (pe_ix (ix_tupK (K := K)) (pv 2) pe_int (fun _ _ => rfl)) pe_str (nomark _)) (pw_and1 (pt_cmpR op_eq (pe_ix ix_list (pe_dget (hu_of hr) (pv 0) (pe_ix (ix_tupK (K := K)) (pv 2) pe_int (fun _ _ => rfl)) (fun _ _ => rfl)) pe_int (fun _ _ => rfl)) pe_str (nomark _)))))
    (pss_one (ps_ret (pe_tup (pa_cons pe_str (pa_cons pe_str pa_nil)))))
    pss_nil)
    (pss_cons (ps_if (pt_cmpR op_eq (pe_ix (ix_tupK (K := K)) (pv 2) pe_int (fun _ _ => rfl)) pe_str (nomark _))
    (pss_one (ps_ret (pv 2)))
    pss_nil)
    (pss_cons (ps_set (i := 3) sc_law_link.nd rfl (Or.inl rfl) (pe_callR G_law_free (hr.mono (by decide)) rfl (g_law_free T) (k_law_free T) (pc_of tk) (pa_cons (pv 0) (pa_cons (pe_ix (ix_tupK (K := K)) (pv 1) pe_int (fun _ _ => rfl)) pa_nil))))
    (pss_cons (ps_if (pt_cmpR op_eq (pe_ix (ix_tupK (K := K)) (pv 3) pe_int (fun _ _ => rfl)) pe_str (nomark _))
    (pss_one (ps_ret (pv 3)))
    pss_nil)
    (pss_cons (ps_asg (pe_op op_add (pe_ix ix_list (pe_dget (hu_of hr) (pv 0) (pe_ix (ix_tupK (K := K)) (pv 2) pe_int (fun _ _ => rfl)) (fun _ _ => rfl)) pe_int (fun _ _ => rfl)) pe_int) (pg_sub (pe_dget (hu_of hr) (pv 0) (pe_ix (ix_tupK (K := K)) (pv 2) pe_int (fun _ _ => rfl)) (fun _ _ => rfl)) pe_int set_list))
    (pss_cons (ps_expr (pe_callR G_law_set (hr.mono (by decide)) rfl (g_law_set T) (k_law_set T) (pc_of tk) (pa_cons (pv 0) (pa_cons (pe_ix (ix_tupK (K := K)) (pv 3) pe_int (fun _ _ => rfl)) (pa_cons (pe_ix (ix_tupK (K := K)) (pv 3) pe_int (fun _ _ => rfl)) (pa_cons (pe_ix (ix_tupK (K := K)) (pv 2) pe_int (fun _ _ => rfl)) pa_nil))))))
    (pss_one (ps_ret (pe_tup (pa_cons pe_str (pa_cons pe_non pa_nil)))))))))))), ?_⟩
  refine ⟨_, rfl, _, rfl, a, _, 1, _, rfl, rfl, ha, atI_nat (j := 1) rfl, dn, hn, av, Tr, s, rfl, la, W, hs, fun f H1 s1 hf => ?_⟩
  replace hf : H1 f = some (.tup (eV entryV (entryS Tr.nodes s))) := hf
  have la1 := la.same s1
  have ha1 := same_t s1 ha
  cases he : entryS Tr.nodes s with
  | error e =>
    rw [he] at hf
    refine ⟨_, rfl, f, _, 0, _, rfl, rfl, SqT.of hf, atI_nat (j := 0) rfl, rfl, _, rfl, ?_⟩
    refine ite2 (fun c => absurd (eq_str.mp c) lkd5) (fun _ => ?_)
    refine ⟨_, rfl, f, _, 0, _, rfl, rfl, SqT.of hf, atI_nat (j := 0) rfl, rfl, _, rfl, ?_⟩
    refine ite2 (fun _ => ?_) (fun c => absurd (eq_str.mpr rfl) c)
    refine ⟨_, rfl, k.err (e := e) ?_ s1 hf⟩
    unfold linkS; rw [he]; rfl
  | ok z =>
    rw [he] at hf
    obtain ⟨n0, x0, c⟩ := z
    obtain ⟨_, nd, hc⟩ := entry_there W he
    have hS : linkS Tr s g = (if isDir Tr.nodes c then .error .isd else mapE (fun y : Int × Str => .ok (.none, ⟨bumpN (addE Tr.nodes y.1 y.2 c) c, Tr.hs⟩)) (freeS Tr.nodes g)) := by
      unfold linkS
      rw [he]; rfl
    refine ⟨_, rfl, f, _, 0, _, rfl, rfl, SqT.of hf, atI_nat (j := 0) rfl, rfl, _, rfl, ?_⟩
    refine ite2 (fun _ => ?_) (fun c => absurd (eq_str.mpr rfl) c)
    refine ⟨_, rfl, _, rfl, f, _, 3, _, rfl, rfl, SqT.of hf, atI_nat (j := 3) rfl, ?_⟩
    refine ld_kind la1 hc ?_
    refine ⟨rfl, _, rfl, ?_⟩
    refine ite2 (fun c1 => ?_) (fun c1 => ?_)
    · refine ⟨(by show 2 ≤ sizeLine; decide), fun p hp => k.fail (e := .isd) ?_ s1 hp⟩
      rw [hS, if_pos ((isDir_of hc).mpr (eq_str.mp c1))]
    · have nd1 : ¬ isDir Tr.nodes c = true := fun z => c1 (eq_str.mpr ((isDir_of hc).mp z))
      rw [if_neg nd1] at hS
      refine ⟨_, rfl, f, _, 0, _, rfl, rfl, SqT.of hf, atI_nat (j := 0) rfl, rfl, _, rfl, ?_⟩
      refine ite2 (fun c => absurd (eq_str.mp c) lkd4) (fun _ => ?_)
      refine ⟨_, rfl, _, rfl, a, _, 2, _, rfl, rfl, ha1, atI_nat (j := 2) rfl, dn, hn, av, Tr, g, rfl, la1, W, hg, fun f2 H2 s2 hf2 => ?_⟩
      replace hf2 : H2 f2 = some (.tup (eV placeV (freeS Tr.nodes g))) := hf2
      have s3 := s1.trans s2
      have la3 := la.same s3
      have hf3 := s2 _ _ hf
      cases hp : freeS Tr.nodes g with
      | error e =>
        rw [hp] at hf2
        refine ⟨_, rfl, f2, _, 0, _, rfl, rfl, SqT.of hf2, atI_nat (j := 0) rfl, rfl, _, rfl, ?_⟩
        refine ite2 (fun _ => ?_) (fun c => absurd (eq_str.mpr rfl) c)
        refine ⟨_, rfl, k.err (e := e) ?_ s3 hf2⟩
        rw [hS, hp]; rfl
      | ok z =>
        rw [hp] at hf2 hS
        obtain ⟨n, x⟩ := z
        obtain ⟨e, kk, hd, _, hlen⟩ := free_ent hp
        have hsrt := (W.ent _ _ _ hd).1
        have nm : ¬ c = n := fun z => nd1 (by rw [z]; exact isDir_iff.mpr ⟨e, kk, hd⟩)
        refine ⟨_, rfl, f2, _, 0, _, rfl, rfl, SqT.of hf2, atI_nat (j := 0) rfl, rfl, _, rfl, ?_⟩
        refine ite2 (fun c => absurd (eq_str.mp c) lkd3) (fun _ => ?_)
        refine ⟨_, rfl, _, rfl, f, _, 3, _, rfl, rfl, SqT.of hf3, atI_nat (j := 3) rfl, ?_⟩
        refine ld_links la3 hc ?_
        refine ⟨_, _, rfl, rfl, _, rfl, _, rfl, f, _, 3, _, rfl, rfl, SqT.of hf3, atI_nat (j := 3) rfl, ?_⟩
        refine wl_links la3 hc (fun H4 f4 la4 => ?_)
        have hf4 := la3.fi f4 f (.tup _) trivial hf3
        have hf24 := la3.fi f4 f2 (.tup _) trivial hf2
        have hd4 : lk (putN Tr.nodes c ⟨nd.bd, nd.links + 1⟩) n = some ⟨.ent e, kk⟩ := by rw [lk_put, if_neg (Ne.symm nm)]; exact hd
        refine ⟨_, rfl, _, rfl, f2, _, 1, _, rfl, rfl, SqT.of hf24, atI_nat (j := 1) rfl, _, rfl, f2, _, 2, _, rfl, rfl, SqT.of hf24, atI_nat (j := 2) rfl, _, rfl, f, _, 3, _, rfl, rfl, SqT.of hf4, atI_nat (j := 3) rfl, ?_⟩
        refine ⟨dn, hn, av, _, n, x, some c, e, kk, rfl, la4, hd4, hsrt, by omega, fun H5 f5 la5 => ?_⟩
        refine ⟨(by show 2 ≤ sizeLine; decide), fun p hp => ?_⟩
        refine k.fin (z := (.none, ⟨bumpN (addE Tr.nodes n x c) c, Tr.hs⟩)) hS ((la.fl s3).trans (f4.trans f5)) ?_ hp DpF.non
        show LA K dn hn av H5 ⟨bumpN (addE Tr.nodes n x c) c, Tr.hs⟩
        rw [← bump_add nm hc hd]
        have hb : bumpN Tr.nodes c = putN Tr.nodes c ⟨nd.bd, nd.links + 1⟩ := by unfold bumpN; rw [hc]
        rw [hb]
        unfold addE
        rw [entOf_eq hd4, lnk_eq hd4]
        exact la5
end
end Tm

set_option maxHeartbeats 4000000
namespace Tm
open PySem PySem.Spec PyProof.Rows L2
theorem op_notIn_seqK {X : Cx} {K : PySem.W.Frag} (h : X.K = K := by rfl) : OpR X (compareOp .NotIn) (rIn K true) := by
  subst h
  exact op_notIn_seq
/-! ### heights -/
theorem UpN.zero {T : Tr} (W : WF T) {m : Nat} (h : UpN T.nodes m 0) : m = 0 := by
  cases h with
  | root => rfl
  | up h1 h2 _ => exact absurd rfl (W.there h1 h2).1
theorem UpN.uniq {T : Tr} (W : WF T) : ∀ {m : Nat} {c : Int}, UpN T.nodes m c → isDir T.nodes c = true → ∀ {m' : Nat}, UpN T.nodes m' c → m = m' := by
  intro m c h
  induction h with
  | root => intro _ m' h'; exact (h'.zero W).symm
  | up h1 h2 _ ih =>
    intro hc m' h'
    cases h' with
    | root => exact absurd rfl (W.there h1 h2).1
    | up g1 g2 g3 =>
      have e := W.par hc h1 h2 g1 g2
      subst e
      rw [ih (isDir_iff.mpr ⟨_, _, h1⟩) g3]
theorem UpN.path {T : Tr} {m : Nat} {c : Int} (h : UpN T.nodes m c) (hc : isDir T.nodes c = true) : ∀ i ≤ m, ∃ a, UpN T.nodes i a ∧ isDir T.nodes a = true := by
  induction h with
  | root => intro i hi; exact ⟨0, by rw [Nat.le_zero.mp hi]; exact .root, hc⟩
  | @up m c d e k x h1 h2 h3 ih =>
    intro i hi
    by_cases q : i = m + 1
    · exact ⟨c, by rw [q]; exact .up h1 h2 h3, hc⟩
    · exact ih (isDir_iff.mpr ⟨_, _, h1⟩) i (by omega)
theorem UpN.lt {T : Tr} (W : WF T) {m : Nat} {c : Int} (h : UpN T.nodes m c) (hc : isDir T.nodes c = true) : m + 1 ≤ T.nodes.length := by
  have hp := h.path hc
  have hex : ∃ f : Nat → Int, ∀ i ≤ m, UpN T.nodes i (f i) ∧ isDir T.nodes (f i) = true := by
    classical
    exact ⟨fun i => if q : i ≤ m then Classical.choose (hp i q) else 0, fun i q => by dsimp only; rw [dif_pos q]; exact Classical.choose_spec (hp i q)⟩
  obtain ⟨f, hf⟩ := hex
  have nd : ((List.range (m + 1)).map f).Nodup := by
    refine List.pairwise_map.mpr (List.Pairwise.imp_of_mem (R := fun a b => a ≠ b) ?_ (List.nodup_range))
    intro a b ha hb ne e
    have ha := List.mem_range.mp ha
    have hb := List.mem_range.mp hb
    have q1 := hf a (by omega)
    have q2 := hf b (by omega)
    rw [e] at q1
    exact ne (q1.1.uniq W q1.2 q2.1)
  have hl := List.Nodup.length_le_of_subset (l₂ := T.nodes.map (·.1)) nd fun a ha => by
    obtain ⟨i, hi, rfl⟩ := List.mem_map.mp ha
    obtain ⟨e, k, q⟩ := isDir_iff.mp (hf i (by have := List.mem_range.mp hi; omega)).2
    exact List.mem_map.mpr ⟨_, lk_mem q, rfl⟩
  simpa using hl
inductive DownN (l : Ns) (n : Int) : Nat → Int → Prop where
  | refl : DownN l n 0 n
  | step {j : Nat} {c d : Int} {e : List (Str × Int)} {k : Int} {x : Str} : DownN l n j d → lk l d = some ⟨.ent e, k⟩ → (x, c) ∈ e → DownN l n (j + 1) c
theorem down_n {T : Tr} (W : WF T) {n : Int} : ∀ {m : Nat} {g : Int}, UpN T.nodes m g → isDir T.nodes g = true → Down T.nodes n g → ∃ j, j ≤ m ∧ DownN T.nodes n j g := by
  intro m g h
  induction h with
  | root => intro _ hd; exact ⟨0, Nat.le_refl _, by rw [(Down.zero W).mp hd]; exact .refl⟩
  | @up m c d e k x h1 h2 h3 ih =>
    intro hc hd
    by_cases q : c = n
    · exact ⟨0, Nat.zero_le _, by rw [q]; exact .refl⟩
    · obtain ⟨j, hj, hjd⟩ := ih (isDir_iff.mpr ⟨_, _, h1⟩) ((Down.par W hc q h1 h2).mp hd)
      exact ⟨j + 1, by omega, .step hjd h1 h2⟩
/-! ### what lies below -/
def kidsB (l : Ns) (L : List Int) (a : Int) : List Int := if isDir l a then ((entOf l a).map (·.2)).filter fun c => decide (c ∉ L) else []
def moreB (l : Ns) (L M : List Int) : List Int := M.flatMap (kidsB l L)
structure BlwB (T : Tr) (n : Int) (i : Nat) (L : List Int) : Prop where
  down : ∀ c ∈ L, Down T.nodes n c
  all : ∀ j, j ≤ i → ∀ c, DownN T.nodes n j c → c ∈ L
  dirs : (L.filter fun c => isDir T.nodes c).Nodup
  len : L.length ≤ 1 + i * 16384
theorem kids_mem {l : Ns} {L : List Int} {a c : Int} (h : c ∈ kidsB l L a) : ∃ e k x, lk l a = some ⟨.ent e, k⟩ ∧ (x, c) ∈ e ∧ c ∉ L := by
  unfold kidsB at h
  split at h
  · rename_i hd
    obtain ⟨e, k, hl⟩ := isDir_iff.mp hd
    rw [entOf_eq hl] at h
    obtain ⟨h1, h2⟩ := List.mem_filter.mp h
    obtain ⟨⟨x, c'⟩, h3, rfl⟩ := List.mem_map.mp h1
    exact ⟨e, k, x, hl, h3, by simpa using h2⟩
  · cases h
theorem cnt_le {T : Tr} (W : WF T) {d c : Int} {e : List (Str × Int)} {k : Int} (h : lk T.nodes d = some ⟨.ent e, k⟩) (hc : isDir T.nodes c = true) (hm : ∃ x, (x, c) ∈ e) : cnt c (.ent e) ≤ 1 := by
  obtain ⟨x, hx⟩ := hm
  have h0 := (W.there h hx).1
  obtain ⟨ce, ck, hce⟩ := isDir_iff.mp hc
  have r := W.ref c h0
  rw [hce] at r
  have k1 := (W.ent _ _ _ hce).2.2.1
  have r : (refs T.nodes c : Int) = ck := r
  have : ∀ {l : Ns} {p : Int × Nd}, p ∈ l → cnt c p.2.bd ≤ refs l c := by
    intro l p hp
    induction l with
    | nil => cases hp
    | cons a r ih =>
      unfold refs
      rcases List.mem_cons.mp hp with e | hp
      · subst e; omega
      · have := ih hp; omega
  have := this (lk_mem h)
  have : cnt c (.ent e) ≤ refs T.nodes c := this
  omega
theorem cnt_ent (c : Int) (e : List (Str × Int)) : cnt c (.ent e) = (e.filter fun q => decide (q.2 = c)).length := rfl
theorem nodup_cnt {e : List (Str × Int)} (p : Int → Bool) (h : ∀ c, p c = true → (∃ x, (x, c) ∈ e) → cnt c (.ent e) ≤ 1) : ((e.map (·.2)).filter p).Nodup := by
  induction e with
  | nil => exact List.Pairwise.nil
  | cons a r ih =>
    have hr : ∀ c, p c = true → (∃ x, (x, c) ∈ r) → cnt c (.ent r) ≤ 1 := fun c hc ⟨x, hx⟩ => by
      have := h c hc ⟨x, List.mem_cons_of_mem _ hx⟩
      rw [cnt_ent] at this ⊢
      rw [List.filter_cons] at this
      split at this
      · simp only [List.length_cons] at this; omega
      · exact this
    rw [List.map_cons, List.filter_cons]
    split
    · rename_i hp
      refine List.nodup_cons.mpr ⟨fun hm => ?_, ih hr⟩
      obtain ⟨h1, _⟩ := List.mem_filter.mp hm
      obtain ⟨⟨x, c⟩, hx, e1⟩ := List.mem_map.mp h1
      have e1 : c = a.2 := e1
      subst e1
      have := h a.2 hp ⟨a.1, List.mem_cons_self⟩
      rw [cnt_ent, List.filter_cons, if_pos (by simp)] at this
      have h3 : (x, a.2) ∈ r.filter fun e => decide (e.2 = a.2) := List.mem_filter.mpr ⟨hx, by simp⟩
      have := List.length_pos_of_mem h3
      simp only [List.length_cons] at *
      omega
    · exact ih hr
theorem kids_len {T : Tr} (W : WF T) (L : List Int) (a : Int) : (kidsB T.nodes L a).length ≤ if isDir T.nodes a then 64 else 0 := by
  unfold kidsB
  by_cases c : isDir T.nodes a = true
  · rw [if_pos c, if_pos c]
    obtain ⟨e, k, hl⟩ := isDir_iff.mp c
    rw [entOf_eq hl]
    refine Nat.le_trans (List.length_filter_le _ _) ?_
    rw [List.length_map]
    exact (W.ent _ _ _ hl).2.1
  · rw [if_neg c, if_neg c]; exact Nat.le_refl _
theorem more_len0 {T : Tr} (W : WF T) (L : List Int) : ∀ M : List Int, (moreB T.nodes L M).length ≤ 64 * (M.filter fun c => isDir T.nodes c).length
  | [] => Nat.zero_le _
  | a :: M => by
    unfold moreB
    rw [List.flatMap_cons, List.length_append, List.filter_cons]
    have h1 := kids_len W L a
    have h2 := more_len0 W L M
    unfold moreB at h2
    by_cases c : isDir T.nodes a = true
    · rw [if_pos c] at h1; rw [if_pos c, List.length_cons]; omega
    · rw [if_neg c] at h1; rw [if_neg c]; omega
theorem dirs_len {T : Tr} (W : WF T) {L : List Int} (h : (L.filter fun c => isDir T.nodes c).Nodup) : (L.filter fun c => isDir T.nodes c).length ≤ 256 := by
  refine Nat.le_trans (List.Nodup.length_le_of_subset (l₂ := T.nodes.map (·.1)) h fun a ha => ?_) (by rw [List.length_map]; exact W.len)
  obtain ⟨e, k, q⟩ := isDir_iff.mp (List.mem_filter.mp ha).2
  exact List.mem_map.mpr ⟨_, lk_mem q, rfl⟩
theorem more_len {T : Tr} (W : WF T) {L : List Int} (h : (L.filter fun c => isDir T.nodes c).Nodup) : (moreB T.nodes L L).length ≤ 16384 := by
  have h1 := more_len0 W L L
  have h2 := dirs_len W h
  omega
theorem BlwB.start {T : Tr} (n : Int) : BlwB T n 0 [n] := by
  refine ⟨fun c hc => ?_, fun j hj c h => ?_, ?_, by simp⟩
  · rw [List.mem_singleton.mp hc]; exact .refl
  · have : j = 0 := by omega
    subst this
    cases h
    exact List.mem_cons_self
  · rw [List.filter_cons]
    split <;> simp
theorem BlwB.step {T : Tr} (W : WF T) {n : Int} {i : Nat} {L : List Int} (h : BlwB T n i L) : BlwB T n (i + 1) (L ++ moreB T.nodes L L) := by
  refine ⟨fun c hc => ?_, fun j hj c hd => ?_, ?_, ?_⟩
  · rcases List.mem_append.mp hc with hc | hc
    · exact h.down c hc
    · obtain ⟨a, ha, hk⟩ := List.mem_flatMap.mp hc
      obtain ⟨e, k, x, h1, h2, _⟩ := kids_mem hk
      exact .step (h.down a ha) h1 h2
  · by_cases q : j ≤ i
    · exact List.mem_append.mpr (.inl (h.all j q c hd))
    · have : j = i + 1 := by omega
      subst this
      cases hd with
      | step g1 g2 g3 =>
        have hm := h.all i (Nat.le_refl _) _ g1
        by_cases qc : c ∈ L
        · exact List.mem_append.mpr (.inl qc)
        · refine List.mem_append.mpr (.inr (List.mem_flatMap.mpr ⟨_, hm, ?_⟩))
          unfold kidsB
          rw [if_pos (isDir_iff.mpr ⟨_, _, g2⟩), entOf_eq g2]
          exact List.mem_filter.mpr ⟨List.mem_map.mpr ⟨_, g3, rfl⟩, by simpa using qc⟩
  · rw [List.filter_append, List.nodup_append]
    refine ⟨h.dirs, ?_, fun a ha b hb e => ?_⟩
    · unfold moreB
      rw [List.filter_flatMap]
      refine List.pairwise_flatMap.mpr ⟨fun a ha => ?_, ?_⟩
      · unfold kidsB
        split
        · rename_i hd
          obtain ⟨e, k, hl⟩ := isDir_iff.mp hd
          rw [entOf_eq hl, List.filter_filter]
          exact nodup_cnt _ fun c hc hx => cnt_le W hl (by simp at hc; exact hc.1) hx
        · exact List.Pairwise.nil
      · have hp := (List.pairwise_filter (p := fun c => isDir T.nodes c)).mp h.dirs
        refine hp.imp fun {a b} hab x hx y hy exy => ?_
        subst exy
        obtain ⟨hx1, hx2⟩ := List.mem_filter.mp hx
        obtain ⟨hy1, _⟩ := List.mem_filter.mp hy
        obtain ⟨e, k, z, g1, g2, _⟩ := kids_mem hx1
        obtain ⟨e', k', z', g1', g2', _⟩ := kids_mem hy1
        exact hab (isDir_iff.mpr ⟨_, _, g1⟩) (isDir_iff.mpr ⟨_, _, g1'⟩) (W.par hx2 g1 g2 g1' g2')
    · subst e
      obtain ⟨ha1, _⟩ := List.mem_filter.mp ha
      obtain ⟨hb1, _⟩ := List.mem_filter.mp hb
      obtain ⟨c, _, hk⟩ := List.mem_flatMap.mp hb1
      obtain ⟨_, _, _, _, _, hno⟩ := kids_mem hk
      exact hno ha1
  · rw [List.length_append]
    have h1 := more_len W h.dirs
    have h2 := h.len
    omega
theorem BlwB.fin {T : Tr} (W : WF T) {n : Int} {L : List Int} (h : BlwB T n T.nodes.length L) {g : Int} (hg : isDir T.nodes g = true) : g ∈ L ↔ Down T.nodes n g := by
  refine ⟨h.down g, fun hd => ?_⟩
  obtain ⟨e, k, hl⟩ := isDir_iff.mp hg
  obtain ⟨m, hm⟩ := (W.ent _ _ _ hl).2.2.2.n
  obtain ⟨j, hj, hjd⟩ := down_n W hm hg hd
  exact h.all j (by have := hm.lt W hg; omega) g hjd
section
variable {P : Program} {w : World} {K : PySem.W.Frag} {mg : Str → Option Value} {base : Heap}
def spLReplaced (K : PySem.W.Frag) : Sp := fun vs H Q _ => ∃ (dn hn av : Addr) (T : Tr) (n o : Int) (nd od : Nd), vs = [.ref dn, .int n, .int o] ∧ LA K dn hn av H T ∧ WF T ∧ lk T.nodes n = some nd ∧ lk T.nodes o = some od ∧
  ∀ p H', Same H H' → H' p = some (.tup (match replS T.nodes n o with | some e => [.str "error", .str e.word] | none => [.str "ok", .non])) → Q (.ref p) H'
-- slots of _law_replaced: 0 _law_nodes, 1 _law_number, 2 _law_old
theorem sc_law_replaced : FnScope ["_law_nodes", "_law_number", "_law_old"] ["_law_nodes", "_law_number", "_law_old"] (defScope s_law_replaced) := ⟨rfl, rfl, rfl, by decide +kernel, rfl, by decide +kernel, by decide +kernel⟩
theorem ok_law_replaced (T : Tx K mg) : FnR P w K mg base (L2.CX P w) 1 (He.ga K "_law_replaced") (spLReplaced K) := by
  refine mk_fn (df_law_replaced T) sc_law_replaced (fun _ _ _ _ _ _ us hl => match us, hl with | [_, _, _], _ => rfl) (fun vs H Q E h => ?_) (fun cdv A outer s H vs Q E tk po hr h => ?_)
  · obtain ⟨_, _, _, _, _, _, _, _, rfl, _⟩ := h
    rfl
  obtain ⟨dn, hn, av, Tr, n, o, nd, od, rfl, la, W, hl, ho, k⟩ := h
  refine ⟨_, (pss_cons (ps_if (pt_cmpR op_eq (pe_ix ix_list (pe_dget (hu_of hr) (pv 0) (pv 2) (fun _ _ => rfl)) pe_int (fun _ _ => rfl)) pe_str (nomark _))
    (pss_cons (ps_if (pt_cmpR op_ne (pe_ix ix_list (pe_dget (hu_of hr) (pv 0) (pv 1) (fun _ _ => rfl)) pe_int (fun _ _ => rfl)) pe_str (nomark _))
      (pss_one (ps_ret (pe_tup (pa_cons pe_str (pa_cons pe_str pa_nil)))))
      pss_nil)
      (pss_one (ps_if (pt_cmpR op_gt (pe_callB call_len_seq (by rfl) (f_len T) PySem.boot_len (pa_cons (pe_ix ix_list (pe_dget (hu_of hr) (pv 0) (pv 2) (fun _ _ => rfl)) pe_int (fun _ _ => rfl)) pa_nil)) pe_int (nomark _))
      (pss_one (ps_ret (pe_tup (pa_cons pe_str (pa_cons pe_str pa_nil)))))
      pss_nil)))
    (pss_one (ps_if (pt_cmpR op_eq (pe_ix ix_list (pe_dget (hu_of hr) (pv 0) (pv 1) (fun _ _ => rfl)) pe_int (fun _ _ => rfl)) pe_str (nomark _))
      (pss_one (ps_ret (pe_tup (pa_cons pe_str (pa_cons pe_str pa_nil)))))
      pss_nil)))
    (pss_one (ps_ret (pe_tup (pa_cons pe_str (pa_cons pe_non pa_nil)))))), ?_⟩
  refine ⟨_, rfl, _, rfl, ?_⟩
  refine ld_kind la ho ?_
  refine ⟨rfl, _, rfl, ?_⟩
  refine ite2 (fun c1 => ?_) (fun c1 => ?_)
  · have c1 := eq_str.mp c1
    have d1 : isDir Tr.nodes o = true := (isDir_of ho).mpr c1
    obtain ⟨e, he⟩ := (kind_dir od.bd).mp c1
    obtain ⟨ob, ok⟩ := od
    have he : ob = .ent e := he
    subst he
    refine ⟨_, rfl, _, rfl, ?_⟩
    refine ld_kind la hl ?_
    refine ⟨rfl, _, rfl, ?_⟩
    refine ite2 (fun c2 => ?_) (fun c2 => ?_)
    · have d2 : ¬ isDir Tr.nodes n = true := fun z => ne_str.mp c2 ((isDir_of hl).mp z)
      refine ⟨(by show 2 ≤ sizeLine; decide), fun p hp => k p _ (same_new hp) ?_⟩
      unfold replS
      rw [if_pos d1, if_neg d2]
      exact upd_same
    · have d2 : isDir Tr.nodes n = true := (isDir_of hl).mpr (Classical.byContradiction fun z => c2 (ne_str.mpr z))
      refine ⟨_, rfl, _, rfl, ?_⟩
      refine ld_body la ho (fun bv hb => ?_)
      obtain ⟨b, ps, rfl, _, _, hs2, hps⟩ := hb
      refine ⟨b, _, rfl, .inl (SqL.of hs2), _, _, rfl, rfl, _, rfl, ?_⟩
      rw [List.length_map, paired_len hps]
      refine ite2 (fun c3 => ?_) (fun c3 => ?_)
      · have c4 : (0 : Int) < (e.length : Nat) := of_decide_eq_true c3
        refine ⟨(by show 2 ≤ sizeLine; decide), fun p hp => k p _ (same_new hp) ?_⟩
        unfold replS
        rw [if_pos d1, if_pos d2, entOf_eq ho, if_pos (by omega)]
        exact upd_same
      · have c4 : ¬ (0 : Int) < (e.length : Nat) := fun z => c3 (decide_eq_true z)
        refine ⟨(by show 2 ≤ sizeLine; decide), fun p hp => k p _ (same_new hp) ?_⟩
        unfold replS
        rw [if_pos d1, if_pos d2, entOf_eq ho, if_neg (by omega)]
        exact upd_same
  · have d1 : ¬ isDir Tr.nodes o = true := fun z => c1 (eq_str.mpr ((isDir_of ho).mp z))
    refine ⟨_, rfl, _, rfl, ?_⟩
    refine ld_kind la hl ?_
    refine ⟨rfl, _, rfl, ?_⟩
    refine ite2 (fun c2 => ?_) (fun c2 => ?_)
    · refine ⟨(by show 2 ≤ sizeLine; decide), fun p hp => k p _ (same_new hp) ?_⟩
      unfold replS
      rw [if_neg d1, if_pos ((isDir_of hl).mpr (eq_str.mp c2))]
      exact upd_same
    · refine ⟨(by show 2 ≤ sizeLine; decide), fun p hp => k p _ (same_new hp) ?_⟩
      unfold replS
      rw [if_neg d1, if_neg (fun z => c2 (eq_str.mpr ((isDir_of hl).mp z)))]
      exact upd_same
theorem flat_ints (l : List Int) : (l.map V.int).all flatV = true := by
  rw [List.all_eq_true]
  intro v hv
  obtain ⟨o, _, rfl⟩ := List.mem_map.mp hv
  rfl
theorem in_ints (n : Int) (l : List Int) : inV (.int n) (l.map V.int) = decide (n ∈ l) := by
  unfold inV
  rw [Bool.eq_iff_iff, List.any_eq_true, decide_eq_true_eq]
  constructor
  · rintro ⟨v, hv, e⟩
    obtain ⟨m, ho, rfl⟩ := List.mem_map.mp hv
    have e1 : m = n := by simpa [eqV] using e
    subst e1; exact ho
  · intro h
    exact ⟨_, List.mem_map.mpr ⟨_, h, rfl⟩, by simp [eqV]⟩
def spLBelow (K : PySem.W.Frag) : Sp := fun vs H Q _ => ∃ (dn hn av : Addr) (T : Tr) (n : Int), vs = [.ref dn, .int n] ∧ LA K dn hn av H T ∧ WF T ∧ isDir T.nodes n = true ∧
  ∀ (p : Addr) (H' : Hp) (L : List Int), Same H H' → H' p = some (.lst (L.map V.int)) → (∀ g, isDir T.nodes g = true → (g ∈ L ↔ Down T.nodes n g)) → Q (.ref p) H'
-- slots of _law_below: 0 _law_nodes, 1 _law_number, 2 _law_found, 3 _law_turn, 4 _law_more, 5 _law_at, 6 _law_pair
theorem sc_law_below : FnScope ["_law_nodes", "_law_number", "_law_found", "_law_turn", "_law_more", "_law_at", "_law_pair"] ["_law_nodes", "_law_number"] (defScope s_law_below) := ⟨rfl, rfl, rfl, by decide +kernel, rfl, by decide +kernel, by decide +kernel⟩
theorem ok_law_below (T : Tx K mg) : FnR P w K mg base (L2.CX P w) 1 (He.ga K "_law_below") (spLBelow K) := by
  refine mk_fn (df_law_below T) sc_law_below (fun _ _ _ _ _ _ us hl => match us, hl with | [_, _], _ => rfl) (fun vs H Q E h => ?_) (fun cdv A outer s H vs Q E tk po hr h => ?_)
  · obtain ⟨_, _, _, _, _, rfl, _⟩ := h
    rfl
  obtain ⟨dn, hn, av, Tr, n, rfl, la, W, hd, k⟩ := h
  refine ⟨_, (pss_cons (ps_set (i := 2) sc_law_below.nd rfl (Or.inr rfl) (pe_lst (pa_cons (pv 1) pa_nil)))
    (pss_cons (ps_for po rfl (pi_range1 rfl (f_range T) (pa_cons (pe_callB call_lenD (by rfl) (f_len T) PySem.boot_len (pa_cons (pv 0) pa_nil)) pa_nil)) (pg_name (i := 3) sc_law_below.nd rfl (Or.inl rfl))
    (pss_cons (ps_set (i := 4) sc_law_below.nd rfl (Or.inl rfl) (pe_lst pa_nil))
      (pss_cons (ps_for po rfl (pi_list (pv 2)) (pg_name (i := 5) sc_law_below.nd rfl (Or.inl rfl))
      (pss_one (ps_if (pt_cmpR op_eq (pe_ix ix_list (pe_dget (hu_of hr) (pv 0) (pv 5) (fun _ _ => rfl)) pe_int (fun _ _ => rfl)) pe_str (nomark _))
        (pss_one (ps_set (i := 4) sc_law_below.nd rfl (Or.inl rfl) (pe_op op_cat (pv 4) (pe_lc (own := [("_law_pair", 6)]) (g := gName 6)  rfl sc_law_below.nd (pi_list (pe_ix ix_list (pe_dget (hu_of hr) (pv 0) (pv 5) (fun _ _ => rfl)) pe_int (fun _ _ => rfl))) (blkOk_by (N := ["_law_nodes", "_law_number", "_law_found", "_law_turn", "_law_more", "_law_at", "_law_pair"]) (sc := defScope s_law_below) (by decide +kernel)) (fun _ _ _ _ _ => (pg_name (i := 6) sc_law_below.nd rfl (Or.inl rfl))) (fun _ _ _ _ _ => pts_one (pt_cmpR (op_notIn_seqK (K := K)) (pe_ix (ix_tupK (K := K)) (pv 6) pe_int (fun _ _ => rfl)) (pv 2) (by rfl))) (fun _ _ _ _ _ => (pe_ix (ix_tupK (K := K)) (pv 6) pe_int (fun _ _ => rfl)))))))
        pss_nil)))
      (pss_one (ps_set (i := 2) sc_law_below.nd rfl (Or.inr rfl) (pe_op op_cat (pv 2) (pv 4)))))))
    (pss_one (ps_ret (pv 2))))), ?_⟩
  obtain ⟨kvs, hkv, hkp, _⟩ := la.dict
  refine ⟨_, rfl, (by show 1 ≤ sizeLine; decide), fun f0 hf0 => ?_⟩
  have s1 := same_new (o := .lst [V.int n]) hf0
  have hf1 : upd H f0 (.lst [V.int n]) f0 = some (.lst ([n].map V.int)) := upd_same
  have hlen : kvs.length = Tr.nodes.length := paired_len hkp
  have hN : Tr.nodes.length ≤ 256 := W.len
  refine ⟨_, rfl, dn, kvs, rfl, s1 _ _ hkv, ((kvs.length : Nat) : Int), rfl, by omega, by omega, ?_⟩
  refine for_range (fun i σ' H' => ∃ (L : List Int) (fl : Addr) (a3 a4 a5 : Option V), σ' = [some (.ref dn), some (.int n), some (.ref fl), a3, a4, a5, none] ∧ Same H H' ∧ H' fl = some (.lst (L.map V.int)) ∧ BlwB Tr n i L) ⟨[n], f0, none, none, none, rfl, s1, hf1, BlwB.start n⟩ ?_ ?_
  · rintro i σ' H' hi ⟨L, fl, a3, a4, a5, rfl, sm, hfl, hB⟩
    have hi2 : i < 256 := by omega
    have hLlen := hB.len
    have hmax : ∀ j, (moreB Tr.nodes L (L.take j)).length ≤ 16384 := fun j => by
      have h1 := more_len W hB.dirs
      have e : moreB Tr.nodes L L = moreB Tr.nodes L (L.take j) ++ moreB Tr.nodes L (L.drop j) := by
        unfold moreB
        rw [← List.flatMap_append, List.take_append_drop]
      rw [e, List.length_append] at h1
      omega
    refine ⟨(Nat.zero_le _), fun m0 hm0 => ?_⟩
    have s2 := sm.trans (same_new (o := .lst []) hm0)
    have t2 := same_new (o := .lst []) hm0
    have hm1 : upd H' m0 (.lst []) m0 = some (.lst []) := upd_same
    generalize upd H' m0 (.lst []) = H2 at s2 t2 hm1 ⊢
    have hfl2 := t2 _ _ hfl
    refine ⟨_, rfl, fl, rfl, ⟨_, SqL.of hfl2⟩, ?_⟩
    refine for_list (K := K) (a := fl) (xs := L.map V.int) (fun j σ' H3 => ∃ (ml : Addr) (a3 a5 : Option V), σ' = [some (.ref dn), some (.int n), some (.ref fl), a3, some (.ref ml), a5, none] ∧ Same H2 H3 ∧ H3 ml = some (.lst ((moreB Tr.nodes L (L.take j)).map V.int))) ⟨m0, _, _, rfl, Same.refl _, by rw [hm1]; rfl⟩ (fun j σ' H3 _ ⟨_, _, _, _, s3, _⟩ => SqL.of (s3 _ _ hfl2)) ?_ ?_
    · rintro j y σ' H3 hj ⟨ml, a3, a5, rfl, s3, hml⟩
      obtain ⟨m, hm, rfl⟩ : ∃ m, L[j]? = some m ∧ y = V.int m := by
        rw [List.getElem?_map] at hj
        cases h1 : L[j]? with
        | none => rw [h1] at hj; cases hj
        | some q => rw [h1] at hj; exact ⟨q, rfl, (Option.some.inj hj).symm⟩
      have la3 := la.same (s2.trans s3)
      have hthere : ∃ nd, lk Tr.nodes m = some nd := by
        have hd2 := hB.down m (List.mem_of_getElem? hm)
        cases hd2 with
        | refl => obtain ⟨e, k, q⟩ := isDir_iff.mp hd; exact ⟨_, q⟩
        | step _ g1 g2 => exact (W.there g1 g2).2
      obtain ⟨nd, hnd⟩ := hthere
      have hstep : moreB Tr.nodes L (L.take (j + 1)) = moreB Tr.nodes L (L.take j) ++ kidsB Tr.nodes L m := by
        unfold moreB
        rw [List.take_succ, hm, List.flatMap_append]
        congr 1
        show List.flatMap _ [m] = _
        rw [List.flatMap_cons, List.flatMap_nil, List.append_nil]
      refine ⟨_, rfl, _, rfl, ?_⟩
      refine ld_kind la3 hnd ?_
      refine ⟨rfl, _, rfl, ?_⟩
      refine ite2 (fun c1 => ?_) (fun c1 => ?_)
      · have c1 := eq_str.mp c1
        have d1 : isDir Tr.nodes m = true := (isDir_of hnd).mpr c1
        obtain ⟨e, he⟩ := (kind_dir nd.bd).mp c1
        obtain ⟨b, nk⟩ := nd
        have he : b = .ent e := he
        subst he
        have elen := (W.ent _ _ _ hnd).2.1
        have hkid : kidsB Tr.nodes L m = (e.map (·.2)).filter fun c => decide (c ∉ L) := by
          unfold kidsB
          rw [if_pos d1, entOf_eq hnd]
        refine ⟨_, rfl, _, rfl, _, rfl, ?_⟩
        refine ld_body la3 hnd (fun bv hb => ?_)
        obtain ⟨b, ps, rfl, _, _, hs, hps⟩ := hb
        refine ⟨b, rfl, ⟨_, SqL.of hs⟩, fun D hD => lc_list (K := K) (a := b) (xs := ps.map V.ref) (fun q H4 => Same H3 H4 ∧ H4 D = some (.lst ((((e.take q).map (·.2)).filter fun c => decide (c ∉ L)).map V.int))) ⟨same_new hD, upd_same⟩ (fun q H4 _ h => same_l h.1 (SqL.of hs)) ?_ ?_⟩
        · rintro q y H4 hq ⟨s4, hD4⟩
          obtain ⟨r, hr1, rfl⟩ := ref_at hq
          obtain ⟨en, he1, hen⟩ := paired_at hps hr1
          have hfl4 := s4 _ _ (s3 _ _ hfl2)
          have hl4 : ((((e.take q).map (·.2)).filter fun c => decide (c ∉ L)).map V.int).length < sizeLine := by
            rw [List.length_map]
            have q1 : ((((e.take q).map (·.2)).filter fun c => decide (c ∉ L))).length ≤ ((e.take q).map (·.2)).length := List.length_filter_le _ _
            rw [List.length_map, List.length_take] at q1
            rw [sizeLine_eq]
            omega
          have hts : ((e.take (q + 1)).map (·.2)).filter (fun c => decide (c ∉ L)) = ((e.take q).map (·.2)).filter (fun c => decide (c ∉ L)) ++ (if en.2 ∉ L then [en.2] else []) := by
            rw [List.take_succ, he1, List.map_append, List.filter_append]
            congr 1
            show List.filter _ [en.2] = _
            rw [List.filter_cons]
            by_cases c : en.2 ∉ L
            · rw [if_pos c, if_pos (by simpa using c)]; rfl
            · rw [if_neg c, if_neg (by simpa using c)]; rfl
          refine ⟨rfl, _, rfl, r, _, 1, _, rfl, rfl, same_t s4 hen, atI_nat (j := 1) rfl, _, rfl, fl, _, rfl, .inl (SqL.of hfl4), rfl, flat_ints _, _, rfl, ?_⟩
          rw [in_ints]
          refine ite2 (fun c => ?_) (fun c => ?_)
          · have c2 : en.2 ∉ L := by simpa using c
            refine ⟨_, rfl, r, _, 1, _, rfl, rfl, same_t s4 hen, atI_nat (j := 1) rfl, _, hD4, hl4, same_mut s4 hD, ?_⟩
            rw [upd_same, hts, if_pos c2, List.map_append]
            rfl
          · have c2 : ¬ en.2 ∉ L := fun z => c (by simpa using z)
            refine ⟨s4, ?_⟩
            rw [hD4, hts, if_neg c2, List.append_nil]
        · rintro H4 ⟨s4, hD4⟩
          rw [List.length_map, paired_len hps, List.take_length, ← hkid] at hD4
          have hbig := hmax (j + 1)
          rw [hstep, List.length_append] at hbig
          refine ⟨ml, D, _, _, rfl, rfl, s4 _ _ hml, hD4, by rw [List.length_map, List.length_map, sizeLine_eq]; omega, fun m2 hm2 => ?_⟩
          refine ⟨m2, _, _, rfl, (s3.trans s4).trans (same_new hm2), ?_⟩
          rw [upd_same, hstep, List.map_append]
      · refine ⟨ml, _, _, rfl, s3, ?_⟩
        rw [hml, hstep]
        unfold kidsB
        rw [if_neg (fun z => c1 (eq_str.mpr ((isDir_of hnd).mp z))), List.append_nil]
    · rintro σ' H3 ⟨ml, a3, a5, rfl, s3, hml⟩
      rw [List.length_map, List.take_length] at hml
      have hbig := more_len W hB.dirs
      refine ⟨_, rfl, _, rfl, fl, ml, _, _, rfl, rfl, s3 _ _ hfl2, hml, by rw [List.length_map, List.length_map, sizeLine_eq]; omega, fun f2 hf2 => ?_⟩
      refine ⟨L ++ moreB Tr.nodes L L, f2, _, _, _, rfl, (s2.trans s3).trans (same_new hf2), ?_, hB.step W⟩
      rw [upd_same, List.map_append]
  · rintro σ' H' ⟨L, fl, a3, a4, a5, rfl, sm, hfl, hB⟩
    have e : Int.toNat ((kvs.length : Nat) : Int) = Tr.nodes.length := by rw [Int.toNat_natCast, hlen]
    rw [e] at hB
    exact ⟨_, rfl, k fl H' L sm hfl fun g hg => hB.fin W hg⟩
end
end Tm

set_option maxHeartbeats 4000000
namespace Tm
open PySem PySem.Spec PyProof.Rows L2
theorem lkd6 : ¬ (("ok" : Str) = "error") := by decide +kernel
section
variable {P : Program} {w : World} {K : PySem.W.Frag} {mg : Str → Option Value} {base : Heap}
def spLRename (K : PySem.W.Frag) : Sp := fun vs H Q _ => ∃ (dn hn av a : Addr) (T : Tr) (s g w : Str), vs = [.ref dn, .ref hn, .ref a] ∧ LA K dn hn av H T ∧ WF T ∧ s ∈ pathL ∧ g ∈ pathL ∧ SqT K H a [.str w, .str s, .str g] ∧ LM K dn hn av (renameS T s g) H Q
-- slots of _law_rename: 0 _law_nodes, 1 _law_handles, 2 _law_operation_here, 3 _law_found, 4 _law_place_here, 5 _law_number, 6 _law_old, 7 _law_due_here
theorem sc_law_rename : FnScope ["_law_nodes", "_law_handles", "_law_operation_here", "_law_found", "_law_place_here", "_law_number", "_law_old", "_law_due_here"] ["_law_nodes", "_law_handles", "_law_operation_here"] (defScope s_law_rename) := ⟨rfl, rfl, rfl, by decide +kernel, rfl, by decide +kernel, by decide +kernel⟩
theorem ok_law_rename (T : Tx K mg) : FnR P w K mg base (L2.CX P w) 5 (He.ga K "_law_rename") (spLRename K) := by
  have G_law_entry := ok_law_entry (P := P) (w := w) (base := base) T
  have G_law_place := ok_law_place (P := P) (w := w) (base := base) T
  have G_law_child := ok_law_child (P := P) (w := w) (base := base) T
  have G_law_set := ok_law_set (P := P) (w := w) (base := base) T
  have G_law_replaced := ok_law_replaced (P := P) (w := w) (base := base) T
  have G_law_lose := ok_law_lose (P := P) (w := w) (base := base) T
  have G_law_below := ok_law_below (P := P) (w := w) (base := base) T
  refine mk_fn (df_law_rename T) sc_law_rename (fun _ _ _ _ _ _ us hl => match us, hl with | [_, _, _], _ => rfl) (fun vs H Q E h => ?_) (fun cdv A outer s H vs Q E tk po hr h => ?_)
  · obtain ⟨_, _, _, _, _, _, _, _, rfl, _⟩ := h
    rfl
  obtain ⟨dn, hn, av, a, Tr, s, g, wd, rfl, la, W, hs, hg, ha, k⟩ := h
  refine ⟨_, (pss_cons (ps_set (i := 3) sc_law_rename.nd rfl (Or.inl rfl) (pe_callR G_law_entry (hr.mono (by decide)) rfl (g_law_entry T) (k_law_entry T) (pc_of tk) (pa_cons (pv 0) (pa_cons (pe_ix (ix_tupK (K := K)) (pv 2) pe_int (fun _ _ => rfl)) pa_nil))))
    (pss_cons (ps_if (pt_cmpR op_eq (pe_ix (ix_tupK (K := K)) (pv 3) pe_int (fun _ _ => rfl)) pe_str (nomark _))
    (pss_one (ps_ret (pv 3)))
    pss_nil)
    (pss_cons (ps_set (i := 4) sc_law_rename.nd rfl (Or.inl rfl) (pe_callR G_law_place (hr.mono (by decide)) rfl (g_law_place T) (k_law_place T) (pc_of tk) (pa_cons (pv 0) (pa_cons (pe_ix (ix_tupK (K := K)) (pv 2) pe_int (fun _ _ => rfl)) pa_nil))))
    (pss_cons (ps_if (pt_cmpR op_eq (pe_ix (ix_tupK (K := K)) (pv 4) pe_int (fun _ _ => rfl)) pe_str (nomark _))
    (pss_one (ps_ret (pv 4)))
    pss_nil)
    (pss_cons (ps_set (i := 5) sc_law_rename.nd rfl (Or.inl rfl) (pe_ix (ix_tupK (K := K)) (pv 3) pe_int (fun _ _ => rfl)))
    (Evl.pss_cut (ps_if (PW.pt (pw_and (pt_cmpR op_eq (pe_ix ix_list (pe_dget (hu_of hr) (pv 0) (pv 5) (fun _ _ => rfl)) pe_int (fun _ _ => rfl)) pe_str (nomark _)) (pw_and1 (pt_cmpR op_in_seq (pe_ix (ix_tupK (K := K)) (pv 4) pe_int (fun _ _ => rfl)) (pe_callR G_law_below (hr.mono (by decide)) rfl (g_law_below T) (k_law_below T) (pc_of tk) (pa_cons (pv 0) (pa_cons (pv 5) pa_nil))) (by rfl)))))
    (pss_one (ps_ret (pe_tup (pa_cons pe_str (pa_cons pe_str pa_nil)))))
    pss_nil)
    (pss_cons (ps_set (i := 6) sc_law_rename.nd rfl (Or.inl rfl) (pe_callR G_law_child (hr.mono (by decide)) rfl (g_law_child T) (k_law_child T) (pc_of tk) (pa_cons (pv 0) (pa_cons (pe_ix (ix_tupK (K := K)) (pv 4) pe_int (fun _ _ => rfl)) (pa_cons (pe_ix (ix_tupK (K := K)) (pv 4) pe_int (fun _ _ => rfl)) pa_nil)))))
    (Evl.pss_cut (ps_if (PW.pt (pw_and (pt_cmpR op_isN (pv 6) pe_non (nomark _)) (pw_and (pt_cmpR op_ne (pe_ix (ix_tupK (K := K)) (pv 4) pe_int (fun _ _ => rfl)) (pe_ix (ix_tupK (K := K)) (pv 3) pe_int (fun _ _ => rfl)) (nomark _)) (pw_and1 (pt_cmpR op_ge (pe_callB call_len_seq (by rfl) (f_len T) PySem.boot_len (pa_cons (pe_ix ix_list (pe_dget (hu_of hr) (pv 0) (pe_ix (ix_tupK (K := K)) (pv 4) pe_int (fun _ _ => rfl)) (fun _ _ => rfl)) pe_int (fun _ _ => rfl)) pa_nil)) pe_int (nomark _))))))
    (pss_one (ps_ret (pe_tup (pa_cons pe_str (pa_cons pe_str pa_nil)))))
    pss_nil)
    (pss_cons (ps_if (pt_cmpR op_eq (pv 6) (pv 5) (nomark _))
    (pss_one (ps_ret (pe_tup (pa_cons pe_str (pa_cons pe_non pa_nil)))))
    pss_nil)
    (Evl.pss_cut (ps_if (pt_cmpR op_notN (pv 6) pe_non (nomark _))
    (pss_cons (ps_set (i := 7) sc_law_rename.nd rfl (Or.inl rfl) (pe_callR G_law_replaced (hr.mono (by decide)) rfl (g_law_replaced T) (k_law_replaced T) (pc_of tk) (pa_cons (pv 0) (pa_cons (pv 5) (pa_cons (pv 6) pa_nil)))))
      (pss_one (ps_if (pt_cmpR op_eq (pe_ix (ix_tupK (K := K)) (pv 7) pe_int (fun _ _ => rfl)) pe_str (nomark _))
      (pss_one (ps_ret (pv 7)))
      pss_nil)))
    pss_nil)
    (pss_cons (ps_expr (pe_callR G_law_set (hr.mono (by decide)) rfl (g_law_set T) (k_law_set T) (pc_of tk) (pa_cons (pv 0) (pa_cons (pe_ix (ix_tupK (K := K)) (pv 3) pe_int (fun _ _ => rfl)) (pa_cons (pe_ix (ix_tupK (K := K)) (pv 3) pe_int (fun _ _ => rfl)) (pa_cons pe_non pa_nil))))))
    (pss_cons (ps_expr (pe_callR G_law_set (hr.mono (by decide)) rfl (g_law_set T) (k_law_set T) (pc_of tk) (pa_cons (pv 0) (pa_cons (pe_ix (ix_tupK (K := K)) (pv 4) pe_int (fun _ _ => rfl)) (pa_cons (pe_ix (ix_tupK (K := K)) (pv 4) pe_int (fun _ _ => rfl)) (pa_cons (pv 5) pa_nil))))))
    (Evl.pss_cut (ps_if (pt_cmpR op_notN (pv 6) pe_non (nomark _))
    (pss_one (ps_expr (pe_callR G_law_lose (hr.mono (by decide)) rfl (g_law_lose T) (k_law_lose T) (pc_of tk) (pa_cons (pv 0) (pa_cons (pv 1) (pa_cons (pv 6) pa_nil))))))
    pss_nil)
    (pss_one (ps_ret (pe_tup (pa_cons pe_str (pa_cons pe_non pa_nil)))))))))))))))))), ?_⟩
  refine ⟨_, rfl, _, rfl, a, _, 1, _, rfl, rfl, ha, atI_nat (j := 1) rfl, dn, hn, av, Tr, s, rfl, la, W, hs, fun f H1 s1 hf => ?_⟩
  replace hf : H1 f = some (.tup (eV entryV (entryS Tr.nodes s))) := hf
  have la1 := la.same s1
  have ha1 := same_t s1 ha
  cases hz : entryS Tr.nodes s with
  | error e =>
    rw [hz] at hf
    refine ⟨_, rfl, f, _, 0, _, rfl, rfl, SqT.of hf, atI_nat (j := 0) rfl, rfl, _, rfl, ?_⟩
    refine ite2 (fun _ => ?_) (fun c => absurd (eq_str.mpr rfl) c)
    refine ⟨_, rfl, k.err (e := e) ?_ s1 hf⟩
    unfold renameS; rw [hz]; rfl
  | ok z =>
    rw [hz] at hf
    obtain ⟨d, x, n⟩ := z
    refine ⟨_, rfl, f, _, 0, _, rfl, rfl, SqT.of hf, atI_nat (j := 0) rfl, rfl, _, rfl, ?_⟩
    refine ite2 (fun c => absurd (eq_str.mp c) lkd4) (fun _ => ?_)
    refine ⟨_, rfl, _, rfl, a, _, 2, _, rfl, rfl, ha1, atI_nat (j := 2) rfl, dn, hn, av, Tr, g, rfl, la1, W, hg, fun f2 H2 s2 hf2 => ?_⟩
    replace hf2 : H2 f2 = some (.tup (eV placeV (placeS Tr.nodes g))) := hf2
    have s3 := s1.trans s2
    have la3 := la.same s3
    have hf3 := s2 _ _ hf
    cases hz2 : placeS Tr.nodes g with
    | error e =>
      rw [hz2] at hf2
      refine ⟨_, rfl, f2, _, 0, _, rfl, rfl, SqT.of hf2, atI_nat (j := 0) rfl, rfl, _, rfl, ?_⟩
      refine ite2 (fun _ => ?_) (fun c => absurd (eq_str.mpr rfl) c)
      refine ⟨_, rfl, k.err (e := e) ?_ s3 hf2⟩
      unfold renameS; rw [hz, hz2]; rfl
    | ok z =>
      rw [hz2] at hf2
      obtain ⟨gn, y⟩ := z
      obtain ⟨e1, e2⟩ := entry_parts hz
      obtain ⟨de, dk, hdn⟩ := place_dir e1
      obtain ⟨ge, gk, hgn⟩ := place_dir hz2
      obtain ⟨_, nd, hnn⟩ := entry_there W hz
      have dlen := (W.ent _ _ _ hdn).2.1
      have glen := (W.ent _ _ _ hgn).2.1
      have dsrt := (W.ent _ _ _ hdn).1
      have gsrt := (W.ent _ _ _ hgn).1
      have gdir : isDir Tr.nodes gn = true := isDir_iff.mpr ⟨_, _, hgn⟩
      have hS : renameS Tr s g = rnS Tr d x n gn y := by
        unfold renameS
        rw [hz, hz2]
        rfl
      have hce := child_ent (x := y) hgn
      have hee := entOf_eq hgn
      refine ⟨_, rfl, f2, _, 0, _, rfl, rfl, SqT.of hf2, atI_nat (j := 0) rfl, rfl, _, rfl, ?_⟩
      refine ite2 (fun c => absurd (eq_str.mp c) lkd3) (fun _ => ?_)
      refine ⟨_, rfl, f, _, 3, _, rfl, rfl, SqT.of hf3, atI_nat (j := 3) rfl, ?_⟩
      refine ⟨fun σ' H' => σ' = [some (.ref dn), some (.ref hn), some (.ref a), some (.ref f), some (.ref f2), some (.int n), none, none] ∧ Same H2 H' ∧ ¬ (isDir Tr.nodes n = true ∧ Down Tr.nodes n gn), ?_, ?_⟩
      · refine ⟨_, rfl, _, rfl, ?_⟩
        refine ld_kind la3 hnn ?_
        refine ⟨rfl, _, rfl, ?_⟩
        refine ite2 (fun c => ?_) (fun c => ?_)
        · have nd1 : isDir Tr.nodes n = true := (isDir_of hnn).mpr (eq_str.mp c)
          refine ⟨_, rfl, f2, _, 1, _, rfl, rfl, SqT.of hf2, atI_nat (j := 1) rfl, _, rfl, _, rfl, dn, hn, av, Tr, n, rfl, la3, W, nd1, fun p H4 L s4 hp hL => ?_⟩
          refine ⟨p, _, rfl, .inl (SqL.of hp), rfl, flat_ints _, _, rfl, ?_⟩
          rw [in_ints]
          refine ite2 (fun c2 => ?_) (fun c2 => ?_)
          · have c3 : gn ∈ L := by simpa using c2
            refine ⟨(by show 2 ≤ sizeLine; decide), fun p hp => k.fail (e := .wi) ?_ (s3.trans s4) hp⟩
            rw [hS, rnS_wi ⟨nd1, (hL gn gdir).mp c3⟩]
          · have c3 : ¬ gn ∈ L := fun z => c2 (by simpa using z)
            exact ⟨rfl, s4, fun z => c3 ((hL gn gdir).mpr z.2)⟩
        · exact ⟨rfl, Same.refl _, fun z => c (eq_str.mpr ((isDir_of hnn).mp z.1))⟩
      · rintro σ' H4 ⟨rfl, s4, hw⟩
        have s5 := s3.trans s4
        have la5 := la.same s5
        have hf5 := s4 _ _ hf3
        have hf25 := s4 _ _ hf2
        refine ⟨_, rfl, _, rfl, f2, _, 1, _, rfl, rfl, SqT.of hf25, atI_nat (j := 1) rfl, _, rfl, f2, _, 2, _, rfl, rfl, SqT.of hf25, atI_nat (j := 2) rfl, ?_⟩
        refine ⟨dn, hn, av, Tr, gn, y, ge, gk, rfl, la5, hgn, fun H6 s6 => ?_⟩
        have s7 := s5.trans s6
        have la7 := la.same s7
        have hf7 := s6 _ _ hf5
        have hf27 := s6 _ _ hf25
        have hold : ∀ o, childL ge y = some o → ∃ od, lk Tr.nodes o = some od := fun o ho => (W.there hgn (childL_mem ho)).2
        refine ⟨fun σ' H' => σ' = [some (.ref dn), some (.ref hn), some (.ref a), some (.ref f), some (.ref f2), some (.int n), some (hV (childL ge y)), none] ∧ H6 = H' ∧ (childL ge y = none → ¬ (gn ≠ d ∧ 64 ≤ ge.length)), ?_, ?_⟩
        · refine ⟨_, rfl, rfl, _, rfl, ?_⟩
          cases hc : childL ge y with
          | none =>
            refine ite2 (fun _ => ?_) (fun c => absurd ((is_non none).mpr rfl) c)
            refine ⟨_, rfl, f2, _, 1, _, rfl, rfl, SqT.of hf27, atI_nat (j := 1) rfl, _, rfl, f, _, 1, _, rfl, rfl, SqT.of hf7, atI_nat (j := 1) rfl, rfl, _, rfl, ?_⟩
            refine ite2 (fun c => ?_) (fun c => ?_)
            · have c1 : gn ≠ d := ne_int.mp c
              refine ⟨_, rfl, _, rfl, f2, _, 1, _, rfl, rfl, SqT.of hf27, atI_nat (j := 1) rfl, ?_⟩
              refine ld_body la7 hgn (fun bv hb => ?_)
              obtain ⟨b, ps, rfl, _, _, hs2, hps⟩ := hb
              refine ⟨b, _, rfl, .inl (SqL.of hs2), _, _, rfl, rfl, _, rfl, ?_⟩
              rw [List.length_map, paired_len hps]
              refine ite2 (fun c2 => ?_) (fun c2 => ?_)
              · have c3 : (64 : Int) ≤ (ge.length : Nat) := of_decide_eq_true c2
                refine ⟨(by show 2 ≤ sizeLine; decide), fun p hp => k.fail (e := .df) ?_ s7 hp⟩
                rw [hS, rnS_df hw (hce.trans hc) ⟨c1, by rw [hee]; omega⟩]
              · have c3 : ¬ (64 : Int) ≤ (ge.length : Nat) := fun z => c2 (decide_eq_true z)
                exact ⟨rfl, rfl, fun _ z => c3 (by have := z.2; omega)⟩
            · exact ⟨rfl, rfl, fun _ z => c (ne_int.mpr z.1)⟩
          | some o =>
            refine ite2 (fun c => absurd ((is_non (some o)).mp c) (by simp)) (fun _ => ?_)
            exact ⟨rfl, rfl, fun z => by cases z⟩
        · rintro σ' H' ⟨rfl, rfl, hcond⟩
          refine ⟨_, rfl, _, rfl, ?_⟩
          refine ⟨by cases childL ge y <;> rfl, _, rfl, ?_⟩
          refine ite2 (fun c => ?_) (fun c => ?_)
          · have c1 : hV (childL ge y) = V.int n := of_decide_eq_true c
            have c2 : childL ge y = some n := by
              cases h : childL ge y with
              | none => rw [h] at c1; cases c1
              | some o => rw [h] at c1; cases c1; rfl
            have hS2 : renameS Tr s g = .ok (.none, Tr) := by rw [hS, rnS_same hw (hce.trans c2)]
            exact ⟨(by show 2 ≤ sizeLine; decide), fun p hp => k.fin hS2 (la.fl s7) la7 hp DpF.non⟩
          · have c1 : childL ge y ≠ some n := fun z => c (decide_eq_true (by rw [z]; rfl))
            refine ⟨fun σ' H' => ∃ a7, σ' = [some (.ref dn), some (.ref hn), some (.ref a), some (.ref f), some (.ref f2), some (.int n), some (hV (childL ge y)), a7] ∧ Same H6 H' ∧ (∀ o, childL ge y = some o → replS Tr.nodes n o = none), ?_, ?_⟩
            · refine ⟨_, rfl, rfl, _, rfl, ?_⟩
              cases hc : childL ge y with
              | none =>
                refine ite2 (fun c => absurd rfl ((not_non none).mp c)) (fun _ => ?_)
                exact ⟨_, rfl, Same.refl _, fun o z => by cases z⟩
              | some o =>
                refine ite2 (fun _ => ?_) (fun c => absurd ((not_non (some o)).mpr (by simp)) c)
                obtain ⟨od, ho⟩ := hold o hc
                have c2 : o ≠ n := fun z => c1 (by rw [hc, z])
                refine ⟨_, rfl, _, rfl, _, rfl, dn, hn, av, Tr, n, o, nd, od, rfl, la7, W, hnn, ho, fun p H8 s8 hp => ?_⟩
                cases hr2 : replS Tr.nodes n o with
                | none =>
                  rw [hr2] at hp
                  refine ⟨_, rfl, p, _, 0, _, rfl, rfl, SqT.of hp, atI_nat (j := 0) rfl, rfl, _, rfl, ?_⟩
                  refine ite2 (fun c => absurd (eq_str.mp c) lkd6) (fun _ => ?_)
                  exact ⟨_, rfl, s8, fun o2 z => by cases z; exact hr2⟩
                | some e =>
                  rw [hr2] at hp
                  refine ⟨_, rfl, p, _, 0, _, rfl, rfl, SqT.of hp, atI_nat (j := 0) rfl, rfl, _, rfl, ?_⟩
                  refine ite2 (fun _ => ?_) (fun c => absurd (eq_str.mpr rfl) c)
                  refine ⟨_, rfl, k.err (e := e) ?_ (s7.trans s8) hp⟩
                  rw [hS, rnS_err hw (hce.trans hc) c2 hr2]
            · rintro σ' H8 ⟨a7, rfl, s8, hrep⟩
              have s9 := s7.trans s8
              have la9 := la.same s9
              have hf9 := s8 _ _ hf7
              have hf29 := s8 _ _ hf27
              refine ⟨_, rfl, _, rfl, f, _, 1, _, rfl, rfl, SqT.of hf9, atI_nat (j := 1) rfl, _, rfl, f, _, 2, _, rfl, rfl, SqT.of hf9, atI_nat (j := 2) rfl, ?_⟩
              refine ⟨dn, hn, av, Tr, d, x, none, de, dk, rfl, la9, hdn, dsrt, by omega, fun H10 f10 la10 => ?_⟩
              have hf210 := la9.fi f10 f2 (.tup _) trivial hf29
              have la10 : LA K dn hn av H10 ⟨delE Tr.nodes d x, Tr.hs⟩ := by
                unfold delE
                rw [entOf_eq hdn, lnk_eq hdn]
                exact la10
              obtain ⟨ge2, gk2, hgn2, glen2, gsrt2⟩ : ∃ ge2 gk2, lk (delE Tr.nodes d x) gn = some ⟨.ent ge2, gk2⟩ ∧ ge2.length ≤ 64 ∧ Srt ge2 := by
                unfold delE
                rw [lk_put]
                by_cases q : gn = d
                · refine ⟨_, _, if_pos q, ?_, ?_⟩
                  · rw [entOf_eq hdn]
                    exact Nat.le_trans (List.length_filter_le _ _) dlen
                  · rw [entOf_eq hdn]
                    exact srt_rem dsrt
                · exact ⟨ge, gk, by rw [if_neg q]; exact hgn, glen, gsrt⟩
              refine ⟨_, rfl, _, rfl, f2, _, 1, _, rfl, rfl, SqT.of hf210, atI_nat (j := 1) rfl, _, rfl, f2, _, 2, _, rfl, rfl, SqT.of hf210, atI_nat (j := 2) rfl, _, rfl, ?_⟩
              refine ⟨dn, hn, av, _, gn, y, some n, ge2, gk2, rfl, la10, hgn2, gsrt2, by omega, fun H11 f11 la11 => ?_⟩
              have la11 : LA K dn hn av H11 ⟨addE (delE Tr.nodes d x) gn y n, Tr.hs⟩ := by
                unfold addE
                rw [entOf_eq hgn2, lnk_eq hgn2]
                exact la11
              have fl11 := (la.fl s9).trans (f10.trans f11)
              refine ⟨fun σ' H' => ∃ T', FL dn hn H H' ∧ LA K dn hn av H' T' ∧ renameS Tr s g = .ok (.none, T'), ?_, ?_⟩
              · refine ⟨_, rfl, rfl, _, rfl, ?_⟩
                cases hc : childL ge y with
                | none =>
                  refine ite2 (fun c => absurd rfl ((not_non none).mp c)) (fun _ => ?_)
                  refine ⟨_, fl11, la11, ?_⟩
                  rw [hS, rnS_none hw (hce.trans hc) (by rw [hee]; exact hcond hc)]
                | some o =>
                  refine ite2 (fun _ => ?_) (fun c => absurd ((not_non (some o)).mpr (by simp)) c)
                  obtain ⟨od, ho⟩ := hold o hc
                  have c2 : o ≠ n := fun z => c1 (by rw [hc, z])
                  have nc : ∃ od2, lk (addE (delE Tr.nodes d x) gn y n) o = some od2 := by
                    unfold addE
                    rw [lk_put]
                    by_cases q : o = gn
                    · exact ⟨_, if_pos q⟩
                    · obtain ⟨z, hz⟩ := lk_del (n := d) (x := x) ho
                      exact ⟨z, by rw [if_neg q]; exact hz⟩
                  obtain ⟨od2, ho2⟩ := nc
                  refine ⟨_, rfl, _, rfl, _, rfl, dn, hn, av, _, o, od2, rfl, la11, ho2, fun H12 f12 la12 => ?_⟩
                  refine ⟨_, fl11.trans f12, la12, ?_⟩
                  rw [hS, rnS_ok hw (hce.trans hc) c2 (hrep o hc)]
              · rintro σ' H12 ⟨T', fl12, la12, hS2⟩
                exact ⟨(by show 2 ≤ sizeLine; decide), fun p hp => k.fin hS2 fl12 la12 hp DpF.non⟩
end
end Tm

set_option maxHeartbeats 4000000
namespace Tm
open PySem PySem.Spec PyProof.Rows L2
theorem ix_listK {X : Cx} {K : PySem.W.Frag} (h : X.K = K := by rfl) : IxR X (rIxL K) := by
  subst h
  exact ix_list
theorem wdd : ∀ a ∈ ([("readlink", "lstat"), ("readdir", "lstat"), ("readdir", "readlink"), ("stat", "lstat"), ("stat", "readlink"), ("readdir", "stat"), ("read_at", "read"), ("write_at", "read"), ("write_at", "read_at"), ("stat_at", "read"), ("stat_at", "read_at"), ("stat_at", "write_at"), ("truncate", "read"), ("truncate", "read_at"), ("truncate", "write_at"), ("truncate", "stat_at"), ("resize", "read"), ("resize", "read_at"), ("resize", "write_at"), ("resize", "stat_at")] : List (Str × Str)), a.1 ≠ a.2 := by decide +kernel
section
variable {P : Program} {w : World} {K : PySem.W.Frag} {mg : Str → Option Value} {base : Heap}
def spLLook (K : PySem.W.Frag) : Sp := fun vs H Q _ => ∃ (dn hn av a : Addr) (T : Tr) (s wd : Str) (r : Except Er PyData), vs = [.ref dn, .ref a] ∧ LA K dn hn av H T ∧ WF T ∧ s ∈ pathL ∧ SqT K H a [.str wd, .str s] ∧
  ((wd = "lstat" ∧ r = lstatS T.nodes s) ∨ (wd = "readlink" ∧ r = readlinkS T.nodes s) ∨ (wd = "stat" ∧ r = statS T.nodes s) ∨ (wd = "readdir" ∧ r = readdirS T.nodes s)) ∧ LM K dn hn av (still T r) H Q
-- slots of _law_look: 0 _law_nodes, 1 _law_operation_here, 2 _law_word_here, 3 _law_found, 4 _law_pair
theorem sc_law_look : FnScope ["_law_nodes", "_law_operation_here", "_law_word_here", "_law_found", "_law_pair"] ["_law_nodes", "_law_operation_here"] (defScope s_law_look) := ⟨rfl, rfl, rfl, by decide +kernel, rfl, by decide +kernel, by decide +kernel⟩
theorem ok_law_look (T : Tx K mg) : FnR P w K mg base (L2.CX P w) 5 (He.ga K "_law_look") (spLLook K) := by
  have G_law_follow := ok_law_follow (P := P) (w := w) (base := base) T
  have G_law_status := ok_law_status (P := P) (w := w) (base := base) T
  have G_law_entry := ok_law_entry (P := P) (w := w) (base := base) T
  have G_law_names := ok_law_names (P := P) (w := w) (base := base) T
  refine mk_fn (df_law_look T) sc_law_look (fun _ _ _ _ _ _ us hl => match us, hl with | [_, _], _ => rfl) (fun vs H Q E h => ?_) (fun cdv A outer s H vs Q E tk po hr h => ?_)
  · obtain ⟨_, _, _, _, _, _, _, _, rfl, _⟩ := h
    rfl
  obtain ⟨dn, hn, av, a, Tr, s, wd, r, rfl, la, W, hs, ha, hw, k⟩ := h
  refine ⟨_, (pss_cons (ps_set (i := 2) sc_law_look.nd rfl (Or.inl rfl) (pe_ix (ix_tupK (K := K)) (pv 1) pe_int (fun _ _ => rfl)))
    (pss_cons (ps_if (PW.pt (pw_and (pt_cmpR op_eq (pv 2) pe_str (nomark _)) (pw_and1 (pt_cmpR op_eq (pe_ix (ix_tupK (K := K)) (pv 1) pe_int (fun _ _ => rfl)) pe_str (nomark _)))))
    (pss_one (ps_ret (pe_callR G_law_status (hr.mono (by decide)) rfl (g_law_status T) (k_law_status T) (pc_of tk) (pa_cons (pv 0) (pa_cons pe_int pa_nil)))))
    pss_nil)
    (pss_cons (ps_if (PW.pt (pw_or (pt_cmpR op_eq (pv 2) pe_str (nomark _)) (pw_or1 (pt_cmpR op_eq (pv 2) pe_str (nomark _)))))
    (pss_cons (ps_set (i := 3) sc_law_look.nd rfl (Or.inl rfl) (pe_callR G_law_entry (hr.mono (by decide)) rfl (g_law_entry T) (k_law_entry T) (pc_of tk) (pa_cons (pv 0) (pa_cons (pe_ix (ix_tupK (K := K)) (pv 1) pe_int (fun _ _ => rfl)) pa_nil))))
      (pss_cons (ps_if (pt_cmpR op_eq (pe_ix (ix_tupK (K := K)) (pv 3) pe_int (fun _ _ => rfl)) pe_str (nomark _))
      (pss_one (ps_ret (pv 3)))
      pss_nil)
      (pss_cons (ps_if (pt_cmpR op_eq (pv 2) pe_str (nomark _))
      (pss_one (ps_ret (pe_callR G_law_status (hr.mono (by decide)) rfl (g_law_status T) (k_law_status T) (pc_of tk) (pa_cons (pv 0) (pa_cons (pe_ix (ix_tupK (K := K)) (pv 3) pe_int (fun _ _ => rfl)) pa_nil)))))
      pss_nil)
      (pss_cons (ps_if (pt_cmpR op_ne (pe_ix ix_list (pe_dget (hu_of hr) (pv 0) (pe_ix (ix_tupK (K := K)) (pv 3) pe_int (fun _ _ => rfl)) (fun _ _ => rfl)) pe_int (fun _ _ => rfl)) pe_str (nomark _))
      (pss_one (ps_ret (pe_tup (pa_cons pe_str (pa_cons pe_str pa_nil)))))
      pss_nil)
      (pss_one (ps_ret (pe_tup (pa_cons pe_str (pa_cons (pe_ix ix_list (pe_dget (hu_of hr) (pv 0) (pe_ix (ix_tupK (K := K)) (pv 3) pe_int (fun _ _ => rfl)) (fun _ _ => rfl)) pe_int (fun _ _ => rfl)) pa_nil)))))))))
    pss_nil)
    (pss_cons (ps_set (i := 3) sc_law_look.nd rfl (Or.inl rfl) (pe_callR G_law_follow (hr.mono (by decide)) rfl (g_law_follow T) (k_law_follow T) (pc_of tk) (pa_cons (pv 0) (pa_cons (pe_callR G_law_names (hr.mono (by decide)) rfl (g_law_names T) (k_law_names T) (pc_of tk) (pa_cons (pe_ix (ix_tupK (K := K)) (pv 1) pe_int (fun _ _ => rfl)) pa_nil)) pa_nil))))
    (pss_cons (ps_if (pt_cmpR op_eq (pe_ix (ix_tupK (K := K)) (pv 3) pe_int (fun _ _ => rfl)) pe_str (nomark _))
    (pss_one (ps_ret (pv 3)))
    pss_nil)
    (pss_cons (ps_if (pt_cmpR op_eq (pv 2) pe_str (nomark _))
    (pss_one (ps_ret (pe_callR G_law_status (hr.mono (by decide)) rfl (g_law_status T) (k_law_status T) (pc_of tk) (pa_cons (pv 0) (pa_cons (pe_ix (ix_tupK (K := K)) (pv 3) pe_int (fun _ _ => rfl)) pa_nil)))))
    pss_nil)
    (pss_cons (ps_if (pt_cmpR op_ne (pe_ix ix_list (pe_dget (hu_of hr) (pv 0) (pe_ix (ix_tupK (K := K)) (pv 3) pe_int (fun _ _ => rfl)) (fun _ _ => rfl)) pe_int (fun _ _ => rfl)) pe_str (nomark _))
    (pss_one (ps_ret (pe_tup (pa_cons pe_str (pa_cons pe_str pa_nil)))))
    pss_nil)
    (pss_one (ps_ret (pe_tup (pa_cons pe_str (pa_cons (pe_lc (own := [("_law_pair", 4)]) (g := gName 4)  rfl sc_law_look.nd (pi_list (pe_ix ix_list (pe_dget (hu_of hr) (pv 0) (pe_ix (ix_tupK (K := K)) (pv 3) pe_int (fun _ _ => rfl)) (fun _ _ => rfl)) pe_int (fun _ _ => rfl))) (blkOk_by (N := ["_law_nodes", "_law_operation_here", "_law_word_here", "_law_found", "_law_pair"]) (sc := defScope s_law_look) (by decide +kernel)) (fun _ _ _ _ _ => (pg_name (i := 4) sc_law_look.nd rfl (Or.inl rfl))) (fun _ _ _ _ _ => pts_nil) (fun _ _ _ _ _ => (pe_ix (ix_tupK (K := K)) (pv 4) pe_int (fun _ _ => rfl)))) pa_nil)))))))))))), ?_⟩
  have kerr : ∀ {e : Er} {p : Addr} {H1 : Hp}, r = .error e → Same H H1 → H1 p = some (.tup [.str "error", .str e.word]) → Q (.ref p) H1 := fun he s1 hp => k.err (by rw [he]; rfl) s1 hp
  have kst : ∀ {H1 : Hp} {n : Int} {nd : Nd}, Same H H1 → r = .ok (statD n nd) → LM K dn hn av (.ok (statD n nd, Tr)) H1 Q := fun {H1 n nd} s1 he =>
    LM.of (fun e he => by cases he) (fun z hz p x H2 f2 la2 hp d => by cases hz; exact k.val (z := (statD n nd, Tr)) (by rw [he]; rfl) ((la.fl s1).trans f2) la2 hp (d.down fun a e => none_same s1 e))
  obtain ⟨n1, n2, _, _⟩ := names_ok (.inl hs)
  have ent : ∀ (H1 : Hp), Same H H1 → SqT K H1 a [.str wd, .str s] := fun H1 s1 => same_t s1 ha
  refine ⟨_, rfl, a, _, 0, _, rfl, rfl, ha, atI_nat (j := 0) rfl, ?_⟩
  refine ⟨_, rfl, rfl, _, rfl, ?_⟩
  rcases hw with ⟨rfl, hr⟩ | ⟨rfl, hr⟩ | ⟨rfl, hr⟩ | ⟨rfl, hr⟩
  · refine ite2 (fun _ => ?_) (fun c => absurd (eq_str.mpr rfl) c)
    refine ⟨_, rfl, a, _, 1, _, rfl, rfl, ha, atI_nat (j := 1) rfl, rfl, _, rfl, ?_⟩
    obtain ⟨root, hroot⟩ := W.root
    refine ite2 (fun c => ?_) (fun c => ?_)
    · have c1 := eq_str.mp c
      refine ⟨_, rfl, dn, hn, av, Tr, 0, _, rfl, la, W, hroot, kst (Same.refl _) ?_⟩
      rw [hr]
      unfold lstatS
      rw [if_pos c1, statOf_eq hroot]
    · have c1 : ¬ s = "/" := fun e => c (eq_str.mpr e)
      have hS : r = mapE (fun z : Int × Str × Int => .ok (statOf Tr.nodes z.2.2)) (entryS Tr.nodes s) := by rw [hr]; exact if_neg c1
      refine ⟨_, rfl, rfl, _, rfl, ?_⟩
      refine ite2 (fun _ => ?_) (fun c => absurd (eq_str.mpr rfl) c)
      refine ⟨_, rfl, _, rfl, a, _, 1, _, rfl, rfl, ha, atI_nat (j := 1) rfl, dn, hn, av, Tr, s, rfl, la, W, hs, fun f H1 s1 hf => ?_⟩
      replace hf : H1 f = some (.tup (eV entryV (entryS Tr.nodes s))) := hf
      cases he : entryS Tr.nodes s with
      | error e =>
        rw [he] at hf hS
        refine ⟨_, rfl, f, _, 0, _, rfl, rfl, SqT.of hf, atI_nat (j := 0) rfl, rfl, _, rfl, ?_⟩
        refine ite2 (fun _ => ?_) (fun c => absurd (eq_str.mpr rfl) c)
        exact ⟨_, rfl, kerr hS s1 hf⟩
      | ok z =>
        rw [he] at hf hS
        obtain ⟨n, x, c⟩ := z
        obtain ⟨_, nd, hc⟩ := entry_there W he
        refine ⟨_, rfl, f, _, 0, _, rfl, rfl, SqT.of hf, atI_nat (j := 0) rfl, rfl, _, rfl, ?_⟩
        refine ite2 (fun c => absurd (eq_str.mp c) lkd4) (fun _ => ?_)
        refine ⟨_, rfl, rfl, _, rfl, ?_⟩
        refine ite2 (fun _ => ?_) (fun c => absurd (eq_str.mpr rfl) c)
        refine ⟨_, rfl, _, rfl, f, _, 3, _, rfl, rfl, SqT.of hf, atI_nat (j := 3) rfl, dn, hn, av, Tr, c, nd, rfl, la.same s1, W, hc, kst s1 ?_⟩
        rw [hS, ← statOf_eq hc]; rfl
  · have w1 : ¬ ("readlink" : Str) = "lstat" := wdd ("readlink", "lstat") (by decide +kernel)
    refine ite2 (fun c => absurd (eq_str.mp c) w1) (fun _ => ?_)
    refine ⟨_, rfl, rfl, _, rfl, ?_⟩
    refine ite2 (fun c => absurd (eq_str.mp c) w1) (fun _ => ?_)
    refine ⟨_, rfl, rfl, _, rfl, ?_⟩
    refine ite2 (fun _ => ?_) (fun c => absurd (eq_str.mpr rfl) c)
    refine ⟨_, rfl, _, rfl, a, _, 1, _, rfl, rfl, ha, atI_nat (j := 1) rfl, dn, hn, av, Tr, s, rfl, la, W, hs, fun f H1 s1 hf => ?_⟩
    replace hf : H1 f = some (.tup (eV entryV (entryS Tr.nodes s))) := hf
    cases he : entryS Tr.nodes s with
    | error e =>
      rw [he] at hf
      refine ⟨_, rfl, f, _, 0, _, rfl, rfl, SqT.of hf, atI_nat (j := 0) rfl, rfl, _, rfl, ?_⟩
      refine ite2 (fun _ => ?_) (fun c => absurd (eq_str.mpr rfl) c)
      exact ⟨_, rfl, kerr (by rw [hr]; unfold readlinkS; rw [he]; rfl) s1 hf⟩
    | ok z =>
      rw [he] at hf
      obtain ⟨n, x, c⟩ := z
      obtain ⟨_, nd, hc⟩ := entry_there W he
      have la1 := la.same s1
      have hS : r = (match (some nd : Option Nd) with
        | some ⟨.tgt s, _⟩ => .ok (.str s)
        | _ => .error .nl) := by
        rw [hr]
        unfold readlinkS
        rw [he, ← hc]; rfl
      refine ⟨_, rfl, f, _, 0, _, rfl, rfl, SqT.of hf, atI_nat (j := 0) rfl, rfl, _, rfl, ?_⟩
      refine ite2 (fun c => absurd (eq_str.mp c) lkd4) (fun _ => ?_)
      refine ⟨_, rfl, rfl, _, rfl, ?_⟩
      refine ite2 (fun c => absurd (eq_str.mp c) w1) (fun _ => ?_)
      refine ⟨_, rfl, _, rfl, f, _, 3, _, rfl, rfl, SqT.of hf, atI_nat (j := 3) rfl, ?_⟩
      refine ld_kind la1 hc ?_
      refine ⟨rfl, _, rfl, ?_⟩
      obtain ⟨b, nk⟩ := nd
      refine ite2 (fun c1 => ?_) (fun c1 => ?_)
      · have c2 := ne_str.mp c1
        refine ⟨(by show 2 ≤ sizeLine; decide), fun p hp => kerr (e := .nl) ?_ (s1.trans (same_new hp)) upd_same⟩
        rw [hS]
        cases b with
        | tgt z => exact absurd rfl c2
        | oct z => rfl
        | ent z => rfl
      · obtain ⟨z, hz⟩ := (kind_link b).mp (Classical.byContradiction fun q => c1 (ne_str.mpr q))
        subst hz
        refine ⟨_, rfl, _, rfl, f, _, 3, _, rfl, rfl, SqT.of hf, atI_nat (j := 3) rfl, ?_⟩
        refine ld_body la1 hc (fun bv hb => ?_)
        have hb : bv = V.str z := hb
        subst hb
        refine ⟨(by show 2 ≤ sizeLine; decide), fun p hp => k.fin (z := (.str z, Tr)) ?_ (la.fl s1) la1 hp (DpF.str z)⟩
        rw [hS]; rfl
  · have w1 : ¬ ("stat" : Str) = "lstat" := wdd ("stat", "lstat") (by decide +kernel)
    have w2 : ¬ ("stat" : Str) = "readlink" := wdd ("stat", "readlink") (by decide +kernel)
    refine ite2 (fun c => absurd (eq_str.mp c) w1) (fun _ => ?_)
    refine ⟨_, rfl, rfl, _, rfl, ?_⟩
    refine ite2 (fun c => absurd (eq_str.mp c) w1) (fun _ => ?_)
    refine ⟨_, rfl, rfl, _, rfl, ?_⟩
    refine ite2 (fun c => absurd (eq_str.mp c) w2) (fun _ => ?_)
    refine ⟨_, rfl, _, rfl, a, _, 1, _, rfl, rfl, ha, atI_nat (j := 1) rfl, s, rfl, .inl hs, fun q H1 s1 hq0 hq => ?_⟩
    refine ⟨dn, hn, av, q, Tr, _, rfl, la.same s1, W, SqL.of hq, n2, fun f H2 s2 hf => ?_⟩
    have s3 := s1.trans s2
    replace hf : H2 f = some (.tup (eV foundV (followS Tr.nodes s))) := hf
    cases he : followS Tr.nodes s with
    | error e =>
      rw [he] at hf
      refine ⟨_, rfl, f, _, 0, _, rfl, rfl, SqT.of hf, atI_nat (j := 0) rfl, rfl, _, rfl, ?_⟩
      refine ite2 (fun _ => ?_) (fun c => absurd (eq_str.mpr rfl) c)
      exact ⟨_, rfl, kerr (by rw [hr]; unfold statS; rw [he]; rfl) s3 hf⟩
    | ok n =>
      rw [he] at hf
      obtain ⟨nd, hc⟩ := follow_there W he
      refine ⟨_, rfl, f, _, 0, _, rfl, rfl, SqT.of hf, atI_nat (j := 0) rfl, rfl, _, rfl, ?_⟩
      refine ite2 (fun c => absurd (eq_str.mp c) lkd2) (fun _ => ?_)
      refine ⟨_, rfl, rfl, _, rfl, ?_⟩
      refine ite2 (fun _ => ?_) (fun c => absurd (eq_str.mpr rfl) c)
      refine ⟨_, rfl, _, rfl, f, _, 1, _, rfl, rfl, SqT.of hf, atI_nat (j := 1) rfl, dn, hn, av, Tr, n, nd, rfl, la.same s3, W, hc, kst s3 ?_⟩
      rw [hr]
      unfold statS
      rw [he, ← statOf_eq hc]; rfl
  · have w1 : ¬ ("readdir" : Str) = "lstat" := wdd ("readdir", "lstat") (by decide +kernel)
    have w2 : ¬ ("readdir" : Str) = "readlink" := wdd ("readdir", "readlink") (by decide +kernel)
    have w3 : ¬ ("readdir" : Str) = "stat" := wdd ("readdir", "stat") (by decide +kernel)
    refine ite2 (fun c => absurd (eq_str.mp c) w1) (fun _ => ?_)
    refine ⟨_, rfl, rfl, _, rfl, ?_⟩
    refine ite2 (fun c => absurd (eq_str.mp c) w1) (fun _ => ?_)
    refine ⟨_, rfl, rfl, _, rfl, ?_⟩
    refine ite2 (fun c => absurd (eq_str.mp c) w2) (fun _ => ?_)
    refine ⟨_, rfl, _, rfl, a, _, 1, _, rfl, rfl, ha, atI_nat (j := 1) rfl, s, rfl, .inl hs, fun q H1 s1 hq0 hq => ?_⟩
    refine ⟨dn, hn, av, q, Tr, _, rfl, la.same s1, W, SqL.of hq, n2, fun f H2 s2 hf => ?_⟩
    have s3 := s1.trans s2
    replace hf : H2 f = some (.tup (eV foundV (followS Tr.nodes s))) := hf
    cases he : followS Tr.nodes s with
    | error e =>
      rw [he] at hf
      refine ⟨_, rfl, f, _, 0, _, rfl, rfl, SqT.of hf, atI_nat (j := 0) rfl, rfl, _, rfl, ?_⟩
      refine ite2 (fun _ => ?_) (fun c => absurd (eq_str.mpr rfl) c)
      exact ⟨_, rfl, kerr (by rw [hr]; unfold readdirS; rw [he]; rfl) s3 hf⟩
    | ok n =>
      rw [he] at hf
      obtain ⟨nd, hc⟩ := follow_there W he
      have la3 := la.same s3
      have hS : r = (match (some nd : Option Nd) with
        | some ⟨.ent e, _⟩ => .ok (.list (e.map fun q => .str q.1))
        | _ => .error .nd) := by
        rw [hr]
        unfold readdirS
        rw [he, ← hc]; rfl
      refine ⟨_, rfl, f, _, 0, _, rfl, rfl, SqT.of hf, atI_nat (j := 0) rfl, rfl, _, rfl, ?_⟩
      refine ite2 (fun c => absurd (eq_str.mp c) lkd2) (fun _ => ?_)
      refine ⟨_, rfl, rfl, _, rfl, ?_⟩
      refine ite2 (fun c => absurd (eq_str.mp c) w3) (fun _ => ?_)
      refine ⟨_, rfl, _, rfl, f, _, 1, _, rfl, rfl, SqT.of hf, atI_nat (j := 1) rfl, ?_⟩
      refine ld_kind la3 hc ?_
      refine ⟨rfl, _, rfl, ?_⟩
      obtain ⟨b, nk⟩ := nd
      refine ite2 (fun c1 => ?_) (fun c1 => ?_)
      · have c2 := ne_str.mp c1
        refine ⟨(by show 2 ≤ sizeLine; decide), fun p hp => kerr (e := .nd) ?_ (s3.trans (same_new hp)) upd_same⟩
        rw [hS]
        cases b with
        | ent z => exact absurd rfl c2
        | oct z => rfl
        | tgt z => rfl
      · obtain ⟨e, hz⟩ := (kind_dir b).mp (Classical.byContradiction fun q => c1 (ne_str.mpr q))
        subst hz
        have hlen := (W.ent _ _ _ hc).2.1
        refine ⟨_, rfl, _, rfl, f, _, 1, _, rfl, rfl, SqT.of hf, atI_nat (j := 1) rfl, ?_⟩
        refine ld_body la3 hc (fun bv hb => ?_)
        obtain ⟨b, ps, rfl, _, _, hs2, hps⟩ := hb
        refine ⟨b, rfl, ⟨_, SqL.of hs2⟩, fun D hD => lc_list (K := K) (a := b) (xs := ps.map V.ref) (fun i H' => Same H2 H' ∧ H' D = some (.lst ((e.take i).map fun q => V.str q.1))) ⟨same_new hD, upd_same⟩ (fun i H' _ h => same_l h.1 (SqL.of hs2)) ?_ ?_⟩
        · rintro i y H' hi ⟨sm, hD'⟩
          obtain ⟨q, hq, rfl⟩ := ref_at hi
          obtain ⟨en, he, hen⟩ := paired_at hps hq
          refine ⟨rfl, _, rfl, q, _, 0, _, rfl, rfl, same_t sm hen, atI_nat (j := 0) rfl, _, hD', ?_, same_mut sm hD, ?_⟩
          · rw [List.length_map, List.length_take, sizeLine_eq]; omega
          · rw [upd_same, List.take_succ, he, List.map_append]; rfl
        · rintro H' ⟨sm, hD'⟩
          rw [List.length_map, paired_len hps, List.take_length] at hD'
          have s4 := s3.trans sm
          refine ⟨(by show 2 ≤ sizeLine; decide), fun p hp => k.fin (z := (.list (e.map fun q => .str q.1), Tr)) ?_ (la.fl s4) (la.same s4) hp (fun H'' g _ => ?_)⟩
          · rw [hS]; rfl
          · refine .lst (SqL.of (g D _ (none_same s3 hD) hD')) ?_
            have e1 : (e.map fun q => V.str q.1) = (e.map Prod.fst).map V.str := by rw [List.map_map]; rfl
            have e2 : (e.map fun q => PyData.str q.1) = (e.map Prod.fst).map PyData.str := by rw [List.map_map]; rfl
            rw [e1, e2]
            exact dpAll_strs _
end
end Tm

set_option maxHeartbeats 4000000
namespace Tm
open PySem PySem.Spec PyProof.Rows L2
inductive Ct where
  | rd (off len : Nat) | wr (off : Nat) (oct : List Int) | st | sz (len : Nat)
def CtA (K : PySem.W.Frag) (H : Hp) (a : Addr) : Ct → Prop
  | .rd off len => ∃ (w : Str) (x : V), (w = "read" ∨ w = "read_at") ∧ SqT K H a [.str w, x, .int off, .int len] ∧ off ≤ 28672 ∧ len ≤ 28672
  | .wr off oct => ∃ (x : V) (o : Addr), SqT K H a [.str "write_at", x, .int off, .ref o] ∧ H o = some (.lst (oct.map V.int)) ∧ off ≤ 28672 ∧ oct.length ≤ 10000
  | .st => ∃ (x : V), SqT K H a [.str "stat_at", x]
  | .sz len => ∃ (w : Str) (x : V), (w = "truncate" ∨ w = "resize") ∧ SqT K H a [.str w, x, .int len] ∧ len ≤ 28672
def ctS (T : Tr) (n : Int) : Ct → Except Er (PyData × Tr)
  | .rd off len => .ok (octD (cutI (octsOf T.nodes n) off len), T)
  | .wr off oct => writeN T n off oct
  | .st => .ok (statOf T.nodes n, T)
  | .sz len => .ok (.none, sizeN T n len)
section
variable {P : Program} {w : World} {K : PySem.W.Frag} {mg : Str → Option Value} {base : Heap}
def spLContent (K : PySem.W.Frag) : Sp := fun vs H Q _ => ∃ (dn hn av a : Addr) (T : Tr) (n : Int) (body : List Int) (k : Int) (c : Ct), vs = [.ref dn, .int n, .ref a] ∧ LA K dn hn av H T ∧ WF T ∧ lk T.nodes n = some ⟨.oct body, k⟩ ∧ CtA K H a c ∧ LM K dn hn av (ctS T n c) H Q
-- slots of _law_content: 0 _law_nodes, 1 _law_number, 2 _law_operation_here, 3 _law_word_here, 4 _law_body, 5 _law_length
theorem sc_law_content : FnScope ["_law_nodes", "_law_number", "_law_operation_here", "_law_word_here", "_law_body", "_law_length"] ["_law_nodes", "_law_number", "_law_operation_here"] (defScope s_law_content) := ⟨rfl, rfl, rfl, by decide +kernel, rfl, by decide +kernel, by decide +kernel⟩
theorem ok_law_content (T : Tx K mg) : FnR P w K mg base (L2.CX P w) 2 (He.ga K "_law_content") (spLContent K) := by
  have G_law_put := ok_law_put (P := P) (w := w) (base := base) T
  have G_law_status := ok_law_status (P := P) (w := w) (base := base) T
  have G_law_written := ok_law_written (P := P) (w := w) (base := base) T
  refine mk_fn (df_law_content T) sc_law_content (fun _ _ _ _ _ _ us hl => match us, hl with | [_, _, _], _ => rfl) (fun vs H Q E h => ?_) (fun cdv A outer s H vs Q E tk po hr h => ?_)
  · obtain ⟨_, _, _, _, _, _, _, _, _, rfl, _⟩ := h
    rfl
  obtain ⟨dn, hn, av, a, Tr, n, body, kk, c, rfl, la, W, hc, hA, k⟩ := h
  refine ⟨_, (pss_cons (ps_set (i := 3) sc_law_content.nd rfl (Or.inl rfl) (pe_ix (ix_tupK (K := K)) (pv 2) pe_int (fun _ _ => rfl)))
    (pss_cons (ps_set (i := 4) sc_law_content.nd rfl (Or.inl rfl) (pe_ix ix_list (pe_dget (hu_of hr) (pv 0) (pv 1) (fun _ _ => rfl)) pe_int (fun _ _ => rfl)))
    (pss_cons (ps_if (PW.pt (pw_or (pt_cmpR op_eq (pv 3) pe_str (nomark _)) (pw_or1 (pt_cmpR op_eq (pv 3) pe_str (nomark _)))))
    (pss_one (ps_ret (pe_tup (pa_cons pe_str (pa_cons (pe_slice sl_list (pv 4) (po_some (pe_ix (ix_tupK (K := K)) (pv 2) pe_int (fun _ _ => rfl))) (po_some (pe_op op_add (pe_ix (ix_tupK (K := K)) (pv 2) pe_int (fun _ _ => rfl)) (pe_ix (ix_tupK (K := K)) (pv 2) pe_int (fun _ _ => rfl))))) pa_nil)))))
    pss_nil)
    (pss_cons (ps_if (pt_cmpR op_eq (pv 3) pe_str (nomark _))
    (pss_one (ps_ret (pe_callR G_law_put (hr.mono (by decide)) rfl (g_law_put T) (k_law_put T) (pc_of tk) (pa_cons (pv 0) (pa_cons (pv 1) (pa_cons (pe_callR G_law_written (hr.mono (by decide)) rfl (g_law_written T) (k_law_written T) (pc_of tk) (pa_cons (pv 4) (pa_cons (pe_ix (ix_tupK (K := K)) (pv 2) pe_int (fun _ _ => rfl)) (pa_cons (pe_ix (ix_tupK (K := K)) (pv 2) pe_int (fun _ _ => rfl)) pa_nil)))) pa_nil))))))
    pss_nil)
    (pss_cons (ps_if (pt_cmpR op_eq (pv 3) pe_str (nomark _))
    (pss_one (ps_ret (pe_callR G_law_status (hr.mono (by decide)) rfl (g_law_status T) (k_law_status T) (pc_of tk) (pa_cons (pv 0) (pa_cons (pv 1) pa_nil)))))
    pss_nil)
    (pss_cons (ps_set (i := 5) sc_law_content.nd rfl (Or.inl rfl) (pe_ix (ix_tupK (K := K)) (pv 2) pe_int (fun _ _ => rfl)))
    (pss_one (ps_ret (pe_callR G_law_put (hr.mono (by decide)) rfl (g_law_put T) (k_law_put T) (pc_of tk) (pa_cons (pv 0) (pa_cons (pv 1) (pa_cons (pe_op op_cat (pe_slice sl_list (pv 4) po_none (po_some (pv 5))) (pe_op op_rep (pe_lst (pa_cons pe_int pa_nil)) (pe_op op_sub (pv 5) (pe_callB call_len_seq (by rfl) (f_len T) PySem.boot_len (pa_cons (pv 4) pa_nil))))) pa_nil)))))))))))), ?_⟩
  have hlen := W.oct _ _ _ hc
  have hput : ∀ {r : Except Er (List Int)} {H1 : Hp}, Same H H1 → ctS Tr n c = putO Tr n r → LM K dn hn av (putO Tr n r) H1 Q := fun {r H1} s1 he =>
    LM.of (fun e he2 p H2 s2 hp => k.err (he.trans he2) (s1.trans s2) hp) (fun z hz p x H2 f2 la2 hp d => k.val (he.trans hz) ((la.fl s1).trans f2) la2 hp (d.down fun a e => none_same s1 e))
  cases c with
  | rd off len =>
    obtain ⟨w, x, hw, ha, h1, h2⟩ := hA
    refine ⟨_, rfl, a, _, 0, _, rfl, rfl, ha, atI_nat (j := 0) rfl, ?_⟩
    refine ⟨_, rfl, _, rfl, ?_⟩
    refine ld_body la hc (fun bv hb => ?_)
    obtain ⟨b, rfl, bn, ba, hb2⟩ := hb
    have fin : ∀ (H1 : Hp) (p : Addr) (g : Addr), H g = none → H1 = upd H g (.lst ((cutI body off len).map V.int)) → H1 p = none → Q (.ref p) (upd H1 p (.tup [.str "ok", .ref g])) := fun H1 p g hg eH hp => by
      subst eH
      have s1 := same_new (o := .lst ((cutI body off len).map V.int)) hg
      refine k.fin (z := (octD (cutI body off len), Tr)) (by show Except.ok _ = _; rw [octsOf_eq hc]) (la.fl s1) (la.same s1) hp (fun H'' y _ => .lst (SqL.of (y g _ hg upd_same)) (dpAll_ints _))
    refine ⟨_, rfl, rfl, _, rfl, ?_⟩
    have tail : (tRet (tTup (tCons (tC (.str "ok")) (tCons (tSl (rSlL K) (tVar 4) (tPart (tOp (rIxT K) (tVar 2) (tC (.int 2)))) (tPart (tOp (rI0 fun i j => V.int (i + j)) (tOp (rIxT K) (tVar 2) (tC (.int 2))) (tOp (rIxT K) (tVar 2) (tC (.int 3)))))) tNil)))) { nx := fun _ H' => Q .non H', rt := Q }
        [some (.ref dn), some (.int n), some (.ref a), some (.str w), some (.ref b), none] H := by
      refine ⟨_, rfl, _, rfl, a, _, 2, _, rfl, rfl, ha, atI_nat (j := 2) rfl, _, rfl, _, rfl, a, _, 2, _, rfl, rfl, ha, atI_nat (j := 2) rfl, _, rfl, a, _, 3, _, rfl, rfl, ha, atI_nat (j := 3) rfl, _, _, rfl, rfl, _, rfl, b, _, rfl, SqL.of hb2, fun g hg => ⟨(by show 2 ≤ sizeLine; decide), fun p hp => ?_⟩⟩
      rw [cutV_map] at hp ⊢
      exact fin _ p g hg rfl hp
    refine ite2 (fun _ => tail) (fun c1 => ?_)
    refine ⟨_, rfl, rfl, _, rfl, ?_⟩
    refine ite2 (fun _ => tail) (fun c2 => ?_)
    rcases hw with e | e
    · exact absurd (eq_str.mpr e) c1
    · exact absurd (eq_str.mpr e) c2
  | wr off oct =>
    obtain ⟨x, o, ha, ho, h1, h2⟩ := hA
    refine ⟨_, rfl, a, _, 0, _, rfl, rfl, ha, atI_nat (j := 0) rfl, ?_⟩
    refine ⟨_, rfl, _, rfl, ?_⟩
    refine ld_body la hc (fun bv hb => ?_)
    obtain ⟨b, rfl, bn, ba, hb2⟩ := hb
    refine ⟨_, rfl, rfl, _, rfl, ?_⟩
    refine ite2 (fun c => absurd (eq_str.mp c) (wdd ("write_at", "read") (by decide +kernel))) (fun _ => ?_)
    refine ⟨_, rfl, rfl, _, rfl, ?_⟩
    refine ite2 (fun c => absurd (eq_str.mp c) (wdd ("write_at", "read_at") (by decide +kernel))) (fun _ => ?_)
    refine ⟨_, rfl, rfl, _, rfl, ?_⟩
    refine ite2 (fun _ => ?_) (fun c => absurd (eq_str.mpr rfl) c)
    refine ⟨_, rfl, _, rfl, _, rfl, _, rfl, a, _, 2, _, rfl, rfl, ha, atI_nat (j := 2) rfl, _, rfl, a, _, 3, _, rfl, rfl, ha, atI_nat (j := 3) rfl, b, o, body, oct, off, rfl, hb2, SqL.of ho, hlen, h1, h2, ?_⟩
    have hS3 : ctS Tr n (.wr off oct) = putO Tr n (writtenO body off oct) := by
      show writeN Tr n off oct = _
      unfold writeN putO
      rw [octsOf_eq hc]
    cases hw : writtenO body off oct with
    | error e =>
      have e1 := writtenO_err hw
      subst e1
      rw [hw] at hS3
      exact fun H10 s10 => ⟨dn, hn, av, Tr, n, .non, body, kk, .error .ftl, rfl, la.same s10, hc, ⟨rfl, rfl⟩, hput s10 hS3⟩
    | ok l =>
      rw [hw] at hS3
      refine fun c H10 s10 hcc hor => ?_
      have cn : c ≠ hn := fun z => by
        rcases hor with e | e
        · exact bn (e.symm.trans z)
        · rw [z, la.hand] at e; cases e
      have ca : c ≠ av := fun z => by
        rcases hor with e | e
        · exact ba (e.symm.trans z)
        · obtain ⟨hs, h5⟩ := la.ava
          rw [z, h5] at e; cases e
      exact ⟨dn, hn, av, Tr, n, .ref c, body, kk, .ok l, rfl, la.same s10, hc, ⟨c, rfl, cn, ca, hcc⟩, hput s10 hS3⟩
  | st =>
    obtain ⟨x, ha⟩ := hA
    refine ⟨_, rfl, a, _, 0, _, rfl, rfl, ha, atI_nat (j := 0) rfl, ?_⟩
    refine ⟨_, rfl, _, rfl, ?_⟩
    refine ld_body la hc (fun bv hb => ?_)
    refine ⟨_, rfl, rfl, _, rfl, ?_⟩
    refine ite2 (fun c => absurd (eq_str.mp c) (wdd ("stat_at", "read") (by decide +kernel))) (fun _ => ?_)
    refine ⟨_, rfl, rfl, _, rfl, ?_⟩
    refine ite2 (fun c => absurd (eq_str.mp c) (wdd ("stat_at", "read_at") (by decide +kernel))) (fun _ => ?_)
    refine ⟨_, rfl, rfl, _, rfl, ?_⟩
    refine ite2 (fun c => absurd (eq_str.mp c) (wdd ("stat_at", "write_at") (by decide +kernel))) (fun _ => ?_)
    refine ⟨_, rfl, rfl, _, rfl, ?_⟩
    refine ite2 (fun _ => ?_) (fun c => absurd (eq_str.mpr rfl) c)
    refine ⟨_, rfl, _, rfl, dn, hn, av, Tr, n, _, rfl, la, W, hc, ?_⟩
    have e : ctS Tr n .st = .ok (statD n ⟨.oct body, kk⟩, Tr) := by
      show Except.ok (statOf Tr.nodes n, Tr) = _
      rw [statOf_eq hc]
    rw [← e]
    exact k
  | sz len =>
    obtain ⟨w, x, hw, ha, h1⟩ := hA
    have hne : w ≠ "read" ∧ w ≠ "read_at" ∧ w ≠ "write_at" ∧ w ≠ "stat_at" := by
      rcases hw with e | e
      · rw [e]; exact ⟨wdd ("truncate", "read") (by decide +kernel), wdd ("truncate", "read_at") (by decide +kernel), wdd ("truncate", "write_at") (by decide +kernel), wdd ("truncate", "stat_at") (by decide +kernel)⟩
      · rw [e]; exact ⟨wdd ("resize", "read") (by decide +kernel), wdd ("resize", "read_at") (by decide +kernel), wdd ("resize", "write_at") (by decide +kernel), wdd ("resize", "stat_at") (by decide +kernel)⟩
    refine ⟨_, rfl, a, _, 0, _, rfl, rfl, ha, atI_nat (j := 0) rfl, ?_⟩
    refine ⟨_, rfl, _, rfl, ?_⟩
    refine ld_body la hc (fun bv hb => ?_)
    obtain ⟨b, rfl, bn, ba, hb2⟩ := hb
    refine ⟨_, rfl, rfl, _, rfl, ?_⟩
    refine ite2 (fun c => absurd (eq_str.mp c) hne.1) (fun _ => ?_)
    refine ⟨_, rfl, rfl, _, rfl, ?_⟩
    refine ite2 (fun c => absurd (eq_str.mp c) hne.2.1) (fun _ => ?_)
    refine ⟨_, rfl, rfl, _, rfl, ?_⟩
    refine ite2 (fun c => absurd (eq_str.mp c) hne.2.2.1) (fun _ => ?_)
    refine ⟨_, rfl, rfl, _, rfl, ?_⟩
    refine ite2 (fun c => absurd (eq_str.mp c) hne.2.2.2) (fun _ => ?_)
    refine ⟨_, rfl, a, _, 2, _, rfl, rfl, ha, atI_nat (j := 2) rfl, ?_⟩
    refine ⟨_, rfl, _, rfl, _, rfl, _, rfl, _, rfl, ?_⟩
    refine ⟨b, _, rfl, SqL.of hb2, fun a1 ha1 => ?_⟩
    rw [cutM_to]
    have t1 := same_new (o := .lst ((body.take len).map V.int)) ha1
    have h11 : upd H a1 (.lst ((body.take len).map V.int)) a1 = some (.lst ((body.take len).map V.int)) := upd_same
    generalize upd H a1 (.lst ((body.take len).map V.int)) = H1 at t1 h11 ⊢
    refine ⟨(by show 1 ≤ sizeLine; decide), fun r hr0 => ?_⟩
    have t2 := t1.trans (same_new (o := .lst [V.int 0]) hr0)
    refine ⟨_, rfl, _, rfl, _, _, rfl, .inl (SqL.of (t2 _ _ hb2)), _, _, rfl, rfl, ?_⟩
    rw [List.length_map]
    refine ⟨r, _, _, rfl, rfl, upd_same, by omega, by omega, by rw [sub_toNat, sizeLine_eq]; show 1 * (len - body.length) ≤ _; omega, fun g hg0 => ?_⟩
    rw [sub_toNat, rep_one, rep_int]
    have t3 := t2.trans (same_new (o := .lst ((List.replicate (len - body.length) 0).map V.int)) hg0)
    have h13 := same_new (o := .lst ((List.replicate (len - body.length) 0).map V.int)) hg0 _ _ (same_new (o := .lst [V.int 0]) hr0 _ _ h11)
    refine ⟨a1, g, _, _, rfl, rfl, h13, upd_same, by rw [List.length_map, List.length_map, List.length_replicate, List.length_take, sizeLine_eq]; omega, fun v hv0 => ?_⟩
    rw [← List.map_append]
    have t4 := t3.trans (same_new (o := .lst ((body.take len ++ List.replicate (len - body.length) 0).map V.int)) hv0)
    have hv1 := none_same t3 hv0
    have vn : v ≠ hn := fun z => by rw [z, la.hand] at hv1; cases hv1
    have va : v ≠ av := fun z => by
      obtain ⟨hs, h5⟩ := la.ava
      rw [z, h5] at hv1; cases hv1
    refine ⟨dn, hn, av, Tr, n, .ref v, body, kk, .ok (resizedO body len), rfl, la.same t4, hc, ⟨v, rfl, vn, va, upd_same⟩, hput t4 ?_⟩
    show Except.ok (_, sizeN Tr n len) = Except.ok (_, _)
    unfold sizeN
    rw [octsOf_eq hc]
/-! ### _law_handle -/
theorem CtA.i {H H' : Hp} {a : Addr} {c : Ct} (s : Same H H') (h : CtA K H a c) : CtA K H' a c := by
  cases c with
  | rd off len => obtain ⟨w, x, h1, h2, h3⟩ := h; exact ⟨w, x, h1, same_t s h2, h3⟩
  | wr off oct => obtain ⟨x, o, h1, h2, h3⟩ := h; exact ⟨x, o, same_t s h1, s _ _ h2, h3⟩
  | st => obtain ⟨x, h1⟩ := h; exact ⟨x, same_t s h1⟩
  | sz len => obtain ⟨w, x, h1, h2, h3⟩ := h; exact ⟨w, x, h1, same_t s h2, h3⟩
theorem whd : ∀ a ∈ ([("close_file", "open_file"), ("read_at", "open_file"), ("write_at", "open_file"), ("resize", "open_file"), ("stat_at", "open_file"), ("read_at", "close_file"), ("write_at", "close_file"), ("resize", "close_file"), ("stat_at", "close_file")] : List (Str × Str)), a.1 ≠ a.2 := by decide +kernel
/-- what an operation on a handle is -/
inductive Ho where
  | opn (s : Str) | cls (h : Nat) | on (h : Nat) (c : Ct)
def HoA (K : PySem.W.Frag) (H : Hp) (a : Addr) : Ho → Prop
  | .opn s => s ∈ pathL ∧ SqT K H a [.str "open_file", .str s]
  | .cls h => h < 16 ∧ SqT K H a [.str "close_file", .int h]
  | .on h c => h < 16 ∧ CtA K H a c ∧ ∃ (wd : Str) (r : List V), wd ≠ "open_file" ∧ wd ≠ "close_file" ∧ SqT K H a (.str wd :: .int h :: r)
def hoS (T : Tr) : Ho → Except Er (PyData × Tr)
  | .opn s => openFileS T s
  | .cls h => closeS T h
  | .on h c => mapE (fun n => ctS T n c) (openS T.hs h)
def openO : Option Int → Except Er Int
  | some n => .ok n
  | none => .error .no
theorem openS_of {hs : List (Option Int)} {h : Nat} {oo : Option Int} (ho : hs[h]? = some oo) : openS hs h = openO oo := by
  unfold openS
  rw [ho]
  cases oo <;> rfl
def spLHandle (K : PySem.W.Frag) : Sp := fun vs H Q _ => ∃ (dn hn av a : Addr) (T : Tr) (o : Ho), vs = [.ref dn, .ref hn, .ref a] ∧ LA K dn hn av H T ∧ WF T ∧ HoA K H a o ∧ LM K dn hn av (hoS T o) H Q
-- slots of _law_handle: 0 _law_nodes, 1 _law_handles, 2 _law_operation_here, 3 _law_found, 4 _law_spare, 5 _law_handle_here, 6 _law_number
theorem sc_law_handle : FnScope ["_law_nodes", "_law_handles", "_law_operation_here", "_law_found", "_law_spare", "_law_handle_here", "_law_number"] ["_law_nodes", "_law_handles", "_law_operation_here"] (defScope s_law_handle) := ⟨rfl, rfl, rfl, by decide +kernel, rfl, by decide +kernel, by decide +kernel⟩
theorem ok_law_handle (T : Tx K mg) : FnR P w K mg base (L2.CX P w) 4 (He.ga K "_law_handle") (spLHandle K) := by
  have G_law_file := ok_law_file (P := P) (w := w) (base := base) T
  have G_law_content := ok_law_content (P := P) (w := w) (base := base) T
  refine mk_fn (df_law_handle T) sc_law_handle (fun _ _ _ _ _ _ us hl => match us, hl with | [_, _, _], _ => rfl) (fun vs H Q E h => ?_) (fun cdv A outer s H vs Q E tk po hr h => ?_)
  · obtain ⟨_, _, _, _, _, _, rfl, _⟩ := h
    rfl
  obtain ⟨dn, hn, av, a, Tr, o, rfl, la, W, hA, k⟩ := h
  refine ⟨_, (pss_cons (ps_if (pt_cmpR op_eq (pe_ix (ix_tupK (K := K)) (pv 2) pe_int (fun _ _ => rfl)) pe_str (nomark _))
    (pss_cons (ps_set (i := 3) sc_law_handle.nd rfl (Or.inl rfl) (pe_callR G_law_file (hr.mono (by decide)) rfl (g_law_file T) (k_law_file T) (pc_of tk) (pa_cons (pv 0) (pa_cons (pe_ix (ix_tupK (K := K)) (pv 2) pe_int (fun _ _ => rfl)) pa_nil))))
      (pss_cons (ps_if (pt_cmpR op_eq (pe_ix (ix_tupK (K := K)) (pv 3) pe_int (fun _ _ => rfl)) pe_str (nomark _))
      (pss_one (ps_ret (pv 3)))
      pss_nil)
      (pss_cons (ps_setLc (i := 4) (own := [("_law_handle_here", 5)]) (g := gName 5)  rfl sc_law_handle.nd rfl rfl (sw_true rfl rfl rfl (by decide +kernel)) (pi_range1 rfl (f_range T) (pa_cons pe_int pa_nil)) (blkOk_by (N := ["_law_nodes", "_law_handles", "_law_operation_here", "_law_found", "_law_spare", "_law_handle_here", "_law_number"]) (sc := defScope s_law_handle) (by decide +kernel)) (fun _ _ _ _ _ => (pg_name (i := 5) sc_law_handle.nd rfl (Or.inl rfl))) (fun _ _ _ _ _ => pts_one (pt_cmpR op_isN (pe_ix (ix_listK (K := K)) (pv 1) (pv 5) (fun _ _ => rfl)) pe_non (nomark _))) (fun _ _ _ _ _ => (pv 5)))
      (pss_cons (ps_if (pt_cmpR op_eq (pe_callB call_len_seq (by rfl) (f_len T) PySem.boot_len (pa_cons (pv 4) pa_nil)) pe_int (nomark _))
      (pss_one (ps_ret (pe_tup (pa_cons pe_str (pa_cons pe_str pa_nil)))))
      pss_nil)
      (pss_cons (ps_asg (pe_ix (ix_tupK (K := K)) (pv 3) pe_int (fun _ _ => rfl)) (pg_sub (pv 1) (pe_ix ix_list (pv 4) pe_int (fun _ _ => rfl)) set_list))
      (pss_one (ps_ret (pe_tup (pa_cons pe_str (pa_cons (pe_ix ix_list (pv 4) pe_int (fun _ _ => rfl)) pa_nil))))))))))
    pss_nil)
    (pss_cons (ps_set (i := 6) sc_law_handle.nd rfl (Or.inl rfl) (pe_ix ix_list (pv 1) (pe_ix (ix_tupK (K := K)) (pv 2) pe_int (fun _ _ => rfl)) (fun _ _ => rfl)))
    (pss_cons (ps_if (pt_cmpR op_isN (pv 6) pe_non (nomark _))
    (pss_one (ps_ret (pe_tup (pa_cons pe_str (pa_cons pe_str pa_nil)))))
    pss_nil)
    (pss_cons (ps_if (pt_cmpR op_ne (pe_ix (ix_tupK (K := K)) (pv 2) pe_int (fun _ _ => rfl)) pe_str (nomark _))
    (pss_one (ps_ret (pe_callR G_law_content (hr.mono (by decide)) rfl (g_law_content T) (k_law_content T) (pc_of tk) (pa_cons (pv 0) (pa_cons (pv 6) (pa_cons (pv 2) pa_nil))))))
    pss_nil)
    (pss_cons (ps_asg pe_non (pg_sub (pv 1) (pe_ix (ix_tupK (K := K)) (pv 2) pe_int (fun _ _ => rfl)) set_list))
    (pss_cons (ps_if (PW.pt (pw_and (pt_cmpR op_eq (pe_ix ix_list (pe_dget (hu_of hr) (pv 0) (pv 6) (fun _ _ => rfl)) pe_int (fun _ _ => rfl)) pe_int (nomark _)) (pw_and1 (pt_cmpR op_notIn_seq (pv 6) (pv 1) (by rfl)))))
    (pss_one (ps_expr (pe_dpop1 (pv 0) (pv 6) (by exact ⟨rfl, rfl, rfl, rfl⟩))))
    pss_nil)
    (pss_one (ps_ret (pe_tup (pa_cons pe_str (pa_cons pe_non pa_nil))))))))))), ?_⟩
  have hlen : (Tr.hs.map hV).length = 16 := by rw [List.length_map]; exact W.hl
  cases o with
  | opn s =>
    obtain ⟨hs, ha⟩ := hA
    refine ⟨_, rfl, a, _, 0, _, rfl, rfl, ha, atI_nat (j := 0) rfl, rfl, _, rfl, ?_⟩
    refine ite2 (fun _ => ?_) (fun c => absurd (eq_str.mpr rfl) c)
    refine ⟨_, rfl, _, rfl, a, _, 1, _, rfl, rfl, ha, atI_nat (j := 1) rfl, dn, hn, av, Tr, s, rfl, la, W, hs, fun f H1 s1 hf => ?_⟩
    replace hf : H1 f = some (.tup (eV foundV (fileS Tr.nodes s))) := hf
    have la1 := la.same s1
    cases he : fileS Tr.nodes s with
    | error e =>
      rw [he] at hf
      refine ⟨_, rfl, f, _, 0, _, rfl, rfl, SqT.of hf, atI_nat (j := 0) rfl, rfl, _, rfl, ?_⟩
      refine ite2 (fun _ => ?_) (fun c => absurd (eq_str.mpr rfl) c)
      refine ⟨_, rfl, k.err (e := e) ?_ s1 hf⟩
      show openFileS Tr s = _
      unfold openFileS; rw [he]; rfl
    | ok n =>
      rw [he] at hf
      have hS : hoS Tr (.opn s) = (match freeH Tr.hs with
        | none => .error .tmo
        | some i => .ok (.int i, ⟨Tr.nodes, Tr.hs.set i (some n)⟩)) := by
        show openFileS Tr s = _
        unfold openFileS
        rw [he]; rfl
      refine ⟨_, rfl, f, _, 0, _, rfl, rfl, SqT.of hf, atI_nat (j := 0) rfl, rfl, _, rfl, ?_⟩
      refine ite2 (fun c => absurd (eq_str.mp c) lkd2) (fun _ => ?_)
      refine ⟨16, rfl, by decide, by decide, fun D hD => lc_range (fun i H' => Same H1 H' ∧ H' D = some (.lst ((((List.range 16).take i).filter fun i : Nat => decide (Tr.hs[i]? = some none)).map fun i : Nat => V.int i))) ⟨same_new hD, upd_same⟩ ?_ ?_⟩
      · rintro i H' hi ⟨sm, hD'⟩
        have hi2 : i < 16 := hi
        have e0 : (0 : Int) + (i : Int) = (i : Int) := by omega
        rw [e0]
        obtain ⟨oo, ho⟩ : ∃ oo, Tr.hs[i]? = some oo := ⟨_, List.getElem?_eq_getElem (by rw [W.hl]; exact hi2)⟩
        have ho2 : (Tr.hs.map hV)[i]? = some (hV oo) := by rw [List.getElem?_map, ho]; rfl
        have hh := sm _ _ la1.hand
        refine ⟨rfl, _, rfl, _, rfl, hn, _, _, _, rfl, rfl, SqL.of hh, atI_nat ho2, rfl, _, rfl, ?_⟩
        have hll : ((((List.range 16).take i).filter fun i : Nat => decide (Tr.hs[i]? = some none)).map fun i : Nat => V.int i).length < sizeLine := by
          rw [List.length_map]
          have q1 : (((List.range 16).take i).filter fun i : Nat => decide (Tr.hs[i]? = some none)).length ≤ ((List.range 16).take i).length := List.length_filter_le _ _
          rw [List.length_take] at q1
          rw [sizeLine_eq]
          omega
        refine ite2 (fun c => ?_) (fun c => ?_)
        · have c1 := (is_non _).mp c
          subst c1
          refine ⟨_, rfl, _, hD', hll, same_mut sm hD, ?_⟩
          rw [upd_same, List.take_succ, List.getElem?_range hi2, List.filter_append, List.map_append]
          congr 3
          show _ = (List.filter _ [i]).map _
          rw [List.filter_cons, if_pos (decide_eq_true ho)]
          rfl
        · refine ⟨sm, ?_⟩
          rw [List.take_succ, List.getElem?_range hi2, List.filter_append, hD']
          congr 3
          show _ = _ ++ (List.filter _ [i])
          rw [List.filter_cons, if_neg (fun z => c ((is_non _).mpr (Option.some.inj (ho.symm.trans (of_decide_eq_true z)))))]
          simp
      · rintro H' ⟨sm, hD'⟩
        rw [show Int.toNat 16 = (List.range 16).length from by rw [List.length_range]; rfl, List.take_length] at hD'
        have s2 := s1.trans sm
        have la2 := la.same s2
        have hf2 := sm _ _ hf
        have hhead : ((List.range 16).filter fun i : Nat => decide (Tr.hs[i]? = some none)).head? = freeH Tr.hs := List.head?_filter
        refine ⟨_, rfl, D, _, rfl, .inl (SqL.of hD'), rfl, _, rfl, ?_⟩
        cases hfl : (List.range 16).filter fun i : Nat => decide (Tr.hs[i]? = some none) with
        | nil =>
          rw [hfl] at hhead
          rw [← hhead] at hS
          refine ite2 (fun _ => ?_) (fun c => absurd (eq_int.mpr rfl) c)
          exact ⟨(by show 2 ≤ sizeLine; decide), fun p hp => k.fail (e := .tmo) hS s2 hp⟩
        | cons m ms =>
          rw [hfl] at hhead hD'
          rw [← hhead] at hS
          have hm : m < 16 := by
            have : m ∈ (List.range 16).filter fun i : Nat => decide (Tr.hs[i]? = some none) := by rw [hfl]; exact List.mem_cons_self
            exact List.mem_range.mp (List.mem_filter.mp this).1
          refine ite2 (fun c => absurd (eq_int.mp c) (by rw [List.length_map, List.length_cons]; omega)) (fun _ => ?_)
          obtain ⟨q1, q2⟩ := la2.seth (i := m) (o := some n)
          refine ⟨_, rfl, f, _, 1, _, rfl, rfl, SqT.of hf2, atI_nat (j := 1) rfl, _, rfl, _, rfl, D, _, 0, _, rfl, rfl, SqL.of hD', atI_nat (j := 0) rfl, ?_⟩
          refine ⟨hn, _, _, m, rfl, rfl, la2.hand, Evl.ixN_nat (by rw [hlen]; exact hm), ?_⟩
          have hDn : D ≠ hn := fun z => by
            have := la1.hand
            rw [z, this] at hD; cases hD
          refine ⟨_, rfl, D, _, 0, _, rfl, rfl, SqL.of (by rw [upd_ne hDn]; exact hD'), atI_nat (j := 0) rfl, ?_⟩
          exact ⟨(by show 2 ≤ sizeLine; decide), fun p hp => k.fin hS ((la.fl s2).trans q1) q2 hp (DpF.int _)⟩
  | cls h =>
    obtain ⟨h16, ha⟩ := hA
    refine ⟨_, rfl, a, _, 0, _, rfl, rfl, ha, atI_nat (j := 0) rfl, rfl, _, rfl, ?_⟩
    refine ite2 (fun c => absurd (eq_str.mp c) (whd ("close_file", "open_file") (by decide +kernel))) (fun _ => ?_)
    obtain ⟨oo, ho⟩ : ∃ oo, Tr.hs[h]? = some oo := ⟨_, List.getElem?_eq_getElem (by rw [W.hl]; exact h16)⟩
    have ho2 : (Tr.hs.map hV)[h]? = some (hV oo) := by rw [List.getElem?_map, ho]; rfl
    refine ⟨_, rfl, _, rfl, a, _, 1, _, rfl, rfl, ha, atI_nat (j := 1) rfl, hn, _, _, _, rfl, rfl, SqL.of la.hand, atI_nat ho2, ?_⟩
    refine ⟨_, rfl, rfl, _, rfl, ?_⟩
    have hop := openS_of ho
    cases oo with
    | none =>
      refine ite2 (fun _ => ?_) (fun c => absurd ((is_non none).mpr rfl) c)
      refine ⟨(by show 2 ≤ sizeLine; decide), fun p hp => k.fail (e := .no) ?_ (Same.refl _) hp⟩
      show closeS Tr h = _
      unfold closeS; rw [hop]; rfl
    | some n =>
      refine ite2 (fun c => absurd ((is_non (some n)).mp c) (by simp)) (fun _ => ?_)
      obtain ⟨body, kk, hc⟩ := W.opn hop
      have hS : hoS Tr (.cls h) = .ok (.none, ⟨if kk = 0 ∧ some n ∉ Tr.hs.set h none then dropN Tr.nodes n else Tr.nodes, Tr.hs.set h none⟩) := by
        show closeS Tr h = _
        unfold closeS
        rw [hop]
        show Except.ok (_, (⟨if lnk Tr.nodes n = 0 ∧ _ then _ else _, _⟩ : Tm.Tr)) = _
        rw [lnk_eq hc]
      refine ⟨_, rfl, a, _, 0, _, rfl, rfl, ha, atI_nat (j := 0) rfl, rfl, _, rfl, ?_⟩
      refine ite2 (fun c => absurd rfl (ne_str.mp c)) (fun _ => ?_)
      obtain ⟨q1, q2⟩ := la.seth (i := h) (o := none)
      refine ⟨_, rfl, _, rfl, a, _, 1, _, rfl, rfl, ha, atI_nat (j := 1) rfl, ?_⟩
      refine ⟨hn, _, _, h, rfl, rfl, la.hand, Evl.ixN_nat (by rw [hlen]; exact h16), ?_⟩
      refine ⟨_, rfl, _, rfl, ?_⟩
      refine ld_links q2 hc ?_
      refine ⟨rfl, _, rfl, ?_⟩
      refine ite2 (fun c1 => ?_) (fun c1 => ?_)
      · have c1 := eq_int.mp c1
        refine ⟨_, rfl, _, rfl, hn, _, rfl, .inl (SqL.of q2.hand), rfl, flat_hV _, ?_⟩
        refine ⟨_, rfl, ?_⟩
        have e9 := in_hV n (Tr.hs.set h none)
        refine ite2 (fun c2 => ?_) (fun c2 => ?_)
        · have c2 : (!inV (.int n) ((Tr.hs.set h none).map hV)) = true := c2
          rw [e9] at c2
          obtain ⟨kvs, v, y1, y2, y3, y4⟩ := q2.pop hc
          refine ⟨_, rfl, dn, rfl, .inl ⟨kvs, .inl y1⟩, _, rfl, kvs, Sum.inl n, v, y1, rfl, y2, ?_⟩
          rw [if_pos ⟨c1, by simpa using c2⟩] at hS
          exact ⟨(by show 2 ≤ sizeLine; decide), fun p hp => k.fin hS (q1.trans y3) y4 hp DpF.non⟩
        · have c2 : ¬ (!inV (.int n) ((Tr.hs.set h none).map hV)) = true := c2
          rw [e9] at c2
          rw [if_neg (fun z => c2 (by simpa using z.2))] at hS
          exact ⟨(by show 2 ≤ sizeLine; decide), fun p hp => k.fin hS q1 q2 hp DpF.non⟩
      · rw [if_neg (fun z => c1 (eq_int.mpr z.1))] at hS
        exact ⟨(by show 2 ≤ sizeLine; decide), fun p hp => k.fin hS q1 q2 hp DpF.non⟩
  | on h c =>
    obtain ⟨h16, hct, wd, r, w1, w2, ha⟩ := hA
    refine ⟨_, rfl, a, _, 0, _, rfl, rfl, ha, atI_nat (j := 0) rfl, rfl, _, rfl, ?_⟩
    refine ite2 (fun c => absurd (eq_str.mp c) w1) (fun _ => ?_)
    obtain ⟨oo, ho⟩ : ∃ oo, Tr.hs[h]? = some oo := ⟨_, List.getElem?_eq_getElem (by rw [W.hl]; exact h16)⟩
    have ho2 : (Tr.hs.map hV)[h]? = some (hV oo) := by rw [List.getElem?_map, ho]; rfl
    refine ⟨_, rfl, _, rfl, a, _, 1, _, rfl, rfl, ha, atI_nat (j := 1) rfl, hn, _, _, _, rfl, rfl, SqL.of la.hand, atI_nat ho2, ?_⟩
    refine ⟨_, rfl, rfl, _, rfl, ?_⟩
    have hop := openS_of ho
    cases oo with
    | none =>
      refine ite2 (fun _ => ?_) (fun c => absurd ((is_non none).mpr rfl) c)
      refine ⟨(by show 2 ≤ sizeLine; decide), fun p hp => k.fail (e := .no) ?_ (Same.refl _) hp⟩
      show mapE _ (openS Tr.hs h) = _
      rw [hop]; rfl
    | some n =>
      refine ite2 (fun c => absurd ((is_non (some n)).mp c) (by simp)) (fun _ => ?_)
      obtain ⟨body, kk, hc⟩ := W.opn hop
      have hS : hoS Tr (.on h c) = ctS Tr n c := by
        show mapE _ (openS Tr.hs h) = _
        rw [hop]; rfl
      refine ⟨_, rfl, a, _, 0, _, rfl, rfl, ha, atI_nat (j := 0) rfl, rfl, _, rfl, ?_⟩
      refine ite2 (fun _ => ?_) (fun c => absurd (ne_str.mpr w2) c)
      refine ⟨_, rfl, _, rfl, _, rfl, dn, hn, av, a, Tr, n, body, kk, c, rfl, la, W, hc, hct, ?_⟩
      rw [← hS]
      exact k
end
end Tm

set_option maxHeartbeats 4000000
namespace Tm
open PySem PySem.Spec PyProof.Rows L2
theorem LM.up {K : PySem.W.Frag} {dn hn av : Addr} {T : Tr} {r : Except Er (PyData × Tr)} {H H1 : Hp} {Q : VK} (k : LM K dn hn av r H Q) (la : LA K dn hn av H T) (s : Same H H1) : LM K dn hn av r H1 Q :=
  LM.of (fun e he p H2 s2 hp => k.err he (s.trans s2) hp) (fun z hz p x H2 f2 la2 hp d => k.val hz ((la.fl s).trans f2) la2 hp (d.down fun a e => none_same s e))
section
variable {P : Program} {w : World} {K : PySem.W.Frag} {mg : Str → Option Value} {base : Heap}
def spLDue (K : PySem.W.Frag) : Sp := fun vs H Q _ => ∃ (dn hn av a : Addr) (T : Tr) (o : Op) (xs : List V), vs = [.ref dn, .ref hn, .ref a] ∧ LA K dn hn av H T ∧ WF T ∧ SqT K H a (.str o.word :: xs) ∧ OpA K H o xs ∧ o.good ∧ LM K dn hn av (stepS T o) H Q
-- slots of _law_due: 0 _law_nodes, 1 _law_handles, 2 _law_operation_here, 3 _law_word_here, 4 _law_found
theorem sc_law_due : FnScope ["_law_nodes", "_law_handles", "_law_operation_here", "_law_word_here", "_law_found"] ["_law_nodes", "_law_handles", "_law_operation_here"] (defScope s_law_due) := ⟨rfl, rfl, rfl, by decide +kernel, rfl, by decide +kernel, by decide +kernel⟩
theorem ok_law_due (T : Tx K mg) : FnR P w K mg base (L2.CX P w) 7 (He.ga K "_law_due") (spLDue K) := by
  have G_law_handle := ok_law_handle (P := P) (w := w) (base := base) T
  have G_law_new := ok_law_new (P := P) (w := w) (base := base) T
  have G_law_write := ok_law_write (P := P) (w := w) (base := base) T
  have G_law_remove := ok_law_remove (P := P) (w := w) (base := base) T
  have G_law_link := ok_law_link (P := P) (w := w) (base := base) T
  have G_law_rename := ok_law_rename (P := P) (w := w) (base := base) T
  have G_law_file := ok_law_file (P := P) (w := w) (base := base) T
  have G_law_content := ok_law_content (P := P) (w := w) (base := base) T
  have G_law_look := ok_law_look (P := P) (w := w) (base := base) T
  refine mk_fn (df_law_due T) sc_law_due (fun _ _ _ _ _ _ us hl => match us, hl with | [_, _, _], _ => rfl) (fun vs H Q E h => ?_) (fun cdv A outer s H vs Q E tk po hr h => ?_)
  · obtain ⟨_, _, _, _, _, _, _, rfl, _⟩ := h
    rfl
  obtain ⟨dn, hn, av, a, Tr, o, xs, rfl, la, W, ha, hA, hg, k⟩ := h
  refine ⟨_, (pss_cons (ps_set (i := 3) sc_law_due.nd rfl (Or.inl rfl) (pe_ix (ix_tupK (K := K)) (pv 2) pe_int (fun _ _ => rfl)))
    (pss_cons (ps_if (pt_cmpR op_eq (pv 3) pe_str (nomark _))
    (pss_one (ps_ret (pe_callR G_law_new (hr.mono (by decide)) rfl (g_law_new T) (k_law_new T) (pc_of tk) (pa_cons (pv 0) (pa_cons (pe_ix (ix_tupK (K := K)) (pv 2) pe_int (fun _ _ => rfl)) (pa_cons pe_str (pa_cons (pe_lst pa_nil) pa_nil)))))))
    pss_nil)
    (pss_cons (ps_if (pt_cmpR op_eq (pv 3) pe_str (nomark _))
    (pss_one (ps_ret (pe_callR G_law_new (hr.mono (by decide)) rfl (g_law_new T) (k_law_new T) (pc_of tk) (pa_cons (pv 0) (pa_cons (pe_ix (ix_tupK (K := K)) (pv 2) pe_int (fun _ _ => rfl)) (pa_cons pe_str (pa_cons (pe_ix (ix_tupK (K := K)) (pv 2) pe_int (fun _ _ => rfl)) pa_nil)))))))
    pss_nil)
    (pss_cons (ps_if (pt_cmpR op_eq (pv 3) pe_str (nomark _))
    (pss_one (ps_ret (pe_callR G_law_write (hr.mono (by decide)) rfl (g_law_write T) (k_law_write T) (pc_of tk) (pa_cons (pv 0) (pa_cons (pe_ix (ix_tupK (K := K)) (pv 2) pe_int (fun _ _ => rfl)) (pa_cons (pe_ix (ix_tupK (K := K)) (pv 2) pe_int (fun _ _ => rfl)) (pa_cons (pe_ix (ix_tupK (K := K)) (pv 2) pe_int (fun _ _ => rfl)) pa_nil)))))))
    pss_nil)
    (pss_cons (ps_if (PW.pt (pw_or (pt_cmpR op_eq (pv 3) pe_str (nomark _)) (pw_or1 (pt_cmpR op_eq (pv 3) pe_str (nomark _)))))
    (pss_one (ps_ret (pe_callR G_law_remove (hr.mono (by decide)) rfl (g_law_remove T) (k_law_remove T) (pc_of tk) (pa_cons (pv 0) (pa_cons (pv 1) (pa_cons (pv 2) pa_nil))))))
    pss_nil)
    (pss_cons (ps_if (pt_cmpR op_eq (pv 3) pe_str (nomark _))
    (pss_one (ps_ret (pe_callR G_law_link (hr.mono (by decide)) rfl (g_law_link T) (k_law_link T) (pc_of tk) (pa_cons (pv 0) (pa_cons (pv 2) pa_nil)))))
    pss_nil)
    (pss_cons (ps_if (pt_cmpR op_eq (pv 3) pe_str (nomark _))
    (pss_one (ps_ret (pe_callR G_law_rename (hr.mono (by decide)) rfl (g_law_rename T) (k_law_rename T) (pc_of tk) (pa_cons (pv 0) (pa_cons (pv 1) (pa_cons (pv 2) pa_nil))))))
    pss_nil)
    (pss_cons (ps_if (PW.pt (pw_or (pt_cmpR op_eq (pv 3) pe_str (nomark _)) (pw_or1 (pt_cmpR op_eq (pv 3) pe_str (nomark _)))))
    (pss_cons (ps_set (i := 4) sc_law_due.nd rfl (Or.inl rfl) (pe_callR G_law_file (hr.mono (by decide)) rfl (g_law_file T) (k_law_file T) (pc_of tk) (pa_cons (pv 0) (pa_cons (pe_ix (ix_tupK (K := K)) (pv 2) pe_int (fun _ _ => rfl)) pa_nil))))
      (pss_cons (ps_if (pt_cmpR op_eq (pe_ix (ix_tupK (K := K)) (pv 4) pe_int (fun _ _ => rfl)) pe_str (nomark _))
      (pss_one (ps_ret (pv 4)))
      pss_nil)
      (pss_one (ps_ret (pe_callR G_law_content (hr.mono (by decide)) rfl (g_law_content T) (k_law_content T) (pc_of tk) (pa_cons (pv 0) (pa_cons (pe_ix (ix_tupK (K := K)) (pv 4) pe_int (fun _ _ => rfl)) (pa_cons (pv 2) pa_nil))))))))
    pss_nil)
    (pss_cons (ps_if (pt_cmpR op_in_seq (pv 3) (pe_lst (pa_cons pe_str (pa_cons pe_str (pa_cons pe_str (pa_cons pe_str pa_nil))))) (by rfl))
    (pss_one (ps_ret (pe_callR G_law_look (hr.mono (by decide)) rfl (g_law_look T) (k_law_look T) (pc_of tk) (pa_cons (pv 0) (pa_cons (pv 2) pa_nil)))))
    pss_nil)
    (pss_one (ps_ret (pe_callR G_law_handle (hr.mono (by decide)) rfl (g_law_handle T) (k_law_handle T) (pc_of tk) (pa_cons (pv 0) (pa_cons (pv 1) (pa_cons (pv 2) pa_nil))))))))))))))), ?_⟩
  cases o with
  | mkdir p =>
    have e : xs = [.str p] := hA
    subst e
    replace ha : SqT K H a (V.str "mkdir" :: [.str p]) := ha
    refine ⟨_, rfl, a, _, 0, _, rfl, rfl, ha, atI_nat (j := 0) rfl, ?_⟩
    refine ⟨_, rfl, rfl, _, rfl, ?_⟩
    refine ite2 (fun _ => ?_) (fun c => absurd (eq_str.mpr rfl) c)
    refine ⟨_, rfl, _, rfl, a, _, 1, _, rfl, rfl, ha, atI_nat (j := 1) rfl, (Nat.zero_le _), fun r hr0 => ?_⟩
    have s1 := same_new (o := .lst []) hr0
    have rn : r ≠ hn := fun z => by rw [z, la.hand] at hr0; cases hr0
    have ra : r ≠ av := fun z => by
      obtain ⟨hs, h5⟩ := la.ava
      rw [z, h5] at hr0; cases hr0
    exact ⟨dn, hn, av, Tr, p, .ent [], .ref r, rfl, la.same s1, W, hg, ⟨r, [], rfl, rn, ra, upd_same, .nil⟩, k.up la s1⟩
  | rmdir p =>
    have e : xs = [.str p] := hA
    subst e
    replace ha : SqT K H a (V.str "rmdir" :: [.str p]) := ha
    refine ⟨_, rfl, a, _, 0, _, rfl, rfl, ha, atI_nat (j := 0) rfl, ?_⟩
    refine ⟨_, rfl, rfl, _, rfl, ?_⟩
    refine ite2 (fun c => absurd (eq_str.mp c) (by decide +kernel)) (fun _ => ?_)
    refine ⟨_, rfl, rfl, _, rfl, ?_⟩
    refine ite2 (fun c => absurd (eq_str.mp c) (by decide +kernel)) (fun _ => ?_)
    refine ⟨_, rfl, rfl, _, rfl, ?_⟩
    refine ite2 (fun c => absurd (eq_str.mp c) (by decide +kernel)) (fun _ => ?_)
    refine ⟨_, rfl, rfl, _, rfl, ?_⟩
    refine ite2 (fun _ => ?_) (fun c => absurd (eq_str.mpr rfl) c)
    exact ⟨_, rfl, _, rfl, _, rfl, dn, hn, av, a, Tr, true, p, rfl, la, W, hg, ha, k⟩
  | write p off oct =>
    obtain ⟨oa, e, ho⟩ := hA
    subst e
    replace ha : SqT K H a (V.str "write" :: [.str p, .int off, .ref oa]) := ha
    refine ⟨_, rfl, a, _, 0, _, rfl, rfl, ha, atI_nat (j := 0) rfl, ?_⟩
    refine ⟨_, rfl, rfl, _, rfl, ?_⟩
    refine ite2 (fun c => absurd (eq_str.mp c) (by decide +kernel)) (fun _ => ?_)
    refine ⟨_, rfl, rfl, _, rfl, ?_⟩
    refine ite2 (fun c => absurd (eq_str.mp c) (by decide +kernel)) (fun _ => ?_)
    refine ⟨_, rfl, rfl, _, rfl, ?_⟩
    refine ite2 (fun _ => ?_) (fun c => absurd (eq_str.mpr rfl) c)
    exact ⟨_, rfl, _, rfl, a, _, 1, _, rfl, rfl, ha, atI_nat (j := 1) rfl, _, rfl, a, _, 2, _, rfl, rfl, ha, atI_nat (j := 2) rfl, _, rfl, a, _, 3, _, rfl, rfl, ha, atI_nat (j := 3) rfl, dn, hn, av, oa, Tr, p, off, oct, rfl, la, W, hg.1, SqL.of ho, hg.2.1, hg.2.2, k⟩
  | read p off len =>
    have e : xs = [.str p, .int off, .int len] := hA
    subst e
    replace ha : SqT K H a (V.str "read" :: [.str p, .int off, .int len]) := ha
    refine ⟨_, rfl, a, _, 0, _, rfl, rfl, ha, atI_nat (j := 0) rfl, ?_⟩
    refine ⟨_, rfl, rfl, _, rfl, ?_⟩
    refine ite2 (fun c => absurd (eq_str.mp c) (by decide +kernel)) (fun _ => ?_)
    refine ⟨_, rfl, rfl, _, rfl, ?_⟩
    refine ite2 (fun c => absurd (eq_str.mp c) (by decide +kernel)) (fun _ => ?_)
    refine ⟨_, rfl, rfl, _, rfl, ?_⟩
    refine ite2 (fun c => absurd (eq_str.mp c) (by decide +kernel)) (fun _ => ?_)
    refine ⟨_, rfl, rfl, _, rfl, ?_⟩
    refine ite2 (fun c => absurd (eq_str.mp c) (by decide +kernel)) (fun _ => ?_)
    refine ⟨_, rfl, rfl, _, rfl, ?_⟩
    refine ite2 (fun c => absurd (eq_str.mp c) (by decide +kernel)) (fun _ => ?_)
    refine ⟨_, rfl, rfl, _, rfl, ?_⟩
    refine ite2 (fun c => absurd (eq_str.mp c) (by decide +kernel)) (fun _ => ?_)
    refine ⟨_, rfl, rfl, _, rfl, ?_⟩
    refine ite2 (fun c => absurd (eq_str.mp c) (by decide +kernel)) (fun _ => ?_)
    refine ⟨_, rfl, rfl, _, rfl, ?_⟩
    refine ite2 (fun _ => ?_) (fun c => absurd (eq_str.mpr rfl) c)
    refine ⟨_, rfl, _, rfl, a, _, 1, _, rfl, rfl, ha, atI_nat (j := 1) rfl, dn, hn, av, Tr, p, rfl, la, W, hg.1, fun f H1 s1 hf => ?_⟩
    replace hf : H1 f = some (.tup (eV foundV (fileS Tr.nodes p))) := hf
    have hS : stepS Tr (.read p off len) = mapE (fun n => ctS Tr n (.rd off len)) (fileS Tr.nodes p) := by
      show still Tr (readS Tr.nodes p off len) = _; unfold readS; cases fileS Tr.nodes p <;> rfl
    cases he : fileS Tr.nodes p with
    | error e =>
      rw [he] at hf hS
      refine ⟨_, rfl, f, _, 0, _, rfl, rfl, SqT.of hf, atI_nat (j := 0) rfl, rfl, _, rfl, ?_⟩
      refine ite2 (fun _ => ?_) (fun c => absurd (eq_str.mpr rfl) c)
      exact ⟨_, rfl, k.err (e := e) hS s1 hf⟩
    | ok n =>
      rw [he] at hf hS
      obtain ⟨body, kk, hc⟩ := file_parts he
      refine ⟨_, rfl, f, _, 0, _, rfl, rfl, SqT.of hf, atI_nat (j := 0) rfl, rfl, _, rfl, ?_⟩
      refine ite2 (fun c => absurd (eq_str.mp c) lkd2) (fun _ => ?_)
      refine ⟨_, rfl, _, rfl, f, _, 1, _, rfl, rfl, SqT.of hf, atI_nat (j := 1) rfl, _, rfl, dn, hn, av, a, Tr, n, body, kk, .rd off len, rfl, la.same s1, W, hc, ⟨_, _, .inl rfl, same_t s1 ha, hg.2.1, hg.2.2⟩, ?_⟩
      have k1 := k.up la s1
      rw [hS] at k1
      exact k1
  | truncate p len =>
    have e : xs = [.str p, .int len] := hA
    subst e
    replace ha : SqT K H a (V.str "truncate" :: [.str p, .int len]) := ha
    refine ⟨_, rfl, a, _, 0, _, rfl, rfl, ha, atI_nat (j := 0) rfl, ?_⟩
    refine ⟨_, rfl, rfl, _, rfl, ?_⟩
    refine ite2 (fun c => absurd (eq_str.mp c) (by decide +kernel)) (fun _ => ?_)
    refine ⟨_, rfl, rfl, _, rfl, ?_⟩
    refine ite2 (fun c => absurd (eq_str.mp c) (by decide +kernel)) (fun _ => ?_)
    refine ⟨_, rfl, rfl, _, rfl, ?_⟩
    refine ite2 (fun c => absurd (eq_str.mp c) (by decide +kernel)) (fun _ => ?_)
    refine ⟨_, rfl, rfl, _, rfl, ?_⟩
    refine ite2 (fun c => absurd (eq_str.mp c) (by decide +kernel)) (fun _ => ?_)
    refine ⟨_, rfl, rfl, _, rfl, ?_⟩
    refine ite2 (fun c => absurd (eq_str.mp c) (by decide +kernel)) (fun _ => ?_)
    refine ⟨_, rfl, rfl, _, rfl, ?_⟩
    refine ite2 (fun c => absurd (eq_str.mp c) (by decide +kernel)) (fun _ => ?_)
    refine ⟨_, rfl, rfl, _, rfl, ?_⟩
    refine ite2 (fun c => absurd (eq_str.mp c) (by decide +kernel)) (fun _ => ?_)
    refine ⟨_, rfl, rfl, _, rfl, ?_⟩
    refine ite2 (fun c => absurd (eq_str.mp c) (by decide +kernel)) (fun _ => ?_)
    refine ⟨_, rfl, rfl, _, rfl, ?_⟩
    refine ite2 (fun _ => ?_) (fun c => absurd (eq_str.mpr rfl) c)
    refine ⟨_, rfl, _, rfl, a, _, 1, _, rfl, rfl, ha, atI_nat (j := 1) rfl, dn, hn, av, Tr, p, rfl, la, W, hg.1, fun f H1 s1 hf => ?_⟩
    replace hf : H1 f = some (.tup (eV foundV (fileS Tr.nodes p))) := hf
    have hS : stepS Tr (.truncate p len) = mapE (fun n => ctS Tr n (.sz len)) (fileS Tr.nodes p) := by
      rfl
    cases he : fileS Tr.nodes p with
    | error e =>
      rw [he] at hf hS
      refine ⟨_, rfl, f, _, 0, _, rfl, rfl, SqT.of hf, atI_nat (j := 0) rfl, rfl, _, rfl, ?_⟩
      refine ite2 (fun _ => ?_) (fun c => absurd (eq_str.mpr rfl) c)
      exact ⟨_, rfl, k.err (e := e) hS s1 hf⟩
    | ok n =>
      rw [he] at hf hS
      obtain ⟨body, kk, hc⟩ := file_parts he
      refine ⟨_, rfl, f, _, 0, _, rfl, rfl, SqT.of hf, atI_nat (j := 0) rfl, rfl, _, rfl, ?_⟩
      refine ite2 (fun c => absurd (eq_str.mp c) lkd2) (fun _ => ?_)
      refine ⟨_, rfl, _, rfl, f, _, 1, _, rfl, rfl, SqT.of hf, atI_nat (j := 1) rfl, _, rfl, dn, hn, av, a, Tr, n, body, kk, .sz len, rfl, la.same s1, W, hc, ⟨_, _, .inl rfl, same_t s1 ha, hg.2⟩, ?_⟩
      have k1 := k.up la s1
      rw [hS] at k1
      exact k1
  | rename p q =>
    have e : xs = [.str p, .str q] := hA
    subst e
    replace ha : SqT K H a (V.str "rename" :: [.str p, .str q]) := ha
    refine ⟨_, rfl, a, _, 0, _, rfl, rfl, ha, atI_nat (j := 0) rfl, ?_⟩
    refine ⟨_, rfl, rfl, _, rfl, ?_⟩
    refine ite2 (fun c => absurd (eq_str.mp c) (by decide +kernel)) (fun _ => ?_)
    refine ⟨_, rfl, rfl, _, rfl, ?_⟩
    refine ite2 (fun c => absurd (eq_str.mp c) (by decide +kernel)) (fun _ => ?_)
    refine ⟨_, rfl, rfl, _, rfl, ?_⟩
    refine ite2 (fun c => absurd (eq_str.mp c) (by decide +kernel)) (fun _ => ?_)
    refine ⟨_, rfl, rfl, _, rfl, ?_⟩
    refine ite2 (fun c => absurd (eq_str.mp c) (by decide +kernel)) (fun _ => ?_)
    refine ⟨_, rfl, rfl, _, rfl, ?_⟩
    refine ite2 (fun c => absurd (eq_str.mp c) (by decide +kernel)) (fun _ => ?_)
    refine ⟨_, rfl, rfl, _, rfl, ?_⟩
    refine ite2 (fun c => absurd (eq_str.mp c) (by decide +kernel)) (fun _ => ?_)
    refine ⟨_, rfl, rfl, _, rfl, ?_⟩
    refine ite2 (fun _ => ?_) (fun c => absurd (eq_str.mpr rfl) c)
    exact ⟨_, rfl, _, rfl, _, rfl, dn, hn, av, a, Tr, p, q, _, rfl, la, W, hg.1, hg.2, ha, k⟩
  | link p q =>
    have e : xs = [.str p, .str q] := hA
    subst e
    replace ha : SqT K H a (V.str "link" :: [.str p, .str q]) := ha
    refine ⟨_, rfl, a, _, 0, _, rfl, rfl, ha, atI_nat (j := 0) rfl, ?_⟩
    refine ⟨_, rfl, rfl, _, rfl, ?_⟩
    refine ite2 (fun c => absurd (eq_str.mp c) (by decide +kernel)) (fun _ => ?_)
    refine ⟨_, rfl, rfl, _, rfl, ?_⟩
    refine ite2 (fun c => absurd (eq_str.mp c) (by decide +kernel)) (fun _ => ?_)
    refine ⟨_, rfl, rfl, _, rfl, ?_⟩
    refine ite2 (fun c => absurd (eq_str.mp c) (by decide +kernel)) (fun _ => ?_)
    refine ⟨_, rfl, rfl, _, rfl, ?_⟩
    refine ite2 (fun c => absurd (eq_str.mp c) (by decide +kernel)) (fun _ => ?_)
    refine ⟨_, rfl, rfl, _, rfl, ?_⟩
    refine ite2 (fun c => absurd (eq_str.mp c) (by decide +kernel)) (fun _ => ?_)
    refine ⟨_, rfl, rfl, _, rfl, ?_⟩
    refine ite2 (fun _ => ?_) (fun c => absurd (eq_str.mpr rfl) c)
    exact ⟨_, rfl, _, rfl, dn, hn, av, a, Tr, p, q, _, rfl, la, W, hg.1, hg.2, ha, k⟩
  | unlink p =>
    have e : xs = [.str p] := hA
    subst e
    replace ha : SqT K H a (V.str "unlink" :: [.str p]) := ha
    refine ⟨_, rfl, a, _, 0, _, rfl, rfl, ha, atI_nat (j := 0) rfl, ?_⟩
    refine ⟨_, rfl, rfl, _, rfl, ?_⟩
    refine ite2 (fun c => absurd (eq_str.mp c) (by decide +kernel)) (fun _ => ?_)
    refine ⟨_, rfl, rfl, _, rfl, ?_⟩
    refine ite2 (fun c => absurd (eq_str.mp c) (by decide +kernel)) (fun _ => ?_)
    refine ⟨_, rfl, rfl, _, rfl, ?_⟩
    refine ite2 (fun c => absurd (eq_str.mp c) (by decide +kernel)) (fun _ => ?_)
    refine ⟨_, rfl, rfl, _, rfl, ?_⟩
    refine ite2 (fun c => absurd (eq_str.mp c) (by decide +kernel)) (fun _ => ?_)
    refine ⟨_, rfl, rfl, _, rfl, ?_⟩
    refine ite2 (fun _ => ?_) (fun c => absurd (eq_str.mpr rfl) c)
    exact ⟨_, rfl, _, rfl, _, rfl, dn, hn, av, a, Tr, false, p, rfl, la, W, hg, ha, k⟩
  | symlink g p =>
    have e : xs = [.str g, .str p] := hA
    subst e
    replace ha : SqT K H a (V.str "symlink" :: [.str g, .str p]) := ha
    refine ⟨_, rfl, a, _, 0, _, rfl, rfl, ha, atI_nat (j := 0) rfl, ?_⟩
    refine ⟨_, rfl, rfl, _, rfl, ?_⟩
    refine ite2 (fun c => absurd (eq_str.mp c) (by decide +kernel)) (fun _ => ?_)
    refine ⟨_, rfl, rfl, _, rfl, ?_⟩
    refine ite2 (fun _ => ?_) (fun c => absurd (eq_str.mpr rfl) c)
    exact ⟨_, rfl, _, rfl, a, _, 2, _, rfl, rfl, ha, atI_nat (j := 2) rfl, _, rfl, a, _, 1, _, rfl, rfl, ha, atI_nat (j := 1) rfl, dn, hn, av, Tr, p, .tgt g, .str g, rfl, la, W, hg.2, rfl, k⟩
  | readlink p =>
    have e : xs = [.str p] := hA
    subst e
    replace ha : SqT K H a (V.str "readlink" :: [.str p]) := ha
    refine ⟨_, rfl, a, _, 0, _, rfl, rfl, ha, atI_nat (j := 0) rfl, ?_⟩
    refine ⟨_, rfl, rfl, _, rfl, ?_⟩
    refine ite2 (fun c => absurd (eq_str.mp c) (by decide +kernel)) (fun _ => ?_)
    refine ⟨_, rfl, rfl, _, rfl, ?_⟩
    refine ite2 (fun c => absurd (eq_str.mp c) (by decide +kernel)) (fun _ => ?_)
    refine ⟨_, rfl, rfl, _, rfl, ?_⟩
    refine ite2 (fun c => absurd (eq_str.mp c) (by decide +kernel)) (fun _ => ?_)
    refine ⟨_, rfl, rfl, _, rfl, ?_⟩
    refine ite2 (fun c => absurd (eq_str.mp c) (by decide +kernel)) (fun _ => ?_)
    refine ⟨_, rfl, rfl, _, rfl, ?_⟩
    refine ite2 (fun c => absurd (eq_str.mp c) (by decide +kernel)) (fun _ => ?_)
    refine ⟨_, rfl, rfl, _, rfl, ?_⟩
    refine ite2 (fun c => absurd (eq_str.mp c) (by decide +kernel)) (fun _ => ?_)
    refine ⟨_, rfl, rfl, _, rfl, ?_⟩
    refine ite2 (fun c => absurd (eq_str.mp c) (by decide +kernel)) (fun _ => ?_)
    refine ⟨_, rfl, rfl, _, rfl, ?_⟩
    refine ite2 (fun c => absurd (eq_str.mp c) (by decide +kernel)) (fun _ => ?_)
    refine ⟨_, rfl, rfl, _, rfl, ?_⟩
    refine ite2 (fun c => absurd (eq_str.mp c) (by decide +kernel)) (fun _ => ?_)
    refine ⟨_, rfl, (by show 4 ≤ sizeLine; decide), fun l hl0 => ⟨l, _, rfl, .inl (SqL.of upd_same), rfl, rfl, _, rfl, ?_⟩⟩
    have s1 := same_new (o := .lst [V.str "readlink", V.str "readdir", V.str "stat", V.str "lstat"]) hl0
    have k1 := k.up la s1
    have la1 := la.same s1
    have ha1 := same_t s1 ha
    refine ite2 (fun _ => ?_) (fun c => (c (by decide +kernel)).elim)
    exact ⟨_, rfl, _, rfl, dn, hn, av, a, Tr, p, _, _, rfl, la1, W, hg, ha1, .inr (.inl ⟨rfl, rfl⟩), k1⟩
  | readdir p =>
    have e : xs = [.str p] := hA
    subst e
    replace ha : SqT K H a (V.str "readdir" :: [.str p]) := ha
    refine ⟨_, rfl, a, _, 0, _, rfl, rfl, ha, atI_nat (j := 0) rfl, ?_⟩
    refine ⟨_, rfl, rfl, _, rfl, ?_⟩
    refine ite2 (fun c => absurd (eq_str.mp c) (by decide +kernel)) (fun _ => ?_)
    refine ⟨_, rfl, rfl, _, rfl, ?_⟩
    refine ite2 (fun c => absurd (eq_str.mp c) (by decide +kernel)) (fun _ => ?_)
    refine ⟨_, rfl, rfl, _, rfl, ?_⟩
    refine ite2 (fun c => absurd (eq_str.mp c) (by decide +kernel)) (fun _ => ?_)
    refine ⟨_, rfl, rfl, _, rfl, ?_⟩
    refine ite2 (fun c => absurd (eq_str.mp c) (by decide +kernel)) (fun _ => ?_)
    refine ⟨_, rfl, rfl, _, rfl, ?_⟩
    refine ite2 (fun c => absurd (eq_str.mp c) (by decide +kernel)) (fun _ => ?_)
    refine ⟨_, rfl, rfl, _, rfl, ?_⟩
    refine ite2 (fun c => absurd (eq_str.mp c) (by decide +kernel)) (fun _ => ?_)
    refine ⟨_, rfl, rfl, _, rfl, ?_⟩
    refine ite2 (fun c => absurd (eq_str.mp c) (by decide +kernel)) (fun _ => ?_)
    refine ⟨_, rfl, rfl, _, rfl, ?_⟩
    refine ite2 (fun c => absurd (eq_str.mp c) (by decide +kernel)) (fun _ => ?_)
    refine ⟨_, rfl, rfl, _, rfl, ?_⟩
    refine ite2 (fun c => absurd (eq_str.mp c) (by decide +kernel)) (fun _ => ?_)
    refine ⟨_, rfl, (by show 4 ≤ sizeLine; decide), fun l hl0 => ⟨l, _, rfl, .inl (SqL.of upd_same), rfl, rfl, _, rfl, ?_⟩⟩
    have s1 := same_new (o := .lst [V.str "readlink", V.str "readdir", V.str "stat", V.str "lstat"]) hl0
    have k1 := k.up la s1
    have la1 := la.same s1
    have ha1 := same_t s1 ha
    refine ite2 (fun _ => ?_) (fun c => (c (by decide +kernel)).elim)
    exact ⟨_, rfl, _, rfl, dn, hn, av, a, Tr, p, _, _, rfl, la1, W, hg, ha1, .inr (.inr (.inr ⟨rfl, rfl⟩)), k1⟩
  | stat p =>
    have e : xs = [.str p] := hA
    subst e
    replace ha : SqT K H a (V.str "stat" :: [.str p]) := ha
    refine ⟨_, rfl, a, _, 0, _, rfl, rfl, ha, atI_nat (j := 0) rfl, ?_⟩
    refine ⟨_, rfl, rfl, _, rfl, ?_⟩
    refine ite2 (fun c => absurd (eq_str.mp c) (by decide +kernel)) (fun _ => ?_)
    refine ⟨_, rfl, rfl, _, rfl, ?_⟩
    refine ite2 (fun c => absurd (eq_str.mp c) (by decide +kernel)) (fun _ => ?_)
    refine ⟨_, rfl, rfl, _, rfl, ?_⟩
    refine ite2 (fun c => absurd (eq_str.mp c) (by decide +kernel)) (fun _ => ?_)
    refine ⟨_, rfl, rfl, _, rfl, ?_⟩
    refine ite2 (fun c => absurd (eq_str.mp c) (by decide +kernel)) (fun _ => ?_)
    refine ⟨_, rfl, rfl, _, rfl, ?_⟩
    refine ite2 (fun c => absurd (eq_str.mp c) (by decide +kernel)) (fun _ => ?_)
    refine ⟨_, rfl, rfl, _, rfl, ?_⟩
    refine ite2 (fun c => absurd (eq_str.mp c) (by decide +kernel)) (fun _ => ?_)
    refine ⟨_, rfl, rfl, _, rfl, ?_⟩
    refine ite2 (fun c => absurd (eq_str.mp c) (by decide +kernel)) (fun _ => ?_)
    refine ⟨_, rfl, rfl, _, rfl, ?_⟩
    refine ite2 (fun c => absurd (eq_str.mp c) (by decide +kernel)) (fun _ => ?_)
    refine ⟨_, rfl, rfl, _, rfl, ?_⟩
    refine ite2 (fun c => absurd (eq_str.mp c) (by decide +kernel)) (fun _ => ?_)
    refine ⟨_, rfl, (by show 4 ≤ sizeLine; decide), fun l hl0 => ⟨l, _, rfl, .inl (SqL.of upd_same), rfl, rfl, _, rfl, ?_⟩⟩
    have s1 := same_new (o := .lst [V.str "readlink", V.str "readdir", V.str "stat", V.str "lstat"]) hl0
    have k1 := k.up la s1
    have la1 := la.same s1
    have ha1 := same_t s1 ha
    refine ite2 (fun _ => ?_) (fun c => (c (by decide +kernel)).elim)
    exact ⟨_, rfl, _, rfl, dn, hn, av, a, Tr, p, _, _, rfl, la1, W, hg, ha1, .inr (.inr (.inl ⟨rfl, rfl⟩)), k1⟩
  | lstat p =>
    have e : xs = [.str p] := hA
    subst e
    replace ha : SqT K H a (V.str "lstat" :: [.str p]) := ha
    refine ⟨_, rfl, a, _, 0, _, rfl, rfl, ha, atI_nat (j := 0) rfl, ?_⟩
    refine ⟨_, rfl, rfl, _, rfl, ?_⟩
    refine ite2 (fun c => absurd (eq_str.mp c) (by decide +kernel)) (fun _ => ?_)
    refine ⟨_, rfl, rfl, _, rfl, ?_⟩
    refine ite2 (fun c => absurd (eq_str.mp c) (by decide +kernel)) (fun _ => ?_)
    refine ⟨_, rfl, rfl, _, rfl, ?_⟩
    refine ite2 (fun c => absurd (eq_str.mp c) (by decide +kernel)) (fun _ => ?_)
    refine ⟨_, rfl, rfl, _, rfl, ?_⟩
    refine ite2 (fun c => absurd (eq_str.mp c) (by decide +kernel)) (fun _ => ?_)
    refine ⟨_, rfl, rfl, _, rfl, ?_⟩
    refine ite2 (fun c => absurd (eq_str.mp c) (by decide +kernel)) (fun _ => ?_)
    refine ⟨_, rfl, rfl, _, rfl, ?_⟩
    refine ite2 (fun c => absurd (eq_str.mp c) (by decide +kernel)) (fun _ => ?_)
    refine ⟨_, rfl, rfl, _, rfl, ?_⟩
    refine ite2 (fun c => absurd (eq_str.mp c) (by decide +kernel)) (fun _ => ?_)
    refine ⟨_, rfl, rfl, _, rfl, ?_⟩
    refine ite2 (fun c => absurd (eq_str.mp c) (by decide +kernel)) (fun _ => ?_)
    refine ⟨_, rfl, rfl, _, rfl, ?_⟩
    refine ite2 (fun c => absurd (eq_str.mp c) (by decide +kernel)) (fun _ => ?_)
    refine ⟨_, rfl, (by show 4 ≤ sizeLine; decide), fun l hl0 => ⟨l, _, rfl, .inl (SqL.of upd_same), rfl, rfl, _, rfl, ?_⟩⟩
    have s1 := same_new (o := .lst [V.str "readlink", V.str "readdir", V.str "stat", V.str "lstat"]) hl0
    have k1 := k.up la s1
    have la1 := la.same s1
    have ha1 := same_t s1 ha
    refine ite2 (fun _ => ?_) (fun c => (c (by decide +kernel)).elim)
    exact ⟨_, rfl, _, rfl, dn, hn, av, a, Tr, p, _, _, rfl, la1, W, hg, ha1, .inl ⟨rfl, rfl⟩, k1⟩
  | openF p =>
    have e : xs = [.str p] := hA
    subst e
    replace ha : SqT K H a (V.str "open_file" :: [.str p]) := ha
    refine ⟨_, rfl, a, _, 0, _, rfl, rfl, ha, atI_nat (j := 0) rfl, ?_⟩
    refine ⟨_, rfl, rfl, _, rfl, ?_⟩
    refine ite2 (fun c => absurd (eq_str.mp c) (by decide +kernel)) (fun _ => ?_)
    refine ⟨_, rfl, rfl, _, rfl, ?_⟩
    refine ite2 (fun c => absurd (eq_str.mp c) (by decide +kernel)) (fun _ => ?_)
    refine ⟨_, rfl, rfl, _, rfl, ?_⟩
    refine ite2 (fun c => absurd (eq_str.mp c) (by decide +kernel)) (fun _ => ?_)
    refine ⟨_, rfl, rfl, _, rfl, ?_⟩
    refine ite2 (fun c => absurd (eq_str.mp c) (by decide +kernel)) (fun _ => ?_)
    refine ⟨_, rfl, rfl, _, rfl, ?_⟩
    refine ite2 (fun c => absurd (eq_str.mp c) (by decide +kernel)) (fun _ => ?_)
    refine ⟨_, rfl, rfl, _, rfl, ?_⟩
    refine ite2 (fun c => absurd (eq_str.mp c) (by decide +kernel)) (fun _ => ?_)
    refine ⟨_, rfl, rfl, _, rfl, ?_⟩
    refine ite2 (fun c => absurd (eq_str.mp c) (by decide +kernel)) (fun _ => ?_)
    refine ⟨_, rfl, rfl, _, rfl, ?_⟩
    refine ite2 (fun c => absurd (eq_str.mp c) (by decide +kernel)) (fun _ => ?_)
    refine ⟨_, rfl, rfl, _, rfl, ?_⟩
    refine ite2 (fun c => absurd (eq_str.mp c) (by decide +kernel)) (fun _ => ?_)
    refine ⟨_, rfl, (by show 4 ≤ sizeLine; decide), fun l hl0 => ⟨l, _, rfl, .inl (SqL.of upd_same), rfl, rfl, _, rfl, ?_⟩⟩
    have s1 := same_new (o := .lst [V.str "readlink", V.str "readdir", V.str "stat", V.str "lstat"]) hl0
    have k1 := k.up la s1
    have la1 := la.same s1
    have ha1 := same_t s1 ha
    refine ite2 (fun c => absurd c (by decide +kernel)) (fun _ => ?_)
    exact ⟨_, rfl, _, rfl, _, rfl, dn, hn, av, a, Tr, .opn p, rfl, la1, W, ⟨hg, ha1⟩, k1⟩
  | closeF h =>
    have e : xs = [.int h] := hA
    subst e
    replace ha : SqT K H a (V.str "close_file" :: [.int h]) := ha
    refine ⟨_, rfl, a, _, 0, _, rfl, rfl, ha, atI_nat (j := 0) rfl, ?_⟩
    refine ⟨_, rfl, rfl, _, rfl, ?_⟩
    refine ite2 (fun c => absurd (eq_str.mp c) (by decide +kernel)) (fun _ => ?_)
    refine ⟨_, rfl, rfl, _, rfl, ?_⟩
    refine ite2 (fun c => absurd (eq_str.mp c) (by decide +kernel)) (fun _ => ?_)
    refine ⟨_, rfl, rfl, _, rfl, ?_⟩
    refine ite2 (fun c => absurd (eq_str.mp c) (by decide +kernel)) (fun _ => ?_)
    refine ⟨_, rfl, rfl, _, rfl, ?_⟩
    refine ite2 (fun c => absurd (eq_str.mp c) (by decide +kernel)) (fun _ => ?_)
    refine ⟨_, rfl, rfl, _, rfl, ?_⟩
    refine ite2 (fun c => absurd (eq_str.mp c) (by decide +kernel)) (fun _ => ?_)
    refine ⟨_, rfl, rfl, _, rfl, ?_⟩
    refine ite2 (fun c => absurd (eq_str.mp c) (by decide +kernel)) (fun _ => ?_)
    refine ⟨_, rfl, rfl, _, rfl, ?_⟩
    refine ite2 (fun c => absurd (eq_str.mp c) (by decide +kernel)) (fun _ => ?_)
    refine ⟨_, rfl, rfl, _, rfl, ?_⟩
    refine ite2 (fun c => absurd (eq_str.mp c) (by decide +kernel)) (fun _ => ?_)
    refine ⟨_, rfl, rfl, _, rfl, ?_⟩
    refine ite2 (fun c => absurd (eq_str.mp c) (by decide +kernel)) (fun _ => ?_)
    refine ⟨_, rfl, (by show 4 ≤ sizeLine; decide), fun l hl0 => ⟨l, _, rfl, .inl (SqL.of upd_same), rfl, rfl, _, rfl, ?_⟩⟩
    have s1 := same_new (o := .lst [V.str "readlink", V.str "readdir", V.str "stat", V.str "lstat"]) hl0
    have k1 := k.up la s1
    have la1 := la.same s1
    have ha1 := same_t s1 ha
    refine ite2 (fun c => absurd c (by decide +kernel)) (fun _ => ?_)
    exact ⟨_, rfl, _, rfl, _, rfl, dn, hn, av, a, Tr, .cls h, rfl, la1, W, ⟨hg, ha1⟩, k1⟩
  | readAt h off len =>
    have e : xs = [.int h, .int off, .int len] := hA
    subst e
    replace ha : SqT K H a (V.str "read_at" :: [.int h, .int off, .int len]) := ha
    refine ⟨_, rfl, a, _, 0, _, rfl, rfl, ha, atI_nat (j := 0) rfl, ?_⟩
    refine ⟨_, rfl, rfl, _, rfl, ?_⟩
    refine ite2 (fun c => absurd (eq_str.mp c) (by decide +kernel)) (fun _ => ?_)
    refine ⟨_, rfl, rfl, _, rfl, ?_⟩
    refine ite2 (fun c => absurd (eq_str.mp c) (by decide +kernel)) (fun _ => ?_)
    refine ⟨_, rfl, rfl, _, rfl, ?_⟩
    refine ite2 (fun c => absurd (eq_str.mp c) (by decide +kernel)) (fun _ => ?_)
    refine ⟨_, rfl, rfl, _, rfl, ?_⟩
    refine ite2 (fun c => absurd (eq_str.mp c) (by decide +kernel)) (fun _ => ?_)
    refine ⟨_, rfl, rfl, _, rfl, ?_⟩
    refine ite2 (fun c => absurd (eq_str.mp c) (by decide +kernel)) (fun _ => ?_)
    refine ⟨_, rfl, rfl, _, rfl, ?_⟩
    refine ite2 (fun c => absurd (eq_str.mp c) (by decide +kernel)) (fun _ => ?_)
    refine ⟨_, rfl, rfl, _, rfl, ?_⟩
    refine ite2 (fun c => absurd (eq_str.mp c) (by decide +kernel)) (fun _ => ?_)
    refine ⟨_, rfl, rfl, _, rfl, ?_⟩
    refine ite2 (fun c => absurd (eq_str.mp c) (by decide +kernel)) (fun _ => ?_)
    refine ⟨_, rfl, rfl, _, rfl, ?_⟩
    refine ite2 (fun c => absurd (eq_str.mp c) (by decide +kernel)) (fun _ => ?_)
    refine ⟨_, rfl, (by show 4 ≤ sizeLine; decide), fun l hl0 => ⟨l, _, rfl, .inl (SqL.of upd_same), rfl, rfl, _, rfl, ?_⟩⟩
    have s1 := same_new (o := .lst [V.str "readlink", V.str "readdir", V.str "stat", V.str "lstat"]) hl0
    have k1 := k.up la s1
    have la1 := la.same s1
    have ha1 := same_t s1 ha
    refine ite2 (fun c => absurd c (by decide +kernel)) (fun _ => ?_)
    have hS : stepS Tr (.readAt h off len) = hoS Tr (.on h (.rd off len)) := by show still Tr (readAtS Tr h off len) = _; unfold readAtS; show _ = mapE _ (openS Tr.hs h); cases openS Tr.hs h <;> rfl
    rw [hS] at k1
    exact ⟨_, rfl, _, rfl, _, rfl, dn, hn, av, a, Tr, .on h (.rd off len), rfl, la1, W, ⟨hg.1, ⟨_, _, .inr rfl, ha1, hg.2.1, hg.2.2⟩, _, _, by decide +kernel, by decide +kernel, ha1⟩, k1⟩
  | writeAt h off oct =>
    obtain ⟨oa, e, ho⟩ := hA
    subst e
    replace ha : SqT K H a (V.str "write_at" :: [.int h, .int off, .ref oa]) := ha
    refine ⟨_, rfl, a, _, 0, _, rfl, rfl, ha, atI_nat (j := 0) rfl, ?_⟩
    refine ⟨_, rfl, rfl, _, rfl, ?_⟩
    refine ite2 (fun c => absurd (eq_str.mp c) (by decide +kernel)) (fun _ => ?_)
    refine ⟨_, rfl, rfl, _, rfl, ?_⟩
    refine ite2 (fun c => absurd (eq_str.mp c) (by decide +kernel)) (fun _ => ?_)
    refine ⟨_, rfl, rfl, _, rfl, ?_⟩
    refine ite2 (fun c => absurd (eq_str.mp c) (by decide +kernel)) (fun _ => ?_)
    refine ⟨_, rfl, rfl, _, rfl, ?_⟩
    refine ite2 (fun c => absurd (eq_str.mp c) (by decide +kernel)) (fun _ => ?_)
    refine ⟨_, rfl, rfl, _, rfl, ?_⟩
    refine ite2 (fun c => absurd (eq_str.mp c) (by decide +kernel)) (fun _ => ?_)
    refine ⟨_, rfl, rfl, _, rfl, ?_⟩
    refine ite2 (fun c => absurd (eq_str.mp c) (by decide +kernel)) (fun _ => ?_)
    refine ⟨_, rfl, rfl, _, rfl, ?_⟩
    refine ite2 (fun c => absurd (eq_str.mp c) (by decide +kernel)) (fun _ => ?_)
    refine ⟨_, rfl, rfl, _, rfl, ?_⟩
    refine ite2 (fun c => absurd (eq_str.mp c) (by decide +kernel)) (fun _ => ?_)
    refine ⟨_, rfl, rfl, _, rfl, ?_⟩
    refine ite2 (fun c => absurd (eq_str.mp c) (by decide +kernel)) (fun _ => ?_)
    refine ⟨_, rfl, (by show 4 ≤ sizeLine; decide), fun l hl0 => ⟨l, _, rfl, .inl (SqL.of upd_same), rfl, rfl, _, rfl, ?_⟩⟩
    have s1 := same_new (o := .lst [V.str "readlink", V.str "readdir", V.str "stat", V.str "lstat"]) hl0
    have k1 := k.up la s1
    have la1 := la.same s1
    have ha1 := same_t s1 ha
    refine ite2 (fun c => absurd c (by decide +kernel)) (fun _ => ?_)
    have hS : stepS Tr (.writeAt h off oct) = hoS Tr (.on h (.wr off oct)) := rfl
    rw [hS] at k1
    exact ⟨_, rfl, _, rfl, _, rfl, dn, hn, av, a, Tr, .on h (.wr off oct), rfl, la1, W, ⟨hg.1, ⟨_, oa, ha1, s1 _ _ ho, hg.2.1, hg.2.2⟩, _, _, by decide +kernel, by decide +kernel, ha1⟩, k1⟩
  | resize h len =>
    have e : xs = [.int h, .int len] := hA
    subst e
    replace ha : SqT K H a (V.str "resize" :: [.int h, .int len]) := ha
    refine ⟨_, rfl, a, _, 0, _, rfl, rfl, ha, atI_nat (j := 0) rfl, ?_⟩
    refine ⟨_, rfl, rfl, _, rfl, ?_⟩
    refine ite2 (fun c => absurd (eq_str.mp c) (by decide +kernel)) (fun _ => ?_)
    refine ⟨_, rfl, rfl, _, rfl, ?_⟩
    refine ite2 (fun c => absurd (eq_str.mp c) (by decide +kernel)) (fun _ => ?_)
    refine ⟨_, rfl, rfl, _, rfl, ?_⟩
    refine ite2 (fun c => absurd (eq_str.mp c) (by decide +kernel)) (fun _ => ?_)
    refine ⟨_, rfl, rfl, _, rfl, ?_⟩
    refine ite2 (fun c => absurd (eq_str.mp c) (by decide +kernel)) (fun _ => ?_)
    refine ⟨_, rfl, rfl, _, rfl, ?_⟩
    refine ite2 (fun c => absurd (eq_str.mp c) (by decide +kernel)) (fun _ => ?_)
    refine ⟨_, rfl, rfl, _, rfl, ?_⟩
    refine ite2 (fun c => absurd (eq_str.mp c) (by decide +kernel)) (fun _ => ?_)
    refine ⟨_, rfl, rfl, _, rfl, ?_⟩
    refine ite2 (fun c => absurd (eq_str.mp c) (by decide +kernel)) (fun _ => ?_)
    refine ⟨_, rfl, rfl, _, rfl, ?_⟩
    refine ite2 (fun c => absurd (eq_str.mp c) (by decide +kernel)) (fun _ => ?_)
    refine ⟨_, rfl, rfl, _, rfl, ?_⟩
    refine ite2 (fun c => absurd (eq_str.mp c) (by decide +kernel)) (fun _ => ?_)
    refine ⟨_, rfl, (by show 4 ≤ sizeLine; decide), fun l hl0 => ⟨l, _, rfl, .inl (SqL.of upd_same), rfl, rfl, _, rfl, ?_⟩⟩
    have s1 := same_new (o := .lst [V.str "readlink", V.str "readdir", V.str "stat", V.str "lstat"]) hl0
    have k1 := k.up la s1
    have la1 := la.same s1
    have ha1 := same_t s1 ha
    refine ite2 (fun c => absurd c (by decide +kernel)) (fun _ => ?_)
    have hS : stepS Tr (.resize h len) = hoS Tr (.on h (.sz len)) := rfl
    rw [hS] at k1
    exact ⟨_, rfl, _, rfl, _, rfl, dn, hn, av, a, Tr, .on h (.sz len), rfl, la1, W, ⟨hg.1, ⟨_, _, .inr rfl, ha1, hg.2⟩, _, _, by decide +kernel, by decide +kernel, ha1⟩, k1⟩
  | statAt h =>
    have e : xs = [.int h] := hA
    subst e
    replace ha : SqT K H a (V.str "stat_at" :: [.int h]) := ha
    refine ⟨_, rfl, a, _, 0, _, rfl, rfl, ha, atI_nat (j := 0) rfl, ?_⟩
    refine ⟨_, rfl, rfl, _, rfl, ?_⟩
    refine ite2 (fun c => absurd (eq_str.mp c) (by decide +kernel)) (fun _ => ?_)
    refine ⟨_, rfl, rfl, _, rfl, ?_⟩
    refine ite2 (fun c => absurd (eq_str.mp c) (by decide +kernel)) (fun _ => ?_)
    refine ⟨_, rfl, rfl, _, rfl, ?_⟩
    refine ite2 (fun c => absurd (eq_str.mp c) (by decide +kernel)) (fun _ => ?_)
    refine ⟨_, rfl, rfl, _, rfl, ?_⟩
    refine ite2 (fun c => absurd (eq_str.mp c) (by decide +kernel)) (fun _ => ?_)
    refine ⟨_, rfl, rfl, _, rfl, ?_⟩
    refine ite2 (fun c => absurd (eq_str.mp c) (by decide +kernel)) (fun _ => ?_)
    refine ⟨_, rfl, rfl, _, rfl, ?_⟩
    refine ite2 (fun c => absurd (eq_str.mp c) (by decide +kernel)) (fun _ => ?_)
    refine ⟨_, rfl, rfl, _, rfl, ?_⟩
    refine ite2 (fun c => absurd (eq_str.mp c) (by decide +kernel)) (fun _ => ?_)
    refine ⟨_, rfl, rfl, _, rfl, ?_⟩
    refine ite2 (fun c => absurd (eq_str.mp c) (by decide +kernel)) (fun _ => ?_)
    refine ⟨_, rfl, rfl, _, rfl, ?_⟩
    refine ite2 (fun c => absurd (eq_str.mp c) (by decide +kernel)) (fun _ => ?_)
    refine ⟨_, rfl, (by show 4 ≤ sizeLine; decide), fun l hl0 => ⟨l, _, rfl, .inl (SqL.of upd_same), rfl, rfl, _, rfl, ?_⟩⟩
    have s1 := same_new (o := .lst [V.str "readlink", V.str "readdir", V.str "stat", V.str "lstat"]) hl0
    have k1 := k.up la s1
    have la1 := la.same s1
    have ha1 := same_t s1 ha
    refine ite2 (fun c => absurd c (by decide +kernel)) (fun _ => ?_)
    have hS : stepS Tr (.statAt h) = hoS Tr (.on h (.st)) := by show still Tr (statAtS Tr h) = _; unfold statAtS; show _ = mapE _ (openS Tr.hs h); cases openS Tr.hs h <;> rfl
    rw [hS] at k1
    exact ⟨_, rfl, _, rfl, _, rfl, dn, hn, av, a, Tr, .on h (.st), rfl, la1, W, ⟨hg, ⟨_, ha1⟩, _, _, by decide +kernel, by decide +kernel, ha1⟩, k1⟩
end
end Tm

set_option maxHeartbeats 4000000
namespace Tm
open PySem PySem.Spec PyProof.Rows L2
theorem mod_at {l : List V} {i m : Int} (hm : m = l.length) (h : 0 < m) : ∃ x, x ∈ l ∧ atI l (i % m) = some x := by
  obtain ⟨j, hj⟩ : ∃ j : Nat, i % m = (j : Int) := ⟨(i % m).toNat, (Int.toNat_of_nonneg (Int.emod_nonneg _ (by omega))).symm⟩
  have hl : i % m < m := Int.emod_lt_of_pos _ h
  have hj2 : j < l.length := by omega
  refine ⟨l[j], List.getElem_mem hj2, ?_⟩
  rw [hj]
  exact atI_nat (List.getElem?_eq_getElem hj2)
section
variable {P : Program} {w : World} {K : PySem.W.Frag} {mg : Str → Option Value} {base : Heap}
/-! ### draws -/
def spDraws (K : PySem.W.Frag) : Sp := fun vs H Q _ => ∃ (a : Addr) (ns : List Int) (n : Nat), vs = [.ref a, .int n] ∧ SqL K H a (ns.map V.int) ∧ ns.length ≤ 1000 ∧ n ≤ 1000 ∧ ∀ (p : Addr) (H' : Hp) (ds : List Int), Same H H' → H' p = some (.lst (ds.map V.int)) → ds.length ≤ 1000 → Q (.ref p) H'
-- slots of _law_draws: 0 _law_script, 1 _law_count, 2 _law_draws_here, 3 _law_k, 4 _law_cell
theorem sc_law_draws : FnScope ["_law_script", "_law_count", "_law_draws_here", "_law_k", "_law_cell"] ["_law_script", "_law_count"] (defScope s_law_draws) := ⟨rfl, rfl, rfl, by decide +kernel, rfl, by decide +kernel, by decide +kernel⟩
theorem ok_law_draws (T : Tx K mg) : FnR P w K mg base (L2.CX P w) 1 (He.ga K "_law_draws") (spDraws K) := by
  refine mk_fn (df_law_draws T) sc_law_draws (fun _ _ _ _ _ _ us hl => match us, hl with | [_, _], _ => rfl) (fun vs H Q E h => ?_) (fun cdv A outer s H vs Q E tk po hr h => ?_)
  · obtain ⟨_, _, _, rfl, _⟩ := h
    rfl
  obtain ⟨a, ns, n, rfl, ha, h1, h2, k⟩ := h
  refine ⟨_, (pss_cons (ps_set (i := 2) sc_law_draws.nd rfl (Or.inl rfl) (pe_lst pa_nil))
    (pss_cons (ps_for po rfl (pi_range1 rfl (f_range T) (pa_cons (pv 1) pa_nil)) (pg_name (i := 3) sc_law_draws.nd rfl (Or.inl rfl))
    (pss_cons (ps_set (i := 4) sc_law_draws.nd rfl (Or.inl rfl) pe_int)
      (Evl.pss_cut (ps_if (pt_cmpR op_gt (pe_callB call_len_seq (by rfl) (f_len T) PySem.boot_len (pa_cons (pv 0) pa_nil)) pe_int (nomark _))
      (pss_one (ps_set (i := 4) sc_law_draws.nd rfl (Or.inl rfl) (pe_callTy call_int1 (by rfl) (f_int T) (by decide +kernel) (pa_cons (pe_ix ix_list (pv 0) (pe_op op_mod (pe_callTy call_int1 (by rfl) (f_int T) (by decide +kernel) (pa_cons (pv 3) pa_nil)) (pe_callB call_len_seq (by rfl) (f_len T) PySem.boot_len (pa_cons (pv 0) pa_nil))) (fun _ _ => rfl)) pa_nil))))
      pss_nil)
      (Evl.pss_cut (ps_if (pt_cmpR op_lt (pv 4) pe_int (nomark _))
      (pss_one (ps_set (i := 4) sc_law_draws.nd rfl (Or.inl rfl) (pe_op op_sub pe_int (pe_op op_mul pe_int (pv 4)))))
      pss_nil)
      (Evl.pss_cut (ps_if (PW.pt (pw_or (pt_cmpR op_ge (pv 3) (pe_callB call_len_seq (by rfl) (f_len T) PySem.boot_len (pa_cons (pv 0) pa_nil)) (nomark _)) (pw_or1 (pt_cmpR op_lt (pv 4) pe_int (nomark _)))))
      (pss_cons (ps_set (i := 4) sc_law_draws.nd rfl (Or.inl rfl) (pe_op op_mod (pe_callTy call_int1 (by rfl) (f_int T) (by decide +kernel) (pa_cons (pe_op op_add (pe_op op_mul (pe_op op_add (pe_op op_add (pv 4) (pe_op op_mul pe_int (pv 3))) pe_int) pe_int) (pe_op op_mul (pe_op op_mul (pv 3) (pv 3)) pe_int)) pa_nil)) pe_int))
        (pss_one (ps_set (i := 4) sc_law_draws.nd rfl (Or.inl rfl) (pe_op op_mod (pe_callTy call_int1 (by rfl) (f_int T) (by decide +kernel) (pa_cons (pe_op op_mul (pe_op op_add (pe_op op_add (pv 4) (pe_op op_mul pe_int (pv 3))) pe_int) pe_int) pa_nil)) pe_int))))
      pss_nil)
      (pss_one (ps_expr (pe_bm PySem.F.plainAttrs_list PySem.F.slot_list_append PySem.F.type_list_append mt_append (pv 2) (pa_cons (pv 4) pa_nil)))))))))
    (pss_one (ps_ret (pv 2))))), ?_⟩
  refine ⟨(Nat.zero_le _), fun D hD => ?_⟩
  have s0 := same_new (o := .lst []) hD
  refine ⟨_, rfl, (n : Int), rfl, by omega, by omega, ?_⟩
  refine for_range (fun i σ' H' => ∃ (ds : List Int) (a3 a4 : Option V), σ' = [some (.ref a), some (.int n), some (.ref D), a3, a4] ∧ Same H H' ∧ H' D = some (.lst (ds.map V.int)) ∧ ds.length = i) ⟨[], none, none, rfl, s0, upd_same, rfl⟩ ?_ ?_
  · rintro i σ' H' hi ⟨ds, a3, a4, rfl, sm, hd, hl⟩
    have hi2 : i < 1000 := by omega
    have e0 : (0 : Int) + (i : Int) = (i : Int) := by omega
    rw [e0]
    have ha1 := same_l sm ha
    refine ⟨fun σ2 H2 => H' = H2 ∧ ∃ c : Int, σ2 = [some (.ref a), some (.int n), some (.ref D), some (.int i), some (.int c)], ?_, ?_⟩
    · refine ⟨_, rfl, _, _, rfl, .inl ha1, _, _, rfl, rfl, _, rfl, ?_⟩
      rw [List.length_map]
      refine ite2 (fun c => ?_) (fun c => ?_)
      · have c1 : (0 : Int) < (ns.length : Nat) := of_decide_eq_true c
        obtain ⟨x, hx, hat⟩ := mod_at (l := ns.map V.int) (i := (i : Int)) (m := (((ns.map V.int).length : Nat) : Int)) rfl (by rw [List.length_map]; exact c1)
        obtain ⟨c0, _, rfl⟩ := List.mem_map.mp hx
        refine ⟨_, rfl, _, rfl, .inl ⟨_, rfl, ?_⟩⟩
        refine ⟨_, rfl, _, _, rfl, .inl ha1, _, _, rfl, rfl, by rw [List.length_map]; exact c1, a, _, _, _, rfl, rfl, ha1, hat, .inl ⟨_, rfl, ?_⟩⟩
        exact ⟨rfl, _, rfl⟩
      · exact ⟨rfl, _, rfl⟩
    · rintro σ2 H2 ⟨rfl, c, rfl⟩
      refine ⟨fun σ2 H2 => H' = H2 ∧ ∃ c : Int, σ2 = [some (.ref a), some (.int n), some (.ref D), some (.int i), some (.int c)], ?_, ?_⟩
      · refine ⟨_, rfl, _, _, rfl, rfl, _, rfl, ?_⟩
        refine ite2 (fun _ => ?_) (fun _ => ⟨rfl, _, rfl⟩)
        exact ⟨_, rfl, _, _, rfl, rfl, .inl (by constructor <;> decide), _, _, rfl, rfl, rfl, _, rfl⟩
      · rintro σ2 H2 ⟨rfl, c, rfl⟩
        refine ⟨fun σ2 H2 => H' = H2 ∧ ∃ c : Int, σ2 = [some (.ref a), some (.int n), some (.ref D), some (.int i), some (.int c)], ?_, ?_⟩
        · refine ⟨_, rfl, _, rfl, _, _, rfl, .inl ha1, _, _, rfl, rfl, _, rfl, ?_⟩
          refine ite2 (fun _ => ?_) (fun _ => ?_)
          · refine ite2 (fun z => ?_) (fun z => absurd rfl z)
            refine ⟨_, rfl, _, rfl, _, _, rfl, rfl, .inl ⟨by decide, by decide⟩, _, _, rfl, rfl, _, _, rfl, rfl, _, _, rfl, rfl, .inr ⟨by decide, by decide⟩, _, rfl, _, rfl, _, _, rfl, rfl, .inl ⟨by omega, by omega⟩, _, _, rfl, rfl, .inr ⟨by decide, by decide⟩, _, _, rfl, rfl, .inl ⟨_, rfl, ?_⟩⟩
            refine ⟨_, _, rfl, rfl, (by show (0 : Int) < 2147483399; decide), ?_⟩
            refine ⟨_, rfl, _, rfl, _, _, rfl, rfl, .inl ⟨by decide, by decide⟩, _, _, rfl, rfl, _, _, rfl, rfl, _, _, rfl, rfl, .inr ⟨by decide, by decide⟩, .inl ⟨_, rfl, ?_⟩⟩
            exact ⟨_, _, rfl, rfl, (by show (0 : Int) < 18446744073709551533; decide), rfl, _, rfl⟩
          · refine ⟨_, rfl, _, _, rfl, rfl, _, rfl, ?_⟩
            refine ite2 (fun _ => ?_) (fun _ => ⟨rfl, _, rfl⟩)
            refine ⟨_, rfl, _, rfl, _, _, rfl, rfl, .inl ⟨by decide, by decide⟩, _, _, rfl, rfl, _, _, rfl, rfl, _, _, rfl, rfl, .inr ⟨by decide, by decide⟩, _, rfl, _, rfl, _, _, rfl, rfl, .inl ⟨by omega, by omega⟩, _, _, rfl, rfl, .inr ⟨by decide, by decide⟩, _, _, rfl, rfl, .inl ⟨_, rfl, ?_⟩⟩
            refine ⟨_, _, rfl, rfl, (by show (0 : Int) < 2147483399; decide), ?_⟩
            refine ⟨_, rfl, _, rfl, _, _, rfl, rfl, .inl ⟨by decide, by decide⟩, _, _, rfl, rfl, _, _, rfl, rfl, _, _, rfl, rfl, .inr ⟨by decide, by decide⟩, .inl ⟨_, rfl, ?_⟩⟩
            exact ⟨_, _, rfl, rfl, (by show (0 : Int) < 18446744073709551533; decide), rfl, _, rfl⟩
        · rintro σ2 H2 ⟨rfl, c, rfl⟩
          refine ⟨_, rfl, .inl ⟨rfl, _, SqL.of hd⟩, _, rfl, D, _, _, rfl, rfl, hd, by rw [List.length_map, sizeLine_eq]; omega, ?_⟩
          refine ⟨ds ++ [c], _, _, rfl, same_mut sm hD, ?_, by rw [List.length_append, hl]; rfl⟩
          rw [upd_same, List.map_append]
          rfl
  · rintro σ' H' ⟨ds, a3, a4, rfl, sm, hd, hl⟩
    exact ⟨_, rfl, k D H' ds sm hd (by rw [hl]; show n ≤ 1000; omega)⟩
end
/-! ### _law_path -/
theorem path_all : ((nm4.all fun a => decide (("/" ++ Txt.join "/" [a]) ∈ pathL) && (nm4.all fun b => decide (("/" ++ Txt.join "/" [a, b]) ∈ pathL) && (nm4.all fun c => decide (("/" ++ Txt.join "/" [a, b, c]) ∈ pathL)))) &&
    (decide (("/" ++ Txt.join "/" []) ∈ pathL) && nm4.all fun a => decide (a.length ≤ 4))) = true := by decide +kernel
theorem path_ok (ys : List Str) (h : ys.length ≤ 3) (hm : ∀ y ∈ ys, y ∈ nm4) : ("/" ++ Txt.join "/" ys) ∈ pathL ∧ (ys.map (·.length)).sum + ys.length * ("/" : Str).length ≤ 16777216 ∧ ("/" : Str).length + (Txt.join "/" ys).length ≤ sizeLine := by
  have q := path_all
  simp only [Bool.and_eq_true, decide_eq_true_eq, List.all_eq_true] at q
  obtain ⟨q1, q2, q3⟩ := q
  have l1 : ("/" : Str).length = 1 := by decide +kernel
  have hp : ("/" ++ Txt.join "/" ys) ∈ pathL := by
    match ys, h, hm with
    | [], _, _ => exact q2
    | [a], _, hm => exact (q1 a (hm a (by simp))).1
    | [a, b], _, hm => exact ((q1 a (hm a (by simp))).2 b (hm b (by simp))).1
    | [a, b, c], _, hm => exact ((q1 a (hm a (by simp))).2 b (hm b (by simp))).2 c (hm c (by simp))
    | a :: b :: c :: e :: r, h, _ => simp at h
  refine ⟨hp, ?_, ?_⟩
  · have hs : ∀ l : List Str, (∀ y ∈ l, y ∈ nm4) → (l.map (·.length)).sum ≤ l.length * 4 := by
      intro l
      induction l with
      | nil => intro _; exact Nat.le_refl _
      | cons a r ih =>
        intro hm
        rw [List.map_cons, List.sum_cons, List.length_cons]
        have h1 := ih fun y hy => hm y (List.mem_cons_of_mem _ hy)
        have h2 := q3 a (hm a List.mem_cons_self)
        omega
    have := hs ys hm
    rw [l1]
    omega
  · have h1 := (names_ok (.inl hp)).2.2.1
    have e : ("/" ++ Txt.join "/" ys : Str).length = ("/" : Str).length + (Txt.join "/" ys).length := Str.length_append _ _
    rw [← e, sizeLine_eq]
    omega
section
variable {P : Program} {w : World} {K : PySem.W.Frag} {mg : Str → Option Value} {base : Heap}

def spPath : Sp := fun vs H Q _ => ∃ d : Int, vs = [.int d] ∧ ∀ s H', Same H H' → s ∈ pathL → Q (.str s) H'
-- slots of _law_path: 0 _law_draw, 1 _law_names_here, 2 _law_parts, 3 _law_rest, 4 _law_turn
theorem sc_law_path : FnScope ["_law_draw", "_law_names_here", "_law_parts", "_law_rest", "_law_turn"] ["_law_draw"] (defScope s_law_path) := ⟨rfl, rfl, rfl, by decide +kernel, rfl, by decide +kernel, by decide +kernel⟩
theorem ok_law_path (T : Tx K mg) : FnR P w K mg base (L2.CX P w) 1 (He.ga K "_law_path") spPath := by
  refine mk_fn (df_law_path T) sc_law_path (fun _ _ _ _ _ _ us hl => match us, hl with | [_], _ => rfl) (fun vs H Q E h => ?_) (fun cdv A outer s H vs Q E tk po hr h => ?_)
  · obtain ⟨_, rfl, _⟩ := h
    rfl
  obtain ⟨d, rfl, k⟩ := h
  refine ⟨_, (pss_cons (ps_set (i := 1) sc_law_path.nd rfl (Or.inl rfl) (pe_lst (pa_cons pe_str (pa_cons pe_str (pa_cons pe_str (pa_cons pe_str pa_nil))))))
    (pss_cons (ps_set (i := 2) sc_law_path.nd rfl (Or.inl rfl) (pe_lst pa_nil))
    (pss_cons (ps_set (i := 3) sc_law_path.nd rfl (Or.inl rfl) (pe_callTy call_int1 (by rfl) (f_int T) (by decide +kernel) (pa_cons (pv 0) pa_nil)))
    (pss_cons (ps_for po rfl (pi_range1 rfl (f_range T) (pa_cons (pe_ix ix_list (pe_lst (pa_cons pe_int (pa_cons pe_int (pa_cons pe_int (pa_cons pe_int (pa_cons pe_int (pa_cons pe_int (pa_cons pe_int (pa_cons pe_int pa_nil))))))))) (pe_op op_mod (pe_callTy call_int1 (by rfl) (f_int T) (by decide +kernel) (pa_cons (pv 0) pa_nil)) pe_int) (fun _ _ => rfl)) pa_nil)) (pg_name (i := 4) sc_law_path.nd rfl (Or.inl rfl))
    (pss_cons (ps_set (i := 3) sc_law_path.nd rfl (Or.inl rfl) (pe_op op_fdiv (pv 3) pe_int))
      (pss_one (ps_expr (pe_bm PySem.F.plainAttrs_list PySem.F.slot_list_append PySem.F.type_list_append mt_append (pv 2) (pa_cons (pe_ix ix_list (pv 1) (pe_op op_mod (pe_callTy call_int1 (by rfl) (f_int T) (by decide +kernel) (pa_cons (pv 3) pa_nil)) pe_int) (fun _ _ => rfl)) pa_nil))))))
    (pss_one (ps_ret (pe_op op_add_str pe_str (pe_join pe_str (pv 2))))))))), ?_⟩
  refine ⟨(by show 4 ≤ sizeLine; decide), fun nl hn0 => ?_⟩
  have s1 := same_new (o := .lst [V.str "a", V.str "b", V.str "c.d", V.str "E_-9"]) hn0
  have hnl : upd H nl (.lst [V.str "a", V.str "b", V.str "c.d", V.str "E_-9"]) nl = some (.lst (nm4.map V.str)) := upd_same
  generalize upd H nl (.lst [V.str "a", V.str "b", V.str "c.d", V.str "E_-9"]) = H1 at s1 hnl ⊢
  refine ⟨(Nat.zero_le _), fun D hD => ?_⟩
  have s2 := s1.trans (same_new (o := .lst []) hD)
  have t2 := same_new (o := .lst []) hD
  have hD2 : upd H1 D (.lst []) D = some (.lst (([] : List Str).map V.str)) := upd_same
  generalize upd H1 D (.lst []) = H2 at s2 t2 hD2 ⊢
  refine ⟨_, rfl, .inl ⟨_, rfl, ?_⟩⟩
  refine ⟨(by show 8 ≤ sizeLine; decide), fun l hl0 => ?_⟩
  have t3 := t2.trans (same_new (o := .lst [V.int 1, V.int 1, V.int 2, V.int 1, V.int 2, V.int 3, V.int 1, V.int 0]) hl0)
  have s3 := s1.trans t3
  have hD3 := same_new (o := .lst [V.int 1, V.int 1, V.int 2, V.int 1, V.int 2, V.int 3, V.int 1, V.int 0]) hl0 _ _ hD2
  obtain ⟨x, hx, hat⟩ := mod_at (l := [V.int 1, V.int 1, V.int 2, V.int 1, V.int 2, V.int 3, V.int 1, V.int 0]) (i := d) (m := 8) rfl (by decide)
  have hx2 : ∃ m : Nat, x = V.int m ∧ m ≤ 3 := by
    simp only [List.mem_cons, List.not_mem_nil, or_false] at hx
    rcases hx with h | h | h | h | h | h | h | h
    · exact ⟨1, h, by decide⟩
    · exact ⟨1, h, by decide⟩
    · exact ⟨2, h, by decide⟩
    · exact ⟨1, h, by decide⟩
    · exact ⟨2, h, by decide⟩
    · exact ⟨3, h, by decide⟩
    · exact ⟨1, h, by decide⟩
    · exact ⟨0, h, by decide⟩
  obtain ⟨m, rfl, hm3⟩ := hx2
  refine ⟨_, rfl, .inl ⟨_, rfl, _, _, rfl, rfl, (by show (0 : Int) < 8; decide), l, _, _, _, rfl, rfl, SqL.of upd_same, hat, (m : Int), rfl, by omega, by omega, ?_⟩⟩
  refine for_range (fun i σ' H' => ∃ (ys : List Str) (r : Int) (a4 : Option V), σ' = [some (.int d), some (.ref nl), some (.ref D), some (.int r), a4] ∧ Same H1 H' ∧ H' D = some (.lst (ys.map V.str)) ∧ ys.length = i ∧ ∀ y ∈ ys, y ∈ nm4) ⟨[], d, none, rfl, t3, hD3, rfl, fun y hy => by cases hy⟩ ?_ ?_
  · rintro i σ' H' hi ⟨ys, r, a4, rfl, sm, hd, hl, hys⟩
    have hi2 : i < 3 := by omega
    refine ⟨_, rfl, _, _, rfl, rfl, (by constructor <;> decide), _, rfl, .inl ⟨rfl, _, SqL.of hd⟩, ?_⟩
    obtain ⟨x, hx, hat⟩ := mod_at (l := nm4.map V.str) (i := r / 8) (m := 4) rfl (by decide)
    obtain ⟨y, hy, rfl⟩ := List.mem_map.mp hx
    refine ⟨_, rfl, _, rfl, .inl ⟨_, rfl, _, _, rfl, rfl, (by show (0 : Int) < 4; decide), nl, _, _, _, rfl, rfl, SqL.of (sm _ _ hnl), hat, D, _, _, rfl, rfl, hd, by rw [List.length_map, sizeLine_eq]; omega, ?_⟩⟩
    refine ⟨ys ++ [y], _, _, rfl, same_mut sm hD, ?_, by rw [List.length_append, hl]; rfl, fun z hz => ?_⟩
    · rw [upd_same, List.map_append]; rfl
    · rcases List.mem_append.mp hz with h | h
      · exact hys z h
      · rw [List.mem_singleton.mp h]; exact hy
  · rintro σ' H' ⟨ys, r, a4, rfl, sm, hd, hl, hys⟩
    have hl3 : ys.length ≤ 3 := by rw [hl]; show m ≤ 3; omega
    obtain ⟨q1, q2, q3⟩ := path_ok ys hl3 hys
    exact ⟨⟨_, rfl⟩, _, rfl, _, D, ys, rfl, rfl, .inl (SqL.of hd), q2, _, _, rfl, rfl, q3, k _ H' (s1.trans sm) q1⟩
end
end Tm

set_option maxHeartbeats 4000000
namespace Tm
open PySem PySem.Spec PyProof.Rows L2
section
variable {P : Program} {w : World} {K : PySem.W.Frag} {mg : Str → Option Value} {base : Heap}
def spTarget : Sp := fun vs H Q _ => ∃ d : Int, vs = [.int d] ∧ ∀ s H', Same H H' → s ∈ tgtL → Q (.str s) H'
-- slots of _law_target: 0 _law_draw, 1 _law_targets
theorem sc_law_target : FnScope ["_law_draw", "_law_targets"] ["_law_draw"] (defScope s_law_target) := ⟨rfl, rfl, rfl, by decide +kernel, rfl, by decide +kernel, by decide +kernel⟩
theorem ok_law_target (T : Tx K mg) : FnR P w K mg base (L2.CX P w) 1 (He.ga K "_law_target") spTarget := by
  refine mk_fn (df_law_target T) sc_law_target (fun _ _ _ _ _ _ us hl => match us, hl with | [_], _ => rfl) (fun vs H Q E h => ?_) (fun cdv A outer s H vs Q E tk po hr h => ?_)
  · obtain ⟨_, rfl, _⟩ := h
    rfl
  obtain ⟨d, rfl, k⟩ := h
  refine ⟨_, (pss_cons (ps_set (i := 1) sc_law_target.nd rfl (Or.inl rfl) (pe_lst (pa_cons pe_str (pa_cons pe_str (pa_cons pe_str (pa_cons pe_str (pa_cons pe_str (pa_cons pe_str (pa_cons pe_str (pa_cons pe_str pa_nil))))))))))
    (pss_one (ps_ret (pe_ix ix_list (pv 1) (pe_op op_mod (pe_callTy call_int1 (by rfl) (f_int T) (by decide +kernel) (pa_cons (pv 0) pa_nil)) pe_int) (fun _ _ => rfl))))), ?_⟩
  refine ⟨(by show 8 ≤ sizeLine; decide), fun l hl0 => ?_⟩
  obtain ⟨x, hx, hat⟩ := mod_at (l := tgtL.map V.str) (i := d) (m := 8) rfl (by decide)
  obtain ⟨y, hy, rfl⟩ := List.mem_map.mp hx
  exact ⟨_, rfl, _, rfl, .inl ⟨_, rfl, _, _, rfl, rfl, (by show (0 : Int) < 8; decide), l, _, _, _, rfl, rfl, SqL.of (xs := tgtL.map V.str) upd_same, hat, k y _ (same_new hl0) hy⟩⟩
theorem nat_mem {l : List Nat} {x : V} (h : x ∈ l.map fun n : Nat => V.int n) {b : Nat} (hb : ∀ n ∈ l, n ≤ b) : ∃ n : Nat, x = V.int n ∧ n ≤ b := by
  obtain ⟨n, hn, rfl⟩ := List.mem_map.mp h
  exact ⟨n, rfl, hb n hn⟩
def spOffset : Sp := fun vs H Q _ => ∃ d : Int, vs = [.int d] ∧ ∀ (n : Nat) H', Same H H' → n ≤ 28672 → Q (.int n) H'
-- slots of _law_offset: 0 _law_draw
theorem sc_law_offset : FnScope ["_law_draw"] ["_law_draw"] (defScope s_law_offset) := ⟨rfl, rfl, rfl, by decide +kernel, rfl, by decide +kernel, by decide +kernel⟩
theorem ok_law_offset (T : Tx K mg) : FnR P w K mg base (L2.CX P w) 1 (He.ga K "_law_offset") spOffset := by
  refine mk_fn (df_law_offset T) sc_law_offset (fun _ _ _ _ _ _ us hl => match us, hl with | [_], _ => rfl) (fun vs H Q E h => ?_) (fun cdv A outer s H vs Q E tk po hr h => ?_)
  · obtain ⟨_, rfl, _⟩ := h
    rfl
  obtain ⟨d, rfl, k⟩ := h
  refine ⟨_, (pss_cons (ps_if (pt_cmpR op_eq (pe_op op_mod (pe_callTy call_int1 (by rfl) (f_int T) (by decide +kernel) (pa_cons (pe_op op_fdiv (pv 0) pe_int) pa_nil)) pe_int) pe_int (nomark _))
    (pss_one (ps_ret (pe_ix ix_list (pe_lst (pa_cons pe_int (pa_cons pe_int (pa_cons pe_int pa_nil)))) (pe_op op_mod (pe_callTy call_int1 (by rfl) (f_int T) (by decide +kernel) (pa_cons (pv 0) pa_nil)) pe_int) (fun _ _ => rfl))))
    pss_nil)
    (pss_one (ps_ret (pe_ix ix_list (pe_lst (pa_cons pe_int (pa_cons pe_int (pa_cons pe_int (pa_cons pe_int (pa_cons pe_int (pa_cons pe_int (pa_cons pe_int (pa_cons pe_int (pa_cons pe_int (pa_cons pe_int pa_nil))))))))))) (pe_op op_mod (pe_callTy call_int1 (by rfl) (f_int T) (by decide +kernel) (pa_cons (pv 0) pa_nil)) pe_int) (fun _ _ => rfl))))), ?_⟩
  refine ⟨_, rfl, _, _, rfl, rfl, (by constructor <;> decide), .inl ⟨_, rfl, _, _, rfl, rfl, (by show (0 : Int) < 30; decide), rfl, _, rfl, ?_⟩⟩
  refine ite2 (fun _ => ?_) (fun _ => ?_)
  · refine ⟨(by show 3 ≤ sizeLine; decide), fun l hl0 => ?_⟩
    obtain ⟨x, hx, hat⟩ := mod_at (l := [28600, 28671, 28672].map fun n : Nat => V.int n) (i := d) (m := 3) rfl (by decide)
    obtain ⟨n, rfl, hn⟩ := nat_mem hx (b := 28672) (by decide)
    exact ⟨_, rfl, .inl ⟨_, rfl, _, _, rfl, rfl, (by show (0 : Int) < 3; decide), l, _, _, _, rfl, rfl, SqL.of (xs := [28600, 28671, 28672].map fun n : Nat => V.int n) upd_same, hat, k n _ (same_new hl0) hn⟩⟩
  · refine ⟨(by show 10 ≤ sizeLine; decide), fun l hl0 => ?_⟩
    obtain ⟨x, hx, hat⟩ := mod_at (l := [0, 1, 7, 300, 448, 449, 900, 0, 5, 2].map fun n : Nat => V.int n) (i := d) (m := 10) rfl (by decide)
    obtain ⟨n, rfl, hn⟩ := nat_mem hx (b := 28672) (by decide)
    exact ⟨_, rfl, .inl ⟨_, rfl, _, _, rfl, rfl, (by show (0 : Int) < 10; decide), l, _, _, _, rfl, rfl, SqL.of (xs := [0, 1, 7, 300, 448, 449, 900, 0, 5, 2].map fun n : Nat => V.int n) upd_same, hat, k n _ (same_new hl0) hn⟩⟩
def spOctets : Sp := fun vs H Q _ => ∃ (d : Int) (n : Nat), vs = [.int d, .int n] ∧ n ≤ 500 ∧ ∀ (p : Addr) (oct : List Int) H', Same H H' → H p = none → H' p = some (.lst (oct.map V.int)) → oct.length ≤ 500 → (∀ x ∈ oct, 0 ≤ x ∧ x < 256) → Q (.ref p) H'
-- slots of _law_octets: 0 _law_draw, 1 _law_count, 2 _law_j
theorem sc_law_octets : FnScope ["_law_draw", "_law_count", "_law_j"] ["_law_draw", "_law_count"] (defScope s_law_octets) := ⟨rfl, rfl, rfl, by decide +kernel, rfl, by decide +kernel, by decide +kernel⟩
theorem ok_law_octets (T : Tx K mg) : FnR P w K mg base (L2.CX P w) 1 (He.ga K "_law_octets") spOctets := by
  refine mk_fn (df_law_octets T) sc_law_octets (fun _ _ _ _ _ _ us hl => match us, hl with | [_, _], _ => rfl) (fun vs H Q E h => ?_) (fun cdv A outer s H vs Q E tk po hr h => ?_)
  · obtain ⟨_, _, rfl, _⟩ := h
    rfl
  obtain ⟨d, n, rfl, hn, k⟩ := h
  refine ⟨_, (pss_cons (ps_if (pt_cmpR op_eq (pe_op op_mod (pe_callTy call_int1 (by rfl) (f_int T) (by decide +kernel) (pa_cons (pv 0) pa_nil)) pe_int) pe_int (nomark _))
    (pss_one (ps_ret (pe_lc (own := [("_law_j", 2)]) (g := gName 2)  rfl sc_law_octets.nd (pi_range1 rfl (f_range T) (pa_cons (pv 1) pa_nil)) (blkOk_by (N := ["_law_draw", "_law_count", "_law_j"]) (sc := defScope s_law_octets) (by decide +kernel)) (fun _ _ _ _ _ => (pg_name (i := 2) sc_law_octets.nd rfl (Or.inl rfl))) (fun _ _ _ _ _ => pts_nil) (fun _ _ _ _ _ => pe_int))))
    pss_nil)
    (pss_one (ps_ret (pe_lc (own := [("_law_j", 2)]) (g := gName 2)  rfl sc_law_octets.nd (pi_range1 rfl (f_range T) (pa_cons (pv 1) pa_nil)) (blkOk_by (N := ["_law_draw", "_law_count", "_law_j"]) (sc := defScope s_law_octets) (by decide +kernel)) (fun _ _ _ _ _ => (pg_name (i := 2) sc_law_octets.nd rfl (Or.inl rfl))) (fun _ _ _ _ _ => pts_nil) (fun _ _ _ _ _ => (pe_op op_mod (pe_callTy call_int1 (by rfl) (f_int T) (by decide +kernel) (pa_cons (pe_op op_add (pe_op op_fdiv (pv 0) pe_int) (pe_op op_mul pe_int (pv 2))) pa_nil)) pe_int)))))), ?_⟩
  refine ⟨_, rfl, .inl ⟨_, rfl, _, _, rfl, rfl, (by show (0 : Int) < 5; decide), rfl, _, rfl, ?_⟩⟩
  have enn : Int.toNat (n : Int) = n := Int.toNat_natCast n
  refine ite2 (fun _ => ?_) (fun _ => ?_)
  · refine ⟨_, rfl, (n : Int), rfl, by omega, by omega, fun D hD => lc_range (fun i H' => Same H H' ∧ ∃ oct : List Int, H' D = some (.lst (oct.map V.int)) ∧ oct.length = i ∧ ∀ x ∈ oct, 0 ≤ x ∧ x < 256) ⟨same_new hD, [], upd_same, rfl, fun x hx => by cases hx⟩ ?_ ?_⟩
    · rintro i H' hi ⟨sm, oct, ho, hl, hb⟩
      refine ⟨rfl, _, ho, by rw [List.length_map, sizeLine_eq]; omega, same_mut sm hD, oct ++ [0], by rw [upd_same, List.map_append]; rfl, by rw [List.length_append, hl]; rfl, fun x hx => by
        rcases List.mem_append.mp hx with h | h
        · exact hb x h
        · rw [List.mem_singleton.mp h]; omega⟩
    · rintro H' ⟨sm, oct, ho, hl, hb⟩
      exact k D oct H' sm hD ho (by omega) hb
  · refine ⟨_, rfl, (n : Int), rfl, by omega, by omega, fun D hD => lc_range (fun i H' => Same H H' ∧ ∃ oct : List Int, H' D = some (.lst (oct.map V.int)) ∧ oct.length = i ∧ ∀ x ∈ oct, 0 ≤ x ∧ x < 256) ⟨same_new hD, [], upd_same, rfl, fun x hx => by cases hx⟩ ?_ ?_⟩
    · rintro i H' hi ⟨sm, oct, ho, hl, hb⟩
      refine ⟨rfl, _, rfl, _, _, rfl, rfl, (by constructor <;> decide), _, rfl, _, _, rfl, rfl, .inl (by constructor <;> decide), _, _, rfl, rfl, .inl ⟨_, rfl, _, _, rfl, rfl, (by show (0 : Int) < 256; decide), ?_⟩⟩
      exact ⟨_, ho, by rw [List.length_map, sizeLine_eq]; omega, same_mut sm hD, oct ++ [_], by rw [upd_same, List.map_append]; rfl, by rw [List.length_append, hl]; rfl, fun x hx => by
        rcases List.mem_append.mp hx with h | h
        · exact hb x h
        · rw [List.mem_singleton.mp h]; exact ⟨Int.emod_nonneg _ (by decide), Int.emod_lt_of_pos _ (by decide)⟩⟩
    · rintro H' ⟨sm, oct, ho, hl, hb⟩
      exact k D oct H' sm hD ho (by omega) hb
end
def Op.octs : Op → List Int
  | .write _ _ l => l
  | .writeAt _ _ l => l
  | _ => []
section
variable {P : Program} {w : World} {K : PySem.W.Frag} {mg : Str → Option Value} {base : Heap}
/-! ### _law_asking -/
def spAsking (K : PySem.W.Frag) : Sp := fun vs H Q _ => ∃ (c : Int) (p : Str) (h off len : Nat) (oa : Addr) (oct : List Int), vs = [.int c, .str p, .int h, .int off, .int len, .ref oa] ∧ p ∈ pathL ∧ h < 16 ∧ off ≤ 28672 ∧ len ≤ 28672 ∧ oct.length ≤ 500 ∧ H oa = some (.lst (oct.map V.int)) ∧ (∀ x ∈ oct, 0 ≤ x ∧ x < 256) ∧
  ∀ (o : Op) (xs : List V) (a : Addr) H', Same H H' → H' a = some (.tup (.str o.word :: xs)) → OpA K H' o xs → (∀ b, V.ref b ∈ xs → b = oa) → o.good → (∀ x ∈ o.octs, 0 ≤ x ∧ x < 256) → Q (.ref a) H'
-- slots of _law_asking: 0 _law_kind, 1 _law_path_here, 2 _law_handle_here, 3 _law_offset_here, 4 _law_length, 5 _law_octets_here
theorem sc_law_asking : FnScope ["_law_kind", "_law_path_here", "_law_handle_here", "_law_offset_here", "_law_length", "_law_octets_here"] ["_law_kind", "_law_path_here", "_law_handle_here", "_law_offset_here", "_law_length", "_law_octets_here"] (defScope s_law_asking) := ⟨rfl, rfl, rfl, by decide +kernel, rfl, by decide +kernel, by decide +kernel⟩
theorem ok_law_asking (T : Tx K mg) : FnR P w K mg base (L2.CX P w) 1 (He.ga K "_law_asking") (spAsking K) := by
  refine mk_fn (df_law_asking T) sc_law_asking (fun _ _ _ _ _ _ us hl => match us, hl with | [_, _, _, _, _, _], _ => rfl) (fun vs H Q E h => ?_) (fun cdv A outer s H vs Q E tk po hr h => ?_)
  · obtain ⟨_, _, _, _, _, _, _, rfl, _⟩ := h
    rfl
  obtain ⟨c, p, h, off, len, oa, oct, rfl, hp, h1, h2, h3, h4, ho, hoc, k⟩ := h
  refine ⟨_, (pss_cons (ps_if (pt_cmpR op_eq (pv 0) pe_int (nomark _))
    (pss_one (ps_ret (pe_ix ix_list (pe_lst (pa_cons (pe_tup (pa_cons pe_str (pa_cons (pv 1) pa_nil))) (pa_cons (pe_tup (pa_cons pe_str (pa_cons (pv 1) pa_nil))) (pa_cons (pe_tup (pa_cons pe_str (pa_cons (pv 1) pa_nil))) (pa_cons (pe_tup (pa_cons pe_str (pa_cons (pv 1) pa_nil))) pa_nil))))) (pe_op op_mod (pe_callTy call_int1 (by rfl) (f_int T) (by decide +kernel) (pa_cons (pv 4) pa_nil)) pe_int) (fun _ _ => rfl))))
    pss_nil)
    (pss_cons (ps_if (pt_cmpR op_eq (pv 0) pe_int (nomark _))
    (pss_one (ps_ret (pe_ix ix_list (pe_lst (pa_cons (pe_tup (pa_cons pe_str (pa_cons (pv 1) pa_nil))) (pa_cons (pe_tup (pa_cons pe_str (pa_cons (pv 1) pa_nil))) pa_nil))) (pe_op op_mod (pe_callTy call_int1 (by rfl) (f_int T) (by decide +kernel) (pa_cons (pv 4) pa_nil)) pe_int) (fun _ _ => rfl))))
    pss_nil)
    (pss_cons (ps_if (pt_cmpR op_le (pv 0) pe_int (nomark _))
    (pss_one (ps_ret (pe_tup (pa_cons pe_str (pa_cons (pv 1) pa_nil)))))
    pss_nil)
    (pss_cons (ps_if (pt_cmpR op_eq (pv 0) pe_int (nomark _))
    (pss_one (ps_ret (pe_tup (pa_cons pe_str (pa_cons (pv 2) pa_nil)))))
    pss_nil)
    (pss_cons (ps_if (pt_cmpR op_eq (pv 0) pe_int (nomark _))
    (pss_one (ps_ret (pe_tup (pa_cons pe_str (pa_cons (pv 2) (pa_cons (pv 3) (pa_cons (pv 4) pa_nil)))))))
    pss_nil)
    (pss_cons (ps_if (pt_cmpR op_eq (pv 0) pe_int (nomark _))
    (pss_one (ps_ret (pe_ix ix_list (pe_lst (pa_cons (pe_tup (pa_cons pe_str (pa_cons (pv 2) (pa_cons (pv 3) (pa_cons (pv 5) pa_nil))))) (pa_cons (pe_tup (pa_cons pe_str (pa_cons (pv 2) (pa_cons (pv 4) pa_nil)))) pa_nil))) (pe_op op_mod (pe_callTy call_int1 (by rfl) (f_int T) (by decide +kernel) (pa_cons (pv 4) pa_nil)) pe_int) (fun _ _ => rfl))))
    pss_nil)
    (pss_one (ps_ret (pe_ix ix_list (pe_lst (pa_cons (pe_tup (pa_cons pe_str (pa_cons (pv 2) pa_nil))) (pa_cons (pe_tup (pa_cons pe_str (pa_cons (pv 2) (pa_cons (pv 3) (pa_cons (pv 5) pa_nil))))) pa_nil))) (pe_op op_mod (pe_callTy call_int1 (by rfl) (f_int T) (by decide +kernel) (pa_cons (pv 4) pa_nil)) pe_int) (fun _ _ => rfl)))))))))), ?_⟩
  have one : ∀ (H1 : Hp) (t : Addr), Same H H1 → H1 t = none → ∀ (o : Op) (xs : List V), OpA K (upd H1 t (.tup (.str o.word :: xs))) o xs → (∀ b, V.ref b ∈ xs → b = oa) → o.good → (∀ x ∈ o.octs, 0 ≤ x ∧ x < 256) → Q (.ref t) (upd H1 t (.tup (.str o.word :: xs))) := fun H1 t s1 ht o xs hA hb hg hs =>
    k o xs t _ (s1.trans (same_new ht)) upd_same hA hb hg hs
  refine ⟨_, rfl, rfl, _, rfl, ?_⟩
  refine ite2 (fun _ => ?_) (fun _ => ?_)
  · refine ⟨_, rfl, (by show 2 ≤ sizeLine; decide), fun t1 y1 => ?_⟩
    refine ⟨_, rfl, (by show 2 ≤ sizeLine; decide), fun t2 y2 => ?_⟩
    refine ⟨_, rfl, (by show 2 ≤ sizeLine; decide), fun t3 y3 => ?_⟩
    refine ⟨_, rfl, (by show 2 ≤ sizeLine; decide), fun t4 y4 => ?_⟩
    refine ⟨(by show 4 ≤ sizeLine; decide), fun l hl0 => ?_⟩
    have s1 := same_new (o := .tup [V.str "readlink", V.str p]) y1
    have s2 := same_new (o := .tup [V.str "readdir", V.str p]) y2
    have s3 := same_new (o := .tup [V.str "lstat", V.str p]) y3
    have s4 := same_new (o := .tup [V.str "stat", V.str p]) y4
    have s5 := same_new (o := .lst [V.ref t1, V.ref t2, V.ref t3, V.ref t4]) hl0
    obtain ⟨x, hx, hat⟩ := mod_at (l := [V.ref t1, V.ref t2, V.ref t3, V.ref t4]) (i := (len : Int)) (m := 4) rfl (by decide)
    refine ⟨_, rfl, .inl ⟨_, rfl, _, _, rfl, rfl, (by show (0 : Int) < 4; decide), l, _, _, _, rfl, rfl, SqL.of upd_same, hat, ?_⟩⟩
    have sall := (((s1.trans s2).trans s3).trans s4).trans s5
    simp only [List.mem_cons, List.not_mem_nil, or_false] at hx
    rcases hx with rfl | rfl | rfl | rfl
    · exact k (.readlink p) [.str p] t1 _ sall (s5 _ _ (s4 _ _ (s3 _ _ (s2 _ _ upd_same)))) rfl (fun b hb => by simp at hb) hp (fun x hx => absurd hx List.not_mem_nil)
    · exact k (.readdir p) [.str p] t2 _ sall (s5 _ _ (s4 _ _ (s3 _ _ upd_same))) rfl (fun b hb => by simp at hb) hp (fun x hx => absurd hx List.not_mem_nil)
    · exact k (.lstat p) [.str p] t3 _ sall (s5 _ _ (s4 _ _ upd_same)) rfl (fun b hb => by simp at hb) hp (fun x hx => absurd hx List.not_mem_nil)
    · exact k (.stat p) [.str p] t4 _ sall (s5 _ _ upd_same) rfl (fun b hb => by simp at hb) hp (fun x hx => absurd hx List.not_mem_nil)
  refine ⟨_, rfl, rfl, _, rfl, ?_⟩
  refine ite2 (fun _ => ?_) (fun _ => ?_)
  · refine ⟨_, rfl, (by show 2 ≤ sizeLine; decide), fun t1 y1 => ?_⟩
    refine ⟨_, rfl, (by show 2 ≤ sizeLine; decide), fun t2 y2 => ?_⟩
    refine ⟨(by show 2 ≤ sizeLine; decide), fun l hl0 => ?_⟩
    have s1 := same_new (o := .tup [V.str "readdir", V.str p]) y1
    have s2 := same_new (o := .tup [V.str "lstat", V.str p]) y2
    have s5 := same_new (o := .lst [V.ref t1, V.ref t2]) hl0
    obtain ⟨x, hx, hat⟩ := mod_at (l := [V.ref t1, V.ref t2]) (i := (len : Int)) (m := 2) rfl (by decide)
    refine ⟨_, rfl, .inl ⟨_, rfl, _, _, rfl, rfl, (by show (0 : Int) < 2; decide), l, _, _, _, rfl, rfl, SqL.of upd_same, hat, ?_⟩⟩
    have sall := (s1.trans s2).trans s5
    simp only [List.mem_cons, List.not_mem_nil, or_false] at hx
    rcases hx with rfl | rfl
    · exact k (.readdir p) [.str p] t1 _ sall (s5 _ _ (s2 _ _ upd_same)) rfl (fun b hb => by simp at hb) hp (fun x hx => absurd hx List.not_mem_nil)
    · exact k (.lstat p) [.str p] t2 _ sall (s5 _ _ upd_same) rfl (fun b hb => by simp at hb) hp (fun x hx => absurd hx List.not_mem_nil)
  refine ⟨_, rfl, _, _, rfl, rfl, _, rfl, ?_⟩
  refine ite2 (fun _ => ?_) (fun _ => ?_)
  · exact ⟨_, rfl, (by show 2 ≤ sizeLine; decide), fun t1 y1 => one H t1 (Same.refl _) y1 (.openF p) [.str p] rfl (fun b hb => by simp at hb) hp (fun x hx => absurd hx List.not_mem_nil)⟩
  refine ⟨_, rfl, rfl, _, rfl, ?_⟩
  refine ite2 (fun _ => ?_) (fun _ => ?_)
  · exact ⟨_, rfl, (by show 2 ≤ sizeLine; decide), fun t1 y1 => one H t1 (Same.refl _) y1 (.closeF h) [.int h] rfl (fun b hb => by simp at hb) h1 (fun x hx => absurd hx List.not_mem_nil)⟩
  refine ⟨_, rfl, rfl, _, rfl, ?_⟩
  refine ite2 (fun _ => ?_) (fun _ => ?_)
  · exact ⟨_, rfl, _, rfl, _, rfl, (by show 4 ≤ sizeLine; decide), fun t1 y1 => one H t1 (Same.refl _) y1 (.readAt h off len) [.int h, .int off, .int len] rfl (fun b hb => by simp at hb) ⟨h1, h2, h3⟩ (fun x hx => absurd hx List.not_mem_nil)⟩
  have goodw : (Op.writeAt h off oct).good := ⟨h1, h2, by omega⟩
  refine ⟨_, rfl, rfl, _, rfl, ?_⟩
  refine ite2 (fun _ => ?_) (fun _ => ?_)
  · refine ⟨_, rfl, _, rfl, _, rfl, (by show 4 ≤ sizeLine; decide), fun t1 y1 => ?_⟩
    refine ⟨_, rfl, _, rfl, (by show 3 ≤ sizeLine; decide), fun t2 y2 => ?_⟩
    refine ⟨(by show 2 ≤ sizeLine; decide), fun l hl0 => ?_⟩
    have s1 := same_new (o := .tup [V.str "write_at", V.int h, V.int off, V.ref oa]) y1
    have s2 := same_new (o := .tup [V.str "resize", V.int h, V.int len]) y2
    have s5 := same_new (o := .lst [V.ref t1, V.ref t2]) hl0
    obtain ⟨x, hx, hat⟩ := mod_at (l := [V.ref t1, V.ref t2]) (i := (len : Int)) (m := 2) rfl (by decide)
    refine ⟨_, rfl, .inl ⟨_, rfl, _, _, rfl, rfl, (by show (0 : Int) < 2; decide), l, _, _, _, rfl, rfl, SqL.of upd_same, hat, ?_⟩⟩
    have sall := (s1.trans s2).trans s5
    simp only [List.mem_cons, List.not_mem_nil, or_false] at hx
    rcases hx with rfl | rfl
    · exact k (.writeAt h off oct) [.int h, .int off, .ref oa] t1 _ sall (s5 _ _ (s2 _ _ upd_same)) ⟨oa, rfl, sall _ _ ho⟩ (fun b hb => by simpa using hb) goodw hoc
    · exact k (.resize h len) [.int h, .int len] t2 _ sall (s5 _ _ upd_same) rfl (fun b hb => by simp at hb) ⟨h1, h3⟩ (fun x hx => absurd hx List.not_mem_nil)
  · refine ⟨_, rfl, (by show 2 ≤ sizeLine; decide), fun t1 y1 => ?_⟩
    refine ⟨_, rfl, _, rfl, _, rfl, (by show 4 ≤ sizeLine; decide), fun t2 y2 => ?_⟩
    refine ⟨(by show 2 ≤ sizeLine; decide), fun l hl0 => ?_⟩
    have s1 := same_new (o := .tup [V.str "stat_at", V.int h]) y1
    have s2 := same_new (o := .tup [V.str "write_at", V.int h, V.int off, V.ref oa]) y2
    have s5 := same_new (o := .lst [V.ref t1, V.ref t2]) hl0
    obtain ⟨x, hx, hat⟩ := mod_at (l := [V.ref t1, V.ref t2]) (i := (len : Int)) (m := 2) rfl (by decide)
    refine ⟨_, rfl, .inl ⟨_, rfl, _, _, rfl, rfl, (by show (0 : Int) < 2; decide), l, _, _, _, rfl, rfl, SqL.of upd_same, hat, ?_⟩⟩
    have sall := (s1.trans s2).trans s5
    simp only [List.mem_cons, List.not_mem_nil, or_false] at hx
    rcases hx with rfl | rfl
    · exact k (.statAt h) [.int h] t1 _ sall (s5 _ _ (s2 _ _ upd_same)) rfl (fun b hb => by simp at hb) h1 (fun x hx => absurd hx List.not_mem_nil)
    · exact k (.writeAt h off oct) [.int h, .int off, .ref oa] t2 _ sall (s5 _ _ upd_same) ⟨oa, rfl, sall _ _ ho⟩ (fun b hb => by simpa using hb) goodw hoc
/-! ### _law_operation -/
def spOperation (K : PySem.W.Frag) : Sp := fun vs H Q _ => ∃ d : Int, vs = [.int d] ∧
  ∀ (o : Op) (xs : List V) (a : Addr) H', Same H H' → H' a = some (.tup (.str o.word :: xs)) → OpA K H' o xs → (∀ b, V.ref b ∈ xs → H b = none) → o.good → (∀ x ∈ o.octs, 0 ≤ x ∧ x < 256) → Q (.ref a) H'
-- slots of _law_operation: 0 _law_draw, 1 _law_kind, 2 _law_path_here, 3 _law_other, 4 _law_handle_here, 5 _law_offset_here, 6 _law_octets_here, 7 _law_length
theorem sc_law_operation : FnScope ["_law_draw", "_law_kind", "_law_path_here", "_law_other", "_law_handle_here", "_law_offset_here", "_law_octets_here", "_law_length"] ["_law_draw"] (defScope s_law_operation) := ⟨rfl, rfl, rfl, by decide +kernel, rfl, by decide +kernel, by decide +kernel⟩
theorem ok_law_operation (T : Tx K mg) : FnR P w K mg base (L2.CX P w) 2 (He.ga K "_law_operation") (spOperation K) := by
  have G_law_path := ok_law_path (P := P) (w := w) (base := base) T
  have G_law_offset := ok_law_offset (P := P) (w := w) (base := base) T
  have G_law_octets := ok_law_octets (P := P) (w := w) (base := base) T
  have G_law_asking := ok_law_asking (P := P) (w := w) (base := base) T
  have G_law_target := ok_law_target (P := P) (w := w) (base := base) T
  refine mk_fn (df_law_operation T) sc_law_operation (fun _ _ _ _ _ _ us hl => match us, hl with | [_], _ => rfl) (fun vs H Q E h => ?_) (fun cdv A outer s H vs Q E tk po hr h => ?_)
  · obtain ⟨_, rfl, _⟩ := h
    rfl
  obtain ⟨d, rfl, k⟩ := h
  refine ⟨_, (pss_cons (ps_set (i := 1) sc_law_operation.nd rfl (Or.inl rfl) (pe_op op_mod (pe_callTy call_int1 (by rfl) (f_int T) (by decide +kernel) (pa_cons (pv 0) pa_nil)) pe_int))
    (pss_cons (ps_set (i := 0) sc_law_operation.nd rfl (Or.inl rfl) (pe_op op_fdiv (pv 0) pe_int))
    (pss_cons (ps_set (i := 2) sc_law_operation.nd rfl (Or.inl rfl) (pe_callR G_law_path (hr.mono (by decide)) rfl (g_law_path T) (k_law_path T) (pc_of tk) (pa_cons (pv 0) pa_nil)))
    (pss_cons (ps_set (i := 3) sc_law_operation.nd rfl (Or.inl rfl) (pe_callR G_law_path (hr.mono (by decide)) rfl (g_law_path T) (k_law_path T) (pc_of tk) (pa_cons (pe_op op_fdiv (pv 0) pe_int) pa_nil)))
    (pss_cons (ps_set (i := 0) sc_law_operation.nd rfl (Or.inl rfl) (pe_op op_fdiv (pv 0) pe_int))
    (pss_cons (ps_set (i := 4) sc_law_operation.nd rfl (Or.inl rfl) (pe_op op_mod (pe_callTy call_int1 (by rfl) (f_int T) (by decide +kernel) (pa_cons (pv 0) pa_nil)) pe_int))
    (Evl.pss_cut (ps_if (pt_cmpR op_ge (pv 1) pe_int (nomark _))
    (pss_one (ps_set (i := 4) sc_law_operation.nd rfl (Or.inl rfl) (pe_op op_mod (pe_callTy call_int1 (by rfl) (f_int T) (by decide +kernel) (pa_cons (pv 0) pa_nil)) pe_int)))
    pss_nil)
    (pss_cons (ps_set (i := 5) sc_law_operation.nd rfl (Or.inl rfl) (pe_callR G_law_offset (hr.mono (by decide)) rfl (g_law_offset T) (k_law_offset T) (pc_of tk) (pa_cons (pe_op op_fdiv (pv 0) pe_int) pa_nil)))
    (pss_cons (ps_set (i := 6) sc_law_operation.nd rfl (Or.inl rfl) (pe_callR G_law_octets (hr.mono (by decide)) rfl (g_law_octets T) (k_law_octets T) (pc_of tk) (pa_cons (pe_op op_fdiv (pv 0) pe_int) (pa_cons (pe_ix ix_list (pe_lst (pa_cons pe_int (pa_cons pe_int (pa_cons pe_int (pa_cons pe_int (pa_cons pe_int pa_nil)))))) (pe_op op_mod (pe_callTy call_int1 (by rfl) (f_int T) (by decide +kernel) (pa_cons (pe_op op_fdiv (pv 0) pe_int) pa_nil)) pe_int) (fun _ _ => rfl)) pa_nil))))
    (pss_cons (ps_set (i := 7) sc_law_operation.nd rfl (Or.inl rfl) (pe_ix ix_list (pe_lst (pa_cons pe_int (pa_cons pe_int (pa_cons pe_int (pa_cons pe_int (pa_cons pe_int (pa_cons pe_int (pa_cons pe_int pa_nil)))))))) (pe_op op_mod (pe_callTy call_int1 (by rfl) (f_int T) (by decide +kernel) (pa_cons (pe_op op_fdiv (pv 0) pe_int) pa_nil)) pe_int) (fun _ _ => rfl)))
    (Evl.pss_cut (ps_if (pt_cmpR op_eq (pe_op op_mod (pe_callTy call_int1 (by rfl) (f_int T) (by decide +kernel) (pa_cons (pe_op op_fdiv (pv 0) pe_int) pa_nil)) pe_int) pe_int (nomark _))
    (pss_one (ps_set (i := 7) sc_law_operation.nd rfl (Or.inl rfl) pe_int))
    pss_nil)
    (pss_cons (ps_if (pt_cmpR op_le (pv 1) pe_int (nomark _))
    (pss_one (ps_ret (pe_tup (pa_cons pe_str (pa_cons (pv 2) pa_nil)))))
    pss_nil)
    (pss_cons (ps_if (pt_cmpR op_le (pv 1) pe_int (nomark _))
    (pss_one (ps_ret (pe_tup (pa_cons pe_str (pa_cons (pv 2) (pa_cons (pv 5) (pa_cons (pv 6) pa_nil)))))))
    pss_nil)
    (pss_cons (ps_if (pt_cmpR op_eq (pv 1) pe_int (nomark _))
    (pss_one (ps_ret (pe_tup (pa_cons pe_str (pa_cons (pv 2) pa_nil)))))
    pss_nil)
    (pss_cons (ps_if (pt_cmpR op_eq (pv 1) pe_int (nomark _))
    (pss_one (ps_ret (pe_tup (pa_cons pe_str (pa_cons (pv 2) (pa_cons (pv 5) (pa_cons (pv 7) pa_nil)))))))
    pss_nil)
    (pss_cons (ps_if (pt_cmpR op_eq (pv 1) pe_int (nomark _))
    (pss_one (ps_ret (pe_tup (pa_cons pe_str (pa_cons (pv 2) (pa_cons (pv 7) pa_nil))))))
    pss_nil)
    (pss_cons (ps_if (pt_cmpR op_le (pv 1) pe_int (nomark _))
    (pss_one (ps_ret (pe_tup (pa_cons pe_str (pa_cons (pv 2) (pa_cons (pv 3) pa_nil))))))
    pss_nil)
    (pss_cons (ps_if (pt_cmpR op_le (pv 1) pe_int (nomark _))
    (pss_one (ps_ret (pe_tup (pa_cons pe_str (pa_cons (pv 2) (pa_cons (pv 3) pa_nil))))))
    pss_nil)
    (pss_cons (ps_if (pt_cmpR op_eq (pv 1) pe_int (nomark _))
    (pss_one (ps_ret (pe_tup (pa_cons pe_str (pa_cons (pv 2) pa_nil)))))
    pss_nil)
    (pss_cons (ps_if (pt_cmpR op_le (pv 1) pe_int (nomark _))
    (pss_one (ps_ret (pe_tup (pa_cons pe_str (pa_cons (pe_callR G_law_target (hr.mono (by decide)) rfl (g_law_target T) (k_law_target T) (pc_of tk) (pa_cons (pv 0) pa_nil)) (pa_cons (pv 2) pa_nil))))))
    pss_nil)
    (pss_one (ps_ret (pe_callR G_law_asking (hr.mono (by decide)) rfl (g_law_asking T) (k_law_asking T) (pc_of tk) (pa_cons (pv 1) (pa_cons (pv 2) (pa_cons (pv 4) (pa_cons (pv 5) (pa_cons (pv 7) (pa_cons (pv 6) pa_nil))))))))))))))))))))))))))))), ?_⟩
  refine ⟨_, rfl, .inl ⟨_, rfl, _, _, rfl, rfl, (by show (0 : Int) < 26; decide), ?_⟩⟩
  refine ⟨_, rfl, _, _, rfl, rfl, (by constructor <;> decide), ?_⟩
  refine ⟨_, rfl, _, rfl, fun p H1 s1 hp => ?_⟩
  refine ⟨_, rfl, _, _, rfl, rfl, (by constructor <;> decide), _, rfl, fun q H2 s2 hq => ?_⟩
  refine ⟨_, rfl, _, _, rfl, rfl, (by constructor <;> decide), ?_⟩
  refine ⟨_, rfl, .inl ⟨_, rfl, _, _, rfl, rfl, (by show (0 : Int) < 3; decide), ?_⟩⟩
  have s12 := s1.trans s2
  refine ⟨fun σ' H' => H2 = H' ∧ ∃ h : Nat, h < 16 ∧ σ' = [some (.int (d / 26 / 16777216)), some (.int (d % 26)), some (.str p), some (.str q), some (.int h), none, none, none], ?_, ?_⟩
  · refine ⟨_, rfl, _, _, rfl, rfl, _, rfl, ?_⟩
    refine ite2 (fun _ => ?_) (fun _ => ?_)
    · refine ⟨_, rfl, .inl ⟨_, rfl, _, _, rfl, rfl, (by show (0 : Int) < 16; decide), rfl, (d / 26 / 16777216 % 16).toNat, by omega, ?_⟩⟩
      have e : ((d / 26 / 16777216 % 16).toNat : Int) = d / 26 / 16777216 % 16 := by omega
      rw [e]; rfl
    · refine ⟨rfl, (d / 26 / 16777216 % 3).toNat, by omega, ?_⟩
      have e : ((d / 26 / 16777216 % 3).toNat : Int) = d / 26 / 16777216 % 3 := by omega
      rw [e]; rfl
  · rintro σ' H' ⟨rfl, h, hh, rfl⟩
    refine ⟨_, rfl, _, _, rfl, rfl, (by constructor <;> decide), _, rfl, fun off H3 s3 hoff => ?_⟩
    refine ⟨_, rfl, _, _, rfl, rfl, (by constructor <;> decide), (by show 5 ≤ sizeLine; decide), fun l hl0 => ?_⟩
    have sl := same_new (o := .lst ([0, 1, 5, 60, 500].map fun n : Nat => V.int n)) hl0
    obtain ⟨x, hx, hat⟩ := mod_at (l := [0, 1, 5, 60, 500].map fun n : Nat => V.int n) (i := d / 26 / 16777216 / 3) (m := 5) rfl (by decide)
    obtain ⟨cnt, rfl, hcnt⟩ := nat_mem hx (b := 500) (by decide)
    refine ⟨_, rfl, _, _, rfl, rfl, (by constructor <;> decide), .inl ⟨_, rfl, _, _, rfl, rfl, (by show (0 : Int) < 5; decide), l, _, _, _, rfl, rfl, SqL.of (xs := [0, 1, 5, 60, 500].map fun n : Nat => V.int n) upd_same, hat, ?_⟩⟩
    refine ⟨_, cnt, rfl, hcnt, fun oa oct H4 s4 ho0 ho hol hoc => ?_⟩
    have s34 := (s12.trans s3).trans (sl.trans s4)
    have ho0 : H oa = none := none_same ((s12.trans s3).trans sl) ho0
    refine ⟨(by show 7 ≤ sizeLine; decide), fun l2 hl2 => ?_⟩
    obtain ⟨x, hx, hat⟩ := mod_at (l := [0, 1, 5, 447, 448, 1000, 30].map fun n : Nat => V.int n) (i := d / 26 / 16777216 / 7) (m := 7) rfl (by decide)
    obtain ⟨len0, rfl, hlen0⟩ := nat_mem hx (b := 28672) (by decide)
    have sl2 := same_new (o := .lst ([0, 1, 5, 447, 448, 1000, 30].map fun n : Nat => V.int n)) hl2
    refine ⟨_, rfl, _, _, rfl, rfl, (by constructor <;> decide), .inl ⟨_, rfl, _, _, rfl, rfl, (by show (0 : Int) < 7; decide), l2, _, _, _, rfl, rfl, SqL.of (xs := [0, 1, 5, 447, 448, 1000, 30].map fun n : Nat => V.int n) upd_same, hat, ?_⟩⟩
    refine ⟨fun σ' H' => Same H H' ∧ H' oa = some (.lst (oct.map V.int)) ∧ ∃ len : Nat, len ≤ 28672 ∧ σ' = [some (.int (d / 26 / 16777216)), some (.int (d % 26)), some (.str p), some (.str q), some (.int h), some (.int off), some (.ref oa), some (.int len)], ?_, ?_⟩
    · refine ⟨_, rfl, _, _, rfl, rfl, (by constructor <;> decide), .inl ⟨_, rfl, _, _, rfl, rfl, (by show (0 : Int) < 24; decide), rfl, _, rfl, ?_⟩⟩
      refine ite2 (fun _ => ?_) (fun _ => ?_)
      · exact ⟨s34.trans sl2, sl2 _ _ ho, 28672, by decide, rfl⟩
      · exact ⟨s34.trans sl2, sl2 _ _ ho, len0, hlen0, rfl⟩
    · rintro σ' H5 ⟨s5, ho, len, hlen, rfl⟩
      refine ⟨_, rfl, _, _, rfl, rfl, _, rfl, ?_⟩
      refine ite2 (fun _ => ?_) (fun _ => ?_)
      · exact ⟨_, rfl, (by show 2 ≤ sizeLine; decide), fun t1 y1 => k (.mkdir p) [.str p] t1 _ (s5.trans (same_new y1)) upd_same rfl (fun b hb => by simp at hb) hp (fun x hx => absurd hx List.not_mem_nil)⟩
      refine ⟨_, rfl, _, _, rfl, rfl, _, rfl, ?_⟩
      refine ite2 (fun _ => ?_) (fun _ => ?_)
      · have mb : ∀ b, V.ref b ∈ ([.str p, .int off, .ref oa] : List V) → H b = none := fun b hb => by
          have e : b = oa := by simpa using hb
          rw [e]; exact ho0
        exact ⟨_, rfl, _, rfl, _, rfl, (by show 4 ≤ sizeLine; decide), fun t1 y1 => k (.write p off oct) [.str p, .int off, .ref oa] t1 _ (s5.trans (same_new y1)) upd_same ⟨oa, rfl, same_new y1 _ _ ho⟩ mb ⟨hp, hoff, by omega⟩ hoc⟩
      refine ⟨_, rfl, rfl, _, rfl, ?_⟩
      refine ite2 (fun _ => ?_) (fun _ => ?_)
      · exact ⟨_, rfl, (by show 2 ≤ sizeLine; decide), fun t1 y1 => k (.rmdir p) [.str p] t1 _ (s5.trans (same_new y1)) upd_same rfl (fun b hb => by simp at hb) hp (fun x hx => absurd hx List.not_mem_nil)⟩
      refine ⟨_, rfl, rfl, _, rfl, ?_⟩
      refine ite2 (fun _ => ?_) (fun _ => ?_)
      · exact ⟨_, rfl, _, rfl, _, rfl, (by show 4 ≤ sizeLine; decide), fun t1 y1 => k (.read p off len) [.str p, .int off, .int len] t1 _ (s5.trans (same_new y1)) upd_same rfl (fun b hb => by simp at hb) ⟨hp, hoff, hlen⟩ (fun x hx => absurd hx List.not_mem_nil)⟩
      refine ⟨_, rfl, rfl, _, rfl, ?_⟩
      refine ite2 (fun _ => ?_) (fun _ => ?_)
      · exact ⟨_, rfl, _, rfl, (by show 3 ≤ sizeLine; decide), fun t1 y1 => k (.truncate p len) [.str p, .int len] t1 _ (s5.trans (same_new y1)) upd_same rfl (fun b hb => by simp at hb) ⟨hp, hlen⟩ (fun x hx => absurd hx List.not_mem_nil)⟩
      refine ⟨_, rfl, _, _, rfl, rfl, _, rfl, ?_⟩
      refine ite2 (fun _ => ?_) (fun _ => ?_)
      · exact ⟨_, rfl, _, rfl, (by show 3 ≤ sizeLine; decide), fun t1 y1 => k (.rename p q) [.str p, .str q] t1 _ (s5.trans (same_new y1)) upd_same rfl (fun b hb => by simp at hb) ⟨hp, hq⟩ (fun x hx => absurd hx List.not_mem_nil)⟩
      refine ⟨_, rfl, _, _, rfl, rfl, _, rfl, ?_⟩
      refine ite2 (fun _ => ?_) (fun _ => ?_)
      · exact ⟨_, rfl, _, rfl, (by show 3 ≤ sizeLine; decide), fun t1 y1 => k (.link p q) [.str p, .str q] t1 _ (s5.trans (same_new y1)) upd_same rfl (fun b hb => by simp at hb) ⟨hp, hq⟩ (fun x hx => absurd hx List.not_mem_nil)⟩
      refine ⟨_, rfl, rfl, _, rfl, ?_⟩
      refine ite2 (fun _ => ?_) (fun _ => ?_)
      · exact ⟨_, rfl, (by show 2 ≤ sizeLine; decide), fun t1 y1 => k (.unlink p) [.str p] t1 _ (s5.trans (same_new y1)) upd_same rfl (fun b hb => by simp at hb) hp (fun x hx => absurd hx List.not_mem_nil)⟩
      refine ⟨_, rfl, _, _, rfl, rfl, _, rfl, ?_⟩
      refine ite2 (fun _ => ?_) (fun _ => ?_)
      · refine ⟨_, rfl, _, rfl, fun g H6 s6 hg => ?_⟩
        exact ⟨_, rfl, (by show 3 ≤ sizeLine; decide), fun t1 y1 => k (.symlink g p) [.str g, .str p] t1 _ ((s5.trans s6).trans (same_new y1)) upd_same rfl (fun b hb => by simp at hb) ⟨hg, hp⟩ (fun x hx => absurd hx List.not_mem_nil)⟩
      · refine ⟨_, rfl, _, rfl, _, rfl, _, rfl, _, rfl, _, rfl, _, p, h, off, len, oa, oct, rfl, hp, hh, hoff, hlen, hol, ho, hoc, fun o xs a H' s6 ha hA hb hg hs => ?_⟩
        exact k o xs a H' (s5.trans s6) ha hA (fun b hb2 => by rw [hb b hb2]; exact ho0) hg hs
end
end Tm

set_option maxHeartbeats 4000000
namespace Tm
open PySem PySem.Spec PyProof.Rows L2
/-- what isinstance asks -/
structure Exs (K : PySem.W.Frag) : Prop where
  exc : ∀ e : Er, ExcC K (He.ga K e.cls)
  kit : ∀ e e' : Er, PySem.W.kitOne K (.ref (He.ga K e.cls)) (.ref (He.ga K e'.cls)) = some (decide (e = e'))
theorem call_isEP {X : Cx} {a D : Addr} {oe : Obj} (hp : (a, oe) ∈ X.pn) (C : ExcC X.K D) (hz : Zc (.ref D) none oe) (hf : ∃ vs, oe.data = .fields vs) : CallR X (.builtin "isinstance") (rIsE X.K D a) := by
  intro pins s σ H xs us Q I r h
  obtain ⟨c, cv, b, rfl, hcv, e, q⟩ := h
  cases r with
  | cons rx rr =>
    cases rr with
    | cons rt rr =>
      cases rr
      cases rx
      have ec := hcv _ rt
      subst ec
      obtain ⟨hget, _⟩ := I.pin (a, oe) (List.mem_append.mpr (.inl hp))
      obtain ⟨vs, hv⟩ := hf
      have J : PySem.W.InstAt s.heap a oe D none := by
        obtain ⟨oc, od, oda, osl⟩ := oe
        obtain ⟨h1, h2⟩ := hz
        dsimp only at h1 h2 hv
        subst h1 h2 hv
        exact ⟨hget, rfl, rfl, trivial⟩
      exact PySem.W.kia_one (PySem.W.handS_kitx_exc C.hg C.hk C.hs C.hd C.ha C.hn C.ht C.hm) I.kIn J e (fun z => nomatch z) fun tk => ⟨.bl b, H, I.kept (t' := tk) fun _ _ z => z, rfl, q⟩
section
variable {P : Program} {w : World} {K : PySem.W.Frag} {mg : Str → Option Value} {base : Heap}
theorem sc_law_word : FnScope ["_law_error"] ["_law_error"] (defScope s_law_word) := ⟨rfl, rfl, rfl, by decide +kernel, rfl, by decide +kernel, by decide +kernel⟩
theorem word_run (T : Tx K mg) (Ex : Exs K) (e : Er) (A : Around) (outer : List Env) (s : Shared) (H : Hp) (Q : VK) (E : XK) (p : Addr × Obj) (hr : L2H.RoomH 1 A) (hpin : L2H.PinOk outer H s p) (hz : Zc (.ref (He.ga K e.cls)) none p.2) (hf : ∃ vs, p.2.data = .fields vs)
    (e0 : Env0 P w K mg base A outer s H) (hQ : Q (.str e.word) H) : codeAny (model P w) A (.call (.ref (He.ga K "_law_word")) ⟨[.ref p.1], []⟩) (CR (L2.CX P w) outer P w H s Q E) s := by
  obtain ⟨fd, F⟩ := df_law_word T
  have hbn := F.bindsN (ps := ["_law_error"]) fun _ _ _ _ _ _ us hl => match us, hl with | [_], _ => rfl
  obtain ⟨oc, od, dV, kV, doc, pm, an, cdv, ct, osl, rfl, lk, hcd, hD, hK⟩ := F.ex
  have S := sc_law_word
  have hl : [V.ref p.1].length = (["_law_error"] : List Str).length := rfl
  have r : Vals [V.ref p.1] [Value.ref p.1] := .cons rfl .nil
  have KX : K.In s.heap := e0.mod.kin.keeps fun b o e => (e0.bs b o e).1
  have hb := hbn s [.ref p.1] KX rfl
  rw [List.append_nil] at hb
  have lim : s.heap.NoLimit := e0.mod.nolimit.keeps fun b o e => (e0.bs b o e).1
  have hkind : ∀ y ∈ (["_law_error"] : List Str).zip [Value.ref p.1], (defScope s_law_word).names.lookup y.1 = some .local ∨ ((defScope s_law_word).names.lookup y.1 = some .cell ∧ ((cellsFrom (s.heap.objs.size + 1) (defScope s_law_word).names []).lookup y.1).isSome = true) := fun ⟨n, v⟩ hy => by
    rcases S.par n (List.of_mem_zip hy).1 with q | q
    · exact .inl q
    · exact .inr ⟨q, PySem.W.cellsFrom_some _ _ _ (.inl q)⟩
  refine codeAny_call_function hr.depth (KX _ _ lk) rfl S.co S.gen rfl (PySem.W.codeRec_of KX hcd) (hb _ _ _ _ ?_)
  refine wpAny_newFunctionEnv_cells S.kind hkind fun env he s1 x => ?_
  subst he
  refine ⟨lim.keeps x.toInCall.keep, codeAny_func ?_⟩
  have I : Inv (L2H.cxH (L2.CX P w) P w K mg base ["_law_error"] "_law_word" (defScope s_law_word) (He.ga K "_law_word") cdv A outer s H E p) [] (L2.start ["_law_error"] [V.ref p.1]) H s1 := L2H.inv_startH S hpin e0 hl r x
  have CI : CallR (L2H.cxH (L2.CX P w) P w K mg base ["_law_error"] "_law_word" (defScope s_law_word) (He.ga K "_law_word") cdv A outer s H E p) (.builtin "isinstance") (rIsE K (He.ga K e.cls) p.1) := call_isEP (List.mem_singleton.mpr rfl) (Ex.exc e) hz hf
  have body : ∃ t, PSs (L2H.cxH (L2.CX P w) P w K mg base ["_law_error"] "_law_word" (defScope s_law_word) (He.ga K "_law_word") cdv A outer s H E p) (defBody s_law_word) t ∧ t { nx := fun _ H' => Q .non H', rt := Q } (L2.start ["_law_error"] [V.ref p.1]) H := by
    refine ⟨_, (pss_cons (ps_if (pt_val (pe_callB CI (by rfl) (f_isinstance T) (by decide +kernel) (pa_cons (pv 0) (pa_cons (pe_glob (v := .ref (He.ga K "NotDirectory")) rfl (e_NotDirectory T).g rfl) pa_nil)))) (pss_one (ps_ret pe_str)) pss_nil)
      (pss_cons (ps_if (pt_val (pe_callB CI (by rfl) (f_isinstance T) (by decide +kernel) (pa_cons (pv 0) (pa_cons (pe_glob (v := .ref (He.ga K "NotFound")) rfl (e_NotFound T).g rfl) pa_nil)))) (pss_one (ps_ret pe_str)) pss_nil)
      (pss_cons (ps_if (pt_val (pe_callB CI (by rfl) (f_isinstance T) (by decide +kernel) (pa_cons (pv 0) (pa_cons (pe_glob (v := .ref (He.ga K "TooManyLinks")) rfl (e_TooManyLinks T).g rfl) pa_nil)))) (pss_one (ps_ret pe_str)) pss_nil)
      (pss_cons (ps_if (pt_val (pe_callB CI (by rfl) (f_isinstance T) (by decide +kernel) (pa_cons (pv 0) (pa_cons (pe_glob (v := .ref (He.ga K "RootFixed")) rfl (e_RootFixed T).g rfl) pa_nil)))) (pss_one (ps_ret pe_str)) pss_nil)
      (pss_cons (ps_if (pt_val (pe_callB CI (by rfl) (f_isinstance T) (by decide +kernel) (pa_cons (pv 0) (pa_cons (pe_glob (v := .ref (He.ga K "IsDirectory")) rfl (e_IsDirectory T).g rfl) pa_nil)))) (pss_one (ps_ret pe_str)) pss_nil)
      (pss_cons (ps_if (pt_val (pe_callB CI (by rfl) (f_isinstance T) (by decide +kernel) (pa_cons (pv 0) (pa_cons (pe_glob (v := .ref (He.ga K "FileTooLarge")) rfl (e_FileTooLarge T).g rfl) pa_nil)))) (pss_one (ps_ret pe_str)) pss_nil)
      (pss_cons (ps_if (pt_val (pe_callB CI (by rfl) (f_isinstance T) (by decide +kernel) (pa_cons (pv 0) (pa_cons (pe_glob (v := .ref (He.ga K "AlreadyExists")) rfl (e_AlreadyExists T).g rfl) pa_nil)))) (pss_one (ps_ret pe_str)) pss_nil)
      (pss_cons (ps_if (pt_val (pe_callB CI (by rfl) (f_isinstance T) (by decide +kernel) (pa_cons (pv 0) (pa_cons (pe_glob (v := .ref (He.ga K "DirectoryFull")) rfl (e_DirectoryFull T).g rfl) pa_nil)))) (pss_one (ps_ret pe_str)) pss_nil)
      (pss_cons (ps_if (pt_val (pe_callB CI (by rfl) (f_isinstance T) (by decide +kernel) (pa_cons (pv 0) (pa_cons (pe_glob (v := .ref (He.ga K "NotEmpty")) rfl (e_NotEmpty T).g rfl) pa_nil)))) (pss_one (ps_ret pe_str)) pss_nil)
      (pss_cons (ps_if (pt_val (pe_callB CI (by rfl) (f_isinstance T) (by decide +kernel) (pa_cons (pv 0) (pa_cons (pe_glob (v := .ref (He.ga K "NotLink")) rfl (e_NotLink T).g rfl) pa_nil)))) (pss_one (ps_ret pe_str)) pss_nil)
      (pss_cons (ps_if (pt_val (pe_callB CI (by rfl) (f_isinstance T) (by decide +kernel) (pa_cons (pv 0) (pa_cons (pe_glob (v := .ref (He.ga K "TooManyOpen")) rfl (e_TooManyOpen T).g rfl) pa_nil)))) (pss_one (ps_ret pe_str)) pss_nil)
      (pss_cons (ps_if (pt_val (pe_callB CI (by rfl) (f_isinstance T) (by decide +kernel) (pa_cons (pv 0) (pa_cons (pe_glob (v := .ref (He.ga K "TooManyFiles")) rfl (e_TooManyFiles T).g rfl) pa_nil)))) (pss_one (ps_ret pe_str)) pss_nil)
      (pss_cons (ps_if (pt_val (pe_callB CI (by rfl) (f_isinstance T) (by decide +kernel) (pa_cons (pv 0) (pa_cons (pe_glob (v := .ref (He.ga K "WithinItself")) rfl (e_WithinItself T).g rfl) pa_nil)))) (pss_one (ps_ret pe_str)) pss_nil)
      (pss_cons (ps_if (pt_val (pe_callB CI (by rfl) (f_isinstance T) (by decide +kernel) (pa_cons (pv 0) (pa_cons (pe_glob (v := .ref (He.ga K "NotOpen")) rfl (e_NotOpen T).g rfl) pa_nil)))) (pss_one (ps_ret pe_str)) pss_nil)
      (pss_one (ps_ret pe_str)))))))))))))))), ?_⟩
    refine ⟨_, rfl, .ref (He.ga K "NotDirectory"), .ref (He.ga K "NotDirectory"), _, rfl, fun u hu => hu, Ex.kit e .nd, _, rfl, ?_⟩
    refine ite2 (fun c => ?_) (fun c_nd => ?_)
    · have ee := of_decide_eq_true c
      subst ee
      exact hQ
    refine ⟨_, rfl, .ref (He.ga K "NotFound"), .ref (He.ga K "NotFound"), _, rfl, fun u hu => hu, Ex.kit e .nf, _, rfl, ?_⟩
    refine ite2 (fun c => ?_) (fun c_nf => ?_)
    · have ee := of_decide_eq_true c
      subst ee
      exact hQ
    refine ⟨_, rfl, .ref (He.ga K "TooManyLinks"), .ref (He.ga K "TooManyLinks"), _, rfl, fun u hu => hu, Ex.kit e .tml, _, rfl, ?_⟩
    refine ite2 (fun c => ?_) (fun c_tml => ?_)
    · have ee := of_decide_eq_true c
      subst ee
      exact hQ
    refine ⟨_, rfl, .ref (He.ga K "RootFixed"), .ref (He.ga K "RootFixed"), _, rfl, fun u hu => hu, Ex.kit e .rf, _, rfl, ?_⟩
    refine ite2 (fun c => ?_) (fun c_rf => ?_)
    · have ee := of_decide_eq_true c
      subst ee
      exact hQ
    refine ⟨_, rfl, .ref (He.ga K "IsDirectory"), .ref (He.ga K "IsDirectory"), _, rfl, fun u hu => hu, Ex.kit e .isd, _, rfl, ?_⟩
    refine ite2 (fun c => ?_) (fun c_isd => ?_)
    · have ee := of_decide_eq_true c
      subst ee
      exact hQ
    refine ⟨_, rfl, .ref (He.ga K "FileTooLarge"), .ref (He.ga K "FileTooLarge"), _, rfl, fun u hu => hu, Ex.kit e .ftl, _, rfl, ?_⟩
    refine ite2 (fun c => ?_) (fun c_ftl => ?_)
    · have ee := of_decide_eq_true c
      subst ee
      exact hQ
    refine ⟨_, rfl, .ref (He.ga K "AlreadyExists"), .ref (He.ga K "AlreadyExists"), _, rfl, fun u hu => hu, Ex.kit e .ae, _, rfl, ?_⟩
    refine ite2 (fun c => ?_) (fun c_ae => ?_)
    · have ee := of_decide_eq_true c
      subst ee
      exact hQ
    refine ⟨_, rfl, .ref (He.ga K "DirectoryFull"), .ref (He.ga K "DirectoryFull"), _, rfl, fun u hu => hu, Ex.kit e .df, _, rfl, ?_⟩
    refine ite2 (fun c => ?_) (fun c_df => ?_)
    · have ee := of_decide_eq_true c
      subst ee
      exact hQ
    refine ⟨_, rfl, .ref (He.ga K "NotEmpty"), .ref (He.ga K "NotEmpty"), _, rfl, fun u hu => hu, Ex.kit e .ne, _, rfl, ?_⟩
    refine ite2 (fun c => ?_) (fun c_ne => ?_)
    · have ee := of_decide_eq_true c
      subst ee
      exact hQ
    refine ⟨_, rfl, .ref (He.ga K "NotLink"), .ref (He.ga K "NotLink"), _, rfl, fun u hu => hu, Ex.kit e .nl, _, rfl, ?_⟩
    refine ite2 (fun c => ?_) (fun c_nl => ?_)
    · have ee := of_decide_eq_true c
      subst ee
      exact hQ
    refine ⟨_, rfl, .ref (He.ga K "TooManyOpen"), .ref (He.ga K "TooManyOpen"), _, rfl, fun u hu => hu, Ex.kit e .tmo, _, rfl, ?_⟩
    refine ite2 (fun c => ?_) (fun c_tmo => ?_)
    · have ee := of_decide_eq_true c
      subst ee
      exact hQ
    refine ⟨_, rfl, .ref (He.ga K "TooManyFiles"), .ref (He.ga K "TooManyFiles"), _, rfl, fun u hu => hu, Ex.kit e .tmf, _, rfl, ?_⟩
    refine ite2 (fun c => ?_) (fun c_tmf => ?_)
    · have ee := of_decide_eq_true c
      subst ee
      exact hQ
    refine ⟨_, rfl, .ref (He.ga K "WithinItself"), .ref (He.ga K "WithinItself"), _, rfl, fun u hu => hu, Ex.kit e .wi, _, rfl, ?_⟩
    refine ite2 (fun c => ?_) (fun c_wi => ?_)
    · have ee := of_decide_eq_true c
      subst ee
      exact hQ
    refine ⟨_, rfl, .ref (He.ga K "NotOpen"), .ref (He.ga K "NotOpen"), _, rfl, fun u hu => hu, Ex.kit e .no, _, rfl, ?_⟩
    refine ite2 (fun c => ?_) (fun c_no => ?_)
    · have ee := of_decide_eq_true c
      subst ee
      exact hQ
    cases e with
    | nd => exact absurd (decide_eq_true rfl) c_nd
    | nf => exact absurd (decide_eq_true rfl) c_nf
    | tml => exact absurd (decide_eq_true rfl) c_tml
    | rf => exact absurd (decide_eq_true rfl) c_rf
    | isd => exact absurd (decide_eq_true rfl) c_isd
    | ftl => exact absurd (decide_eq_true rfl) c_ftl
    | ae => exact absurd (decide_eq_true rfl) c_ae
    | df => exact absurd (decide_eq_true rfl) c_df
    | ne => exact absurd (decide_eq_true rfl) c_ne
    | nl => exact absurd (decide_eq_true rfl) c_nl
    | tmo => exact absurd (decide_eq_true rfl) c_tmo
    | tmf => exact absurd (decide_eq_true rfl) c_tmf
    | wi => exact absurd (decide_eq_true rfl) c_wi
    | no => exact absurd (decide_eq_true rfl) c_no
  obtain ⟨t, ht, hq⟩ := body
  refine wpAny_mono (ht.run [] s1 (L2.start ["_law_error"] [V.ref p.1]) H _ I hq) (fun fl s' hs => ?_) fun e s' hs => hs
  have fin : ∀ {σ' : L2.St} {H' : Hp} {v : V} {u : Value}, Inv (L2H.cxH (L2.CX P w) P w K mg base ["_law_error"] "_law_word" (defScope s_law_word) (He.ga K "_law_word") cdv A outer s H E p) [] σ' H' s' → RelV v u → Q v H' → CE outer P w H s Q u s' :=
    fun {σ' H' v u} J rv q => ⟨v, H', J.os, J.bare, J.base, J.hok, rv, q⟩
  cases fl with
  | ret u =>
    obtain ⟨v, σ', H', J, rv, q⟩ := hs
    exact fin J rv q
  | next =>
    obtain ⟨σ', H', J, q⟩ := hs
    exact fin (v := V.non) (u := Value.none) J rfl q
  | brk =>
    obtain ⟨_, _, _, q⟩ := hs
    exact False.elim q
  | cont =>
    obtain ⟨_, _, _, q⟩ := hs
    exact False.elim q
end
section
variable {X : Cx} {a : Addr} {oe : Obj} {cls : Value} {dd : Option Addr} {pn : List (Addr × Obj)} {i : Nat} {q pos ep : Pos}
/-- _law_word(e) within the suite that holds e -/
theorem pe_word (T : Tx X.K X.mg) (Ex : Exs X.K) (hr : L2H.RoomH 1 X.A) (hg : Gl X "_law_word") (hz : Zc cls dd oe) (hf : ∃ vs, oe.data = .fields vs) (hN : X.N[i]? = some "_law_error") (hv : Vis X.env.scope "_law_error") :
    PE (X.suite a ((a, oe) :: pn)) (.Call (.Name "_law_word" q) [.Name "_law_error" ep] [] pos) (fun σ H Q => ∃ e : Er, cls = .ref (He.ga X.K e.cls) ∧ dd = none ∧ σ[i]? = some (some (.ref a)) ∧ Q (.str e.word) H) := by
  refine ⟨fun pins s σ H Q I h => ?_⟩
  obtain ⟨e, rfl, rfl, hs, hq⟩ := h
  have hgs : Gl (X.suite a ((a, oe) :: pn)) "_law_word" := hg
  refine wpAny_Call_Name_kw (ld_glob I hgs (g_law_word T) ?_ (by decide))
  have ha : L2.PA (X.suite a ((a, oe) :: pn)) [.Name "_law_error" ep] (tCons (tVar i) tNil) := pa_cons (pe_var (X := X.suite a ((a, oe) :: pn)) (pos := ep) (i := i) hN hv) pa_nil
  refine PySem.W.callWith_K (h₀ := X.base) I.ok.mod.kin (k_law_word T) (thn (ha.run pos pins s σ H (fun vs H1 => vs = [.ref a] ∧ H1 = H) I ⟨.ref a, hs, rfl, rfl⟩) fun us s1 ⟨vs, H1, I1, r, ev, eH⟩ => ⟨I1.kIn, ?_⟩) rfl rfl
  subst ev
  rw [eH] at I1
  rw [Vals.ref1 r]
  have P1 := I1.pin (a, oe) (List.mem_append_left _ List.mem_cons_self)
  have hpin : L2H.PinOk (X.suite a ((a, oe) :: pn)).stack H s1 (a, oe) := ⟨P1.1, P1.2.1, fun hm => (List.mem_cons.mp (I1.stkSub a hm)).elim P1.2.2.1 P1.2.2.2.1, P1.2.2.2.2⟩
  refine wpAny_call (codeAny_mono (word_run (P := X.prog) (w := X.w) (base := X.base) T Ex e (X.suite a ((a, oe) :: pn)).A (X.suite a ((a, oe) :: pn)).stack s1 H (fun v H' => Q v H') E0 (a, oe) ⟨hr.dp, hr.un⟩ hpin hz hf I1.env0 hq) fun z s' hzz => ?_)
  cases z with
  | error e => exact pass0' (X := X.suite a ((a, oe) :: pn)) pins σ H s1 e s' I1 hzz
  | ok fl =>
    cases fl with
    | ret u => exact I1.after hzz
    | next => exact False.elim hzz
    | brk => exact False.elim hzz
    | cont => exact False.elim hzz
end
section
variable {P : Program} {w : World} {K : PySem.W.Frag} {mg : Str → Option Value} {base : Heap}
theorem fe_exm (T : Tx K mg) (e : Er) : PySem.W.exmOne K (.ref (He.ga K e.cls)) (.ref (He.ga K "FileError")) = some true := by
  cases e
  · exact He.exm_ok (T.fact 59 rfl)
  · exact He.exm_ok (T.fact 60 rfl)
  · exact He.exm_ok (T.fact 61 rfl)
  · exact He.exm_ok (T.fact 62 rfl)
  · exact He.exm_ok (T.fact 63 rfl)
  · exact He.exm_ok (T.fact 64 rfl)
  · exact He.exm_ok (T.fact 65 rfl)
  · exact He.exm_ok (T.fact 66 rfl)
  · exact He.exm_ok (T.fact 67 rfl)
  · exact He.exm_ok (T.fact 68 rfl)
  · exact He.exm_ok (T.fact 69 rfl)
  · exact He.exm_ok (T.fact 70 rfl)
  · exact He.exm_ok (T.fact 71 rfl)
  · exact He.exm_ok (T.fact 72 rfl)
def spMake (K : PySem.W.Frag) : Sp := fun vs H Q _ => ∃ (t d hl a : Addr) (T : Tr) (o : Op) (xs : List V), vs = [.ref t, .ref a] ∧ PA K H t d hl T ∧ WF T ∧ SqT K H a (.str o.word :: xs) ∧ OpA K H o xs ∧ o.good ∧ (match stepS T o with
  | .ok z => ∀ p x H', Fr (S2 d hl) H H' → PA K H' t d hl z.2 → H' p = some (.tup [.str "ok", x]) → Dp K H' x z.1 → Q (.ref p) H'
  | .error e => ∀ p H', Same H H' → H' p = some (.tup [.str "error", .str e.word]) → Q (.ref p) H')
mutual
theorem dp_same {H H' : Hp} (s : Same H H') : ∀ {v : V} {D : PyData}, Dp K H v D → Dp K H' v D
  | _, _, .non => .non
  | _, _, .bl b => .bl b
  | _, _, .int i => .int i
  | _, _, .str x => .str x
  | _, _, .lst h a => .lst (same_l s h) (dpAll_same s a)
  | _, _, .tup h a => .tup (same_t s h) (dpAll_same s a)
theorem dpAll_same {H H' : Hp} (s : Same H H') : ∀ {vs : List V} {Ds : List PyData}, DpAll K H vs Ds → DpAll K H' vs Ds
  | _, _, .nil => .nil
  | _, _, .cons h t => .cons (dp_same s h) (dpAll_same s t)
end
theorem sc_law_make : FnScope ["_law_tree", "_law_operation_here", "_law_error"] ["_law_tree", "_law_operation_here"] (defScope s_law_make) := ⟨rfl, rfl, rfl, by decide +kernel, rfl, by decide +kernel, by decide +kernel⟩
theorem ok_law_make (T : Tx K mg) (Ac : Acts K w) (Ex : Exs K) : FnR P w K mg base (L2.CX P w) 9 (He.ga K "_law_make") (spMake K) := by
  have G_make_operation := ok_make_operation (P := P) (w := w) (base := base) T Ac
  refine mk_fn (df_law_make T) sc_law_make (fun _ _ _ _ _ _ us hl => match us, hl with | [_, _], _ => rfl) (fun vs H Q E h => ?_) (fun cdv A outer s H vs Q E tk po hr h => ?_)
  · obtain ⟨_, _, _, _, _, _, _, rfl, _⟩ := h
    rfl
  obtain ⟨t, d, hl, a, Tr, o, xs, rfl, pa, W, ha, hA, hg, k⟩ := h
  refine ⟨_, pss_one (ps_try_as (i := 2) rfl rfl sc_law_make.nd rfl rfl ⟨rfl, by decide, .inl T.gFileError⟩ tk
    (fun W pn xe tk _ => pss_one (ps_ret (pe_tup (pa_cons pe_str (pa_cons (pe_callRS G_make_operation (hr.mono (by decide)) rfl (g_make_operation T) (k_make_operation T) (fun σ => passAt tk σ) (pa_cons (pv 0) (pa_cons (pv 1) pa_nil))) pa_nil)))))
    (fun a oe cls d pn hz hf => pss_one (ps_ret (pe_tup (pa_cons pe_str (pa_cons (pe_word (i := 2) T Ex (L2H.roomH_of (hr.mono (by decide))) rfl hz hf rfl (Or.inl rfl)) pa_nil)))))), ?_⟩
  refine ⟨_, rfl, _, rfl, t, d, hl, a, Tr, o, xs, rfl, pa, W, ha, hA, hg, ?_⟩
  cases hS : stepS Tr o with
  | error e =>
    rw [hS] at k
    refine fun H1 s1 => ⟨true, fe_exm T e, fun _ b hb => ?_, fun z => by cases z⟩
    exact ⟨e, rfl, rfl, rfl, (by show 2 ≤ sizeLine; decide), fun p hp => k p _ (s1.trans (same_new hp)) upd_same⟩
  | ok z =>
    rw [hS] at k
    refine fun v H1 f1 pa1 dv => ⟨(by show 2 ≤ sizeLine; decide), fun p hp => ?_⟩
    have s2 := same_new (o := .tup [V.str "ok", v]) hp
    exact k p v _ (f1.trans (Fr.of s2)) (pa1.same s2) upd_same (dp_same s2 dv)
end
end Tm

set_option maxHeartbeats 4000000
namespace Tm
open PySem PySem.Spec PyProof.Rows L2
theorem tgts_ok : (tgtL.all fun s => PyData.strOk s) = true := by decide +kernel
theorem tgt_ok {s : Str} (h : s ∈ tgtL) : PyData.strOk s = true := List.all_eq_true.mp tgts_ok s h
def hD : Option Int → PyData
  | none => .none
  | some n => .int n
section
variable {P : Program} {w : World} {K : PySem.W.Frag} {mg : Str → Option Value} {base : Heap}
theorem dp_hs {H : Hp} : ∀ l : List (Option Int), DpAll K H (l.map hV) (l.map hD)
  | [] => .nil
  | none :: l => .cons .non (dp_hs l)
  | some n :: l => .cons (.int n) (dp_hs l)
theorem canLay_hs : ∀ l : List (Option Int), PyData.canLayAll0 (l.map hD) = true
  | [] => rfl
  | none :: l => canLay_hs l
  | some n :: l => canLay_hs l
theorem depth_hs : ∀ l : List (Option Int), PyData.depthAll (l.map hD) = 0
  | [] => rfl
  | none :: l => by show max 0 (PyData.depthAll (l.map hD)) = 0; rw [depth_hs l]; rfl
  | some n :: l => by show max 0 (PyData.depthAll (l.map hD)) = 0; rw [depth_hs l]; rfl
theorem canLay_ints : ∀ l : List Int, PyData.canLayAll0 (l.map PyData.int) = true
  | [] => rfl
  | _ :: l => canLay_ints l
theorem depth_ints : ∀ l : List Int, PyData.depthAll (l.map PyData.int) = 0
  | [] => rfl
  | _ :: l => by show max 0 (PyData.depthAll (l.map PyData.int)) = 0; rw [depth_ints l]; rfl
def enD (e : Str × Int) : PyData := .tuple [.str e.1, .int e.2]
theorem canLay_ens : ∀ l : List (Str × Int), (∀ q ∈ l, PyData.strOk q.1 = true) → PyData.canLayAll0 (l.map enD) = true
  | [], _ => rfl
  | q :: l, h => by
    have h1 := h q List.mem_cons_self
    have h2 := canLay_ens l fun y hy => h y (List.mem_cons_of_mem _ hy)
    simp [PyData.canLayAll0, PyData.canLay0, enD, h1, h2]
theorem depth_ens : ∀ l : List (Str × Int), PyData.depthAll (l.map enD) ≤ 1
  | [] => Nat.zero_le _
  | q :: l => by
    have h2 := depth_ens l
    show max (PyData.depth (enD q)) (PyData.depthAll (l.map enD)) ≤ 1
    have h3 : PyData.depth (enD q) = 1 := by simp [enD, PyData.depth, PyData.depthAll]
    rw [h3]; omega
theorem shaped_list {l : List PyData} (h : PyData.canLayAll0 l = true) (hd : PyData.depthAll l ≤ 5) : SeqAt.shaped (.list l) = true := by
  unfold SeqAt.shaped
  have e : PyData.depth (.list l) = PyData.depthAll l + 1 := by simp [PyData.depth]
  rw [Bool.and_eq_true, decide_eq_true_eq, e]
  exact ⟨h, by omega⟩
theorem dp_ens {H : Hp} : ∀ {ps : List Addr} {l : List (Str × Int)}, Paired (EnP K H) ps l → DpAll K H (ps.map V.ref) (l.map enD)
  | _, _, .nil => .nil
  | _, _, .cons r t => .cons (.tup r (.cons (.str _) (.cons (.int _) .nil))) (dp_ens t)
/-- two equal data: != says False -/
theorem ne_same {H : Hp} {x y : V} {D : PyData} {Q : VK} (h1 : Dp K H x D) (h2 : Dp K H y D) (hs : SeqAt.shaped D = true) (q : Q (.bl false) H) : rNeD K x y H Q :=
  ⟨D, D, h1, h2, hs, hs, by rw [SeqAt.eqv_refl D (SeqAt.canLay_of_shaped hs)]; exact q⟩
theorem tyx_tup {H : Hp} {a : Addr} {xs : List V} (h : SqT K H a xs) : TyX K H (.ref a) (.type "tuple") := by
  rcases h with (h | ⟨o, h⟩) | ⟨o, its, n, h1, h2, _⟩
  · exact .base (.tup h)
  · exact .fTuple h
  · exact .kTuple h1 h2
theorem sorted_eq {a b c : List Int} (h1 : a.Perm c) (h2 : b.Perm c) (s1 : a.Pairwise (· ≤ ·)) (s2 : b.Pairwise (· ≤ ·)) : a = b :=
  List.Perm.eq_of_pairwise (le := (· ≤ ·)) (fun x y _ _ h1 h2 => Int.le_antisymm h1 h2) s1 s2 (h1.trans h2.symm)
def spSame (K : PySem.W.Frag) : Sp := fun vs H Q _ => ∃ (t d hl dn hn : Addr) (T : Tr), vs = [.ref t, .ref dn, .ref hn] ∧ PA K H t d hl T ∧ LA K dn hn hl H T ∧ WF T ∧ ∀ H', Same H H' → Q (.bl true) H'
-- slots of _law_same: 0 _law_tree, 1 _law_nodes, 2 _law_handles, 3 _law_number, 4 _law_node, 5 _law_due_here
theorem sc_law_same : FnScope ["_law_tree", "_law_nodes", "_law_handles", "_law_number", "_law_node", "_law_due_here"] ["_law_tree", "_law_nodes", "_law_handles"] (defScope s_law_same) := ⟨rfl, rfl, rfl, by decide +kernel, rfl, by decide +kernel, by decide +kernel⟩
theorem ok_law_same (T : Tx K mg) : FnR P w K mg base (L2.CX P w) 1 (He.ga K "_law_same") (spSame K) := by
  refine mk_fn (df_law_same T) sc_law_same (fun _ _ _ _ _ _ us hl => match us, hl with | [_, _, _], _ => rfl) (fun vs H Q E h => ?_) (fun cdv A outer s H vs Q E tk po hr h => ?_)
  · obtain ⟨_, _, _, _, _, _, rfl, _⟩ := h
    rfl
  obtain ⟨t, d, hl, dn, hn, Tr, rfl, pa, la, W, k⟩ := h
  refine ⟨_, (pss_cons (ps_if (PW.pt (pw_or (pt_cmpR (op_neD hr.units) (pe_callTy call_list_of (by rfl) (f_list T) (by decide +kernel) (pa_cons (pe_fld (pv 0) rfl) pa_nil)) (pv 2) (nomark _)) (pw_or1 (pt_cmpR (op_neD hr.units) (pe_callB cr_sortedI (by rfl) (f_sorted T) (by decide +kernel) (pa_cons (pe_callTy (call_list_dK rfl) (by rfl) (f_list T) (by decide +kernel) (pa_cons (pe_fld (pv 0) rfl) pa_nil)) pa_nil)) (pe_callB cr_sortedI (by rfl) (f_sorted T) (by decide +kernel) (pa_cons (pe_callTy (call_list_dK rfl) (by rfl) (f_list T) (by decide +kernel) (pa_cons (pv 1) pa_nil)) pa_nil)) (nomark _)))))
    (pss_one (ps_ret pe_bl))
    pss_nil)
    (pss_cons (ps_for po rfl (pi_list (pe_callB cr_sortedI (by rfl) (f_sorted T) (by decide +kernel) (pa_cons (pe_callTy (call_list_dK rfl) (by rfl) (f_list T) (by decide +kernel) (pa_cons (pv 1) pa_nil)) pa_nil))) (pg_name (i := 3) sc_law_same.nd rfl (Or.inl rfl))
    (pss_cons (ps_set (i := 4) sc_law_same.nd rfl (Or.inl rfl) (pe_dget (hu_of hr) (pe_fld (pv 0) rfl) (pv 3) (fun _ _ => rfl)))
      (pss_cons (ps_set (i := 5) sc_law_same.nd rfl (Or.inl rfl) (pe_dget (hu_of hr) (pv 1) (pv 3) (fun _ _ => rfl)))
      (pss_cons (ps_if (PW.pt (pw_or (pt_cmpR op_ne (pe_fld (pv 4) rfl) (pe_ix ix_list (pv 5) pe_int (fun _ _ => rfl)) (nomark _)) (pw_or1 (pt_cmpR op_ne (pe_fld (pv 4) rfl) (pe_ix ix_list (pv 5) pe_int (fun _ _ => rfl)) (nomark _)))))
      (pss_one (ps_ret pe_bl))
      pss_nil)
      (pss_one (ps_if (pt_cmpR op_eq (pe_ix ix_list (pv 5) pe_int (fun _ _ => rfl)) pe_str (nomark _))
      (pss_one (ps_if (pt_cmpR (op_neD hr.units) (pe_fld (pv 4) rfl) (pe_ix ix_list (pv 5) pe_int (fun _ _ => rfl)) (nomark _))
        (pss_one (ps_ret pe_bl))
        pss_nil))
      (pss_one (ps_if (PW.pt (pw_or (pt_not (pt_val (pe_callB call_isi (by rfl) (f_isinstance T) (by decide +kernel) (pa_cons (pe_fld (pv 4) rfl) (pa_cons (pe_bltn (v := .ty "tuple") rfl (f_tuple T) (by decide +kernel) rfl) pa_nil))))) (pw_or1 (pt_cmpR (op_neD hr.units) (pe_callTy call_list_of (by rfl) (f_list T) (by decide +kernel) (pa_cons (pe_fld (pv 4) rfl) pa_nil)) (pe_ix ix_list (pv 5) pe_int (fun _ _ => rfl)) (nomark _)))))
        (pss_one (ps_ret pe_bl))
        pss_nil))))))))
    (pss_one (ps_ret pe_bl)))), ?_⟩
  obtain ⟨dt, ht⟩ := pa.tree
  obtain ⟨kp, hkp, hkpp⟩ := pa.dict
  obtain ⟨kl, hkl, hklp, _⟩ := la.dict
  refine ⟨_, rfl, t, _, dt, _, _, rfl, ht, T.cT, T.n_handles, tFs_handles _ _, ?_⟩
  have keyL : ∀ {H1 : Hp} {kvs : List (Key × V)} {l : Ns}, Paired (KvL K hn hl H1) kvs l → (kvs.map fun kv => kV kv.1) = (l.map (·.1)).map V.int := by
    intro H1 kvs l h
    induction h with
    | nil => rfl
    | cons r _ ih => rw [List.map_cons, List.map_cons, List.map_cons, ih, r.1]; rfl
  have keyP : ∀ {H1 : Hp} {kvs : List (Key × V)} {l : Ns}, Paired (KvP K H1) kvs l → (kvs.map fun kv => kV kv.1) = (l.map (·.1)).map V.int := by
    intro H1 kvs l h
    induction h with
    | nil => rfl
    | cons r _ ih => rw [List.map_cons, List.map_cons, List.map_cons, ih, r.1]; rfl
  refine ⟨hl, _, rfl, .inl (SqL.of pa.hand), fun l1 hl1 => ⟨_, rfl, ?_⟩⟩
  have s1 := same_new (o := .lst (Tr.hs.map hV)) hl1
  refine ne_same (D := .list (Tr.hs.map hD)) (.lst (SqL.of upd_same) (dp_hs _)) (.lst (SqL.of (s1 _ _ la.hand)) (dp_hs _)) (shaped_list (canLay_hs _) (by rw [depth_hs]; exact Nat.zero_le _)) ?_
  refine ⟨_, rfl, ?_⟩
  refine ite2 (fun c => absurd c (by decide)) (fun _ => ?_)
  refine ⟨_, rfl, t, _, dt, _, _, rfl, s1 _ _ ht, T.cT, T.n_nodes, tFs_nodes _ _, d, kp, rfl, s1 _ _ hkp, fun l2 hl2 => ?_⟩
  rw [keyP hkpp]
  have s2 := s1.trans (same_new (o := .lst ((Tr.nodes.map (·.1)).map V.int)) hl2)
  refine ⟨l2, _, rfl, SqL.of upd_same, fun ys1 l3 hp1 hs1 hl3 => ?_⟩
  have s3 := s2.trans (same_new (o := .lst (ys1.map V.int)) hl3)
  have hl3' : upd (upd (upd H l1 (.lst (Tr.hs.map hV))) l2 (.lst ((Tr.nodes.map (·.1)).map V.int))) l3 (.lst (ys1.map V.int)) l3 = some (.lst (ys1.map V.int)) := upd_same
  generalize upd (upd (upd H l1 (.lst (Tr.hs.map hV))) l2 (.lst ((Tr.nodes.map (·.1)).map V.int))) l3 (.lst (ys1.map V.int)) = H3 at s3 hl3' ⊢
  refine ⟨_, rfl, dn, kl, rfl, s3 _ _ hkl, fun l4 hl4 => ?_⟩
  rw [keyL hklp]
  have s4 := same_new (o := .lst ((Tr.nodes.map (·.1)).map V.int)) hl4
  refine ⟨l4, _, rfl, SqL.of upd_same, fun ys2 l5 hp2 hs2 hl5 => ?_⟩
  have s5 := s4.trans (same_new (o := .lst (ys2.map V.int)) hl5)
  have e12 : ys1 = ys2 := sorted_eq hp1 hp2 hs1 hs2
  subst e12
  have i1 : ∀ l : List Int, l.map V.int = l.map V.int := fun _ => rfl
  refine ne_same (D := .list (ys1.map PyData.int)) (.lst (SqL.of (s5 _ _ hl3')) (dpAll_ints _)) (.lst (SqL.of upd_same) (dpAll_ints _)) (shaped_list (canLay_ints _) (by rw [depth_ints]; exact Nat.zero_le _)) ?_
  refine ⟨_, rfl, ?_⟩
  refine ite2 (fun c => absurd c (by decide)) (fun _ => ?_)
  have s6 := s3.trans s5
  generalize upd (upd H3 l4 (.lst ((Tr.nodes.map (·.1)).map V.int))) l5 (.lst (ys1.map V.int)) = H5 at s5 s6 ⊢
  refine ⟨_, rfl, dn, kl, rfl, s6 _ _ hkl, fun l6 hl6 => ?_⟩
  rw [keyL hklp]
  have s7 := s6.trans (same_new (o := .lst ((Tr.nodes.map (·.1)).map V.int)) hl6)
  refine ⟨l6, _, rfl, SqL.of upd_same, fun ys3 l7 hp3 hs3 hl7 => ?_⟩
  have s8 := s7.trans (same_new (o := .lst (ys3.map V.int)) hl7)
  have hl8 : upd (upd H5 l6 (.lst ((Tr.nodes.map (·.1)).map V.int))) l7 (.lst (ys3.map V.int)) l7 = some (.lst (ys3.map V.int)) := upd_same
  generalize upd (upd H5 l6 (.lst ((Tr.nodes.map (·.1)).map V.int))) l7 (.lst (ys3.map V.int)) = H8 at s8 hl8 ⊢
  refine ⟨l7, rfl, ⟨_, SqL.of hl8⟩, ?_⟩
  refine for_list (K := K) (a := l7) (xs := ys3.map V.int) (fun i σ H' => ∃ a3 a4 a5, σ = [some (.ref t), some (.ref dn), some (.ref hn), a3, a4, a5] ∧ Same H8 H') ⟨none, none, none, rfl, Same.refl _⟩ (fun i σ H' _ ⟨_, _, _, _, s⟩ => SqL.of (s _ _ hl8)) ?_ ?_
  · rintro i y σ H9 hi ⟨a3, a4, a5, rfl, s9⟩
    obtain ⟨n, hn1, rfl⟩ : ∃ n, ys3[i]? = some n ∧ y = V.int n := by
      rw [List.getElem?_map] at hi
      cases h1 : ys3[i]? with
      | none => rw [h1] at hi; cases hi
      | some q => rw [h1] at hi; exact ⟨q, rfl, (Option.some.inj hi).symm⟩
    obtain ⟨⟨n', nd⟩, hmp, rfl⟩ := List.mem_map.mp (hp3.mem_iff.mp (List.mem_of_getElem? hn1))
    have hml : lk Tr.nodes n' = some nd := lk_of_mem W.nd hmp
    have sa := s8.trans s9
    have pa9 := pa.same sa
    have la9 := la.same sa
    refine rd_nodes (n := n') T pa9 (by rfl) (by rfl) hml (fun p np => ?_)
    refine ⟨_, rfl, _, rfl, ?_⟩
    refine ld_node la9 hml (fun q nq => ?_)
    obtain ⟨dx, bv, hp0, hb⟩ := np
    obtain ⟨bw, hq0, hc⟩ := nq
    have np2 : NodeP K H9 p nd := ⟨dx, bv, hp0, hb⟩
    refine rd_fkind T np2 (by rfl) ?_
    refine ⟨_, rfl, q, _, 0, _, rfl, rfl, SqL.of hq0, atI_nat (j := 0) rfl, rfl, _, rfl, ?_⟩
    refine ite2 (fun c => absurd rfl (ne_str.mp c)) (fun _ => ?_)
    refine rd_flinks T np2 (by rfl) ?_
    refine ⟨_, rfl, q, _, 2, _, rfl, rfl, SqL.of hq0, atI_nat (j := 2) rfl, rfl, _, rfl, ?_⟩
    refine ite2 (fun c => absurd rfl (ne_int.mp c)) (fun _ => ?_)
    refine ⟨_, rfl, q, _, 0, _, rfl, rfl, SqL.of hq0, atI_nat (j := 0) rfl, rfl, _, rfl, ?_⟩
    obtain ⟨b, kk⟩ := nd
    cases b with
    | tgt z =>
      have e1 : bv = V.str z := hb
      have e2 : bw = V.str z := hc
      subst e1 e2
      refine ite2 (fun _ => ?_) (fun c => absurd (eq_str.mpr rfl) c)
      refine ⟨_, rfl, p, _, dx, _, _, rfl, hp0, T.cN, T.n_body, nFs_body _ _, ?_⟩
      refine ⟨_, rfl, q, _, 1, _, rfl, rfl, SqL.of hq0, atI_nat (j := 1) rfl, ?_⟩
      refine ne_same (D := .str z) (.str z) (.str z) (by have h := tgt_ok (W.tg _ _ _ hml); simp [SeqAt.shaped, PyData.canLay0, PyData.depth, h]) ?_
      refine ⟨_, rfl, ?_⟩
      refine ite2 (fun c => absurd c (by decide)) (fun _ => ?_)
      exact ⟨_, _, _, rfl, s9⟩
    | oct l =>
      obtain ⟨b, rfl, hs⟩ := hb
      obtain ⟨c, rfl, _, _, hcs⟩ := hc
      refine ite2 (fun c => absurd (eq_str.mp c) kd3) (fun _ => ?_)
      refine ⟨_, rfl, p, _, dx, _, _, rfl, hp0, T.cN, T.n_body, nFs_body _ _, ?_⟩
      refine ⟨_, _, _, _, true, rfl, .ty "tuple", tyx_tup hs, kit_ty (by decide +kernel), _, rfl, ?_⟩
      refine ite2 (fun c => absurd c (by decide)) (fun _ => ?_)
      refine ⟨_, rfl, p, _, dx, _, _, rfl, hp0, T.cN, T.n_body, nFs_body _ _, ?_⟩
      refine ⟨b, _, rfl, .inr hs, fun m hm => ?_⟩
      have sm := same_new (o := .lst (l.map V.int)) hm
      refine ⟨_, rfl, q, _, 1, _, rfl, rfl, SqL.of (sm _ _ hq0), atI_nat (j := 1) rfl, ?_⟩
      refine ne_same (D := .list (l.map PyData.int)) (.lst (SqL.of upd_same) (dpAll_ints _)) (.lst (SqL.of (sm _ _ hcs)) (dpAll_ints _)) (shaped_list (canLay_ints _) (by rw [depth_ints]; exact Nat.zero_le _)) ?_
      refine ⟨_, rfl, ?_⟩
      refine ite2 (fun c => absurd c (by decide)) (fun _ => ?_)
      exact ⟨_, _, _, rfl, s9.trans sm⟩
    | ent l =>
      obtain ⟨b, ps, rfl, hs, hps⟩ := hb
      obtain ⟨c, qs, rfl, _, _, hcs, hqs⟩ := hc
      have hnm := W.nm _ _ _ hml
      refine ite2 (fun c => absurd (eq_str.mp c) kd4) (fun _ => ?_)
      refine ⟨_, rfl, p, _, dx, _, _, rfl, hp0, T.cN, T.n_body, nFs_body _ _, ?_⟩
      refine ⟨_, _, _, _, true, rfl, .ty "tuple", tyx_tup hs, kit_ty (by decide +kernel), _, rfl, ?_⟩
      refine ite2 (fun c => absurd c (by decide)) (fun _ => ?_)
      refine ⟨_, rfl, p, _, dx, _, _, rfl, hp0, T.cN, T.n_body, nFs_body _ _, ?_⟩
      refine ⟨b, _, rfl, .inr hs, fun m hm => ?_⟩
      have sm := same_new (o := .lst (ps.map V.ref)) hm
      refine ⟨_, rfl, q, _, 1, _, rfl, rfl, SqL.of (sm _ _ hq0), atI_nat (j := 1) rfl, ?_⟩
      refine ne_same (D := .list (l.map enD)) (.lst (SqL.of upd_same) (dp_ens (paired_imp (fun _ _ z => same_t sm z) hps))) (.lst (SqL.of (sm _ _ hcs)) (dp_ens (paired_imp (fun _ _ z => same_t sm z) hqs))) (shaped_list (canLay_ens _ hnm) (by have := depth_ens l; omega)) ?_
      refine ⟨_, rfl, ?_⟩
      refine ite2 (fun c => absurd c (by decide)) (fun _ => ?_)
      exact ⟨_, _, _, rfl, s9.trans sm⟩
  · rintro σ H9 ⟨a3, a4, a5, rfl, s9⟩
    exact k H9 (s8.trans s9)
end
end Tm

set_option maxHeartbeats 4000000
namespace Tm
open PySem PySem.Spec PyProof.Rows L2
/-! ### operations as data -/
structure Nice (d : PyData) : Prop where
  lay : d.canLay0 = true
  dep : d.depth ≤ 2
  ish : d.intsShort 13 = true
  sh : d.showable = true
  nd : d.hasDict = false
  bk : d.bulk ≤ 20000
theorem log2_small {n : Nat} (h : n < 2 ^ 40) : n.log2 < 1920 := by
  by_cases z : n = 0
  · subst z; decide
  · have : n.log2 < 40 := (Nat.log2_lt z).mpr h
    omega
theorem nice_int {i : Int} (h : i.natAbs ≤ 1000000) : Nice (.int i) := by
  refine ⟨rfl, by simp [PyData.depth], ?_, ?_, rfl, by simp [PyData.bulk]⟩
  · simp only [PyData.intsShort, decide_eq_true_eq]
    exact PyData.shown_int_le (by omega)
  · simp only [PyData.showable, decide_eq_true_eq]
    exact log2_small (by omega)
theorem nice_str {x : Str} (h : PyData.strOk x = true) (hl : x.length ≤ 1000) : Nice (.str x) := by
  refine ⟨h, by simp [PyData.depth], rfl, rfl, rfl, ?_⟩
  show x.cps.size ≤ 20000
  have : x.length = x.cps.size := rfl
  omega
theorem nice_ints {l : List Int} (h : ∀ x ∈ l, x.natAbs ≤ 1000000) (hl : l.length ≤ 10000) : Nice (.list (l.map PyData.int)) := by
  have hb : ∀ l : List Int, PyData.bulkAll (l.map PyData.int) = l.length := by
    intro l
    induction l with
    | nil => rfl
    | cons a r ih => rw [List.map_cons]; simp only [PyData.bulkAll, PyData.bulk, ih, List.length_cons]; omega
  have hs : ∀ l : List Int, (∀ x ∈ l, x.natAbs ≤ 1000000) → PyData.showableAll (l.map PyData.int) = true := by
    intro l
    induction l with
    | nil => intro _; rfl
    | cons a r ih =>
      intro h
      rw [List.map_cons]
      simp only [PyData.showableAll, Bool.and_eq_true]
      exact ⟨(nice_int (h a List.mem_cons_self)).sh, ih fun x hx => h x (List.mem_cons_of_mem _ hx)⟩
  have hn : ∀ l : List Int, PyData.hasDictAll (l.map PyData.int) = false := by
    intro l
    induction l with
    | nil => rfl
    | cons a r ih => rw [List.map_cons]; simp only [PyData.hasDictAll, PyData.hasDict, ih, Bool.or_self]
  have hc : ∀ l : List Int, PyData.canLayAll0 (l.map PyData.int) = true := by
    intro l
    induction l with
    | nil => rfl
    | cons a r ih => exact ih
  have hd : ∀ l : List Int, PyData.depthAll (l.map PyData.int) = 0 := by
    intro l
    induction l with
    | nil => rfl
    | cons a r ih => show max 0 (PyData.depthAll (r.map PyData.int)) = 0; rw [ih]; rfl
  refine ⟨hc l, by simp [PyData.depth, hd], ?_, hs l h, hn l, by simp only [PyData.bulk, hb]; omega⟩
  exact PyData.intsShortAll_ints l fun n hn => by have := h n hn; omega
/-- a tuple of a few -/
theorem nice_tup : ∀ {l : List PyData}, (∀ d ∈ l, Nice d) → PyData.canLayAll0 l = true ∧ PyData.depthAll l ≤ 2 ∧ PyData.intsShortAll 13 l = true ∧ PyData.showableAll l = true ∧ PyData.hasDictAll l = false ∧ PyData.bulkAll l ≤ l.length * 20001
  | [], _ => ⟨rfl, Nat.zero_le _, rfl, rfl, rfl, Nat.zero_le _⟩
  | d :: l, h => by
    obtain ⟨h1, h2, h3, h4, h5, h6⟩ := nice_tup fun x hx => h x (List.mem_cons_of_mem _ hx)
    have n := h d List.mem_cons_self
    refine ⟨?_, ?_, ?_, ?_, ?_, ?_⟩
    · simp only [PyData.canLayAll0, n.lay, h1, Bool.and_self]
    · simp only [PyData.depthAll]; have := n.dep; omega
    · simp only [PyData.intsShortAll, n.ish, h3, Bool.and_self]
    · simp only [PyData.showableAll, n.sh, h4, Bool.and_self]
    · simp only [PyData.hasDictAll, n.nd, h5, Bool.or_self]
    · simp only [PyData.bulkAll, List.length_cons]; have := n.bk; omega
def Op.data : Op → List PyData
  | .mkdir p => [.str p]
  | .rmdir p => [.str p]
  | .write p off oct => [.str p, .int off, .list (oct.map PyData.int)]
  | .read p off len => [.str p, .int off, .int len]
  | .truncate p len => [.str p, .int len]
  | .rename p q => [.str p, .str q]
  | .link p q => [.str p, .str q]
  | .unlink p => [.str p]
  | .symlink g p => [.str g, .str p]
  | .readlink p => [.str p]
  | .readdir p => [.str p]
  | .stat p => [.str p]
  | .lstat p => [.str p]
  | .openF p => [.str p]
  | .closeF h => [.int h]
  | .readAt h off len => [.int h, .int off, .int len]
  | .writeAt h off oct => [.int h, .int off, .list (oct.map PyData.int)]
  | .resize h len => [.int h, .int len]
  | .statAt h => [.int h]
theorem paths_ok : ((pathL ++ tgtL).all fun s => PyData.strOk s) = true := by decide +kernel
theorem nice_path {s : Str} (h : s ∈ pathL ∨ s ∈ tgtL) : Nice (.str s) := by
  refine nice_str (List.all_eq_true.mp paths_ok s (List.mem_append.mpr h)) ?_
  have := (names_ok h).2.2.1
  omega
def opW : List Str := ["mkdir", "rmdir", "write", "read", "truncate", "rename", "link", "unlink", "symlink", "readlink", "readdir", "stat", "lstat", "open_file", "close_file", "read_at", "write_at", "resize", "stat_at"]
theorem opW_ok : (opW.all fun s => PyData.strOk s && decide (s.length ≤ 1000)) = true := by decide +kernel
theorem op_word_nice (o : Op) : Nice (.str o.word) := by
  have h : ∀ s ∈ opW, Nice (.str s) := fun s hs => by
    have q := List.all_eq_true.mp opW_ok s hs
    simp only [Bool.and_eq_true, decide_eq_true_eq] at q
    exact nice_str q.1 q.2
  cases o with
  | mkdir _ => exact h _ (List.mem_of_getElem? (i := 0) rfl)
  | rmdir _ => exact h _ (List.mem_of_getElem? (i := 1) rfl)
  | write _ _ _ => exact h _ (List.mem_of_getElem? (i := 2) rfl)
  | read _ _ _ => exact h _ (List.mem_of_getElem? (i := 3) rfl)
  | truncate _ _ => exact h _ (List.mem_of_getElem? (i := 4) rfl)
  | rename _ _ => exact h _ (List.mem_of_getElem? (i := 5) rfl)
  | link _ _ => exact h _ (List.mem_of_getElem? (i := 6) rfl)
  | unlink _ => exact h _ (List.mem_of_getElem? (i := 7) rfl)
  | symlink _ _ => exact h _ (List.mem_of_getElem? (i := 8) rfl)
  | readlink _ => exact h _ (List.mem_of_getElem? (i := 9) rfl)
  | readdir _ => exact h _ (List.mem_of_getElem? (i := 10) rfl)
  | stat _ => exact h _ (List.mem_of_getElem? (i := 11) rfl)
  | lstat _ => exact h _ (List.mem_of_getElem? (i := 12) rfl)
  | openF _ => exact h _ (List.mem_of_getElem? (i := 13) rfl)
  | closeF _ => exact h _ (List.mem_of_getElem? (i := 14) rfl)
  | readAt _ _ _ => exact h _ (List.mem_of_getElem? (i := 15) rfl)
  | writeAt _ _ _ => exact h _ (List.mem_of_getElem? (i := 16) rfl)
  | resize _ _ => exact h _ (List.mem_of_getElem? (i := 17) rfl)
  | statAt _ => exact h _ (List.mem_of_getElem? (i := 18) rfl)
theorem nice_nat {n : Nat} (h : n ≤ 30000) : Nice (.int (n : Int)) := nice_int (by omega)
theorem nice_oct {l : List Int} (h : ∀ x ∈ l, 0 ≤ x ∧ x < 256) (hl : l.length ≤ 10000) : Nice (.list (l.map PyData.int)) := nice_ints (fun x hx => by have := h x hx; omega) hl
theorem op_data_nice {o : Op} (hg : o.good) (hs : ∀ x ∈ o.octs, 0 ≤ x ∧ x < 256) : ∀ d ∈ o.data, Nice d := by
  intro d hd
  cases o with
  | mkdir p => rw [List.mem_singleton.mp hd]; exact nice_path (.inl hg)
  | rmdir p => rw [List.mem_singleton.mp hd]; exact nice_path (.inl hg)
  | unlink p => rw [List.mem_singleton.mp hd]; exact nice_path (.inl hg)
  | readlink p => rw [List.mem_singleton.mp hd]; exact nice_path (.inl hg)
  | readdir p => rw [List.mem_singleton.mp hd]; exact nice_path (.inl hg)
  | stat p => rw [List.mem_singleton.mp hd]; exact nice_path (.inl hg)
  | lstat p => rw [List.mem_singleton.mp hd]; exact nice_path (.inl hg)
  | openF p => rw [List.mem_singleton.mp hd]; exact nice_path (.inl hg)
  | closeF h => have hg : h < 16 := hg; rw [List.mem_singleton.mp hd]; exact nice_nat (by omega)
  | statAt h => have hg : h < 16 := hg; rw [List.mem_singleton.mp hd]; exact nice_nat (by omega)
  | write p off oct =>
    obtain ⟨h1, h2, h3⟩ := hg
    simp only [Op.data, List.mem_cons, List.not_mem_nil, or_false] at hd
    rcases hd with rfl | rfl | rfl
    · exact nice_path (.inl h1)
    · exact nice_nat (by omega)
    · exact nice_oct hs h3
  | writeAt h off oct =>
    obtain ⟨h1, h2, h3⟩ := hg
    simp only [Op.data, List.mem_cons, List.not_mem_nil, or_false] at hd
    rcases hd with rfl | rfl | rfl
    · exact nice_nat (by omega)
    · exact nice_nat (by omega)
    · exact nice_oct hs h3
  | read p off len =>
    obtain ⟨h1, h2, h3⟩ := hg
    simp only [Op.data, List.mem_cons, List.not_mem_nil, or_false] at hd
    rcases hd with rfl | rfl | rfl
    · exact nice_path (.inl h1)
    · exact nice_nat (by omega)
    · exact nice_nat (by omega)
  | readAt h off len =>
    obtain ⟨h1, h2, h3⟩ := hg
    simp only [Op.data, List.mem_cons, List.not_mem_nil, or_false] at hd
    rcases hd with rfl | rfl | rfl
    · exact nice_nat (by omega)
    · exact nice_nat (by omega)
    · exact nice_nat (by omega)
  | truncate p len =>
    obtain ⟨h1, h2⟩ := hg
    simp only [Op.data, List.mem_cons, List.not_mem_nil, or_false] at hd
    rcases hd with rfl | rfl
    · exact nice_path (.inl h1)
    · exact nice_nat (by omega)
  | resize h len =>
    obtain ⟨h1, h2⟩ := hg
    simp only [Op.data, List.mem_cons, List.not_mem_nil, or_false] at hd
    rcases hd with rfl | rfl
    · exact nice_nat (by omega)
    · exact nice_nat (by omega)
  | rename p q =>
    obtain ⟨h1, h2⟩ := hg
    simp only [Op.data, List.mem_cons, List.not_mem_nil, or_false] at hd
    rcases hd with rfl | rfl
    · exact nice_path (.inl h1)
    · exact nice_path (.inl h2)
  | link p q =>
    obtain ⟨h1, h2⟩ := hg
    simp only [Op.data, List.mem_cons, List.not_mem_nil, or_false] at hd
    rcases hd with rfl | rfl
    · exact nice_path (.inl h1)
    · exact nice_path (.inl h2)
  | symlink g p =>
    obtain ⟨h1, h2⟩ := hg
    simp only [Op.data, List.mem_cons, List.not_mem_nil, or_false] at hd
    rcases hd with rfl | rfl
    · exact nice_path (.inr h1)
    · exact nice_path (.inl h2)
def Op.full (o : Op) : PyData := .tuple (.str o.word :: o.data)
theorem op_full {o : Op} (hg : o.good) (hs : ∀ x ∈ o.octs, 0 ≤ x ∧ x < 256) : o.full.depth ≤ 4 ∧ o.full.showable = true ∧ o.full.hasDict = false ∧ o.full.shown.length ≤ sizeLine := by
  have hall : ∀ d ∈ (PyData.str o.word :: o.data), Nice d := fun d hd => by
    rcases List.mem_cons.mp hd with h | h
    · rw [h]; exact op_word_nice o
    · exact op_data_nice hg hs d h
  obtain ⟨h1, h2, h3, h4, h5, h6⟩ := nice_tup hall
  have hlen : (PyData.str o.word :: o.data).length ≤ 4 := by cases o <;> simp [Op.data]
  refine ⟨?_, h4, h5, ?_⟩
  · show PyData.depth (.tuple _) ≤ 4
    simp only [PyData.depth]; omega
  · refine PyData.shown_fits_bulk (B := 13) (by decide) (by decide) (PyData.leavesShort_of_canLay0 13 o.full h1 h3) ?_
    show PyData.bulk (.tuple _) ≤ _
    simp only [PyData.bulk]
    have e : (2 : Nat) ^ 20 = 1048576 := by decide
    omega
theorem op_dp {K : PySem.W.Frag} {H : Hp} {o : Op} {xs : List V} (h : OpA K H o xs) : DpAll K H xs o.data := by
  cases o with
  | mkdir p => rw [show xs = [.str p] from h]; exact .cons (.str _) .nil
  | rmdir p => rw [show xs = [.str p] from h]; exact .cons (.str _) .nil
  | unlink p => rw [show xs = [.str p] from h]; exact .cons (.str _) .nil
  | readlink p => rw [show xs = [.str p] from h]; exact .cons (.str _) .nil
  | readdir p => rw [show xs = [.str p] from h]; exact .cons (.str _) .nil
  | stat p => rw [show xs = [.str p] from h]; exact .cons (.str _) .nil
  | lstat p => rw [show xs = [.str p] from h]; exact .cons (.str _) .nil
  | openF p => rw [show xs = [.str p] from h]; exact .cons (.str _) .nil
  | closeF i => rw [show xs = [.int i] from h]; exact .cons (.int _) .nil
  | statAt i => rw [show xs = [.int i] from h]; exact .cons (.int _) .nil
  | write p off oct => obtain ⟨b, rfl, hb⟩ := h; exact .cons (.str _) (.cons (.int _) (.cons (.lst (SqL.of hb) (dpAll_ints _)) .nil))
  | writeAt i off oct => obtain ⟨b, rfl, hb⟩ := h; exact .cons (.int _) (.cons (.int _) (.cons (.lst (SqL.of hb) (dpAll_ints _)) .nil))
  | read p off len => rw [show xs = [.str p, .int off, .int len] from h]; exact .cons (.str _) (.cons (.int _) (.cons (.int _) .nil))
  | readAt i off len => rw [show xs = [.int i, .int off, .int len] from h]; exact .cons (.int _) (.cons (.int _) (.cons (.int _) .nil))
  | truncate p len => rw [show xs = [.str p, .int len] from h]; exact .cons (.str _) (.cons (.int _) .nil)
  | resize i len => rw [show xs = [.int i, .int len] from h]; exact .cons (.int _) (.cons (.int _) .nil)
  | rename p q => rw [show xs = [.str p, .str q] from h]; exact .cons (.str _) (.cons (.str _) .nil)
  | link p q => rw [show xs = [.str p, .str q] from h]; exact .cons (.str _) (.cons (.str _) .nil)
  | symlink p q => rw [show xs = [.str p, .str q] from h]; exact .cons (.str _) (.cons (.str _) .nil)
end Tm

set_option maxHeartbeats 4000000
namespace Tm
open PySem PySem.Spec PyProof.Rows L2
/-! ### counts -/
def ct (l : Ns) (n c : Int) : Nat := match lk l n with
  | some y => cnt c y.bd
  | none => 0
theorem ct_some {l : Ns} {n c : Int} {y : Nd} (h : lk l n = some y) : ct l n c = cnt c y.bd := by unfold ct; rw [h]
theorem ct_none {l : Ns} {n c : Int} (h : lk l n = none) : ct l n c = 0 := by unfold ct; rw [h]
theorem lk_cons {p : Int × Nd} {r : Ns} {n : Int} : lk (p :: r) n = if p.1 = n then some p.2 else lk r n := by
  unfold lk
  rw [List.find?_cons]
  by_cases c : p.1 = n
  · rw [decide_eq_true c, if_pos c]; rfl
  · rw [decide_eq_false c, if_neg c]
theorem lk_no {l : Ns} {n : Int} : lk l n = none ↔ n ∉ l.map (·.1) := by
  induction l with
  | nil => simp [lk]
  | cons p r ih =>
    rw [lk_cons, List.map_cons, List.mem_cons]
    by_cases c : p.1 = n
    · rw [if_pos c]; simp [c]
    · rw [if_neg c, ih]
      constructor
      · intro h z
        rcases z with z | z
        · exact c z.symm
        · exact h z
      · intro h z; exact h (.inr z)
theorem refs_append {c : Int} : ∀ {l r : Ns}, refs (l ++ r) c = refs l c + refs r c
  | [], r => by simp [refs]
  | p :: l, r => by simp only [List.cons_append, refs]; rw [refs_append]; omega
theorem map_id_of {l : Ns} {n : Int} {x : Nd} (h : n ∉ l.map (·.1)) : (l.map fun p => if p.1 = n then (p.1, x) else p) = l := by
  induction l with
  | nil => rfl
  | cons p r ih =>
    rw [List.map_cons, List.mem_cons] at h
    rw [List.map_cons, ih (fun z => h (.inr z)), if_neg (fun z => h (.inl z.symm))]
theorem refs_map {n : Int} {x : Nd} {c : Int} : ∀ {l : Ns}, (l.map (·.1)).Nodup → n ∈ l.map (·.1) → refs (l.map fun p => if p.1 = n then (p.1, x) else p) c + ct l n c = refs l c + cnt c x.bd
  | p :: r, hd, h => by
    rw [List.map_cons, List.nodup_cons] at hd
    rw [List.map_cons]
    unfold ct
    rw [lk_cons]
    by_cases e : p.1 = n
    · rw [if_pos e, if_pos e, map_id_of (by rw [← e]; exact hd.1)]
      unfold refs
      dsimp only
      omega
    · rw [if_neg e, if_neg e]
      have h2 : n ∈ r.map (·.1) := by
        rcases List.mem_cons.mp (show n ∈ p.1 :: r.map (·.1) from h) with z | z
        · exact absurd z.symm e
        · exact z
      have ih := refs_map (x := x) (c := c) hd.2 h2
      unfold ct at ih
      have e1 : refs (p :: r) c = cnt c p.2.bd + refs r c := rfl
      have e2 : refs (p :: r.map fun p => if p.1 = n then (p.1, x) else p) c = cnt c p.2.bd + refs (r.map fun p => if p.1 = n then (p.1, x) else p) c := rfl
      rw [e1, e2]
      omega
theorem any_iff {l : Ns} {n : Int} : (l.any fun p => decide (p.1 = n)) = true ↔ n ∈ l.map (·.1) := by
  rw [List.any_eq_true, List.mem_map]
  constructor
  · rintro ⟨p, hp, e⟩; exact ⟨p, hp, of_decide_eq_true e⟩
  · rintro ⟨p, hp, e⟩; exact ⟨p, hp, decide_eq_true e⟩
theorem refs_put {l : Ns} {n : Int} {x : Nd} {c : Int} (hd : (l.map (·.1)).Nodup) : refs (putN l n x) c + ct l n c = refs l c + cnt c x.bd := by
  unfold putN
  by_cases h : n ∈ l.map (·.1)
  · rw [if_pos (any_iff.mpr h)]
    exact refs_map hd h
  · rw [if_neg (fun z => h (any_iff.mp z)), refs_append, ct_none (lk_no.mpr h)]
    show refs l c + (cnt c x.bd + 0) + 0 = _
    omega
theorem keys_putN {l : Ns} {n : Int} {x : Nd} (hd : (l.map (·.1)).Nodup) : ((putN l n x).map (·.1)).Nodup := by
  cases h : lk l n with
  | some y => rw [keys_put h]; exact hd
  | none =>
    have h2 := lk_no.mp h
    unfold putN
    rw [if_neg (fun z => h2 (any_iff.mp z)), List.map_append, List.nodup_append]
    refine ⟨hd, by simp, fun a ha b hb e => ?_⟩
    have hb : b = n := by simpa using hb
    exact h2 (by rw [← hb, ← e]; exact ha)
theorem mem_put {l : Ns} {n : Int} {x : Nd} {p : Int × Nd} (h : p ∈ putN l n x) : p.1 = n ∨ p ∈ l := by
  unfold putN at h
  split at h
  · obtain ⟨q, hq, e⟩ := List.mem_map.mp h
    by_cases c : q.1 = n
    · rw [if_pos c] at e; left; rw [← e]; exact c
    · rw [if_neg c] at e; right; rw [← e]; exact hq
  · rcases List.mem_append.mp h with h | h
    · exact .inr h
    · left; have : p = (n, x) := by simpa using h
      rw [this]
theorem lk_drop {l : Ns} {n m : Int} : lk (dropN l n) m = if m = n then none else lk l m := by
  induction l with
  | nil => unfold dropN lk; simp
  | cons p r ih =>
    unfold dropN at ih ⊢
    rw [List.filter_cons]
    by_cases c : p.1 = n
    · rw [if_neg (by simp [c]), ih, lk_cons]
      by_cases c2 : m = n
      · rw [if_pos c2, if_pos c2]
      · rw [if_neg c2, if_neg c2, if_neg (fun z => c2 (z.symm.trans c))]
    · rw [if_pos (by simp [c]), lk_cons, lk_cons, ih]
      by_cases c2 : m = n
      · rw [if_pos c2, if_pos c2, if_neg (fun z => c (z.trans c2))]
      · rw [if_neg c2, if_neg c2]
theorem refs_drop {n c : Int} : ∀ {l : Ns}, (l.map (·.1)).Nodup → refs (dropN l n) c + ct l n c = refs l c
  | [], _ => rfl
  | p :: r, hd => by
    rw [List.map_cons, List.nodup_cons] at hd
    unfold dropN ct
    rw [lk_cons, List.filter_cons]
    have e1 : refs (p :: r) c = cnt c p.2.bd + refs r c := rfl
    have ih := refs_drop (n := n) (c := c) hd.2
    unfold dropN at ih
    by_cases e : p.1 = n
    · rw [if_neg (by simp [e]), if_pos e, e1]
      have : ct r n c = 0 := ct_none (lk_no.mpr (by rw [← e]; exact hd.1))
      rw [this] at ih
      dsimp only
      omega
    · rw [if_pos (by simp [e]), if_neg e, e1]
      unfold ct at ih
      have e2 : refs (p :: r.filter fun p => decide (p.1 ≠ n)) c = cnt c p.2.bd + refs (r.filter fun p => decide (p.1 ≠ n)) c := rfl
      rw [e2]
      omega
/-! ### entries -/
theorem mem_rem {e : List (Str × Int)} {x : Str} {q : Str × Int} : q ∈ remE e x ↔ q ∈ e ∧ q.1 ≠ x := by
  unfold remE; rw [List.mem_filter, decide_eq_true_eq]
theorem mem_ins {e : List (Str × Int)} {x : Str} {n : Int} {q : Str × Int} : q ∈ insE e x n ↔ (q ∈ e ∧ q.1 ≠ x) ∨ q = (x, n) := by
  unfold insE
  rw [(sortE_perm _).mem_iff, List.mem_append, mem_rem]; simp
theorem ltS_irrefl {a : Str} (h : ltS a a) : False := List.lt_irrefl _ h
theorem srt_names {e : List (Str × Int)} (h : Srt e) : (e.map (·.1)).Nodup := by
  rw [List.Nodup, List.pairwise_map]
  exact h.imp fun {a b} h z => by rw [z] at h; exact ltS_irrefl h
theorem childL_cons {p : Str × Int} {r : List (Str × Int)} {x : Str} : childL (p :: r) x = if p.1 = x then some p.2 else childL r x := by
  unfold childL
  rw [List.find?_cons]
  by_cases c : p.1 = x
  · rw [decide_eq_true c, if_pos c]; rfl
  · rw [decide_eq_false c, if_neg c]
theorem childL_of : ∀ {e : List (Str × Int)} {x : Str} {c : Int}, (e.map (·.1)).Nodup → (x, c) ∈ e → childL e x = some c
  | p :: r, x, c, hd, h => by
    rw [List.map_cons, List.nodup_cons] at hd
    rw [childL_cons]
    rcases List.mem_cons.mp h with e | h
    · rw [← e, if_pos rfl]
    · rw [if_neg (fun z => hd.1 (List.mem_map.mpr ⟨(x, c), h, z.symm⟩))]
      exact childL_of hd.2 h
theorem childL_no {e : List (Str × Int)} {x : Str} (h : childL e x = none) {q : Str × Int} (hq : q ∈ e) : q.1 ≠ x := by
  unfold childL at h
  rw [Option.map_eq_none_iff, List.find?_eq_none] at h
  exact fun z => h q hq (decide_eq_true z)
theorem rem_no {e : List (Str × Int)} {x : Str} (h : childL e x = none) : remE e x = e := by
  unfold remE
  rw [List.filter_eq_self]
  exact fun q hq => decide_eq_true (childL_no h hq)
theorem srt_ins {e : List (Str × Int)} {x : Str} {n : Int} (h : Srt e) : Srt (insE e x n) := by
  have hp : (insE e x n).Perm (remE e x ++ [(x, n)]) := sortE_perm _
  have hn : ((insE e x n).map (·.1)).Nodup := by
    rw [(hp.map _).nodup_iff, List.map_append, List.nodup_append]
    refine ⟨srt_names (srt_rem h), by simp, fun a ha b hb z => ?_⟩
    have hb : b = x := by simpa using hb
    obtain ⟨q, hq, e⟩ := List.mem_map.mp ha
    exact (mem_rem.mp hq).2 (by rw [e, z, hb])
  have hs : SrtO.Srtd lexS (insE e x n) := sortE_srt _
  have hn2 : (insE e x n).Pairwise fun a b => a.1 ≠ b.1 := by
    rw [List.Nodup, List.pairwise_map] at hn; exact hn
  exact (List.Pairwise.and hs hn2).imp fun {a b} ⟨h1, h2⟩ => by
    rcases lexS_no.mp h1 with h | ⟨h, _⟩
    · exact h
    · exact absurd h.symm h2
theorem rem_len1 : ∀ {e : List (Str × Int)} {x : Str} {c : Int}, childL e x = some c → (remE e x).length < e.length := by
  intro e x c h
  have h1 := childL_mem h
  unfold remE
  have : (e.filter fun p => decide (p.1 ≠ x)).length ≠ e.length := fun z => by
    have := List.length_filter_eq_length_iff.mp z (x, c) h1
    simp at this
  have := List.length_filter_le (fun p : Str × Int => decide (p.1 ≠ x)) e
  omega
theorem ins_len {e : List (Str × Int)} {x : Str} {n : Int} : (insE e x n).length = (remE e x).length + 1 := by
  unfold insE
  rw [(sortE_perm _).length_eq, List.length_append]; rfl
def sg (n c : Int) : Int := if n = c then 1 else 0
def sgO (o : Option Int) (c : Int) : Int := match o with
  | some n => sg n c
  | none => 0
theorem cnt_perm {c : Int} {e e' : List (Str × Int)} (h : e.Perm e') : cnt c (.ent e) = cnt c (.ent e') := by
  unfold cnt
  exact (h.filter _).length_eq
theorem cnt_cons {c : Int} {p : Str × Int} {r : List (Str × Int)} : (cnt c (.ent (p :: r)) : Int) = sg p.2 c + cnt c (.ent r) := by
  unfold cnt sg
  dsimp only
  rw [List.filter_cons]
  by_cases h : p.2 = c
  · rw [if_pos (decide_eq_true h), if_pos h, List.length_cons]; omega
  · rw [if_neg (fun z => h (of_decide_eq_true z)), if_neg h]; omega
theorem cnt_rem {x : Str} {c : Int} : ∀ {e : List (Str × Int)}, (e.map (·.1)).Nodup → (cnt c (.ent (remE e x)) : Int) = cnt c (.ent e) - sgO (childL e x) c
  | [], _ => rfl
  | p :: r, hd => by
    rw [List.map_cons, List.nodup_cons] at hd
    rw [childL_cons, cnt_cons]
    by_cases h : p.1 = x
    · have e1 : remE (p :: r) x = remE r x := by unfold remE; rw [List.filter_cons, if_neg (by simp [h])]
      have e2 : childL r x = none := by
        cases q : childL r x with
        | none => rfl
        | some z => exact absurd (List.mem_map.mpr ⟨(x, z), childL_mem q, h.symm⟩) hd.1
      rw [e1, rem_no e2, if_pos h]
      unfold sgO; dsimp only; omega
    · have e1 : remE (p :: r) x = p :: remE r x := by unfold remE; rw [List.filter_cons, if_pos (by simp [h])]
      rw [e1, cnt_cons, if_neg h, cnt_rem hd.2]
      omega
theorem cnt_ins {e : List (Str × Int)} {x : Str} {n c : Int} (hd : (e.map (·.1)).Nodup) : (cnt c (.ent (insE e x n)) : Int) = cnt c (.ent e) - sgO (childL e x) c + sg n c := by
  have h1 : cnt c (.ent (insE e x n)) = cnt c (.ent ((x, n) :: remE e x)) := cnt_perm ((sortE_perm _).trans (List.perm_append_comm (l₂ := [(x, n)])))
  rw [h1, cnt_cons, cnt_rem hd]
  show sg n c + _ = _
  omega
end Tm

set_option maxHeartbeats 4000000
namespace Tm
open PySem PySem.Spec PyProof.Rows L2
/-! ### the invariant, links off by z -/
structure W0 (l : Ns) (hs : List (Option Int)) (z : Int → Int) : Prop where
  nd : (l.map (·.1)).Nodup
  rng : ∀ p ∈ l, 0 ≤ p.1 ∧ p.1 < 256
  root : ∃ e, lk l 0 = some ⟨.ent e, 1⟩
  ent : ∀ n e k, lk l n = some ⟨.ent e, k⟩ → Srt e ∧ e.length ≤ 64 ∧ k = 1 ∧ ∀ q ∈ e, PyData.strOk q.1 = true
  ref : ∀ n, n ≠ 0 → (refs l n : Int) = lnk l n + z n
  ref0 : refs l 0 = 0
  tg : ∀ n s k, lk l n = some ⟨.tgt s, k⟩ → s ∈ tgtL
  oct : ∀ n o k, lk l n = some ⟨.oct o, k⟩ → o.length ≤ 28672
  hf : ∀ n, some n ∈ hs → ∃ o k, lk l n = some ⟨.oct o, k⟩
theorem WF.lnk {T : Tr} (W : WF T) {n : Int} (h : n ≠ 0) : (refs T.nodes n : Int) = Tm.lnk T.nodes n := by
  have h1 := W.ref n h
  unfold Tm.lnk
  cases q : lk T.nodes n with
  | none => rw [q] at h1; exact h1
  | some x => rw [q] at h1; exact h1
theorem WF.w0 {T : Tr} (W : WF T) : W0 T.nodes T.hs (fun _ => 0) := ⟨W.nd, W.rng, W.root, fun n e k h => ⟨(W.ent n e k h).1, (W.ent n e k h).2.1, (W.ent n e k h).2.2.1, W.nm n e k h⟩, fun n h => by rw [W.lnk h]; omega, W.ref0, W.tg, W.oct, W.hf⟩
theorem W0.wf {l : Ns} {hs : List (Option Int)} {z : Int → Int} (W : W0 l hs z) (hz : ∀ n, n ≠ 0 → z n = 0) (hh : hs.length = 16) (up : ∀ n, isDir l n = true → Up l n) : WF ⟨l, hs⟩ :=
  ⟨W.nd, W.rng, W.root, fun n e k h => ⟨(W.ent n e k h).1, (W.ent n e k h).2.1, (W.ent n e k h).2.2.1, up n (isDir_iff.mpr ⟨e, k, h⟩)⟩, fun n h => by
    have h1 := W.ref n h
    rw [hz n h] at h1
    unfold Tm.lnk at h1
    show (refs l n : Int) = _
    rw [h1]
    show _ = (match lk l n with | none => 0 | some x => x.links)
    cases lk l n with
    | none => rfl
    | some x => exact Int.add_zero _, W.ref0, W.tg, W.oct, hh, W.hf, fun n e k h => (W.ent n e k h).2.2.2⟩
theorem lk_key {l : Ns} {n : Int} {x : Nd} (h : lk l n = some x) : n ∈ l.map (·.1) := List.mem_map.mpr ⟨_, lk_mem h, rfl⟩
theorem lnk_put {l : Ns} {n m : Int} {x : Nd} : lnk (putN l n x) m = if m = n then x.links else lnk l m := by
  unfold lnk
  rw [lk_put]
  by_cases c : m = n
  · rw [if_pos c, if_pos c]
  · rw [if_neg c, if_neg c]
theorem lnk_drop {l : Ns} {n m : Int} : lnk (dropN l n) m = if m = n then 0 else lnk l m := by
  unfold lnk
  rw [lk_drop]
  by_cases c : m = n
  · rw [if_pos c, if_pos c]
  · rw [if_neg c, if_neg c]
section
variable {l : Ns} {hs : List (Option Int)} {z z' : Int → Int} {n : Int} {x : Nd}
theorem W0.put (W : W0 l hs z) (hn : 0 ≤ n ∧ n < 256) (hr : n = 0 → ∃ e, x = ⟨.ent e, 1⟩) (he : ∀ e k, x = ⟨.ent e, k⟩ → Srt e ∧ e.length ≤ 64 ∧ k = 1 ∧ ∀ q ∈ e, PyData.strOk q.1 = true)
    (ht : ∀ s k, x = ⟨.tgt s, k⟩ → s ∈ tgtL) (ho : ∀ o k, x = ⟨.oct o, k⟩ → o.length ≤ 28672) (hh : some n ∈ hs → ∃ o k, x = ⟨.oct o, k⟩) (h0 : cnt 0 x.bd = 0)
    (hz : ∀ c, c ≠ 0 → (cnt c x.bd : Int) + z c + lnk l c = z' c + ct l n c + (if c = n then x.links else lnk l c)) : W0 (putN l n x) hs z' where
  nd := keys_putN W.nd
  rng := fun p hp => by
    rcases mem_put hp with h | h
    · rw [h]; exact hn
    · exact W.rng p h
  root := by
    rw [lk_put]
    by_cases c : (0 : Int) = n
    · rw [if_pos c]
      obtain ⟨e, h⟩ := hr c.symm
      exact ⟨e, by rw [h]⟩
    · rw [if_neg c]; exact W.root
  ent := fun m e k h => by
    rw [lk_put] at h
    by_cases c : m = n
    · rw [if_pos c] at h; exact he e k (Option.some.inj h)
    · rw [if_neg c] at h; exact W.ent m e k h
  ref := fun c h => by
    have h1 := refs_put (n := n) (x := x) (c := c) W.nd
    have h2 := W.ref c h
    have h3 := hz c h
    rw [lnk_put]
    omega
  ref0 := by
    have h1 := refs_put (n := n) (x := x) (c := 0) W.nd
    have h2 := W.ref0
    omega
  tg := fun m s k h => by
    rw [lk_put] at h
    by_cases c : m = n
    · rw [if_pos c] at h; exact ht s k (Option.some.inj h)
    · rw [if_neg c] at h; exact W.tg m s k h
  oct := fun m s k h => by
    rw [lk_put] at h
    by_cases c : m = n
    · rw [if_pos c] at h; exact ho s k (Option.some.inj h)
    · rw [if_neg c] at h; exact W.oct m s k h
  hf := fun m h => by
    rw [lk_put]
    by_cases c : m = n
    · rw [if_pos c]
      obtain ⟨o, k, e⟩ := hh (by rw [← c]; exact h)
      exact ⟨o, k, by rw [e]⟩
    · rw [if_neg c]; exact W.hf m h
theorem W0.drop (W : W0 l hs z) (h0 : n ≠ 0) (hh : some n ∉ hs) (hz : ∀ c, c ≠ 0 → z c + lnk l c = z' c + ct l n c + (if c = n then 0 else lnk l c)) : W0 (dropN l n) hs z' where
  nd := List.Nodup.sublist (List.Sublist.map _ List.filter_sublist) W.nd
  rng := fun p hp => W.rng p (List.mem_filter.mp hp).1
  root := by
    rw [lk_drop, if_neg (fun c => h0 c.symm)]; exact W.root
  ent := fun m e k h => by
    rw [lk_drop] at h
    by_cases c : m = n
    · rw [if_pos c] at h; cases h
    · rw [if_neg c] at h; exact W.ent m e k h
  ref := fun c h => by
    have h1 := refs_drop (n := n) (c := c) W.nd
    have h2 := W.ref c h
    have h3 := hz c h
    rw [lnk_drop]
    omega
  ref0 := by
    have h1 := refs_drop (n := n) (c := 0) W.nd
    have h2 := W.ref0
    omega
  tg := fun m s k h => by
    rw [lk_drop] at h
    by_cases c : m = n
    · rw [if_pos c] at h; cases h
    · rw [if_neg c] at h; exact W.tg m s k h
  oct := fun m s k h => by
    rw [lk_drop] at h
    by_cases c : m = n
    · rw [if_pos c] at h; cases h
    · rw [if_neg c] at h; exact W.oct m s k h
  hf := fun m h => by
    rw [lk_drop, if_neg (fun c => hh (by rw [← c]; exact h))]; exact W.hf m h
theorem W0.rngk (W : W0 l hs z) (h : lk l n = some x) : 0 ≤ n ∧ n < 256 := W.rng _ (lk_mem h)
/-- a dir's node is not open -/
theorem W0.shut (W : W0 l hs z) {e : List (Str × Int)} {k : Int} (h : lk l n = some ⟨.ent e, k⟩) : some n ∉ hs := fun q => by
  obtain ⟨o, k2, h2⟩ := W.hf n q
  rw [h] at h2; cases h2
theorem cnt_le_refs {c : Int} : ∀ {l : Ns} {p : Int × Nd}, p ∈ l → cnt c p.2.bd ≤ refs l c
  | a :: r, p, h => by
    unfold refs
    rcases List.mem_cons.mp h with e | h
    · subst e; omega
    · have := cnt_le_refs (c := c) h; omega
theorem W0.cnt0 (W : W0 l hs z) (h : lk l n = some x) : cnt 0 x.bd = 0 := by
  have := cnt_le_refs (c := 0) (lk_mem h)
  have h2 := W.ref0
  have h3 : cnt 0 x.bd ≤ refs l 0 := this
  omega
theorem W0.add (W : W0 l hs z) {e : List (Str × Int)} {k m : Int} {y : Str} (h : lk l n = some ⟨.ent e, k⟩) (hm : m ≠ 0) (hy : PyData.strOk y = true) (hlen : (remE e y).length < 64) : W0 (addE l n y m) hs (fun c => z c + sg m c - sgO (childL e y) c) := by
  obtain ⟨s1, s2, s3, s4⟩ := W.ent n e k h
  have hd := srt_names s1
  unfold addE
  rw [entOf_eq h, lnk_eq h]
  dsimp only
  refine W.put (W.rngk h) (fun _ => ⟨_, by rw [s3]⟩) (fun e' k' q => ?_) (fun _ _ q => (by cases q)) (fun _ _ q => (by cases q)) (fun q => absurd q (W.shut h)) ?_ (fun c hc => ?_)
  · cases q
    refine ⟨srt_ins s1, by rw [ins_len]; omega, s3, fun q hq => ?_⟩
    rcases mem_ins.mp hq with ⟨q1, _⟩ | q1
    · exact s4 q q1
    · rw [q1]; exact hy
  · have h1 := cnt_ins (x := y) (n := m) (c := 0) hd
    have h2 : cnt 0 (.ent e) = 0 := W.cnt0 h
    have h3 : sgO (childL e y) 0 ≥ 0 := by unfold sgO sg; split <;> (try split) <;> omega
    have h4 : sg m 0 = 0 := if_neg hm
    show cnt 0 (.ent (insE e y m)) = 0
    omega
  · have h1 := cnt_ins (x := y) (n := m) (c := c) hd
    rw [ct_some h]
    have h2 : (if c = n then k else lnk l c) = lnk l c := by
      by_cases q : c = n
      · rw [if_pos q, q, lnk_eq h]
      · rw [if_neg q]
    show (cnt c (.ent (insE e y m)) : Int) + z c + lnk l c = z c + sg m c - sgO (childL e y) c + (cnt c (.ent e) : Int) + (if c = n then k else lnk l c)
    rw [h2]
    omega
theorem W0.del (W : W0 l hs z) {e : List (Str × Int)} {k : Int} {y : Str} (h : lk l n = some ⟨.ent e, k⟩) : W0 (delE l n y) hs (fun c => z c - sgO (childL e y) c) := by
  obtain ⟨s1, s2, s3, s4⟩ := W.ent n e k h
  have hd := srt_names s1
  have hle : (remE e y).length ≤ e.length := List.length_filter_le _ _
  unfold delE
  rw [entOf_eq h, lnk_eq h]
  dsimp only
  refine W.put (W.rngk h) (fun _ => ⟨_, by rw [s3]⟩) (fun e' k' q => ?_) (fun _ _ q => (by cases q)) (fun _ _ q => (by cases q)) (fun q => absurd q (W.shut h)) ?_ (fun c hc => ?_)
  · cases q
    exact ⟨srt_rem s1, by omega, s3, fun q hq => s4 q (mem_rem.mp hq).1⟩
  · have h1 := cnt_rem (x := y) (c := 0) hd
    have h2 : cnt 0 (.ent e) = 0 := W.cnt0 h
    have h3 : sgO (childL e y) 0 ≥ 0 := by unfold sgO sg; split <;> (try split) <;> omega
    show cnt 0 (.ent (remE e y)) = 0
    omega
  · have h1 := cnt_rem (x := y) (c := c) hd
    rw [ct_some h]
    have h2 : (if c = n then k else lnk l c) = lnk l c := by
      by_cases q : c = n
      · rw [if_pos q, q, lnk_eq h]
      · rw [if_neg q]
    show (cnt c (.ent (remE e y)) : Int) + z c + lnk l c = z c - sgO (childL e y) c + (cnt c (.ent e) : Int) + (if c = n then k else lnk l c)
    rw [h2]
    omega
/-- links of a node that is no dir -/
theorem W0.links (W : W0 l hs z) {i : Int} (h : lk l n = some x) (hd : isDir l n = false) : W0 (putN l n ⟨x.bd, i⟩) hs (fun c => z c + (if c = n then x.links - i else 0)) := by
  obtain ⟨b, k⟩ := x
  have nb : ∀ e, b ≠ .ent e := fun e q => by
    rw [q] at h
    have := isDir_iff.mpr ⟨e, k, h⟩
    rw [hd] at this; cases this
  obtain ⟨re, hr⟩ := W.root
  have n0 : n ≠ 0 := fun q => by
    rw [q, hr] at h
    cases h
    exact nb _ rfl
  refine W.put (W.rngk h) (fun q => absurd q n0) (fun e k' q => ?_) (fun s k' q => ?_) (fun o k' q => ?_) (fun q => ?_) (show cnt 0 b = 0 from W.cnt0 h) (fun c hc => ?_)
  · injection q with q1 q2; exact absurd q1 (nb e)
  · injection q with q1 q2; have q1 : b = .tgt s := q1; rw [q1] at h; exact W.tg n s k h
  · injection q with q1 q2; have q1 : b = .oct o := q1; rw [q1] at h; exact W.oct n o k h
  · obtain ⟨o, k2, h2⟩ := W.hf n q
    rw [h] at h2
    injection h2 with h2
    injection h2 with h3 h4
    exact ⟨o, i, by rw [h3]⟩
  · rw [ct_some h]
    dsimp only
    by_cases q : c = n
    · have e : lnk l n = k := lnk_eq h
      rw [if_pos q, if_pos q, q, e]
      show (cnt n b : Int) + z n + k = z n + (k - i) + cnt n b + i
      omega
    · rw [if_neg q, if_neg q]
      show (cnt c b : Int) + z c + lnk l c = z c + 0 + cnt c b + lnk l c
      omega
theorem cnt_nd {b : Bd} (c : Int) (nb : ∀ e, b ≠ .ent e) : cnt c b = 0 := by
  cases b with
  | ent e => exact absurd rfl (nb e)
  | _ => rfl
end
end Tm

set_option maxHeartbeats 4000000
namespace Tm
open PySem PySem.Spec PyProof.Rows L2
/-! ### edges -/
def Ed (l : Ns) (d : Int) (x : Str) (c : Int) : Prop := ∃ e k, lk l d = some ⟨.ent e, k⟩ ∧ (x, c) ∈ e
theorem up_keep {l l' : Ns} {P : Int → Prop} (h : ∀ d x c, Ed l d x c → P c → P d ∧ ∃ x', Ed l' d x' c) {c : Int} (u : Up l c) : P c → Up l' c := by
  induction u with
  | root => exact fun _ => .root
  | up h1 h2 _ ih =>
    intro p
    obtain ⟨pd, x', e', k', h3, h4⟩ := h _ _ _ ⟨_, _, h1, h2⟩ p
    exact .up h3 h4 (ih pd)
section
variable {l : Ns} {d g a c n : Int} {x y q : Str} {hs : List (Option Int)} {z : Int → Int}
theorem ed_del (h : Ed l a q c) (ne : ¬ (a = d ∧ q = x)) : Ed (delE l d x) a q c := by
  obtain ⟨e, k, h1, h2⟩ := h
  unfold delE
  by_cases e1 : a = d
  · subst e1
    rw [entOf_eq h1]
    exact ⟨_, _, by rw [lk_put, if_pos rfl], mem_rem.mpr ⟨h2, fun z => ne ⟨rfl, z⟩⟩⟩
  · exact ⟨e, k, by rw [lk_put, if_neg e1]; exact h1, h2⟩
theorem ed_add (h : Ed l a q c) (ne : ¬ (a = g ∧ q = y)) : Ed (addE l g y n) a q c := by
  obtain ⟨e, k, h1, h2⟩ := h
  unfold addE
  by_cases e1 : a = g
  · subst e1
    rw [entOf_eq h1]
    exact ⟨_, _, by rw [lk_put, if_pos rfl], mem_ins.mpr (.inl ⟨h2, fun z => ne ⟨rfl, z⟩⟩)⟩
  · exact ⟨e, k, by rw [lk_put, if_neg e1]; exact h1, h2⟩
theorem ed_new : Ed (addE l g y n) g y n := ⟨_, _, by unfold addE; rw [lk_put, if_pos rfl], mem_ins.mpr (.inr rfl)⟩
theorem lk_lose (ne : a ≠ n) : lk (loseN ⟨l, hs⟩ n) a = lk l a := by
  unfold loseN
  dsimp only
  cases h : lk l n with
  | none => rfl
  | some u =>
    dsimp only
    split
    · rw [lk_drop, if_neg ne]
    · rw [lk_put, if_neg ne]
theorem ed_lose (h : Ed l a q c) (ne : a ≠ n) : Ed (loseN ⟨l, hs⟩ n) a q c := by
  obtain ⟨e, k, h1, h2⟩ := h
  exact ⟨e, k, by rw [lk_lose ne]; exact h1, h2⟩
theorem dir_put {e : List (Str × Int)} {k : Int} (h : isDir l d = true) : isDir (putN l d ⟨.ent e, k⟩) a = isDir l a := by
  unfold isDir
  rw [lk_put]
  by_cases c : a = d
  · rw [if_pos c, c]
    obtain ⟨e2, k2, h2⟩ := isDir_iff.mp h
    rw [h2]
  · rw [if_neg c]
theorem dir_del (h : isDir l d = true) : isDir (delE l d x) a = isDir l a := dir_put h
theorem dir_add (h : isDir l d = true) : isDir (addE l d x n) a = isDir l a := dir_put h
theorem dir_lk {m : Ns} (h : lk m a = lk l a) : isDir m a = isDir l a := by unfold isDir; rw [h]
/-- what loses its last name: no dir, or an empty one -/
def Leaf (l : Ns) (n : Int) : Prop := isDir l n = false ∨ lk l n = some ⟨.ent [], 1⟩
theorem Leaf.no (h : Leaf l n) (e : Ed l n x c) : False := by
  obtain ⟨e, k, h1, h2⟩ := e
  rcases h with h | h
  · have := isDir_iff.mpr ⟨e, k, h1⟩
    rw [h] at this; cases this
  · rw [h] at h1; cases h1; cases h2
theorem W0.n0 (W : W0 l hs z) (h : isDir l n = false) : n ≠ 0 := fun q => by
  obtain ⟨e, hr⟩ := W.root
  have := isDir_iff.mpr ⟨e, 1, hr⟩
  rw [q] at h
  rw [h] at this; cases this
theorem dir_lose (W : W0 l hs z) (hL : Leaf l n) {u : Nd} (hu : lk l n = some u) (h : isDir (loseN ⟨l, hs⟩ n) a = true) : isDir l a = true ∧ a ≠ n := by
  by_cases ne : a = n
  · exfalso
    rw [ne] at h
    rcases hL with hL | hL
    · unfold loseN at h
      dsimp only at h
      rw [hu] at h
      dsimp only at h
      split at h
      · unfold isDir at h
        rw [lk_drop, if_pos rfl] at h; cases h
      · unfold isDir at h hL
        rw [lk_put, if_pos rfl] at h
        rw [hu] at hL
        obtain ⟨b, k⟩ := u
        cases b with
        | ent e => cases hL
        | oct o => cases h
        | tgt o => cases h
    · unfold loseN at h
      dsimp only at h
      rw [hL] at h
      dsimp only at h
      rw [if_pos ⟨rfl, W.shut hL⟩] at h
      unfold isDir at h
      rw [lk_drop, if_pos rfl] at h; cases h
  · exact ⟨by rw [dir_lk (lk_lose (hs := hs) ne)] at h; exact h, ne⟩
theorem W0.lose (W : W0 l hs z) (hL : Leaf l n) (h0 : n ≠ 0) {u : Nd} (hu : lk l n = some u) : W0 (loseN ⟨l, hs⟩ n) hs (fun c => z c + sg n c) := by
  have hc : ∀ c, cnt c u.bd = 0 := fun c => by
    rcases hL with hL | hL
    · exact cnt_nd c fun e q => by
        obtain ⟨b, k⟩ := u
        have q : b = .ent e := q
        rw [q] at hu
        have := isDir_iff.mpr ⟨e, k, hu⟩
        rw [hL] at this; cases this
    · rw [hL] at hu; cases hu; rfl
  unfold loseN
  dsimp only
  rw [hu]
  dsimp only
  by_cases q : u.links = 1 ∧ some n ∉ hs
  · rw [if_pos q]
    refine W.drop h0 q.2 fun c _ => ?_
    rw [ct_some hu, hc c]
    unfold sg
    by_cases e : c = n
    · rw [if_pos e, if_pos e.symm, e, lnk_eq hu]; omega
    · rw [if_neg e, if_neg (fun z => e z.symm)]; omega
  · rw [if_neg q]
    have hd : isDir l n = false := by
      rcases hL with hL | hL
      · exact hL
      · rw [hL] at hu
        cases hu
        exact absurd ⟨rfl, W.shut hL⟩ q
    have := W.links (i := u.links - 1) hu hd
    have e : (fun c => z c + (if c = n then u.links - (u.links - 1) else 0)) = fun c => z c + sg n c := by
      funext c
      unfold sg
      by_cases e : c = n
      · rw [if_pos e, if_pos e.symm]; omega
      · rw [if_neg e, if_neg (fun z => e z.symm)]
    rw [e] at this
    exact this
end
/-! ### names are fit -/
theorem names_fit : (pathL.all fun s => (namesOf s).all fun x => PyData.strOk x) = true := by decide +kernel
theorem place_ok {l : Ns} {p x : Str} {d : Int} (hp : p ∈ pathL) (h : placeS l p = .ok (d, x)) : PyData.strOk x = true := by
  have h1 := List.all_eq_true.mp (List.all_eq_true.mp names_fit p hp)
  unfold placeS placeN at h
  split at h
  · cases h
  · rename_i u hu
    split at h
    · cases h
    · split at h
      · have e := Except.ok.inj h
        have e2 : u = x := congrArg Prod.snd e
        rw [← e2]
        exact h1 _ (List.mem_of_getLast? hu)
      · cases h
section
variable {T T' : Tr} {D : PyData}
theorem WF.up (W : WF T) {a : Int} (h : isDir T.nodes a = true) : Up T.nodes a := by
  obtain ⟨e, k, h1⟩ := isDir_iff.mp h
  exact (W.ent _ _ _ h1).2.2.2
theorem WF.uniq (W : WF T) {d c c' : Int} {x : Str} (h : Ed T.nodes d x c) (h' : Ed T.nodes d x c') : c = c' := by
  obtain ⟨e, k, h1, h2⟩ := h
  obtain ⟨e', k', h1', h2'⟩ := h'
  rw [h1] at h1'
  cases h1'
  have hd := srt_names (W.ent _ _ _ h1).1
  have := (childL_of hd h2).symm.trans (childL_of hd h2')
  exact Option.some.inj this
theorem ed_child {l : Ns} {d c : Int} {x : Str} (h : child l d x = some c) : Ed l d x c := by
  unfold child at h
  split at h
  · rename_i e k h1
    exact ⟨e, k, h1, childL_mem h⟩
  · cases h
theorem Ed.dir {l : Ns} {d c : Int} {x : Str} (h : Ed l d x c) : isDir l d = true := by
  obtain ⟨e, k, h1, _⟩ := h
  exact isDir_iff.mpr ⟨e, k, h1⟩
/-- a new node -/
def Bd.fit (b : Bd) : Prop := b = .ent [] ∨ (∃ s, b = .tgt s ∧ s ∈ tgtL) ∨ ∃ o, b = .oct o ∧ o.length ≤ 28672
theorem wf_new (W : WF T) {p : Str} {b : Bd} (hp : p ∈ pathL) (hb : b.fit) (h : newS T p b = .ok (D, T')) : WF T' := by
  obtain ⟨⟨n, x⟩, h1, h2⟩ := mapE_ok h
  dsimp only at h2
  split at h2
  · cases h2
  · rename_i m hm
    cases h2
    obtain ⟨hm1, hm2⟩ := free_no hm
    obtain ⟨e, k, h3, h4, h5⟩ := free_ent h1
    have hx := place_ok hp (free_parts h1).1
    have W1 := W.w0
    have m0 : (m : Int) ≠ 0 := fun q => by
      obtain ⟨e, hr⟩ := W.root
      rw [q, hr] at hm2; cases hm2
    have nm : n ≠ m := fun q => by rw [q, hm2] at h3; cases h3
    have hc : ∀ c, cnt c b = 0 := fun c => by
      rcases hb with rfl | ⟨_, rfl, _⟩ | ⟨_, rfl, _⟩ <;> rfl
    have hl0 : lnk T.nodes m = 0 := by unfold lnk; rw [hm2]
    have W2 : W0 (putN T.nodes m ⟨b, 1⟩) T.hs (fun c => - sg m c) := by
      refine W1.put ⟨by omega, by omega⟩ (fun q => absurd q m0) (fun e k q => ?_) (fun s k q => ?_) (fun o k q => ?_) (fun q => ?_) (hc 0) (fun c _ => ?_)
      · cases q
        rcases hb with hb | ⟨_, hb, _⟩ | ⟨_, hb, _⟩
        · cases hb
          exact ⟨.nil, by decide, rfl, fun q hq => by cases hq⟩
        · cases hb
        · cases hb
      · cases q
        rcases hb with hb | ⟨_, hb, h⟩ | ⟨_, hb, _⟩
        · cases hb
        · cases hb; exact h
        · cases hb
      · cases q
        rcases hb with hb | ⟨_, hb, _⟩ | ⟨_, hb, h⟩
        · cases hb
        · cases hb
        · cases hb; exact h
      · obtain ⟨o, k, h⟩ := W.hf _ q
        rw [hm2] at h; cases h
      · dsimp only
        rw [hc c, ct_none hm2]
        unfold sg
        by_cases e : c = m
        · rw [if_pos e, if_pos e.symm, e, hl0]; omega
        · rw [if_neg e, if_neg (fun z => e z.symm)]; omega
    have h3' : lk (putN T.nodes m ⟨b, 1⟩) n = some ⟨.ent e, k⟩ := by rw [lk_put, if_neg nm]; exact h3
    have W3 := W2.add (m := m) (y := x) h3' m0 hx (by rw [rem_no h4]; exact h5)
    have keep : ∀ d q c, Ed T.nodes d q c → Ed (addE (putN T.nodes m ⟨b, 1⟩) n x m) d q c := fun d q c ⟨e1, k1, q1, q2⟩ => by
      refine ed_add ⟨e1, k1, ?_, q2⟩ fun z => ?_
      · rw [lk_put, if_neg (fun z => by rw [z, hm2] at q1; cases q1)]; exact q1
      · rw [z.1, h3] at q1
        cases q1
        exact childL_no h4 q2 z.2
    have up1 : ∀ a, isDir T.nodes a = true → Up (addE (putN T.nodes m ⟨b, 1⟩) n x m) a := fun a ha => up_keep (P := fun _ => True) (fun d q c h _ => ⟨trivial, q, keep d q c h⟩) (W.up ha) trivial
    refine W3.wf (fun c _ => ?_) W.hl fun a ha => ?_
    · rw [h4]; show - sg m c + sg m c - 0 = 0; omega
    · rw [dir_add (isDir_iff.mpr ⟨_, _, h3'⟩)] at ha
      by_cases e : a = m
      · rw [e]
        obtain ⟨e1, k1, q1, q2⟩ := ed_new (l := putN T.nodes m ⟨b, 1⟩) (g := n) (y := x) (n := m)
        exact .up q1 q2 (up1 n (isDir_iff.mpr ⟨_, _, h3⟩))
      · have : lk (putN T.nodes m ⟨b, 1⟩) a = lk T.nodes a := by rw [lk_put, if_neg e]
        rw [dir_lk this] at ha
        exact up1 a ha
/-- a name goes, and what it named -/
theorem wf_lose (W : WF T) {d c : Int} {x : Str} (h : Ed T.nodes d x c) (hL : Leaf T.nodes c) : WF ⟨loseN ⟨delE T.nodes d x, T.hs⟩ c, T.hs⟩ := by
  obtain ⟨e, k, h1, h2⟩ := id h
  obtain ⟨c0, u, hu⟩ := W.there h1 h2
  have hd := srt_names (W.ent _ _ _ h1).1
  have ne : c ≠ d := fun z => hL.no (x := x) (c := c) (by rw [z] at h ⊢; exact h)
  have W1 := W.w0.del (y := x) h1
  have hc1 : lk (delE T.nodes d x) c = lk T.nodes c := by unfold delE; rw [lk_put, if_neg ne]
  have hL1 : Leaf (delE T.nodes d x) c := by
    unfold Leaf
    rw [dir_lk hc1, hc1]; exact hL
  have hu1 := hc1.trans hu
  have W2 := W1.lose hL1 c0 hu1
  refine W2.wf (fun a _ => ?_) W.hl fun a ha => ?_
  · rw [childL_of hd h2]; show 0 - sg c a + sg c a = 0; omega
  · obtain ⟨ha1, ha2⟩ := dir_lose W1 hL1 hu1 ha
    rw [dir_del h.dir] at ha1
    refine up_keep (P := fun a => a ≠ c) (fun d' q a' h' p => ?_) (W.up ha1) ha2
    have nd : d' ≠ c := fun z => hL.no (x := q) (c := a') (by rw [← z]; exact h')
    refine ⟨nd, q, ed_lose (ed_del h' fun z => p ?_) nd⟩
    rw [z.1, z.2] at h'
    exact W.uniq h' h
theorem wf_oct (W : WF T) {n : Int} {o o' : List Int} {k : Int} (h : lk T.nodes n = some ⟨.oct o, k⟩) (ho : o'.length ≤ 28672) : WF ⟨putN T.nodes n ⟨.oct o', lnk T.nodes n⟩, T.hs⟩ := by
  have hd : isDir T.nodes n = false := by unfold isDir; rw [h]
  have hl : lnk T.nodes n = k := lnk_eq h
  have W1 : W0 (putN T.nodes n ⟨.oct o', lnk T.nodes n⟩) T.hs (fun _ => 0) := by
    refine W.w0.put (W.w0.rngk h) (fun q => absurd q (W.w0.n0 hd)) (fun _ _ q => by cases q) (fun _ _ q => by cases q) (fun _ _ q => by cases q; exact ho) (fun _ => ⟨_, _, rfl⟩) rfl (fun c _ => ?_)
    rw [ct_some h]
    show (0 : Int) + 0 + lnk T.nodes c = 0 + 0 + (if c = n then lnk T.nodes n else lnk T.nodes c)
    by_cases e : c = n
    · rw [if_pos e, e]
    · rw [if_neg e]
  refine W1.wf (fun _ _ => rfl) W.hl fun a ha => ?_
  have ne : a ≠ n := fun z => by
    rw [z] at ha
    unfold isDir at ha
    rw [lk_put, if_pos rfl] at ha; cases ha
  have e1 : lk (putN T.nodes n ⟨.oct o', lnk T.nodes n⟩) a = lk T.nodes a := by rw [lk_put, if_neg ne]
  rw [dir_lk e1] at ha
  refine up_keep (P := fun _ => True) (fun d q c ⟨e1, k1, q1, q2⟩ _ => ⟨trivial, q, e1, k1, ?_, q2⟩) (W.up ha) trivial
  rw [lk_put, if_neg (fun z => by rw [z, h] at q1; cases q1)]; exact q1
theorem wf_link (W : WF T) {c g : Int} {y : Str} {e : List (Str × Int)} {k : Int} {u : Nd} (hc : isDir T.nodes c = false) (hu : lk T.nodes c = some u) (hg : lk T.nodes g = some ⟨.ent e, k⟩) (hy : PyData.strOk y = true) (h4 : childL e y = none) (h5 : e.length < 64) :
    WF ⟨bumpN (addE T.nodes g y c) c, T.hs⟩ := by
  have c0 := W.w0.n0 hc
  have dg := isDir_iff.mpr ⟨_, _, hg⟩
  have ne : c ≠ g := fun z => by rw [z, dg] at hc; cases hc
  have W1 := W.w0.add (m := c) (y := y) hg c0 hy (by rw [rem_no h4]; exact h5)
  have hu1 : lk (addE T.nodes g y c) c = some u := by unfold addE; rw [lk_put, if_neg ne]; exact hu
  have hc1 : isDir (addE T.nodes g y c) c = false := by rw [dir_add dg]; exact hc
  have W2 := W1.links (i := u.links + 1) hu1 hc1
  have eb : bumpN (addE T.nodes g y c) c = putN (addE T.nodes g y c) c ⟨u.bd, u.links + 1⟩ := by unfold bumpN; rw [hu1]
  rw [eb]
  refine W2.wf (fun a _ => ?_) W.hl fun a ha => ?_
  · rw [h4]
    show 0 + sg c a - 0 + (if a = c then u.links - (u.links + 1) else 0) = 0
    unfold sg
    by_cases e : a = c
    · rw [if_pos e, if_pos e.symm]; omega
    · rw [if_neg e, if_neg (fun z => e z.symm)]; omega
  · have hda : isDir T.nodes a = true := by
      rw [← dir_add (x := y) (n := c) dg]
      by_cases e : a = c
      · exfalso
        rw [e] at ha
        unfold isDir at ha hc1
        rw [lk_put, if_pos rfl] at ha
        rw [hu1] at hc1
        obtain ⟨b, k⟩ := u
        cases b with
        | ent e => cases hc1
        | oct _ => cases ha
        | tgt _ => cases ha
      · rw [dir_lk (m := putN (addE T.nodes g y c) c ⟨u.bd, u.links + 1⟩) (l := addE T.nodes g y c) (by rw [lk_put, if_neg e])] at ha
        exact ha
    refine up_keep (P := fun _ => True) (fun d q a' h' _ => ⟨trivial, q, ?_⟩) (W.up hda) trivial
    obtain ⟨e1, k1, q1, q2⟩ := ed_add (g := g) (y := y) (n := c) h' fun z => by
      obtain ⟨e1, k1, q1, q2⟩ := h'
      rw [z.1, hg] at q1
      cases q1
      exact childL_no h4 q2 z.2
    refine ⟨e1, k1, ?_, q2⟩
    rw [lk_put, if_neg (fun z => by
      rw [z, hu1] at q1
      have := isDir_iff.mpr ⟨e1, k1, hu1.trans q1⟩
      rw [hc1] at this; cases this)]
    exact q1
end
end Tm

set_option maxHeartbeats 4000000
namespace Tm
open PySem PySem.Spec PyProof.Rows L2
section
variable {T T' : Tr} {D : PyData}
theorem Down.dir {l : Ns} {n a : Int} (h : Down l n a) : isDir l a = true → isDir l n = true := by
  induction h with
  | refl => exact fun h => h
  | step _ h1 _ ih => exact fun _ => ih (isDir_iff.mpr ⟨_, _, h1⟩)
theorem up_move {l l' : Ns} {n g : Int} {y : Str} {o : Option Int} (up : ∀ a, isDir l a = true → Up l a) (hg : isDir l g = true) (hwi : isDir l n = true → ¬ Down l n g) (ho : ∀ old, o = some old → (∃ q, Ed l g q old) ∧ Leaf l old)
    (keep : ∀ a q c, Ed l a q c → c ≠ n → o ≠ some c → Ed l' a q c) (new : Ed l' g y n) (a : Int) (ha : isDir l a = true) (hoa : o ≠ some a) : Up l' a := by
  have noO : ∀ {d q c}, Ed l d q c → o ≠ some d := fun {d q c} h z => (ho d z).2.no h
  have A : ∀ a, isDir l a = true → ¬ Down l n a → o ≠ some a → Up l' a := fun a h1 h2 h3 => by
    refine up_keep (P := fun a => ¬ Down l n a ∧ o ≠ some a) (fun d q c h p => ⟨⟨fun z => p.1 ?_, noO h⟩, q, keep d q c h (fun z => p.1 (by rw [z]; exact .refl)) p.2⟩) (up a h1) ⟨h2, h3⟩
    obtain ⟨e, k, q1, q2⟩ := h
    exact .step z q1 q2
  by_cases c : Down l n a
  · have dn := c.dir ha
    have og : o ≠ some g := fun z => by
      obtain ⟨⟨q, h1⟩, h2⟩ := ho g z
      exact h2.no h1
    have ug := A g hg (hwi dn) og
    obtain ⟨e1, k1, q1, q2⟩ := id new
    have un : Up l' n := .up q1 q2 ug
    have B : ∀ c, Down l n c → o ≠ some c → Up l' c := fun c h => by
      induction h with
      | refl => exact fun _ => un
      | @step c d e k x z h1 h2 ih =>
        intro hc
        by_cases cn : c = n
        · rw [cn]; exact un
        · have ed : Ed l d x c := ⟨_, _, h1, h2⟩
          obtain ⟨e3, k3, q3, q4⟩ := keep d x c ed cn hc
          exact .up q3 q4 (ih (noO ed))
    exact B a c hoa
  · exact A a ha c hoa
theorem wf_rn (W : WF T) {d g n : Int} {x y : Str} (hd : child T.nodes d x = some n) (hg : isDir T.nodes g = true) (hy : PyData.strOk y = true) (h : rnS T d x n g y = .ok (D, T')) : WF T' ∧ D = .none := by
  have edn := ed_child hd
  have dd := edn.dir
  obtain ⟨ed, kd, hed⟩ := isDir_iff.mp dd
  obtain ⟨eg, kg, heg⟩ := isDir_iff.mp hg
  have cd : childL ed x = some n := by rw [← child_ent hed]; exact hd
  obtain ⟨n0, u, hu⟩ := W.child hd
  by_cases wi : isDir T.nodes n = true ∧ Down T.nodes n g
  · rw [rnS_wi wi] at h; cases h
  have W1 := W.w0.del (y := x) hed
  have sd := W.ent _ _ _ hed
  have s_g := W.ent _ _ _ heg
  have d1 : isDir (delE T.nodes d x) g = true := by rw [dir_del dd]; exact hg
  -- what stands at g behind the taking off
  have at_g : ∃ e' k', lk (delE T.nodes d x) g = some ⟨.ent e', k'⟩ ∧ ((g = d ∧ e' = remE ed x) ∨ (g ≠ d ∧ e' = eg)) := by
    unfold delE
    by_cases c : g = d
    · exact ⟨_, _, by rw [lk_put, if_pos c], .inl ⟨c, by rw [entOf_eq hed]⟩⟩
    · exact ⟨eg, kg, by rw [lk_put, if_neg c]; exact heg, .inr ⟨c, rfl⟩⟩
  obtain ⟨e', k', hg1, he'⟩ := at_g
  have hged : g = d → eg = ed := fun z => by rw [z, hed] at heg; cases heg; rfl
  have keep1 : ∀ (o : Option Int), child T.nodes g y = o → ∀ a q c, Ed T.nodes a q c → c ≠ n → o ≠ some c → Ed (addE (delE T.nodes d x) g y n) a q c := fun o ho a q c hE h1 h2 => by
    refine ed_add (ed_del hE fun z => h1 ?_) fun z => h2 ?_
    · rw [z.1, z.2] at hE
      exact W.uniq hE edn
    · obtain ⟨e1, k1, q1, q2⟩ := hE
      rw [z.1, heg] at q1
      cases q1
      rw [← ho, child_ent heg, ← z.2]
      exact childL_of (srt_names s_g.1) q2
  cases hc : child T.nodes g y with
  | none =>
    by_cases df : g ≠ d ∧ 64 ≤ (entOf T.nodes g).length
    · rw [rnS_df wi hc df] at h; cases h
    · rw [rnS_none wi hc df] at h
      cases h
      have cg : childL eg y = none := by rw [← child_ent heg]; exact hc
      have ce : childL e' y = none := by
        rcases he' with ⟨c, rfl⟩ | ⟨c, rfl⟩
        · rw [hged c] at cg
          cases q : childL (remE ed x) y with
          | none => rfl
          | some v => exact absurd rfl (childL_no cg (mem_rem.mp (childL_mem q)).1)
        · exact cg
      have hlen : (remE e' y).length < 64 := by
        rw [rem_no ce]
        rcases he' with ⟨c, rfl⟩ | ⟨c, rfl⟩
        · have := rem_len1 cd
          have := sd.2.1
          omega
        · rw [entOf_eq heg] at df
          have : ¬ 64 ≤ e'.length := fun z => df ⟨c, z⟩
          omega
      have W2 := W1.add (m := n) (y := y) hg1 n0 hy hlen
      refine ⟨W2.wf (fun a _ => ?_) W.hl fun a ha => ?_, rfl⟩
      · rw [cd, ce]; show 0 - sg n a + sg n a - 0 = 0; omega
      · rw [dir_add d1, dir_del dd] at ha
        exact up_move (o := none) (fun a h => W.up h) hg (fun z q => wi ⟨z, q⟩) (fun _ z => by cases z) (keep1 none hc) ed_new a ha (fun z => by cases z)
  | some old =>
    by_cases so : old = n
    · rw [so] at hc
      rw [rnS_same wi hc] at h
      cases h
      exact ⟨W, rfl⟩
    · cases hr : replS T.nodes n old with
      | some e => rw [rnS_err wi hc so hr] at h; cases h
      | none =>
        rw [rnS_ok wi hc so hr] at h
        cases h
        have edo := ed_child hc
        obtain ⟨o0, uo, huo⟩ := W.child hc
        have hL : Leaf T.nodes old := by
          unfold replS at hr
          by_cases c1 : isDir T.nodes old = true
          · rw [if_pos c1] at hr
            obtain ⟨eo, ko, heo⟩ := isDir_iff.mp c1
            by_cases c2 : isDir T.nodes n = true
            · rw [if_pos c2] at hr
              by_cases c3 : 0 < (entOf T.nodes old).length
              · rw [if_pos c3] at hr; cases hr
              · rw [entOf_eq heo] at c3
                have e0 : eo = [] := List.eq_nil_of_length_eq_zero (by omega)
                have k1 := (W.ent _ _ _ heo).2.2.1
                right
                rw [heo, e0, k1]
            · rw [if_neg c2] at hr; cases hr
          · exact .inl (by cases q : isDir T.nodes old with
              | false => rfl
              | true => exact absurd q c1)
        have cg : childL eg y = some old := by rw [← child_ent heg]; exact hc
        have od : old ≠ d := fun z => hL.no (by rw [z]; exact edn)
        have og : old ≠ g := fun z => hL.no (x := y) (c := old) (by rw [z] at edo ⊢; exact edo)
        have ce : childL e' y = some old := by
          rcases he' with ⟨c, rfl⟩ | ⟨c, rfl⟩
          · rw [hged c] at cg
            have yx : y ≠ x := fun z => by rw [z, cd] at cg; exact so (Option.some.inj cg).symm
            exact childL_of (srt_names (srt_rem sd.1)) (mem_rem.mpr ⟨childL_mem cg, yx⟩)
          · exact cg
        have hlen : (remE e' y).length < 64 := by
          have h1 := rem_len1 ce
          have h2 : e'.length ≤ 64 := by
            rcases he' with ⟨c, rfl⟩ | ⟨c, rfl⟩
            · have : (remE ed x).length ≤ ed.length := List.length_filter_le _ _
              have := sd.2.1
              omega
            · exact s_g.2.1
          omega
        have W2 := W1.add (m := n) (y := y) hg1 n0 hy hlen
        have ho2 : lk (addE (delE T.nodes d x) g y n) old = lk T.nodes old := by
          unfold addE delE
          rw [lk_put, if_neg og, lk_put, if_neg od]
        have hL2 : Leaf (addE (delE T.nodes d x) g y n) old := by
          unfold Leaf
          rw [dir_lk ho2, ho2]; exact hL
        have hu2 := ho2.trans huo
        have W3 := W2.lose hL2 o0 hu2
        refine ⟨W3.wf (fun a _ => ?_) W.hl fun a ha => ?_, rfl⟩
        · rw [cd, ce]; show 0 - sg n a + sg n a - sg old a + sg old a = 0; omega
        · obtain ⟨ha1, ha2⟩ := dir_lose W2 hL2 hu2 ha
          rw [dir_add d1, dir_del dd] at ha1
          refine up_move (o := some old) (l' := loseN ⟨addE (delE T.nodes d x) g y n, T.hs⟩ old) (fun a h => W.up h) hg (fun z q => wi ⟨z, q⟩) (fun v z => ?_) (fun a q c h1 h2 h3 => ?_) (ed_lose ed_new (fun z => og z.symm)) a ha1 (fun z => ha2 (Option.some.inj z).symm)
          · cases z; exact ⟨⟨y, edo⟩, hL⟩
          · exact ed_lose (keep1 (some old) hc a q c h1 h2 h3) fun z => hL.no (x := q) (c := c) (by rw [← z]; exact h1)
/-! ### handles -/
theorem wf_hs (W : WF T) {hs : List (Option Int)} (hl : hs.length = 16) (hf : ∀ n, some n ∈ hs → ∃ o k, lk T.nodes n = some ⟨.oct o, k⟩) : WF ⟨T.nodes, hs⟩ := ⟨W.nd, W.rng, W.root, W.ent, W.ref, W.ref0, W.tg, W.oct, hl, hf, W.nm⟩
theorem wf_shut (W : WF T) {n : Int} {o : List Int} {k : Int} (h : lk T.nodes n = some ⟨.oct o, k⟩) (hl : lnk T.nodes n = 0) (hh : some n ∉ T.hs) : WF ⟨dropN T.nodes n, T.hs⟩ := by
  have hd : isDir T.nodes n = false := by unfold isDir; rw [h]
  have W1 : W0 (dropN T.nodes n) T.hs (fun _ => 0) := by
    refine W.w0.drop (W.w0.n0 hd) hh fun c _ => ?_
    rw [ct_some h]
    show (0 : Int) + lnk T.nodes c = 0 + 0 + (if c = n then 0 else lnk T.nodes c)
    by_cases e : c = n
    · rw [if_pos e, e, hl]; rfl
    · rw [if_neg e]; omega
  refine W1.wf (fun _ _ => rfl) W.hl fun a ha => ?_
  have ne : a ≠ n := fun z => by
    rw [z] at ha
    unfold isDir at ha
    rw [lk_drop, if_pos rfl] at ha; cases ha
  rw [dir_lk (m := dropN T.nodes n) (l := T.nodes) (by rw [lk_drop, if_neg ne])] at ha
  refine up_keep (P := fun _ => True) (fun d q c ⟨e1, k1, q1, q2⟩ _ => ⟨trivial, q, e1, k1, ?_, q2⟩) (W.up ha) trivial
  rw [lk_drop, if_neg (fun z => by rw [z, h] at q1; cases q1)]; exact q1
end
end Tm

set_option maxHeartbeats 4000000
namespace Tm
open PySem PySem.Spec PyProof.Rows L2
/-! ### answers are fit -/
def Fit (D : PyData) : Prop := PyData.canLay0 D = true ∧ PyData.depth D ≤ 5
theorem fit_none : Fit .none := ⟨rfl, Nat.zero_le _⟩
theorem fit_int (i : Int) : Fit (.int i) := ⟨rfl, Nat.zero_le _⟩
theorem fit_str {s : Str} (h : PyData.strOk s = true) : Fit (.str s) := ⟨by simp [PyData.canLay0, h], Nat.zero_le _⟩
theorem fit_ints (l : List Int) : Fit (octD l) := ⟨by have := canLay_ints l; simp [octD, PyData.canLay0, this], by have := depth_ints l; simp [octD, PyData.depth, this]⟩
theorem kind_f : PyData.strOk "file" = true := by decide +kernel
theorem kind_d : PyData.strOk "directory" = true := by decide +kernel
theorem kind_l : PyData.strOk "link" = true := by decide +kernel
theorem kind_ok (b : Bd) : PyData.strOk b.kind = true := match b with
  | .oct _ => kind_f
  | .ent _ => kind_d
  | .tgt _ => kind_l
theorem fit_stat (n : Int) (x : Nd) : Fit (statD n x) := ⟨by have := kind_ok x.bd; simp [statD, PyData.canLay0, PyData.canLayAll0, this], by simp [statD, PyData.depth, PyData.depthAll]⟩
theorem fit_statOf (l : Ns) (n : Int) : Fit (statOf l n) := by
  unfold statOf
  split
  · exact fit_stat _ _
  · exact fit_none
theorem canLay_strs : ∀ l : List (Str × Int), (∀ q ∈ l, PyData.strOk q.1 = true) → PyData.canLayAll0 (l.map fun q => PyData.str q.1) = true
  | [], _ => rfl
  | q :: l, h => by
    have h1 := h q List.mem_cons_self
    have h2 := canLay_strs l fun y hy => h y (List.mem_cons_of_mem _ hy)
    simp [PyData.canLayAll0, PyData.canLay0, h1, h2]
theorem depth_strs : ∀ l : List (Str × Int), PyData.depthAll (l.map fun q => PyData.str q.1) = 0
  | [] => rfl
  | q :: l => by show max 0 (PyData.depthAll (l.map fun q => PyData.str q.1)) = 0; rw [depth_strs l]; rfl
theorem fit_dir {e : List (Str × Int)} (h : ∀ q ∈ e, PyData.strOk q.1 = true) : Fit (.list (e.map fun q => PyData.str q.1)) := ⟨by have := canLay_strs e h; simp [PyData.canLay0, this], by have := depth_strs e; simp [PyData.depth, this]⟩
section
variable {T T' : Tr} {D : PyData}
theorem st_parts {r : Except Er PyData} (h : still T r = .ok (D, T')) : r = .ok D ∧ T' = T := by
  obtain ⟨a, h1, h2⟩ := mapE_ok h
  cases h2
  exact ⟨h1, rfl⟩
theorem leafF {l : Ns} {c : Int} (h : ¬ isDir l c = true) : isDir l c = false := by
  cases q : isDir l c with
  | false => rfl
  | true => exact absurd q h
theorem wf_rmdir (W : WF T) {p : Str} (h : rmdirS T p = .ok (D, T')) : WF T' ∧ D = .none := by
  obtain ⟨⟨d, x, c⟩, h1, h2⟩ := mapE_ok h
  dsimp only at h2
  obtain ⟨q1, q2⟩ := entry_parts h1
  obtain ⟨en, k, hn⟩ := place_dir q1
  by_cases c1 : isDir T.nodes c = true
  · rw [if_pos c1] at h2
    by_cases c2 : 0 < (entOf T.nodes c).length
    · rw [if_pos c2] at h2; cases h2
    · rw [if_neg c2] at h2
      cases h2
      obtain ⟨e, kc, hc⟩ := isDir_iff.mp c1
      rw [entOf_eq hc] at c2
      have e0 : e = [] := List.eq_nil_of_length_eq_zero (by omega)
      have k1 := (W.ent _ _ _ hc).2.2.1
      have := wf_lose W (ed_child q2) (.inr (by rw [hc, e0, k1]))
      rw [lose_dir W hc hn] at this
      exact ⟨this, rfl⟩
  · rw [if_neg c1] at h2; cases h2
theorem wf_unlink (W : WF T) {p : Str} (h : unlinkS T p = .ok (D, T')) : WF T' ∧ D = .none := by
  obtain ⟨⟨d, x, c⟩, h1, h2⟩ := mapE_ok h
  dsimp only at h2
  obtain ⟨q1, q2⟩ := entry_parts h1
  by_cases c1 : isDir T.nodes c = true
  · rw [if_pos c1] at h2; cases h2
  · rw [if_neg c1] at h2
    cases h2
    exact ⟨wf_lose W (ed_child q2) (.inl (leafF c1)), rfl⟩
theorem wf_linkS (W : WF T) {p q : Str} (hq : q ∈ pathL) (h : linkS T p q = .ok (D, T')) : WF T' ∧ D = .none := by
  obtain ⟨⟨d, x, c⟩, h1, h2⟩ := mapE_ok h
  dsimp only at h2
  obtain ⟨q1, q2⟩ := entry_parts h1
  by_cases c1 : isDir T.nodes c = true
  · rw [if_pos c1] at h2; cases h2
  · rw [if_neg c1] at h2
    obtain ⟨⟨g, y⟩, h3, h4⟩ := mapE_ok h2
    cases h4
    obtain ⟨e, k, h5, h6, h7⟩ := free_ent h3
    obtain ⟨_, u, hu⟩ := W.child q2
    exact ⟨wf_link W (leafF c1) hu h5 (place_ok hq (free_parts h3).1) h6 h7, rfl⟩
theorem wf_rename (W : WF T) {p q : Str} (hq : q ∈ pathL) (h : renameS T p q = .ok (D, T')) : WF T' ∧ D = .none := by
  obtain ⟨⟨d, x, c⟩, h1, h2⟩ := mapE_ok h
  dsimp only at h2
  obtain ⟨q1, q2⟩ := entry_parts h1
  obtain ⟨⟨g, y⟩, h3, h4⟩ := mapE_ok h2
  obtain ⟨e, k, h5⟩ := place_dir h3
  exact wf_rn W q2 (isDir_iff.mpr ⟨e, k, h5⟩) (place_ok hq h3) h4
theorem wf_writeN (W : WF T) {n : Int} {o : List Int} {k : Int} (hn : lk T.nodes n = some ⟨.oct o, k⟩) {off : Nat} {oct : List Int} (h : writeN T n off oct = .ok (D, T')) : WF T' ∧ D = .none := by
  obtain ⟨l, h1, h2⟩ := mapE_ok h
  cases h2
  rw [octsOf_eq hn] at h1
  exact ⟨wf_oct W hn (writtenO_len h1 (W.oct _ _ _ hn)), rfl⟩
theorem wf_sizeN (W : WF T) {n : Int} {o : List Int} {k : Int} (hn : lk T.nodes n = some ⟨.oct o, k⟩) {len : Nat} (hl : len ≤ 28672) : WF (sizeN T n len) := by
  refine wf_oct W hn ?_
  rw [octsOf_eq hn]
  unfold resizedO
  rw [List.length_append, List.length_take, List.length_replicate]
  omega
theorem wf_newS (W : WF T) {p : Str} {b : Bd} (hp : p ∈ pathL) (hb : b.fit) (h : newS T p b = .ok (D, T')) : WF T' ∧ D = .none := ⟨wf_new W hp hb h, newS_none h⟩
theorem wf_writeS (W : WF T) {p : Str} (hp : p ∈ pathL) {off : Nat} {oct : List Int} (h : writeS T p off oct = .ok (D, T')) : WF T' ∧ D = .none := by
  unfold writeS at h
  split at h
  · rename_i n hn
    split at h
    · rename_i o k ho
      exact wf_writeN W ho h
    · cases h
  · obtain ⟨⟨d, x⟩, h1, h2⟩ := mapE_ok h
    dsimp only at h2
    split at h2
    · cases h2
    · obtain ⟨l, h3, h4⟩ := mapE_ok h2
      exact wf_newS W hp (.inr (.inr ⟨l, rfl, writtenO_len h3 (by decide)⟩)) h4
  · cases h
theorem wf_open (W : WF T) {p : Str} (h : openFileS T p = .ok (D, T')) : WF T' ∧ Fit D := by
  obtain ⟨n, h1, h2⟩ := mapE_ok h
  split at h2
  · cases h2
  · cases h2
    obtain ⟨o, k, hn⟩ := file_parts h1
    refine ⟨wf_hs W (by rw [List.length_set]; exact W.hl) fun m hm => ?_, fit_int _⟩
    rcases List.mem_or_eq_of_mem_set hm with z | z
    · exact W.hf m z
    · cases z; exact ⟨o, k, hn⟩
theorem wf_close (W : WF T) {i : Nat} (h : closeS T i = .ok (D, T')) : WF T' ∧ D = .none := by
  obtain ⟨n, h1, h2⟩ := mapE_ok h
  cases h2
  obtain ⟨o, k, hn⟩ := W.opn h1
  have W1 : WF ⟨T.nodes, T.hs.set i none⟩ := wf_hs W (by rw [List.length_set]; exact W.hl) fun m hm => by
    rcases List.mem_or_eq_of_mem_set hm with z | z
    · exact W.hf m z
    · cases z
  refine ⟨?_, rfl⟩
  by_cases c : lnk T.nodes n = 0 ∧ some n ∉ T.hs.set i none
  · rw [if_pos c]
    exact wf_shut (T := ⟨T.nodes, T.hs.set i none⟩) W1 hn c.1 c.2
  · rw [if_neg c]; exact W1
theorem fit_of {D : PyData} (h : WF T' ∧ D = .none) : WF T' ∧ Fit D := ⟨h.1, by rw [h.2]; exact fit_none⟩
theorem wf_step {o : Op} (W : WF T) (hg : o.good) (h : stepS T o = .ok (D, T')) : WF T' ∧ PyData.canLay0 D = true ∧ PyData.depth D ≤ 5 := by
  show WF T' ∧ Fit D
  cases o with
  | mkdir p => exact fit_of (wf_newS W hg (.inl rfl) h)
  | rmdir p => exact fit_of (wf_rmdir W h)
  | write p off oct => exact fit_of (wf_writeS W hg.1 h)
  | read p off len =>
    obtain ⟨h1, rfl⟩ := st_parts h
    obtain ⟨n, _, h3⟩ := mapE_ok h1
    cases h3
    exact ⟨W, fit_ints _⟩
  | truncate p len =>
    obtain ⟨n, h2, h3⟩ := mapE_ok h
    cases h3
    obtain ⟨o, k, hn⟩ := file_parts h2
    exact ⟨wf_sizeN W hn hg.2, fit_none⟩
  | rename p q => exact fit_of (wf_rename W hg.2 h)
  | link p q => exact fit_of (wf_linkS W hg.2 h)
  | unlink p => exact fit_of (wf_unlink W h)
  | symlink g p => exact fit_of (wf_newS W hg.2 (.inr (.inl ⟨g, rfl, hg.1⟩)) h)
  | readlink p =>
    obtain ⟨h1, rfl⟩ := st_parts h
    obtain ⟨⟨d, x, c⟩, _, h3⟩ := mapE_ok h1
    dsimp only at h3
    split at h3
    · rename_i s k hs
      cases h3
      exact ⟨W, fit_str (tgt_ok (W.tg _ _ _ hs))⟩
    · cases h3
  | readdir p =>
    obtain ⟨h1, rfl⟩ := st_parts h
    obtain ⟨n, _, h3⟩ := mapE_ok h1
    split at h3
    · rename_i e k he
      cases h3
      exact ⟨W, fit_dir (W.nm _ _ _ he)⟩
    · cases h3
  | stat p =>
    obtain ⟨h1, rfl⟩ := st_parts h
    obtain ⟨n, _, h3⟩ := mapE_ok h1
    cases h3
    exact ⟨W, fit_statOf _ _⟩
  | lstat p =>
    obtain ⟨h1, rfl⟩ := st_parts h
    unfold lstatS at h1
    split at h1
    · cases h1; exact ⟨W, fit_statOf _ _⟩
    · obtain ⟨n, _, h3⟩ := mapE_ok h1
      cases h3
      exact ⟨W, fit_statOf _ _⟩
  | openF p => exact wf_open W h
  | closeF i => exact fit_of (wf_close W h)
  | readAt i off len =>
    obtain ⟨h1, rfl⟩ := st_parts h
    obtain ⟨n, _, h3⟩ := mapE_ok h1
    cases h3
    exact ⟨W, fit_ints _⟩
  | writeAt i off oct =>
    obtain ⟨n, h2, h3⟩ := mapE_ok h
    obtain ⟨o, k, hn⟩ := W.opn h2
    exact fit_of (wf_writeN W hn h3)
  | resize i len =>
    obtain ⟨n, h2, h3⟩ := mapE_ok h
    cases h3
    obtain ⟨o, k, hn⟩ := W.opn h2
    exact ⟨wf_sizeN W hn hg.2, fit_none⟩
  | statAt i =>
    obtain ⟨h1, rfl⟩ := st_parts h
    obtain ⟨n, _, h3⟩ := mapE_ok h1
    cases h3
    exact ⟨W, fit_statOf _ _⟩
end
theorem wf_start : WF tree0 := by
  have hl : ∀ n x, lk tree0.nodes n = some x → n = 0 ∧ x = ⟨.ent [], 1⟩ := fun n x h => by
    have h2 := lk_mem h
    have h3 : (n, x) = ((0 : Int), (⟨.ent [], 1⟩ : Nd)) := by simpa [tree0] using h2
    injection h3 with h4 h5
    exact ⟨h4, h5⟩
  have hno : ∀ n : Int, n ≠ 0 → lk tree0.nodes n = none := fun n h => by
    cases q : lk tree0.nodes n with
    | none => rfl
    | some x => exact absurd (hl n x q).1 h
  refine ⟨by decide, fun p hp => ?_, ⟨[], rfl⟩, fun n l k h => ?_, fun n h => ?_, rfl, fun n s k h => ?_, fun n s k h => ?_, rfl, fun n h => ?_, fun n l k h => ?_⟩
  · have : p = ((0 : Int), (⟨.ent [], 1⟩ : Nd)) := by simpa [tree0] using hp
    rw [this]; decide
  · obtain ⟨h1, h2⟩ := hl n _ h
    cases h2
    rw [h1]
    exact ⟨.nil, by decide, rfl, .root⟩
  · rw [hno n h]; rfl
  · have := (hl n _ h).2; cases this
  · have := (hl n _ h).2; cases this
  · have : some n = (none : Option Int) := List.eq_of_mem_replicate h
    cases this
  · have := (hl n _ h).2
    cases this
    exact fun q hq => by cases hq
end Tm

set_option maxHeartbeats 4000000
namespace Tm
open PySem PySem.Spec PyProof.Rows L2
section
variable {K : PySem.W.Frag} {dn hn d hl t : Addr} {H H' : Hp} {T T' : Tr}
theorem PA.fl (pa : PA K H t d hl T) (la : LA K dn hn hl H T') (ne : d ≠ dn) (f : FL dn hn H H') : PA K H' t d hl T := by
  obtain ⟨⟨dx, h1⟩, ⟨kvs, h2, h3⟩, h4⟩ := pa
  have si := la.fi f
  refine ⟨⟨dx, si _ _ trivial h1⟩, ⟨kvs, ?_, kvs_i si h3⟩, ?_⟩
  · refine f.keep _ _ h2 ne (fun z => ?_) (fun z => ?_)
    · rw [z, la.hand] at h2; cases h2
    · obtain ⟨nd, bv, e⟩ := la.isq z
      rw [e] at h2; cases h2
  · refine f.keep _ _ h4 (fun z => ?_) (fun z => la.ne z.symm) (fun z => ?_)
    · obtain ⟨kl, e, _⟩ := la.dict
      rw [z, e] at h4; cases h4
    · obtain ⟨nd, bv, e⟩ := la.isq z
      rw [e] at h4
      injection h4 with h4
      injection h4 with h4
      exact nV_hs h4
theorem BodyL.kept (si : SameI H H') (keep : ∀ b o, H b = some o → b ≠ hl → (∀ kvs, o ≠ .dK kvs) → H' b = some o) : ∀ {b : Bd} {v : V}, BodyL K hn hl H b v → BodyL K hn hl H' b v
  | .oct _, _, ⟨b, e1, n1, n2, h⟩ => ⟨b, e1, n1, n2, keep _ _ h n2 (fun _ z => by cases z)⟩
  | .ent _, _, ⟨b, ps, e1, n1, n2, h, r⟩ => ⟨b, ps, e1, n1, n2, keep _ _ h n2 (fun _ z => by cases z), paired_imp (fun _ _ z => samei_t si z) r⟩
  | .tgt _, _, h => h
theorem LA.fr (la : LA K dn hn hl H T) (pa : PA K H t d hl T') (pa2 : PA K H' t d hl T2) (ne : d ≠ dn) (f : Fr (S2 d hl) H H') : LA K dn hn hl H' T := by
  have si := f.i pa.ni
  obtain ⟨⟨kl, e1, e2, e3⟩, e4, ⟨hs, e5⟩, e6, e7⟩ := la
  obtain ⟨_, ⟨kp, h2, _⟩, _⟩ := pa
  have keep : ∀ b o, H b = some o → b ≠ hl → (∀ kvs, o ≠ .dK kvs) → H' b = some o := fun b o e n1 n2 => f b o (fun z => by
    rcases z with z | z
    · rw [z, h2] at e; cases e; exact n2 _ rfl
    · exact n1 z) e
  refine ⟨⟨kl, f _ _ (fun z => ?_) e1, paired_imp (fun a b ⟨x1, p, x2, bv2, x3, x4⟩ => ⟨x1, p, x2, bv2, keep _ _ x3 (fun z => ?_) (fun _ z => by cases z), ?_⟩) e2, e3⟩, keep _ _ e4 e6 (fun _ z => by cases z), ⟨T2.hs, pa2.hand⟩, e6, e7⟩
  · rcases z with z | z
    · exact ne z.symm
    · rw [z, e5] at e1; cases e1
  · rw [z, e5] at x3
    injection x3 with x3
    injection x3 with x3
    exact nV_hs x3.symm
  · exact BodyL.kept si keep x4
end
section
variable {P : Program} {w : World} {K : PySem.W.Frag} {mg : Str → Option Value} {base : Heap}
theorem OpA.move {H H' : Hp} {o : Op} {xs : List V} (h : OpA K H o xs) (keep : ∀ (b : Addr) (l : List Int), V.ref b ∈ xs → H b = some (.lst (l.map V.int)) → H' b = some (.lst (l.map V.int))) : OpA K H' o xs := by
  cases o <;> first | exact h | (obtain ⟨b, e, h⟩ := h; exact ⟨b, e, keep b _ (by rw [e]; simp) h⟩)
theorem shaped_ok {D : PyData} (h : PyData.canLay0 D = true) (hd : PyData.depth D ≤ 5) : SeqAt.shaped (.tuple [.str "ok", D]) = true := by
  have e : PyData.depth (.tuple [.str "ok", D]) ≤ 7 := by simp [PyData.depth, PyData.depthAll]; omega
  unfold SeqAt.shaped
  rw [Bool.and_eq_true, decide_eq_true_eq]
  refine ⟨?_, by omega⟩
  have h1 : PyData.strOk ("ok" : Str) = true := ok_ok
  simp [PyData.canLay0, PyData.canLayAll0, h, h1]
def spLaw (K : PySem.W.Frag) : Sp := fun vs H Q _ => ∃ (a : Addr) (ns : List Int), vs = [.ref a] ∧ SqL K H a (ns.map V.int) ∧ ns.length ≤ 1000 ∧ ∀ H', Q (.bl true) H'
theorem sc_law : FnScope ["_law_script", "_law_tree", "_law_nodes", "_law_handles", "_law_draw", "_law_operation_here", "_law_kept", "_law_due_here"] ["_law_script"] (defScope s_law) := ⟨rfl, rfl, rfl, by decide +kernel, rfl, by decide +kernel, by decide +kernel⟩
theorem law_run (T : Tx K mg) (Ac : Acts K w) (Ex : Exs K) (A : Around) (hgA : A.guards = some []) (outer : List Env) (s : Shared) (H : Hp) (us : List Value) (vs : List V) (Q : VK) (E : XK) (hr : Room 12 A) (e0 : Env0 P w K mg base A outer s H) (r : Vals vs us) (hsp : spLaw K vs H Q E) :
    codeAny (model P w) A (.call (.ref (He.ga K "law")) ⟨us, []⟩) (CR (L2.CX P w) outer P w H s Q E) s := by
  have G_FileTree_init := ok_FileTree_init (P := P) (w := w) (base := base) T
  have G_law_draws := ok_law_draws (P := P) (w := w) (base := base) T
  have G_law_operation := ok_law_operation (P := P) (w := w) (base := base) T
  have G_law_due := ok_law_due (P := P) (w := w) (base := base) T
  have G_law_same := ok_law_same (P := P) (w := w) (base := base) T
  have G_law_make := ok_law_make (P := P) (w := w) (base := base) T Ac Ex
  obtain ⟨fd, F⟩ := df_law T
  have hbn := F.bindsN (ps := ["_law_script"]) fun _ _ _ _ _ _ us hl => match us, hl with | [_], _ => rfl
  obtain ⟨oc, od, dV, kV, doc, pm, an, cdv, ct, osl, rfl, lk, hcd, hD, hK⟩ := F.ex
  have S := sc_law
  have hl : vs.length = (["_law_script"] : List Str).length := by obtain ⟨_, _, rfl, _⟩ := hsp; rfl
  have KX : K.In s.heap := e0.mod.kin.keeps fun b o e => (e0.bs b o e).1
  have hb := hbn s us KX (by rw [List.append_nil, ← r.length]; exact hl)
  rw [List.append_nil] at hb
  have lim : s.heap.NoLimit := e0.mod.nolimit.keeps fun b o e => (e0.bs b o e).1
  have hkind : ∀ y ∈ (["_law_script"] : List Str).zip us, (defScope s_law).names.lookup y.1 = some .local ∨ ((defScope s_law).names.lookup y.1 = some .cell ∧ ((cellsFrom (s.heap.objs.size + 1) (defScope s_law).names []).lookup y.1).isSome = true) := fun ⟨n, v⟩ hy => by
    rcases S.par n (List.of_mem_zip hy).1 with q | q
    · exact .inl q
    · exact .inr ⟨q, PySem.W.cellsFrom_some _ _ _ (.inl q)⟩
  refine codeAny_call_function hr.depth (KX _ _ lk) rfl S.co S.gen rfl (PySem.W.codeRec_of KX hcd) (hb _ _ _ _ ?_)
  refine wpAny_newFunctionEnv_cells S.kind hkind fun env he s1 x => ?_
  subst he
  refine ⟨lim.keeps x.toInCall.keep, codeAny_func ?_⟩
  have hr0 := hr
  replace hr : Room 11 (cxOf (L2.CX P w) P w K mg base (["_law_script", "_law_tree", "_law_nodes", "_law_handles", "_law_draw", "_law_operation_here", "_law_kept", "_law_due_here"]) "law" (defScope s_law) (He.ga K "law") cdv A outer s H E).A := hr.deeper _
  have I : Inv (cxOf (L2.CX P w) P w K mg base (["_law_script", "_law_tree", "_law_nodes", "_law_handles", "_law_draw", "_law_operation_here", "_law_kept", "_law_due_here"]) "law" (defScope s_law) (He.ga K "law") cdv A outer s H E) [] (L2.start ["_law_script", "_law_tree", "_law_nodes", "_law_handles", "_law_draw", "_law_operation_here", "_law_kept", "_law_due_here"] vs) H s1 := inv_start S hr0.hd e0 hl r x
  have tk : Takes (cxOf (L2.CX P w) P w K mg base (["_law_script", "_law_tree", "_law_nodes", "_law_handles", "_law_draw", "_law_operation_here", "_law_kept", "_law_due_here"]) "law" (defScope s_law) (He.ga K "law") cdv A outer s H E) (fun cls d _ H => E cls d H) := takes_of rfl rfl rfl rfl
  have po : PassesOwn (model P w) (cxOf (L2.CX P w) P w K mg base (["_law_script", "_law_tree", "_law_nodes", "_law_handles", "_law_draw", "_law_operation_here", "_law_kept", "_law_due_here"]) "law" (defScope s_law) (He.ga K "law") cdv A outer s H E).A (cxOf (L2.CX P w) P w K mg base (["_law_script", "_law_tree", "_law_nodes", "_law_handles", "_law_draw", "_law_operation_here", "_law_kept", "_law_due_here"]) "law" (defScope s_law) (He.ga K "law") cdv A outer s H E).env (cxOf (L2.CX P w) P w K mg base (["_law_script", "_law_tree", "_law_nodes", "_law_handles", "_law_draw", "_law_operation_here", "_law_kept", "_law_due_here"]) "law" (defScope s_law) (He.ga K "law") cdv A outer s H E).xe := passes_of (X := cxOf (L2.CX P w) P w K mg base (["_law_script", "_law_tree", "_law_nodes", "_law_handles", "_law_draw", "_law_operation_here", "_law_kept", "_law_due_here"]) "law" (defScope s_law) (He.ga K "law") cdv A outer s H E) rfl
  have hgd : (cxOf (L2.CX P w) P w K mg base (["_law_script", "_law_tree", "_law_nodes", "_law_handles", "_law_draw", "_law_operation_here", "_law_kept", "_law_due_here"]) "law" (defScope s_law) (He.ga K "law") cdv A outer s H E).A.guards = some [] := hgA
  have body : ∃ t, PSs (cxOf (L2.CX P w) P w K mg base (["_law_script", "_law_tree", "_law_nodes", "_law_handles", "_law_draw", "_law_operation_here", "_law_kept", "_law_due_here"]) "law" (defScope s_law) (He.ga K "law") cdv A outer s H E) (defBody s_law) t ∧ t { nx := fun _ H' => Q .non H', rt := Q } (L2.start ["_law_script", "_law_tree", "_law_nodes", "_law_handles", "_law_draw", "_law_operation_here", "_law_kept", "_law_due_here"] vs) H := by
    clear I x hb hkind r hl
    obtain ⟨a, ns, rfl, ha, hlen, k⟩ := hsp
    refine ⟨_, (pss_cons (ps_set (i := 1) sc_law.nd rfl (Or.inl rfl) (pe_makeR0 T.mkT G_FileTree_init (hr.mono (by decide)) rfl (c_FileTree T) pass0'))
        (pss_cons (ps_set (i := 2) sc_law.nd rfl (Or.inl rfl) (pe_disp (pps_cons pe_int (pe_lst (pa_cons pe_str (pa_cons (pe_lst pa_nil) (pa_cons pe_int pa_nil)))) pps_nil) (by rfl) (by rfl) (fun z => by cases z) (by decide)))
        (pss_cons (ps_set (i := 3) sc_law.nd rfl (Or.inl rfl) (pe_op op_rep (pe_lst (pa_cons pe_non pa_nil)) pe_int))
        (pss_cons (ps_for po rfl (pi_list (pe_callR G_law_draws (hr.mono (by decide)) rfl (g_law_draws T) (k_law_draws T) (pc_of tk) (pa_cons (pv 0) (pa_cons pe_int pa_nil)))) (pg_name (i := 4) sc_law.nd rfl (Or.inl rfl))
        (pss_cons (ps_set (i := 5) sc_law.nd rfl (Or.inl rfl) (pe_callR G_law_operation (hr.mono (by decide)) rfl (g_law_operation T) (k_law_operation T) (pc_of tk) (pa_cons (pv 4) pa_nil)))
          (pss_cons (ps_set (i := 6) sc_law.nd rfl (Or.inl rfl) (pe_callB (call_reprD (by have := hr.un; omega) hgd) (by rfl) (f_repr T) (by decide +kernel) (pa_cons (pv 5) pa_nil)))
          (pss_cons (ps_set (i := 7) sc_law.nd rfl (Or.inl rfl) (pe_callR G_law_due (hr.mono (by decide)) rfl (g_law_due T) (k_law_due T) (pc_of tk) (pa_cons (pv 2) (pa_cons (pv 3) (pa_cons (pv 5) pa_nil)))))
          (pss_cons (ps_if (PW.pt (pw_or (pt_cmpR (op_neD hr.units) (pe_callR G_law_make (hr.mono (by decide)) rfl (g_law_make T) (k_law_make T) (pc_of tk) (pa_cons (pv 1) (pa_cons (pv 5) pa_nil))) (pv 7) (nomark _)) (pw_or1 (pt_cmpR op_ne (pe_callB (call_reprD (by have := hr.un; omega) hgd) (by rfl) (f_repr T) (by decide +kernel) (pa_cons (pv 5) pa_nil)) (pv 6) (nomark _)))))
          (pss_one (ps_ret pe_bl))
          pss_nil)
          (pss_one (ps_if (pt_not (pt_val (pe_callR G_law_same (hr.mono (by decide)) rfl (g_law_same T) (k_law_same T) (pc_of tk) (pa_cons (pv 1) (pa_cons (pv 2) (pa_cons (pv 3) pa_nil))))))
          (pss_one (ps_ret pe_bl))
          pss_nil)))))))
        (pss_one (ps_ret pe_bl)))))), ?_⟩
    refine fun t dt ht0 hdt hne => ⟨t, dt, rfl, upd_same, fun d hl H1 f1 pa hd0 hl0 => ⟨rfl, ?_⟩⟩
    have s1 : Same H H1 := fun b o e => f1 b o (fun z => by have z : b = t := z; rw [z, ht0] at e; cases e) (by rw [upd_ne (ne_of_none e ht0), upd_ne (ne_of_none e hdt)]; exact e)
    have ha1 := same_l s1 ha
    clear f1 hd0 hl0
    intro dn hdn
    have s2 := same_new (o := .dK []) hdn
    have hdn2 : upd H1 dn (.dK []) dn = some (.dK []) := upd_same
    generalize upd H1 dn (.dK []) = H2 at s2 hdn2 ⊢
    refine ⟨(Nat.zero_le _), fun b hb0 => ⟨(by show 3 ≤ sizeLine; decide), fun q hq0 => ?_⟩⟩
    have t3 := same_new (o := .lst []) hb0
    have s3 := s2.trans t3
    have hb3 : upd H2 b (.lst []) b = some (.lst (([] : List Addr).map V.ref)) := upd_same
    generalize upd H2 b (.lst []) = H3 at t3 s3 hb3 hq0 ⊢
    have t4 := same_new (o := .lst [V.str "directory", V.ref b, V.int 1]) hq0
    have s4 := s3.trans t4
    have hq4 : upd H3 q (.lst [V.str "directory", V.ref b, V.int 1]) q = some (.lst (nV ⟨.ent [], 1⟩ (.ref b))) := upd_same
    have hb4 := t4 _ _ hb3
    have hdn4 := t4 _ _ (t3 _ _ hdn2)
    generalize upd H3 q (.lst [V.str "directory", V.ref b, V.int 1]) = H4 at s4 hq4 hb4 hdn4 t4 ⊢
    refine ⟨hdn4, [(Sum.inl 0, .ref q)], rfl, (by show 1 ≤ 15; decide), ?_⟩
    have hpad := pa.dict
    obtain ⟨kvp, hkvp, _⟩ := id hpad
    have ne1 : d ≠ dn := fun z => by rw [z] at hkvp; rw [hkvp] at hdn; cases hdn
    have s5 : Same H1 (upd H4 dn (.dK (mergeK [] [(Sum.inl 0, .ref q)]))) := fun c o e => by rw [upd_ne (ne_of_none e hdn)]; exact s4 c o e
    have hdn5 : upd H4 dn (.dK (mergeK [] [(Sum.inl 0, .ref q)])) dn = some (.dK [(Sum.inl 0, .ref q)]) := upd_same
    have hq5 : upd H4 dn (.dK (mergeK [] [(Sum.inl 0, .ref q)])) q = some (.lst (nV ⟨.ent [], 1⟩ (.ref b))) := by rw [upd_ne (fun z => by rw [z, hdn4] at hq4; cases hq4)]; exact hq4
    have hb5 : upd H4 dn (.dK (mergeK [] [(Sum.inl 0, .ref q)])) b = some (.lst (([] : List Addr).map V.ref)) := by rw [upd_ne (fun z => by rw [z, hdn4] at hb4; cases hb4)]; exact hb4
    generalize upd H4 dn (.dK (mergeK [] [(Sum.inl 0, .ref q)])) = H5 at s5 hdn5 hq5 hb5 ⊢
    refine ⟨(by show 1 ≤ sizeLine; decide), fun l hl1 => ⟨l, 16, _, rfl, rfl, upd_same, by decide, by decide, by decide, fun hn hhn0 => ?_⟩⟩
    have t6 := (same_new (o := .lst [V.non]) hl1).trans (same_new (o := .lst (List.replicate (Int.toNat 16) [V.non]).flatten) hhn0)
    have hh6 : upd (upd H5 l (.lst [V.non])) hn (.lst (List.replicate (Int.toNat 16) [V.non]).flatten) hn = some (.lst (tree0.hs.map hV)) := by rw [upd_same]; rfl
    have hhn5 : H5 hn = none := none_same (same_new (o := .lst [V.non]) hl1) hhn0
    generalize upd (upd H5 l (.lst [V.non])) hn (.lst (List.replicate (Int.toNat 16) [V.non]).flatten) = H6 at t6 hh6 ⊢
    have s6 := s5.trans t6
    have pa6 := pa.same s6
    have hl5 := s5 _ _ pa.hand
    have hnhl : hn ≠ hl := fun z => by rw [z, hl5] at hhn5; cases hhn5
    have bhn : b ≠ hn := fun z => by rw [z, hhn5] at hb5; cases hb5
    have bhl : b ≠ hl := fun z => by
      have := s2 _ _ pa.hand
      rw [z, this] at hb0; cases hb0
    have la6 : LA K dn hn hl H6 tree0 := ⟨⟨_, t6 _ _ hdn5, .cons ⟨rfl, q, rfl, .ref b, t6 _ _ hq5, b, [], rfl, bhn, bhl, t6 _ _ hb5, .nil⟩ .nil, by simp⟩, hh6, ⟨_, pa6.hand⟩, hnhl, by decide⟩
    refine ⟨_, rfl, a, ns, 80, rfl, same_l s6 ha1, hlen, by decide, fun dl H7 ds s7 hdl _ => ⟨dl, rfl, ⟨_, SqL.of hdl⟩, ?_⟩⟩
    have pa7 := pa6.same s7
    have la7 := la6.same s7
    have hsd : ∀ l : List Int, tree0.hs.map hV ≠ l.map V.int := fun l h => by
      cases l with
      | nil => cases h
      | cons c r => injection h with h _; cases h
    have dlhn : dl ≠ hn := fun z => by
      have := la7.hand
      rw [z, this] at hdl
      injection hdl with hdl
      injection hdl with hdl
      exact hsd _ hdl
    have dlhl : dl ≠ hl := fun z => by
      have := pa7.hand
      rw [z, this] at hdl
      injection hdl with hdl
      injection hdl with hdl
      exact hsd _ hdl
    refine for_list (K := K) (a := dl) (xs := ds.map V.int) (fun i σ' H' => ∃ (T' : Tm.Tr) (a4 a5 a6 a7 : Option V), σ' = [some (.ref a), some (.ref t), some (.ref dn), some (.ref hn), a4, a5, a6, a7] ∧ PA K H' t d hl T' ∧ LA K dn hn hl H' T' ∧ WF T' ∧ H' dl = some (.lst (ds.map V.int)))
      ⟨tree0, none, none, none, none, rfl, pa7, la7, wf_start, hdl⟩ (fun i σ' H' _ ⟨_, _, _, _, _, _, _, _, _, h⟩ => SqL.of h) ?_ ?_
    · rintro i y σ' H8 hi ⟨Tr, a4, a5, a6, a7, rfl, pa8, la8, W, hdl8⟩
      obtain ⟨dv, _, rfl⟩ : ∃ m, ds[i]? = some m ∧ y = V.int m := by
        rw [List.getElem?_map] at hi
        cases h1 : ds[i]? with
        | none => rw [h1] at hi; cases hi
        | some q => rw [h1] at hi; exact ⟨q, rfl, (Option.some.inj hi).symm⟩
      refine ⟨_, rfl, dv, rfl, fun o xs oa H9 s9 hop hA hfr hg hsm => ?_⟩
      obtain ⟨o1, o2, o3, o4⟩ := op_full hg hsm
      have pa9 := pa8.same s9
      have la9 := la8.same s9
      refine ⟨_, rfl, oa, o.full, rfl, .tup (SqT.of hop) (.cons (.str _) (op_dp hA)), o1, o2, o3, o4, ?_⟩
      refine ⟨_, rfl, _, rfl, _, rfl, dn, hn, hl, oa, Tr, o, xs, rfl, la9, W, SqT.of hop, hA, hg, LM.of (fun e he p H10 s10 hp => ?_) (fun z hz p x H10 f10 la10 hp dpf => ?_)⟩
      · have hop10 := s10 _ _ hop
        refine ⟨_, rfl, _, rfl, t, d, hl, oa, Tr, o, xs, rfl, pa9.same s10, W, SqT.of hop10, hA.same s10, hg, ?_⟩
        rw [he]
        refine fun p3 H11 s11 hp3 => ?_
        refine ⟨_, rfl, ?_⟩
        have s12 := s10.trans s11
        refine ne_same (dp_err hp3) (dp_err (s11 _ _ hp)) (shaped_err ok_error (ok_word _)) ?_
        refine ⟨_, rfl, ?_⟩
        refine ite2 (fun c => absurd c (by decide)) (fun _ => ?_)
        refine ⟨_, rfl, oa, o.full, rfl, .tup (SqT.of (s12 _ _ hop)) (.cons (.str _) (op_dp (hA.same s12))), o1, o2, o3, o4, ?_⟩
        refine ⟨_, rfl, rfl, _, rfl, ?_⟩
        refine ite2 (fun c => absurd rfl (ne_str.mp c)) (fun _ => ?_)
        refine ⟨_, rfl, _, rfl, _, rfl, t, d, hl, dn, hn, Tr, rfl, pa9.same s12, la9.same s12, W, fun H13 s13 => ?_⟩
        have s14 := s12.trans s13
        refine ⟨_, rfl, ?_⟩
        refine ite2 (fun c => absurd c (by decide)) (fun _ => ?_)
        exact ⟨Tr, _, _, _, _, rfl, pa9.same s14, la9.same s14, W, s14 _ _ (s9 _ _ hdl8)⟩
      · obtain ⟨D, T2⟩ := z
        obtain ⟨W2, q1, q2⟩ := wf_step W hg hz
        have hdl9 := s9 _ _ hdl8
        have si10 := la9.fi f10
        have pa10 : PA K H10 t d hl Tr := pa9.fl la9 ne1 f10
        have hop10 := si10 oa (.tup _) trivial hop
        have hA10 : OpA K H10 o xs := hA.move fun b l hb hbl => f10.keep _ _ hbl (fun z => by
          obtain ⟨kl, e, _⟩ := la9.dict
          rw [z, e] at hbl; cases hbl) (fun z => by
          have h1 := hfr b hb
          rw [z, la8.hand] at h1; cases h1) (fun z => by
          obtain ⟨nd, bv, e⟩ := la9.isq z
          rw [e] at hbl
          injection hbl with hbl
          injection hbl with hbl
          exact nV_ints hbl)
        refine ⟨_, rfl, _, rfl, t, d, hl, oa, Tr, o, xs, rfl, pa10, W, SqT.of hop10, hA10, hg, ?_⟩
        rw [hz]
        refine fun p3 x3 H11 f11 pa11 hp3 dx3 => ?_
        have si11 := f11.i pa10.ni
        have la11 : LA K dn hn hl H11 T2 := la10.fr pa10 pa11 ne1 f11
        have hA11 : OpA K H11 o xs := hA10.move fun b l hb hbl => f11 _ _ (fun z => by
          have h1 := hfr b hb
          rcases z with z | z
          · obtain ⟨_, ⟨kp, e, _⟩, _⟩ := pa8
            rw [z, e] at h1; cases h1
          · rw [z, pa8.hand] at h1; cases h1) hbl
        have hdx : Dp K H11 x D := dpf H11 (fun c o e1 e2 => f11 c o (fun z => by
          rcases z with z | z
          · obtain ⟨_, ⟨kp, e, _⟩, _⟩ := pa9
            rw [z, e] at e1; cases e1
          · rw [z, pa9.hand] at e1; cases e1) e2) si11
        refine ⟨_, rfl, ?_⟩
        refine ne_same (D := .tuple [.str "ok", D]) (.tup (SqT.of hp3) (.cons (.str _) (.cons dx3 .nil))) (.tup (SqT.of (si11 p (.tup _) trivial hp)) (.cons (.str _) (.cons hdx .nil))) (shaped_ok q1 q2) ?_
        refine ⟨_, rfl, ?_⟩
        refine ite2 (fun c => absurd c (by decide)) (fun _ => ?_)
        refine ⟨_, rfl, oa, o.full, rfl, .tup (SqT.of (si11 oa (.tup _) trivial hop10)) (.cons (.str _) (op_dp hA11)), o1, o2, o3, o4, ?_⟩
        refine ⟨_, rfl, rfl, _, rfl, ?_⟩
        refine ite2 (fun c => absurd rfl (ne_str.mp c)) (fun _ => ?_)
        refine ⟨_, rfl, _, rfl, _, rfl, t, d, hl, dn, hn, T2, rfl, pa11, la11, W2, fun H13 s13 => ?_⟩
        refine ⟨_, rfl, ?_⟩
        refine ite2 (fun c => absurd c (by decide)) (fun _ => ?_)
        have hdl10 : H10 dl = some (.lst (ds.map V.int)) := f10.keep _ _ hdl9 (fun z => by
          obtain ⟨kl, e, _⟩ := la9.dict
          rw [z, e] at hdl9; cases hdl9) dlhn (fun z => by
          obtain ⟨nd, bv, e⟩ := la9.isq z
          rw [e] at hdl9
          injection hdl9 with h
          injection h with h
          exact nV_ints h)
        have hdl11 : H11 dl = some (.lst (ds.map V.int)) := f11 _ _ (fun z => by
          rcases z with z | z
          · obtain ⟨_, ⟨kp, e, _⟩, _⟩ := pa10
            rw [z, e] at hdl10; cases hdl10
          · exact dlhl z) hdl10
        exact ⟨T2, _, _, _, _, rfl, pa11.same s13, la11.same s13, W2, s13 _ _ hdl11⟩
    · rintro σ' H8 ⟨Tr, a4, a5, a6, a7, rfl, pa8, la8, W, hdl8⟩
      exact k H8
  obtain ⟨t, ht, hq⟩ := body
  refine wpAny_mono (ht.run [] s1 (L2.start ["_law_script", "_law_tree", "_law_nodes", "_law_handles", "_law_draw", "_law_operation_here", "_law_kept", "_law_due_here"] vs) H _ I hq) (fun fl s' hs => ?_) fun e s' hs => hs
  have fin : ∀ {σ' : L2.St} {H' : Hp} {v : V} {u : Value}, Inv (cxOf (L2.CX P w) P w K mg base (["_law_script", "_law_tree", "_law_nodes", "_law_handles", "_law_draw", "_law_operation_here", "_law_kept", "_law_due_here"]) "law" (defScope s_law) (He.ga K "law") cdv A outer s H E) [] σ' H' s' → RelV v u → Q v H' → CE outer P w H s Q u s' :=
    fun {σ' H' v u} J rv q => ⟨v, H', J.os, J.bare, J.base, J.hok, rv, q⟩
  cases fl with
  | ret u =>
    obtain ⟨v, σ', H', J, rv, q⟩ := hs
    exact fin J rv q
  | next =>
    obtain ⟨σ', H', J, q⟩ := hs
    exact fin (v := V.non) (u := Value.none) J rfl q
  | brk =>
    obtain ⟨_, _, _, q⟩ := hs
    exact False.elim q
  | cont =>
    obtain ⟨_, _, _, q⟩ := hs
    exact False.elim q
end
end Tm

set_option maxHeartbeats 4000000
namespace Tm
open PySem PySem.Spec PyProof.Rows L2
theorem excB_ok {K : PySem.W.Frag} {x : Str} (h : excB K x = true) : ExcC K (He.ga K x) := by
  obtain ⟨h1, h⟩ := He.ba h
  obtain ⟨h2, h⟩ := He.ba h
  obtain ⟨h3, h⟩ := He.ba h
  obtain ⟨h4, h⟩ := He.ba h
  obtain ⟨h5, h⟩ := He.ba h
  obtain ⟨h6, h⟩ := He.ba h
  obtain ⟨h7, h8⟩ := He.ba h
  exact ⟨He.eqO_ok h1, He.eqO_ok h2, of_decide_eq_true h3, h4, He.eqO_ok h5, He.eqO_ok h6, of_decide_eq_true h7, of_decide_eq_true h8⟩
theorem erL_all (e : Er) : e ∈ erL := by cases e <;> decide
theorem exs_of {K : PySem.W.Frag} (h : exB K = true) : Exs K := by
  obtain ⟨h1, h⟩ := He.ba h
  obtain ⟨h2, _⟩ := He.ba h
  exact ⟨fun e => excB_ok (List.all_eq_true.mp h1 e (erL_all e)), fun e e' => of_decide_eq_true (List.all_eq_true.mp (List.all_eq_true.mp h2 e (erL_all e)) e' (erL_all e'))⟩
theorem actL_all (o : Op) : o.word ∈ actL := by cases o <;> simp [Op.word, actL]
section
variable {K : PySem.W.Frag} {mg : Str → Option Value} {h : Heap} {w : World}
theorem acts_of (c : SaysL w K) : Acts K w := by
  intro o
  obtain ⟨es, n, k1, k2, k3⟩ := c.1.tab 0 (t := (fun K => He.ga K "ACTIONS", actL)) rfl
  obtain ⟨_, h⟩ := He.ba c.2
  obtain ⟨_, h⟩ := He.ba h
  obtain ⟨u, e, r⟩ := He.valsB_ok h (q := (o.word, .glo o.word)) (List.mem_map.mpr ⟨_, actL_all o, rfl⟩)
  exact ⟨es, n, u, k1, k2, e, r⟩
theorem tx_of (X : K.In h) (G : h.Ns mainGlobals mg) (c : SaysL w K) : Tx K mg where
  fact := fun i _ e => c.1.d.fact i e
  defs := fun i _ e => c.1.d.def_ i e
  glo := fun e => He.glo_ok X G e
  free := fun e => He.free_ok X G e
  int := fun e => He.int_ok X G e
end
end Tm

set_option maxHeartbeats 4000000
namespace Tm
open PySem PySem.Spec PyProof.Rows L2
/-- the heap is good for a table that knows no list but the script -/
theorem law_core {P : Program} {w : World} {K : PySem.W.Frag} {mg mb : Str → Option Value} {a : Addr} {s₁ : Shared} {vs : List Value} {ns : List Int} {H : Hp}
    (T : Tx K mg) (Ac : Acts K w) (Ex : Exs K) (KX : K.In s₁.heap) (hns : s₁.heap.Ns mainGlobals mg) (hb : s₁.heap.Ns builtinsNs mb) (hbb : ∀ x : Str, x ≠ "__name__" → mb x = bootBuiltins x) (hlim : s₁.heap.NoLimit) (hg : s₁.gens = #[])
    (ha : s₁.heap.get? a = some { cls := .type "list", data := .seq vs.toArray }) (hl : ns.length ≤ 1000)
    (hO : ∀ b, H b = none ∨ ∃ o xs, H b = some (.frz o (.lst xs))) (hS : SqL K H a (ns.map V.int)) (hok : HOk P w H s₁.heap) (hA : ∀ b, H b ≠ none → b = a) (hK : H a ≠ none → K.lookup a = none) :
    codeAny (model P w) callerA (.call (.ref (He.ga K "law")) ⟨[.ref a], []⟩) (fun r s' => r = .ok (.ret (.bool true)) ∧ OldK s₁.heap s'.heap ∧ s'.os = s₁.os ∧ AllBare s'.gens) s₁ := by
  have out : ∀ {b : Addr} {o : Obj}, s₁.heap.get? b = some o → (b ≠ a ∨ H b = none) → (hidT s₁.heap H).get? b = some o := fun {b o} e z => hidT_get e (by
    cases q : H b with
    | none => rfl
    | some u => rcases z with z | z
                · exact absurd (hA b (by rw [q]; simp)) z
                · rw [q] at z; cases z)
  have outD : ∀ {b : Addr} {m : Str → Option Value}, s₁.heap.Ns b m → (hidT s₁.heap H).Ns b m := fun {b m} ⟨o, es, ep, e, d, r⟩ => ⟨o, es, ep, out e (.inl fun z => by
    subst z
    rw [ha] at e
    cases e
    cases d), d, r⟩
  have kin : K.In (hidT s₁.heap H) := fun b o e => out (KX b o e) (by
    by_cases z : b = a
    · subst z
      right
      cases q : H b with
      | none => rfl
      | some u =>
        rw [hK (by rw [q]; simp)] at e
        cases e
    · exact .inl z)
  have e0 : Env0 P w K mg (hidT s₁.heap H) callerA [] s₁ H := ⟨rfl, ⟨kin, outD hns, ⟨mb, outD hb, hbb⟩, let ⟨mc, h1, h2⟩ := hlim; ⟨mc, outD h1, h2⟩⟩, fun b o e => of_hidT e, Nat.le_of_eq (hidT_size _ _), trivial, fun b hb => absurd (show b ∈ ([] : List Addr) from hb) (by simp), hok, .of_eq hg⟩
  refine codeAny_mono (law_run T Ac Ex callerA rfl [] s₁ H [.ref a] [.ref a] (fun v _ => v = .bl true) (fun _ _ _ => False) ⟨rfl, by decide, by decide⟩ e0 (.cons rfl .nil) ⟨a, ns, rfl, hS, hl, fun _ => rfl⟩) fun r s' h => ?_
  cases r with
  | error e =>
    obtain ⟨_, _, _, _, _, _, _, _, _, _, _, _, z⟩ := h
    exact z.elim
  | ok fl =>
    cases fl with
    | ret u =>
      obtain ⟨v, H', os, bare, un, hok', r', q⟩ := h
      obtain rfl : v = .bl true := q
      obtain rfl : u = Value.bool true := r'
      refine ⟨rfl, OldK.of_keep fun b o e => ?_, os, bare⟩
      rcases hO b with z | ⟨ob, xs, z⟩
      · exact un.keep b o e z (fun z => absurd (show b ∈ ([] : List Addr) from z) (by simp)) (by simp)
      · have e1 := (hok b _ z).1
        rw [e] at e1
        cases e1
        exact (hok' b _ (un.frzs b _ _ z)).1
    | _ => exact False.elim h
theorem law_end {P : Program} {w : World} {K : PySem.W.Frag} {mg mb : Str → Option Value} {a : Addr} {s₁ : Shared} {vs : List Value} {ns : List Int}
    (T : Tx K mg) (Ac : Acts K w) (Ex : Exs K) (KX : K.In s₁.heap) (hns : s₁.heap.Ns mainGlobals mg) (hb : s₁.heap.Ns builtinsNs mb) (hbb : ∀ x : Str, x ≠ "__name__" → mb x = bootBuiltins x) (hlim : s₁.heap.NoLimit) (hg : s₁.gens = #[])
    (ha : s₁.heap.get? a = some { cls := .type "list", data := .seq vs.toArray }) (hi : IntsAre vs ns) (hl : ns.length ≤ 1000) :
    codeAny (model P w) callerA (.call (.ref (He.ga K "law")) ⟨[.ref a], []⟩) (fun r s' => r = .ok (.ret (.bool true)) ∧ OldK s₁.heap s'.heap ∧ s'.os = s₁.os ∧ AllBare s'.gens) s₁ := by
  have rv := vals_ints hi
  have hl2 : ns.length ≤ sizeLine := Nat.le_trans hl (by decide)
  cases hk : K.lookup a with
  | some o =>
    have e := KX a o hk
    rw [ha] at e
    cases e
    exact law_core T Ac Ex KX hns hb hbb hlim hg ha hl (H := fun _ => none) (fun _ => .inl rfl) (.inr ⟨_, vs.toArray, _, hk, rfl, rfl, rfl, by rw [List.size_toArray, hi.length]; exact hl2, by simpa using rv⟩) (fun b u z => nomatch z) (fun b z => absurd rfl z) (fun z => absurd rfl z)
  | none =>
    have at_ : ∀ b, (fun b => if b = a then some (HO.frz { cls := .type "list", data := .seq vs.toArray } (.lst (ns.map V.int))) else none : Hp) b ≠ none → b = a := fun b z => by
      by_cases q : b = a
      · exact q
      · exact absurd (if_neg q) z
    refine law_core T Ac Ex KX hns hb hbb hlim hg ha hl (H := fun b => if b = a then some (.frz { cls := .type "list", data := .seq vs.toArray } (.lst (ns.map V.int))) else none) (fun b => ?_) (.inl (.inr ⟨{ cls := .type "list", data := .seq vs.toArray }, if_pos rfl⟩)) (fun b u z => ?_) at_ fun _ => hk
    · by_cases q : b = a
      · exact .inr ⟨_, _, if_pos q⟩
      · exact .inl (if_neg q)
    · obtain rfl := at_ b (by rw [z]; simp)
      have z2 := (if_pos rfl).symm.trans z
      cases z2
      exact ⟨ha, by rw [List.length_map]; exact hl2, vs, _, rv, ha⟩
end Tm

section
set_option maxHeartbeats 0
open PySem PySem.W PySem.Calls PyProof.Rows
theorem PySem.Challenge.cw_tidemark_k58_whole_operations_follow_a_p_holds : PySem.Challenge.rw_tidemark_k58_whole_operations_follow_a_p.Holds := by
  w_on; o_law
  refine HandSHeadRun.head_any (r := HeadT.R) (q := HeadT.qv) (H := HeadT.hk) (ob := HeadT.ob) (M := 8000) (loose := HeadT.names) (d := HandSHeadRun.topDef HeadT.R.prog 114) (kwd := []) HeadT.ob_eq
    (by kernel_rfl) (fun s => by kernel_rfl) HeadT.run (by kernel_rfl) (by kernel_rfl) (by kernel_rfl) (by rfl) (by first | assumption | decide +kernel) (by decide +kernel) ⟨rfl, rfl, rfl, rfl, rfl, by decide +kernel⟩ ?hw ?hc
  case hw => w_witness2
  case hc =>
    refine Att.attach_call (l := PySem.Challenge.rw_tidemark_k58_whole_operations_follow_a_p) (n := 63) rfl (by kernel_rfl) fun w s₀ s₁ mg mb fa o pm cd doc a vs ns G Y ho hd hcd hmg0 hobj hints hlen hg => ?_
    obtain ⟨K, KX, c⟩ := Y
    have hmg : mg ("law" : PySem.Str) = some (.ref fa) := by
      have e : (HandSHeadRun.topDef HeadT.R.prog 114).name = ("law" : PySem.Str) := by kernel_rfl
      rw [← e]
      exact hmg0
    have T := Tm.tx_of KX G.T.g c
    have e := hmg.symm.trans (Tm.g_law T)
    cases e
    exact Tm.law_end T (Tm.acts_of c) (Tm.exs_of c.2) KX G.T.g G.T.b G.T.builtins G.T.nolimit hg hobj hints (Nat.le_trans hlen (by decide))

end
