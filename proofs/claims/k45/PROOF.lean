import PyProof.Rows.All
import Wide.All
import OpenK.AllK
import Wide.FinOn
import HandS.ForMost
import HandS.ForExc
import HandS.More
import HandS.SortInts
import HandS.Conv
import HandS.Defaults
import HandS.IsInst
import HandS.ExcValue
import HandS.ExcIs
import HandS.Flow
import HandS.Codes
import HandS.TupLen
import HandS.StrMore
import HandS.SetFor
import HandS.Style
import HandS.DictTup
import HandS.ListItems
import HandS.TupAny
import HandS.Finally
import HandS.Wide
import HandS.Replace
import HandS.Zip
import HandS.Walk
import HandS.DeepEq
import HandS.Deep
import HandS.Head0
import HandS.Head1
import HandS.Head2
import HandS.HeadEnd
import HandS.HeadHook1
import HandS.HeadHook2
import HandS.HeadHook3
import HandS.HeadHook4
import HandS.EndBits
import HandS.HotCalls
import HandS.ExcCtx
import HandS.Small
import HandS.Strs
import HandS.Sort
import PyProof.LongRange
import PySem.Challenge.RW_ownroom_k45_plain_names
set_option Elab.async false
set_option linter.all false
set_option maxRecDepth 100000
set_option pp.mvars false
set_option pp.deepTerms false
set_option pp.deepTerms.threshold 10
set_option pp.maxSteps 1500
set_option maxHeartbeats 4000000
namespace Ow
open PySem PySem.Spec PyProof.Rows L2
def excB (K : PySem.W.Frag) (D : Addr) : Bool := [PySem.W.findIn K (.ref D) "__getattribute__" == some (some (.builtin "BaseException.__getattribute__")), PySem.W.findIn K (.ref D) "__getattr__" == some none, PySem.W.subIn K (.ref D) (.type "BaseException") == some true, PySem.W.hasDictIn K D,
  PySem.W.findIn K (.ref D) "__class__" == some (some (.builtin "object.__class__")), PySem.W.specialIn K (.builtin "object.__class__") "__get__" == some (some (.builtin "getset_descriptor.__get__")), PySem.W.takesIn K (.builtin "object.__class__") == some true, PySem.W.mroIn K D (.type "object") == some true].all id
def clsOk (K : PySem.W.Frag) (C : Addr) : Bool := (PySem.W.clsIn K C).isSome && PySem.W.typeIn K (.ref C) == some (.type "type")
def mroB (K : PySem.W.Frag) (D : Addr) (cs : List Value) (bs : List Bool) : Bool := match PySem.W.clsIn K D with
  | some cd => !cd.mro.isEmpty && (cd.mro.contains (.ref D) && (cs.map fun c => cd.mro.contains c) == bs)
  | none => false
def top (i : Nat) : Stmt := PySem.Challenge.pw_ownroom_k45_plain_names.main.body.getD i (.Pass ⟨0, 0, 0, 0⟩)
abbrev s_is_name : Stmt := top 19
abbrev s_names_of : Stmt := top 20
abbrev s_blocks_for : Stmt := top 25
abbrev s_PlainFile___init__ : Stmt := inClass (top 26) 0
abbrev s_PlainFile_is_dir : Stmt := inClass (top 26) 1
abbrev s_PlainFile_blocks_used : Stmt := inClass (top 26) 2
abbrev s_PlainFile_told : Stmt := inClass (top 26) 3
abbrev s_PlainDir___init__ : Stmt := inClass (top 27) 0
abbrev s_PlainDir_is_dir : Stmt := inClass (top 27) 1
abbrev s_PlainDir_blocks_used : Stmt := inClass (top 27) 2
abbrev s_PlainDir_told : Stmt := inClass (top 27) 3
abbrev s_PlainDir_node_of : Stmt := inClass (top 27) 4
abbrev s_PlainDir_names_in : Stmt := inClass (top 27) 5
abbrev s_PlainDir_add_name : Stmt := inClass (top 27) 6
abbrev s_PlainDir_drop_name : Stmt := inClass (top 27) 7
abbrev s_node_known : Stmt := top 28
abbrev s_walked : Stmt := top 31
abbrev s_walked_to_new : Stmt := top 32
abbrev s_blocks_free : Stmt := top 33
abbrev s_look_slot : Stmt := top 34
abbrev s_look_growth : Stmt := top 35
abbrev s_new_node : Stmt := top 38
abbrev s_clear_lost : Stmt := top 39
abbrev s_PlainFiles___init__ : Stmt := inClass (top 40) 0
abbrev s_PlainFiles_find : Stmt := inClass (top 40) 1
abbrev s_PlainFiles_make : Stmt := inClass (top 40) 2
abbrev s_PlainFiles_make_dir : Stmt := inClass (top 40) 3
abbrev s_PlainFiles_link : Stmt := inClass (top 40) 4
abbrev s_PlainFiles_unlink : Stmt := inClass (top 40) 5
abbrev s_PlainFiles_remove_dir : Stmt := inClass (top 40) 6
abbrev s_PlainFiles_move : Stmt := inClass (top 40) 7
abbrev s_PlainFiles_names : Stmt := inClass (top 40) 8
abbrev s_PlainFiles_stat : Stmt := inClass (top 40) 9
abbrev s_PlainFiles_free : Stmt := inClass (top 40) 15
abbrev s__law_mixed : Stmt := top 42
abbrev s__law_digit : Stmt := top 43
abbrev s__law_left : Stmt := top 44
abbrev s__law_alike : Stmt := top 45
abbrev s__law_kind : Stmt := top 46
abbrev s__law_done : Stmt := top 47
abbrev s__law_told : Stmt := top 48
abbrev s__law_names : Stmt := top 49
abbrev s__law_begun : Stmt := top 50
abbrev s__law_blocks : Stmt := top 51
abbrev s__law_spare : Stmt := top 52
abbrev s__law_links : Stmt := top 53
abbrev s__law_seek : Stmt := top 54
abbrev s__law_found : Stmt := top 55
abbrev s__law_spot : Stmt := top 56
abbrev s__law_full : Stmt := top 57
abbrev s__law_lacks : Stmt := top 58
abbrev s__law_put : Stmt := top 59
abbrev s__law_freed : Stmt := top 60
abbrev s__law_cleared : Stmt := top 61
abbrev s__law_made : Stmt := top 62
abbrev s__law_linked : Stmt := top 63
abbrev s__law_unlinked : Stmt := top 64
abbrev s__law_removed : Stmt := top 65
abbrev s__law_moved : Stmt := top 66
abbrev s__law_by_path : Stmt := top 67
abbrev s__law_stat : Stmt := top 68
abbrev s__law_named_due : Stmt := top 69
abbrev s__law_due : Stmt := top 70
abbrev s__law_right : Stmt := top 71
abbrev s__law_path : Stmt := top 72
abbrev s__law_node : Stmt := top 73
abbrev s__law_letters : Stmt := top 74
abbrev s__law_deeds : Stmt := top 75
abbrev s_law : Stmt := top 76
def fns0 : List He.DefD := [⟨("is_name", none), "is_name", "is_name", defArgs (top 19), defBody (top 19), defScope (top 19), [], []⟩, ⟨("names_of", none), "names_of", "names_of", defArgs (top 20), defBody (top 20), defScope (top 20), [], []⟩, ⟨("blocks_for", none), "blocks_for", "blocks_for", defArgs (top 25), defBody (top 25), defScope (top 25), [], []⟩, ⟨("PlainFile", some "__init__"), "__init__", "PlainFile.__init__", defArgs (inClass (top 26) 0), defBody (inClass (top 26) 0), defScope (inClass (top 26) 0), [], []⟩, ⟨("PlainFile", some "is_dir"), "is_dir", "PlainFile.is_dir", defArgs (inClass (top 26) 1), defBody (inClass (top 26) 1), defScope (inClass (top 26) 1), [], []⟩, ⟨("PlainFile", some "blocks_used"), "blocks_used", "PlainFile.blocks_used", defArgs (inClass (top 26) 2), defBody (inClass (top 26) 2), defScope (inClass (top 26) 2), [], []⟩, ⟨("PlainFile", some "told"), "told", "PlainFile.told", defArgs (inClass (top 26) 3), defBody (inClass (top 26) 3), defScope (inClass (top 26) 3), [], []⟩, ⟨("PlainDir", some "__init__"), "__init__", "PlainDir.__init__", defArgs (inClass (top 27) 0), defBody (inClass (top 27) 0), defScope (inClass (top 27) 0), [], []⟩, ⟨("PlainDir", some "is_dir"), "is_dir", "PlainDir.is_dir", defArgs (inClass (top 27) 1), defBody (inClass (top 27) 1), defScope (inClass (top 27) 1), [], []⟩, ⟨("PlainDir", some "blocks_used"), "blocks_used", "PlainDir.blocks_used", defArgs (inClass (top 27) 2), defBody (inClass (top 27) 2), defScope (inClass (top 27) 2), [], []⟩, ⟨("PlainDir", some "told"), "told", "PlainDir.told", defArgs (inClass (top 27) 3), defBody (inClass (top 27) 3), defScope (inClass (top 27) 3), [], []⟩, ⟨("PlainDir", some "node_of"), "node_of", "PlainDir.node_of", defArgs (inClass (top 27) 4), defBody (inClass (top 27) 4), defScope (inClass (top 27) 4), [], []⟩, ⟨("PlainDir", some "names_in"), "names_in", "PlainDir.names_in", defArgs (inClass (top 27) 5), defBody (inClass (top 27) 5), defScope (inClass (top 27) 5), [], []⟩, ⟨("PlainDir", some "add_name"), "add_name", "PlainDir.add_name", defArgs (inClass (top 27) 6), defBody (inClass (top 27) 6), defScope (inClass (top 27) 6), [], []⟩, ⟨("PlainDir", some "drop_name"), "drop_name", "PlainDir.drop_name", defArgs (inClass (top 27) 7), defBody (inClass (top 27) 7), defScope (inClass (top 27) 7), [], []⟩, ⟨("node_known", none), "node_known", "node_known", defArgs (top 28), defBody (top 28), defScope (top 28), [], []⟩, ⟨("walked", none), "walked", "walked", defArgs (top 31), defBody (top 31), defScope (top 31), [], []⟩, ⟨("walked_to_new", none), "walked_to_new", "walked_to_new", defArgs (top 32), defBody (top 32), defScope (top 32), [], []⟩, ⟨("blocks_free", none), "blocks_free", "blocks_free", defArgs (top 33), defBody (top 33), defScope (top 33), [], []⟩, ⟨("look_slot", none), "look_slot", "look_slot", defArgs (top 34), defBody (top 34), defScope (top 34), [], []⟩, ⟨("look_growth", none), "look_growth", "look_growth", defArgs (top 35), defBody (top 35), defScope (top 35), [], []⟩, ⟨("new_node", none), "new_node", "new_node", defArgs (top 38), defBody (top 38), defScope (top 38), [], []⟩, ⟨("clear_lost", none), "clear_lost", "clear_lost", defArgs (top 39), defBody (top 39), defScope (top 39), [], []⟩, ⟨("PlainFiles", some "__init__"), "__init__", "PlainFiles.__init__", defArgs (inClass (top 40) 0), defBody (inClass (top 40) 0), defScope (inClass (top 40) 0), [], []⟩]
def fns1 : List He.DefD := [⟨("PlainFiles", some "find"), "find", "PlainFiles.find", defArgs (inClass (top 40) 1), defBody (inClass (top 40) 1), defScope (inClass (top 40) 1), [], []⟩, ⟨("PlainFiles", some "make"), "make", "PlainFiles.make", defArgs (inClass (top 40) 2), defBody (inClass (top 40) 2), defScope (inClass (top 40) 2), [], []⟩, ⟨("PlainFiles", some "make_dir"), "make_dir", "PlainFiles.make_dir", defArgs (inClass (top 40) 3), defBody (inClass (top 40) 3), defScope (inClass (top 40) 3), [], []⟩, ⟨("PlainFiles", some "link"), "link", "PlainFiles.link", defArgs (inClass (top 40) 4), defBody (inClass (top 40) 4), defScope (inClass (top 40) 4), [], []⟩, ⟨("PlainFiles", some "unlink"), "unlink", "PlainFiles.unlink", defArgs (inClass (top 40) 5), defBody (inClass (top 40) 5), defScope (inClass (top 40) 5), [], []⟩, ⟨("PlainFiles", some "remove_dir"), "remove_dir", "PlainFiles.remove_dir", defArgs (inClass (top 40) 6), defBody (inClass (top 40) 6), defScope (inClass (top 40) 6), [], []⟩, ⟨("PlainFiles", some "move"), "move", "PlainFiles.move", defArgs (inClass (top 40) 7), defBody (inClass (top 40) 7), defScope (inClass (top 40) 7), [], []⟩, ⟨("PlainFiles", some "names"), "names", "PlainFiles.names", defArgs (inClass (top 40) 8), defBody (inClass (top 40) 8), defScope (inClass (top 40) 8), [], []⟩, ⟨("PlainFiles", some "stat"), "stat", "PlainFiles.stat", defArgs (inClass (top 40) 9), defBody (inClass (top 40) 9), defScope (inClass (top 40) 9), [], []⟩, ⟨("PlainFiles", some "free"), "free", "PlainFiles.free", defArgs (inClass (top 40) 15), defBody (inClass (top 40) 15), defScope (inClass (top 40) 15), [], []⟩, ⟨("_law_mixed", none), "_law_mixed", "_law_mixed", defArgs (top 42), defBody (top 42), defScope (top 42), [], []⟩, ⟨("_law_digit", none), "_law_digit", "_law_digit", defArgs (top 43), defBody (top 43), defScope (top 43), [], []⟩, ⟨("_law_left", none), "_law_left", "_law_left", defArgs (top 44), defBody (top 44), defScope (top 44), [], []⟩, ⟨("_law_alike", none), "_law_alike", "_law_alike", defArgs (top 45), defBody (top 45), defScope (top 45), [], []⟩, ⟨("_law_kind", none), "_law_kind", "_law_kind", defArgs (top 46), defBody (top 46), defScope (top 46), [], []⟩, ⟨("_law_done", none), "_law_done", "_law_done", defArgs (top 47), defBody (top 47), defScope (top 47), [], []⟩, ⟨("_law_told", none), "_law_told", "_law_told", defArgs (top 48), defBody (top 48), defScope (top 48), [], []⟩, ⟨("_law_names", none), "_law_names", "_law_names", defArgs (top 49), defBody (top 49), defScope (top 49), [], []⟩, ⟨("_law_begun", none), "_law_begun", "_law_begun", defArgs (top 50), defBody (top 50), defScope (top 50), [], []⟩, ⟨("_law_blocks", none), "_law_blocks", "_law_blocks", defArgs (top 51), defBody (top 51), defScope (top 51), [], []⟩, ⟨("_law_spare", none), "_law_spare", "_law_spare", defArgs (top 52), defBody (top 52), defScope (top 52), [], []⟩, ⟨("_law_links", none), "_law_links", "_law_links", defArgs (top 53), defBody (top 53), defScope (top 53), [], []⟩, ⟨("_law_seek", none), "_law_seek", "_law_seek", defArgs (top 54), defBody (top 54), defScope (top 54), [], []⟩, ⟨("_law_found", none), "_law_found", "_law_found", defArgs (top 55), defBody (top 55), defScope (top 55), [], []⟩]
def fns2 : List He.DefD := [⟨("_law_spot", none), "_law_spot", "_law_spot", defArgs (top 56), defBody (top 56), defScope (top 56), [], []⟩, ⟨("_law_full", none), "_law_full", "_law_full", defArgs (top 57), defBody (top 57), defScope (top 57), [], []⟩, ⟨("_law_lacks", none), "_law_lacks", "_law_lacks", defArgs (top 58), defBody (top 58), defScope (top 58), [], []⟩, ⟨("_law_put", none), "_law_put", "_law_put", defArgs (top 59), defBody (top 59), defScope (top 59), [], []⟩, ⟨("_law_freed", none), "_law_freed", "_law_freed", defArgs (top 60), defBody (top 60), defScope (top 60), [], []⟩, ⟨("_law_cleared", none), "_law_cleared", "_law_cleared", defArgs (top 61), defBody (top 61), defScope (top 61), [], []⟩, ⟨("_law_made", none), "_law_made", "_law_made", defArgs (top 62), defBody (top 62), defScope (top 62), [], []⟩, ⟨("_law_linked", none), "_law_linked", "_law_linked", defArgs (top 63), defBody (top 63), defScope (top 63), [], []⟩, ⟨("_law_unlinked", none), "_law_unlinked", "_law_unlinked", defArgs (top 64), defBody (top 64), defScope (top 64), [], []⟩, ⟨("_law_removed", none), "_law_removed", "_law_removed", defArgs (top 65), defBody (top 65), defScope (top 65), [], []⟩, ⟨("_law_moved", none), "_law_moved", "_law_moved", defArgs (top 66), defBody (top 66), defScope (top 66), [], []⟩, ⟨("_law_by_path", none), "_law_by_path", "_law_by_path", defArgs (top 67), defBody (top 67), defScope (top 67), [], []⟩, ⟨("_law_stat", none), "_law_stat", "_law_stat", defArgs (top 68), defBody (top 68), defScope (top 68), [], []⟩, ⟨("_law_named_due", none), "_law_named_due", "_law_named_due", defArgs (top 69), defBody (top 69), defScope (top 69), [], []⟩, ⟨("_law_due", none), "_law_due", "_law_due", defArgs (top 70), defBody (top 70), defScope (top 70), [], []⟩, ⟨("_law_right", none), "_law_right", "_law_right", defArgs (top 71), defBody (top 71), defScope (top 71), [], []⟩, ⟨("_law_path", none), "_law_path", "_law_path", defArgs (top 72), defBody (top 72), defScope (top 72), [], []⟩, ⟨("_law_node", none), "_law_node", "_law_node", defArgs (top 73), defBody (top 73), defScope (top 73), [], []⟩, ⟨("_law_letters", none), "_law_letters", "_law_letters", defArgs (top 74), defBody (top 74), defScope (top 74), [], []⟩, ⟨("_law_deeds", none), "_law_deeds", "_law_deeds", defArgs (top 75), defBody (top 75), defScope (top 75), [], []⟩, ⟨("law", none), "law", "law", defArgs (top 76), defBody (top 76), defScope (top 76), [], []⟩]
def fns : List He.DefD := fns0 ++ fns1 ++ fns2
def fa0 : List He.Fa := [.glo "KernelError", .glo "Taken", .glo "BadName", .glo "NoName", .glo "NotDir", .glo "IsDir", .glo "NotEmpty", .glo "Inside", .glo "NoNode", .glo "NoSpace", .glo "TooMany", .glo "TooBig", .glo "NotHeld", .glo "NotAllowed", .str "SMALL" "abcdefghijklmnopqrstuvwxyz", .int "LONGEST" 6, .glo "is_name", .glo "names_of", .int "SLOT_CELLS" 8, .int "BLOCK_CELLS" 16, .int "PLAIN_CELLS" 64, .glo "blocks_for", .glo "PlainFile", .glo "PlainDir"]
def fa1 : List He.Fa := [.glo "node_known", .int "MOST_SLOTS" 40, .glo "walked", .glo "walked_to_new", .glo "blocks_free", .glo "look_slot", .glo "look_growth", .int "MOST_NODES" 24, .glo "new_node", .glo "clear_lost", .glo "PlainFiles", .glo "_law_mixed", .glo "_law_digit", .glo "_law_left", .glo "_law_alike", .glo "_law_kind", .glo "_law_done", .glo "_law_told", .glo "_law_names", .glo "_law_begun", .glo "_law_blocks", .glo "_law_spare", .glo "_law_links", .glo "_law_seek"]
def fa2 : List He.Fa := [.glo "_law_found", .glo "_law_spot", .glo "_law_full", .glo "_law_lacks", .glo "_law_put", .glo "_law_freed", .glo "_law_cleared", .glo "_law_made", .glo "_law_linked", .glo "_law_unlinked", .glo "_law_removed", .glo "_law_moved", .glo "_law_by_path", .glo "_law_stat", .glo "_law_named_due", .glo "_law_due", .glo "_law_right", .glo "_law_path", .glo "_law_node", .glo "_law_letters", .glo "_law_deeds", .glo "law", .free "ValueError", .free "min"]
def fa3 : List He.Fa := [.free "range", .free "isinstance", .free "str", .free "list", .free "sorted", .free "all", .free "sum", .free "len", .free "tuple", .free "int", .free "abs", .free "bool", .free "zip", .exc "Taken", .exc "BadName", .exc "NoName", .exc "NotDir", .exc "IsDir", .exc "NotEmpty", .exc "Inside", .exc "NoNode", .exc "NoSpace", .exc "TooMany", .exc "NotAllowed"]
def fa4 : List He.Fa := [.cls "PlainFile", .mkr "PlainFile", .meth "PlainFile" "is_dir", .meth "PlainFile" "blocks_used", .meth "PlainFile" "told", .noat "PlainFile" "slots", .noat "PlainFile" "contents", .noat "PlainFile" "links", .noat "PlainFile" "holds", .cls "PlainDir", .mkr "PlainDir", .meth "PlainDir" "is_dir", .meth "PlainDir" "blocks_used", .meth "PlainDir" "told", .meth "PlainDir" "node_of", .meth "PlainDir" "names_in", .meth "PlainDir" "add_name", .meth "PlainDir" "drop_name", .noat "PlainDir" "slots", .noat "PlainDir" "contents", .noat "PlainDir" "links", .noat "PlainDir" "holds", .cls "PlainFiles", .mkr "PlainFiles"]
def fa5 : List He.Fa := [.meth "PlainFiles" "find", .meth "PlainFiles" "make", .meth "PlainFiles" "make_dir", .meth "PlainFiles" "link", .meth "PlainFiles" "unlink", .meth "PlainFiles" "remove_dir", .meth "PlainFiles" "move", .meth "PlainFiles" "names", .meth "PlainFiles" "stat", .meth "PlainFiles" "free", .noat "PlainFiles" "blocks", .noat "PlainFiles" "nodes"]
def fas : List He.Fa := fa0 ++ fa1 ++ fa2 ++ fa3 ++ fa4 ++ fa5
def exL0 (K : PySem.W.Frag) : List Bool := [excB K (He.ga K "BadName"), clsOk K (He.ga K "BadName"), clsOk K (He.ga K "NoName"), clsOk K (He.ga K "NotDir"), clsOk K (He.ga K "IsDir"), clsOk K (He.ga K "NotEmpty"), clsOk K (He.ga K "Inside"), clsOk K (He.ga K "NoNode"), clsOk K (He.ga K "NoSpace"), clsOk K (He.ga K "TooMany"), clsOk K (He.ga K "TooBig"), clsOk K (He.ga K "NotHeld")]
def exL1 (K : PySem.W.Frag) : List Bool := [clsOk K (He.ga K "NotAllowed"), clsOk K (He.ga K "Taken"), mroB K (He.ga K "BadName") [(.ref (He.ga K "BadName")), (.ref (He.ga K "NoName")), (.ref (He.ga K "NotDir")), (.ref (He.ga K "IsDir")), (.ref (He.ga K "NotEmpty")), (.ref (He.ga K "Inside")), (.ref (He.ga K "NoNode")), (.ref (He.ga K "NoSpace")), (.ref (He.ga K "TooMany")), (.ref (He.ga K "TooBig")), (.ref (He.ga K "NotHeld")), (.ref (He.ga K "NotAllowed")), (.ref (He.ga K "Taken")), (.type "ValueError")] [true, false, false, false, false, false, false, false, false, false, false, false, false, true], (PySem.W.exmOne K (.ref (He.ga K "BadName")) (.ref (He.ga K "KernelError")) == some true), excB K (He.ga K "NoNode"), mroB K (He.ga K "NoNode") [(.ref (He.ga K "BadName")), (.ref (He.ga K "NoName")), (.ref (He.ga K "NotDir")), (.ref (He.ga K "IsDir")), (.ref (He.ga K "NotEmpty")), (.ref (He.ga K "Inside")), (.ref (He.ga K "NoNode")), (.ref (He.ga K "NoSpace")), (.ref (He.ga K "TooMany")), (.ref (He.ga K "TooBig")), (.ref (He.ga K "NotHeld")), (.ref (He.ga K "NotAllowed")), (.ref (He.ga K "Taken")), (.type "ValueError")] [false, false, false, false, false, false, true, false, false, false, false, false, false, true], (PySem.W.exmOne K (.ref (He.ga K "NoNode")) (.ref (He.ga K "KernelError")) == some true), excB K (He.ga K "NotDir"), mroB K (He.ga K "NotDir") [(.ref (He.ga K "BadName")), (.ref (He.ga K "NoName")), (.ref (He.ga K "NotDir")), (.ref (He.ga K "IsDir")), (.ref (He.ga K "NotEmpty")), (.ref (He.ga K "Inside")), (.ref (He.ga K "NoNode")), (.ref (He.ga K "NoSpace")), (.ref (He.ga K "TooMany")), (.ref (He.ga K "TooBig")), (.ref (He.ga K "NotHeld")), (.ref (He.ga K "NotAllowed")), (.ref (He.ga K "Taken")), (.type "ValueError")] [false, false, true, false, false, false, false, false, false, false, false, false, false, true], (PySem.W.exmOne K (.ref (He.ga K "NotDir")) (.ref (He.ga K "KernelError")) == some true), excB K (He.ga K "NoName"), mroB K (He.ga K "NoName") [(.ref (He.ga K "BadName")), (.ref (He.ga K "NoName")), (.ref (He.ga K "NotDir")), (.ref (He.ga K "IsDir")), (.ref (He.ga K "NotEmpty")), (.ref (He.ga K "Inside")), (.ref (He.ga K "NoNode")), (.ref (He.ga K "NoSpace")), (.ref (He.ga K "TooMany")), (.ref (He.ga K "TooBig")), (.ref (He.ga K "NotHeld")), (.ref (He.ga K "NotAllowed")), (.ref (He.ga K "Taken")), (.type "ValueError")] [false, true, false, false, false, false, false, false, false, false, false, false, false, true]]
def exL2 (K : PySem.W.Frag) : List Bool := [(PySem.W.exmOne K (.ref (He.ga K "NoName")) (.ref (He.ga K "KernelError")) == some true), excB K (He.ga K "Taken"), mroB K (He.ga K "Taken") [(.ref (He.ga K "BadName")), (.ref (He.ga K "NoName")), (.ref (He.ga K "NotDir")), (.ref (He.ga K "IsDir")), (.ref (He.ga K "NotEmpty")), (.ref (He.ga K "Inside")), (.ref (He.ga K "NoNode")), (.ref (He.ga K "NoSpace")), (.ref (He.ga K "TooMany")), (.ref (He.ga K "TooBig")), (.ref (He.ga K "NotHeld")), (.ref (He.ga K "NotAllowed")), (.ref (He.ga K "Taken")), (.type "ValueError")] [false, false, false, false, false, false, false, false, false, false, false, false, true, true], (PySem.W.exmOne K (.ref (He.ga K "Taken")) (.ref (He.ga K "KernelError")) == some true), excB K (He.ga K "TooMany"), mroB K (He.ga K "TooMany") [(.ref (He.ga K "BadName")), (.ref (He.ga K "NoName")), (.ref (He.ga K "NotDir")), (.ref (He.ga K "IsDir")), (.ref (He.ga K "NotEmpty")), (.ref (He.ga K "Inside")), (.ref (He.ga K "NoNode")), (.ref (He.ga K "NoSpace")), (.ref (He.ga K "TooMany")), (.ref (He.ga K "TooBig")), (.ref (He.ga K "NotHeld")), (.ref (He.ga K "NotAllowed")), (.ref (He.ga K "Taken")), (.type "ValueError")] [false, false, false, false, false, false, false, false, true, false, false, false, false, true], (PySem.W.exmOne K (.ref (He.ga K "TooMany")) (.ref (He.ga K "KernelError")) == some true), excB K (He.ga K "NoSpace"), mroB K (He.ga K "NoSpace") [(.ref (He.ga K "BadName")), (.ref (He.ga K "NoName")), (.ref (He.ga K "NotDir")), (.ref (He.ga K "IsDir")), (.ref (He.ga K "NotEmpty")), (.ref (He.ga K "Inside")), (.ref (He.ga K "NoNode")), (.ref (He.ga K "NoSpace")), (.ref (He.ga K "TooMany")), (.ref (He.ga K "TooBig")), (.ref (He.ga K "NotHeld")), (.ref (He.ga K "NotAllowed")), (.ref (He.ga K "Taken")), (.type "ValueError")] [false, false, false, false, false, false, false, true, false, false, false, false, false, true], (PySem.W.exmOne K (.ref (He.ga K "NoSpace")) (.ref (He.ga K "KernelError")) == some true), excB K (He.ga K "IsDir"), mroB K (He.ga K "IsDir") [(.ref (He.ga K "BadName")), (.ref (He.ga K "NoName")), (.ref (He.ga K "NotDir")), (.ref (He.ga K "IsDir")), (.ref (He.ga K "NotEmpty")), (.ref (He.ga K "Inside")), (.ref (He.ga K "NoNode")), (.ref (He.ga K "NoSpace")), (.ref (He.ga K "TooMany")), (.ref (He.ga K "TooBig")), (.ref (He.ga K "NotHeld")), (.ref (He.ga K "NotAllowed")), (.ref (He.ga K "Taken")), (.type "ValueError")] [false, false, false, true, false, false, false, false, false, false, false, false, false, true]]
def exL3 (K : PySem.W.Frag) : List Bool := [(PySem.W.exmOne K (.ref (He.ga K "IsDir")) (.ref (He.ga K "KernelError")) == some true), excB K (He.ga K "NotAllowed"), mroB K (He.ga K "NotAllowed") [(.ref (He.ga K "BadName")), (.ref (He.ga K "NoName")), (.ref (He.ga K "NotDir")), (.ref (He.ga K "IsDir")), (.ref (He.ga K "NotEmpty")), (.ref (He.ga K "Inside")), (.ref (He.ga K "NoNode")), (.ref (He.ga K "NoSpace")), (.ref (He.ga K "TooMany")), (.ref (He.ga K "TooBig")), (.ref (He.ga K "NotHeld")), (.ref (He.ga K "NotAllowed")), (.ref (He.ga K "Taken")), (.type "ValueError")] [false, false, false, false, false, false, false, false, false, false, false, true, false, true], (PySem.W.exmOne K (.ref (He.ga K "NotAllowed")) (.ref (He.ga K "KernelError")) == some true), excB K (He.ga K "NotEmpty"), mroB K (He.ga K "NotEmpty") [(.ref (He.ga K "BadName")), (.ref (He.ga K "NoName")), (.ref (He.ga K "NotDir")), (.ref (He.ga K "IsDir")), (.ref (He.ga K "NotEmpty")), (.ref (He.ga K "Inside")), (.ref (He.ga K "NoNode")), (.ref (He.ga K "NoSpace")), (.ref (He.ga K "TooMany")), (.ref (He.ga K "TooBig")), (.ref (He.ga K "NotHeld")), (.ref (He.ga K "NotAllowed")), (.ref (He.ga K "Taken")), (.type "ValueError")] [false, false, false, false, true, false, false, false, false, false, false, false, false, true], (PySem.W.exmOne K (.ref (He.ga K "NotEmpty")) (.ref (He.ga K "KernelError")) == some true), excB K (He.ga K "Inside"), mroB K (He.ga K "Inside") [(.ref (He.ga K "BadName")), (.ref (He.ga K "NoName")), (.ref (He.ga K "NotDir")), (.ref (He.ga K "IsDir")), (.ref (He.ga K "NotEmpty")), (.ref (He.ga K "Inside")), (.ref (He.ga K "NoNode")), (.ref (He.ga K "NoSpace")), (.ref (He.ga K "TooMany")), (.ref (He.ga K "TooBig")), (.ref (He.ga K "NotHeld")), (.ref (He.ga K "NotAllowed")), (.ref (He.ga K "Taken")), (.type "ValueError")] [false, false, false, false, false, true, false, false, false, false, false, false, false, true], (PySem.W.exmOne K (.ref (He.ga K "Inside")) (.ref (He.ga K "KernelError")) == some true)]
def exL (K : PySem.W.Frag) : List Bool := [(exL0 K).all id, (exL1 K).all id, (exL2 K).all id, (exL3 K).all id]
def exB (K : PySem.W.Frag) : Bool := (exL K).all id
abbrev hk : PySem.W.Hook := He.hookX 4 fas fns [] [] exB
def ob (s : PySem.W.SharedT) : He.AlX := He.obsX 4 fas fns [] [] exB (HandSHeadRun.getT s)
theorem ob_eq (s : PySem.W.SharedT) : ob s = hk.obs s.abs := He.obsX_eq (HandSHeadRun.getT_eq s)
def loose0 : List PySem.Str := ["_wall", "KernelError", "Taken", "BadName", "NoName", "NotDir", "IsDir", "NotEmpty", "Inside", "NoNode", "NoSpace", "TooMany", "TooBig", "NotHeld", "NotAllowed", "SMALL", "LONGEST", "is_name", "names_of", "SLOT_CELLS", "BLOCK_CELLS", "PLAIN_CELLS", "blocks_for", "PlainFile"]
def loose1 : List PySem.Str := ["PlainDir", "node_known", "MOST_SLOTS", "walked", "walked_to_new", "blocks_free", "look_slot", "look_growth", "MOST_NODES", "new_node", "clear_lost", "PlainFiles", "_law_mixed", "_law_digit", "_law_left", "_law_alike", "_law_kind", "_law_done", "_law_told", "_law_names", "_law_begun", "_law_blocks", "_law_spare", "_law_links"]
def loose2 : List PySem.Str := ["_law_seek", "_law_found", "_law_spot", "_law_full", "_law_lacks", "_law_put", "_law_freed", "_law_cleared", "_law_made", "_law_linked", "_law_unlinked", "_law_removed", "_law_moved", "_law_by_path", "_law_stat", "_law_named_due", "_law_due", "_law_right", "_law_path", "_law_node", "_law_letters", "_law_deeds"]
def loose : List PySem.Str := loose0 ++ loose1 ++ loose2
abbrev R : PySem.W.OpenRow := PySem.W.OpenLaw.row PySem.Challenge.rw_ownroom_k45_plain_names
theorem run (w : World) : HandSHeadRun.RunEq R (PySem.W.view R.prog [76]) hk ob 60000 loose w := by
  intro os
  kernel_rfl
end Ow
namespace Ow
open PySem PySem.Spec PyProof.Rows L2
/-! ## My own layer: what a def owns (cells), a def that may be called, readings that stop at calls and loops -/
/-! ### cells -/
abbrev Cells := List (Addr × HO)
def adr (cs : Cells) : List Addr := cs.map Prod.fst
/-- from H0, of which the addresses A are ours, we have come to H; the cells cs stand there, each once; the rest of H0 is as it was, new cells were free in H0, tuples stay -/
structure Own (H0 H : Hp) (A : List Addr) (cs : Cells) : Prop where
  at_ : ∀ a o, (a, o) ∈ cs → H a = some o
  nd : (adr cs).Nodup
  fr : ∀ b o, H0 b = some o → b ∉ A → H b = some o
  nw : ∀ b, b ∈ adr cs → b ∈ A ∨ H0 b = none
  tp : ∀ b xs, H0 b = some (.tup xs) → H b = some (.tup xs)
theorem adr_cons {c : Addr × HO} {r : Cells} : adr (c :: r) = c.1 :: adr r := rfl
theorem adr_app {s r : Cells} : adr (s ++ r) = adr s ++ adr r := List.map_append
theorem Own.start {H : Hp} (h : ∀ b xs, H b = some (.tup xs) → H b = some (.tup xs) := fun _ _ h => h) : Own H H [] [] :=
  ⟨fun _ _ m => (nomatch m), List.nodup_nil, fun _ _ h _ => h, fun _ m => (nomatch m), h⟩
/-- where the cell of an address stands, and the row with another thing there -/
inductive At : Cells → Addr → HO → HO → Cells → Prop
  | here {a o o' r} : At ((a, o) :: r) a o o' ((a, o') :: r)
  | there {c r a o o' r'} : At r a o o' r' → At (c :: r) a o o' (c :: r')
  | app {s r a o o' r'} : At r a o o' r' → At (s ++ r) a o o' (s ++ r')
  | appl {s r a o o' s'} : At s a o o' s' → At (s ++ r) a o o' (s' ++ r)
theorem At.mem {cs cs' : Cells} {a : Addr} {o o' : HO} (h : At cs a o o' cs') : (a, o) ∈ cs := by
  induction h with
  | here => exact List.mem_cons_self
  | there _ ih => exact List.mem_cons_of_mem _ ih
  | app _ ih => exact List.mem_append_right _ ih
  | appl _ ih => exact List.mem_append_left _ ih
theorem At.adr {cs cs' : Cells} {a : Addr} {o o' : HO} (h : At cs a o o' cs') : adr cs' = adr cs := by
  induction h with
  | here => rfl
  | there _ ih => rw [adr_cons, adr_cons, ih]
  | app _ ih => rw [adr_app, adr_app, ih]
  | appl _ ih => rw [adr_app, adr_app, ih]
theorem At.of {cs cs' : Cells} {a : Addr} {o o' : HO} (h : At cs a o o' cs') (nd : (Ow.adr cs).Nodup) : ∀ b u, (b, u) ∈ cs' → (b = a ∧ u = o') ∨ (b ≠ a ∧ (b, u) ∈ cs) := by
  induction h with
  | here =>
    intro b u m
    rcases List.mem_cons.mp m with e | m2
    · cases e; exact .inl ⟨rfl, rfl⟩
    · refine .inr ⟨fun e => ?_, List.mem_cons_of_mem _ m2⟩
      subst e
      exact (List.nodup_cons.mp nd).1 (List.mem_map.mpr ⟨_, m2, rfl⟩)
  | @there c r a o o' r' h ih =>
    intro b u m
    obtain ⟨n1, n2⟩ := List.nodup_cons.mp nd
    rcases List.mem_cons.mp m with e | m
    · subst e
      refine .inr ⟨fun e => ?_, List.mem_cons_self⟩
      exact n1 (List.mem_map.mpr ⟨_, h.mem, e.symm⟩)
    · rcases ih n2 b u m with z | ⟨z1, z2⟩
      · exact .inl z
      · exact .inr ⟨z1, List.mem_cons_of_mem _ z2⟩
  | @app s r a o o' r' h ih =>
    intro b u m
    rw [adr_app] at nd
    obtain ⟨n1, n2, n3⟩ := List.nodup_append.mp nd
    rcases List.mem_append.mp m with m | m
    · refine .inr ⟨fun e => ?_, List.mem_append_left _ m⟩
      subst e
      exact n3 _ (List.mem_map.mpr ⟨_, m, rfl⟩) _ (List.mem_map.mpr ⟨_, h.mem, rfl⟩) rfl
    · rcases ih n2 b u m with z | ⟨z1, z2⟩
      · exact .inl z
      · exact .inr ⟨z1, List.mem_append_right _ z2⟩
  | @appl s r a o o' s' h ih =>
    intro b u m
    rw [adr_app] at nd
    obtain ⟨n1, n2, n3⟩ := List.nodup_append.mp nd
    rcases List.mem_append.mp m with m | m
    · rcases ih n1 b u m with z | ⟨z1, z2⟩
      · exact .inl z
      · exact .inr ⟨z1, List.mem_append_left _ z2⟩
    · refine .inr ⟨fun e => ?_, List.mem_append_right _ m⟩
      subst e
      exact n3 _ (List.mem_map.mpr ⟨_, h.mem, rfl⟩) _ (List.mem_map.mpr ⟨_, m, rfl⟩) rfl
def isTup : HO → Bool
  | .tup _ => true
  | _ => false
/-- a block of cells within, and the row with another block in its place -/
inductive Sub : Cells → Cells → Cells → Cells → Prop
  | all {s s'} : Sub s s s' s'
  | here {s s' r} : Sub (s ++ r) s s' (s' ++ r)
  | one {c s' r} : Sub (c :: r) [c] s' (s' ++ r)
  | two {c d s' r} : Sub (c :: d :: r) [c, d] s' (s' ++ r)
  | nil {r s'} : Sub r [] s' (s' ++ r)
  | there {c r s s' r'} : Sub r s s' r' → Sub (c :: r) s s' (c :: r')
  | app {t r s s' r'} : Sub r s s' r' → Sub (t ++ r) s s' (t ++ r')
  | appl {t r s s' t'} : Sub t s s' t' → Sub (t ++ r) s s' (t' ++ r)
theorem Sub.split {cs s s' cs' : Cells} (h : Sub cs s s' cs') : ∃ l r, cs = l ++ (s ++ r) ∧ cs' = l ++ (s' ++ r) := by
  induction h with
  | all => exact ⟨[], [], by simp, by simp⟩
  | here => exact ⟨[], _, rfl, rfl⟩
  | one => exact ⟨[], _, rfl, rfl⟩
  | two => exact ⟨[], _, rfl, rfl⟩
  | nil => exact ⟨[], _, rfl, rfl⟩
  | @there c r s s' r' _ ih =>
    obtain ⟨l, t, e1, e2⟩ := ih
    exact ⟨c :: l, t, by rw [e1]; rfl, by rw [e2]; rfl⟩
  | @app t r s s' r' _ ih =>
    obtain ⟨l, q, e1, e2⟩ := ih
    exact ⟨t ++ l, q, by rw [e1, List.append_assoc], by rw [e2, List.append_assoc]⟩
  | @appl t r s s' t' _ ih =>
    obtain ⟨l, q, e1, e2⟩ := ih
    exact ⟨l, q ++ r, by rw [e1]; simp only [List.append_assoc], by rw [e2]; simp only [List.append_assoc]⟩
section
variable {H0 H H' : Hp} {A : List Addr} {cs cs' s s' : Cells} {a p : Addr} {o o' : HO}
theorem Own.get (O : Own H0 H A cs) (m : (a, o) ∈ cs) : H a = some o := O.at_ a o m
theorem Own.tup {t : Addr} {xs : List V} (O : Own H0 H A cs) (h : H0 t = some (.tup xs)) : H t = some (.tup xs) := O.tp t xs h
/-- a cell is written -/
theorem Own.wr (O : Own H0 H A cs) (h : At cs a o o' cs') (n : isTup o = false := by rfl) : Own H0 (upd H a o') A cs' := by
  have ha := O.at_ a o h.mem
  refine ⟨fun b u m => ?_, by rw [h.adr]; exact O.nd, fun b u e hb => ?_, fun b m => O.nw b (by rw [← h.adr]; exact m), fun b xs e => ?_⟩
  · rcases h.of O.nd b u m with ⟨rfl, rfl⟩ | ⟨e, m⟩
    · exact upd_same
    · rw [upd_ne e]; exact O.at_ b u m
  · rw [upd_ne]
    · exact O.fr b u e hb
    · rintro rfl
      rcases O.nw b (List.mem_map.mpr ⟨_, h.mem, rfl⟩) with z | z
      · exact hb z
      · rw [z] at e; cases e
  · have e1 := O.tp b xs e
    rw [upd_ne]
    · exact e1
    · rintro rfl
      rw [e1] at ha
      cases ha
      cases n
/-- a new cell -/
theorem Own.new (O : Own H0 H A cs) (h : H p = none) : Own H0 (upd H p o) A ((p, o) :: cs) := by
  have hn : p ∉ adr cs := fun m => by
    obtain ⟨c, hc, e⟩ := List.mem_map.mp m
    have := O.at_ c.1 c.2 hc
    rw [e, h] at this
    cases this
  have ne : ∀ b u, H b = some u → b ≠ p := fun b u e z => by rw [z, h] at e; cases e
  by_cases hA : p ∈ A
  · refine ⟨fun b u m => ?_, List.nodup_cons.mpr ⟨hn, O.nd⟩, fun b u e hb => ?_, fun b m => ?_, fun b xs e => ?_⟩
    · rcases List.mem_cons.mp m with z | z
      · cases z; exact upd_same
      · rw [upd_ne (ne b u (O.at_ b u z))]; exact O.at_ b u z
    · rw [upd_ne (ne b u (O.fr b u e hb))]; exact O.fr b u e hb
    · rcases List.mem_cons.mp m with z | z
      · exact .inl (by rw [z]; exact hA)
      · exact O.nw b z
    · rw [upd_ne (ne b _ (O.tp b xs e))]; exact O.tp b xs e
  · have h0 : H0 p = none := by
      cases q : H0 p with
      | none => rfl
      | some u =>
        rw [O.fr p u q hA] at h
        cases h
    refine ⟨fun b u m => ?_, List.nodup_cons.mpr ⟨hn, O.nd⟩, fun b u e hb => ?_, fun b m => ?_, fun b xs e => ?_⟩
    · rcases List.mem_cons.mp m with z | z
      · cases z; exact upd_same
      · rw [upd_ne (ne b u (O.at_ b u z))]; exact O.at_ b u z
    · rw [upd_ne (ne b u (O.fr b u e hb))]; exact O.fr b u e hb
    · rcases List.mem_cons.mp m with z | z
      · exact .inr (by rw [z]; exact h0)
      · exact O.nw b z
    · rw [upd_ne (ne b _ (O.tp b xs e))]; exact O.tp b xs e
/-- a new tuple: it needs no owner -/
theorem Own.newT (O : Own H0 H A cs) (h : H p = none) : Own H0 (upd H p o) A cs :=
  have O' := O.new (o := o) h
  ⟨fun b u m => O'.at_ b u (List.mem_cons_of_mem _ m), O.nd, O'.fr, O.nw, O'.tp⟩
/-- fewer cells -/
theorem Own.drop (O : Own H0 H A cs) (h : List.Sublist cs' cs) : Own H0 H A cs' :=
  ⟨fun b u m => O.at_ b u (h.subset m), O.nd.sublist (h.map _), O.fr, fun b m => O.nw b ((h.map _).subset m), O.tp⟩
theorem Own.perm (O : Own H0 H A cs) (h : cs.Perm cs') : Own H0 H A cs' :=
  ⟨fun b u m => O.at_ b u (h.mem_iff.mpr m), (h.map _).nodup_iff.mp O.nd, O.fr, fun b m => O.nw b ((h.map _).mem_iff.mpr m), O.tp⟩
/-- a block of it, as what a callee is handed -/
theorem Own.blk (O : Own H0 H A cs) (h : Sub cs s s' cs') : Own H H (adr s) s := by
  obtain ⟨l, r, rfl, _⟩ := h.split
  have nd := O.nd
  rw [adr_app, adr_app] at nd
  exact ⟨fun b u m => O.at_ b u (List.mem_append_right _ (List.mem_append_left _ m)), (List.nodup_append.mp (List.nodup_append.mp nd).2.1).1, fun _ _ e _ => e, fun _ m => .inl m, fun _ _ e => e⟩
/-- behind the call -/
theorem Own.call (O : Own H0 H A cs) (h : Sub cs s s' cs') (C : Own H H' (adr s) s') : Own H0 H' A cs' := by
  obtain ⟨l, r, rfl, rfl⟩ := h.split
  have nd := O.nd
  simp only [adr_app] at nd
  obtain ⟨n1, n2, n3⟩ := List.nodup_append.mp nd
  obtain ⟨n4, n5, n6⟩ := List.nodup_append.mp n2
  have out : ∀ b u, ((b, u) ∈ l ∨ (b, u) ∈ r) → H' b = some u := fun b u m => by
    have hb : b ∉ adr s := fun z => by
      rcases m with m | m
      · exact n3 b (List.mem_map.mpr ⟨_, m, rfl⟩) b (List.mem_append_left _ z) rfl
      · exact n6 b z b (List.mem_map.mpr ⟨_, m, rfl⟩) rfl
    refine C.fr b u (O.at_ b u ?_) hb
    rcases m with m | m
    · exact List.mem_append_left _ m
    · exact List.mem_append_right _ (List.mem_append_right _ m)
  have sep : ∀ b, b ∈ adr s' → (b ∈ adr l ∨ b ∈ adr r) → False := fun b m z => by
    obtain ⟨u, hu⟩ : ∃ u, ((b, u) ∈ l ∨ (b, u) ∈ r) := by
      rcases z with z | z
      · obtain ⟨c, hc, e⟩ := List.mem_map.mp z
        exact ⟨c.2, .inl (by rw [← e]; exact hc)⟩
      · obtain ⟨c, hc, e⟩ := List.mem_map.mp z
        exact ⟨c.2, .inr (by rw [← e]; exact hc)⟩
    rcases C.nw b m with q | q
    · rcases z with z | z
      · exact n3 b z b (List.mem_append_left _ q) rfl
      · exact n6 b q b z rfl
    · have e : H b = some u := O.at_ b u (by
        rcases hu with m | m
        · exact List.mem_append_left _ m
        · exact List.mem_append_right _ (List.mem_append_right _ m))
      rw [q] at e
      cases e
  refine ⟨fun b u m => ?_, ?_, fun b u e hb => ?_, fun b m => ?_, fun b xs e => C.tp b xs (O.tp b xs e)⟩
  · rcases List.mem_append.mp m with m | m
    · exact out b u (.inl m)
    · rcases List.mem_append.mp m with m | m
      · exact C.at_ b u m
      · exact out b u (.inr m)
  · simp only [adr_app]
    refine List.nodup_append.mpr ⟨n1, List.nodup_append.mpr ⟨C.nd, n5, fun x hx y hy e => ?_⟩, fun x hx y hy e => ?_⟩
    · subst e
      exact sep x hx (.inr hy)
    · subst e
      rcases List.mem_append.mp hy with z | z
      · exact sep x z (.inl hx)
      · exact n3 x hx x (List.mem_append_right _ z) rfl
  · refine C.fr b u (O.fr b u e hb) fun z => ?_
    rcases O.nw b (by simp only [adr_app]; exact List.mem_append_right _ (List.mem_append_left _ z)) with q | q
    · exact hb q
    · rw [q] at e
      cases e
  · simp only [adr_app] at m
    rcases List.mem_append.mp m with m | m
    · exact O.nw b (by simp only [adr_app]; exact List.mem_append_left _ m)
    · rcases List.mem_append.mp m with m | m
      · rcases C.nw b m with z | z
        · exact O.nw b (by simp only [adr_app]; exact List.mem_append_right _ (List.mem_append_left _ z))
        · by_cases hA : b ∈ A
          · exact .inl hA
          · refine .inr ?_
            cases q : H0 b with
            | none => rfl
            | some u =>
              rw [O.fr b u q hA] at z
              cases z
      · exact O.nw b (by simp only [adr_app]; exact List.mem_append_right _ (List.mem_append_right _ m))
end
end Ow
namespace Ow
open PySem PySem.Spec PyProof.Rows L2
/-! ### where a walk stops -/
structure Box (p : Prop) : Prop where
  out : p
theorem PE.box {X : Cx} {e : Expr} {t : TE} (h : PE X e t) : PE X e (fun σ H Q => t σ H fun v H1 => Box (Q v H1)) :=
  ⟨fun pins s σ H Q I q => thn (h.run pins s σ H _ I q) fun _ _ ⟨x, H1, I1, r1, q1⟩ => ⟨x, H1, I1, r1, q1.out⟩⟩
theorem PA.box {X : Cx} {es : List Expr} {t : TA} (h : PA X es t) : PA X es (fun σ H Q => t σ H fun v H1 => Box (Q v H1)) :=
  ⟨fun pos pins s σ H Q I q => thn (h.run pos pins s σ H _ I q) fun _ _ ⟨x, H1, I1, r1, q1⟩ => ⟨x, H1, I1, r1, q1.out⟩⟩
theorem PI.box {X : Cx} {tg e : Expr} {w : TI} (h : PI X tg e w) : PI X tg e (fun σ H R => w σ H fun J H1 => Box (R J H1)) :=
  ⟨fun pins s σ H R I q => thn (h.run pins s σ H _ I q) fun _ _ h1 => thn h1 fun _ _ ⟨it, fp, tn, J, H', e, I', T, t0, f, r⟩ => ⟨it, fp, tn, J, H', e, I', T, t0, f, r.out⟩⟩
/-- a reading as it stands, not reckoned out -/
def tW (t : TS) : TS := t
theorem PS.box {X : Cx} {st : Stmt} {t : TS} (h : PS X st t) : PS X st (fun D σ H => Box (tW t D σ H)) :=
  ⟨fun pins s σ H D I q => h.run pins s σ H D I q.out⟩
theorem PE.alt {X : Cx} {e : Expr} {t u : TE} (h : PE X e t) (h' : PE X e u) : PE X e (fun σ H Q => t σ H Q ∨ u σ H Q) :=
  ⟨fun pins s σ H Q I q => q.elim (h.run pins s σ H Q I) (h'.run pins s σ H Q I)⟩
/-- a promise that a walk stops at -/
def bx (sp : Sp) : Sp := fun vs H Q E => Box (sp vs H Q E)
/-- of a def that nobody calls: nothing may be asked -/
def spWall : Sp := fun _ _ _ _ => False
/-- a def that may be called: it keeps its promise -/
structure Cee (P : Program) (w : World) (K : PySem.W.Frag) (mg : Str → Option Value) (base : Heap) (k : Nat) (f : Addr) (ps : List Str) (sp : Sp) : Prop where
  kp : PySem.W.keepIn K (.ref f) = true
  fn : ∃ fd, FnOk P w K mg base (L2.CX P w) k f fd ps (bx sp) ∧ Binds K fd ps []
section
variable {P : Program} {w : World} {K : PySem.W.Frag} {mg : Str → Option Value} {base : Heap}
theorem cee_of {x qual : Str} {params : Arguments} {body : List Stmt} {scope : Scope} {f : Addr} {N ps : List Str} {k : Nat} {sp : Sp} (F : ∃ fd, FunD K x qual params body scope [] [] f fd) (S : FnScope N ps scope)
    (hb : ∀ (kV doc pm : Value) (an : Option Addr) (cdv ct : Value) (us : List Value), us.length = ps.length → bindArgs (PySem.W.fnOf x qual params body scope .none kV doc pm an cdv ct) ⟨us, []⟩ = pure (ps.zip us))
    (len : ∀ vs H Q E, sp vs H Q E → vs.length = ps.length)
    (hbody : ∀ (cdv : Value) (A : Around) (outer : List Env) (s : Shared) (H : Hp) (vs : List V) (Q : VK) (E : XK), Room k (A.deeper (envOfC qual scope s.heap.objs.size f cdv)) → sp vs H Q E →
      ∃ t, PSs (cxOf (L2.CX P w) P w K mg base N qual scope f cdv A outer s H E) body t ∧ t { nx := fun _ H' => Q .non H', rt := Q } (start N vs) H) : Cee P w K mg base (k + 1) f ps sp := by
  obtain ⟨fd, F⟩ := F
  exact ⟨F.kp, fd, FunD.ok F S (fun vs H Q E h => len vs H Q E h.out) (fun cdv A outer s H vs Q E hr h => hbody cdv A outer s H vs Q E hr h.out), F.bindsN hb⟩
end
section
variable {X : Cx} {k : Nat} {f C : Addr} {ps : List Str} {sp : Sp} {W : WX} {x m : Str} {p pos apos : Pos} {e o : Expr} {es : List Expr} {ta : TE} {t : TA}
theorem pe_f (c : Cee X.prog X.w X.K X.mg X.base k f ps sp) (hr : Room k X.A) (tk : Takes X W) (hg : Gl X x) (hm : X.mg x = some (.ref f)) (ha : PA X (e :: es) t) (hdb : (x == ("__debug__" : Str)) = false := by decide)
    (he : starEach (e :: es) X.env = (false, eval e X.env) :: starEach es X.env := by rfl) (hpl : (backTo pos (starEach es X.env)).any (·.1) = false := by rfl) :
    PE X (.Call (.Name x p) (e :: es) [] pos) (tCallS (bx sp) (WE W) t) := by
  obtain ⟨fd, F, b⟩ := c.fn
  exact pe_callS F hr hg hm c.kp b (fun σ => passAt tk σ) ha hdb he hpl
theorem pe_f0 (c : Cee X.prog X.w X.K X.mg X.base k f ps sp) (hr : Room k X.A) (tk : Takes X W) (hg : Gl X x) (hm : X.mg x = some (.ref f)) (hdb : (x == ("__debug__" : Str)) = false := by decide) :
    PE X (.Call (.Name x p) [] [] pos) (fun σ H Q => bx sp [] H Q (WE W σ)) := by
  obtain ⟨fd, F, b⟩ := c.fn
  refine ⟨fun pins s σ H Q I h => ?_⟩
  refine wpAny_Call_Name_kw (ld_glob I hg hm ?_ hdb)
  exact PySem.W.callWith_K0 I.kIn c.kp (run_fnS (us := []) (E := WE W) F hr b (passAt tk σ) I .nil h)
/-- o.m(e, ..) -/
def tM (C : Addr) (m : Str) (sp : Sp) (W : WX) (ta : TE) (t : TA) : TE := fun σ H Q => ta σ H fun x H1 => ∃ a dx fs, x = .ref a ∧ H1 a = some (.ins C dx fs) ∧ fs.lookup m = none ∧ t σ H1 fun vs H2 => bx sp (x :: vs) H2 Q (WE W σ)
theorem pe_m {pl : Sem Bool} (ho : PE X o ta) (cl : Cls X.K C) (hm : Meth X.K C m f) (c : Cee X.prog X.w X.K X.mg X.base k f ps sp) (hr : Room k X.A) (tk : Takes X W) (ha : PA X (e :: es) t)
    (hst : starEach (e :: es) X.env = (false, eval e X.env) :: starEach es X.env := by rfl) (hpl : (backTo pos (starEach es X.env)).any (·.1) = false := by rfl)
    (ht : eval (.Call (.Attribute o m apos) (e :: es) [] pos) X.env = (do
      let ov ← eval o X.env
      standAt apos.atName
      let (f, first) ← holding [ov] (getMethod ov m pl)
      callWith pos f first (backTo pos (starEach (e :: es) X.env)) (backToKw pos (keywordEach [] X.env))) := by rfl) :
    PE X (.Call (.Attribute o m apos) (e :: es) [] pos) (tM C m sp W ta t) := by
  obtain ⟨fd, F, b⟩ := c.fn
  refine ⟨fun pins s σ H Q I h => ?_⟩
  refine PySem.W.methodCall_KW (pl := pl) (thn (ho.run pins s σ H _ I h) fun u s1 ⟨y, H1, I1, ry, a, dx, fs, ey, ea, l, q⟩ => ?_) ht
  subst ey
  obtain rfl : u = Value.ref a := ry
  refine getmeth_ok I1 ea cl hm l ?_
  refine PySem.W.callWith_K (first := [.ref a]) (h₀ := X.base) I.ok.mod.kin hm.kp (thn (ha.run pos pins s1 σ H1 _ I1 q) fun us s2 ⟨vs, H2, I2, rv, q2⟩ => ⟨I2.kIn, ?_⟩) hst hpl
  exact run_fnS (us := .ref a :: us) (vs := .ref a :: vs) (E := WE W) F hr b (passAt tk σ) I2 (.cons rfl rv) q2
def tM0 (C : Addr) (m : Str) (sp : Sp) (W : WX) (ta : TE) : TE := fun σ H Q => ta σ H fun x H1 => ∃ a dx fs, x = .ref a ∧ H1 a = some (.ins C dx fs) ∧ fs.lookup m = none ∧ bx sp [x] H1 Q (WE W σ)
theorem pe_m0 {pl : Sem Bool} (ho : PE X o ta) (cl : Cls X.K C) (hm : Meth X.K C m f) (c : Cee X.prog X.w X.K X.mg X.base k f ps sp) (hr : Room k X.A) (tk : Takes X W)
    (ht : eval (.Call (.Attribute o m apos) [] [] pos) X.env = (do
      let ov ← eval o X.env
      standAt apos.atName
      let (f, first) ← holding [ov] (getMethod ov m pl)
      callWith pos f first (backTo pos (starEach [] X.env)) (backToKw pos (keywordEach [] X.env))) := by rfl) :
    PE X (.Call (.Attribute o m apos) [] [] pos) (tM0 C m sp W ta) := by
  obtain ⟨fd, F, b⟩ := c.fn
  refine ⟨fun pins s σ H Q I h => ?_⟩
  refine PySem.W.methodCall_KW (pl := pl) (thn (ho.run pins s σ H _ I h) fun u s1 ⟨y, H1, I1, ry, a, dx, fs, ey, ea, l, q⟩ => ?_) ht
  subst ey
  obtain rfl : u = Value.ref a := ry
  refine getmeth_ok I1 ea cl hm l ?_
  exact PySem.W.callWith_K0 (first := [.ref a]) I1.kIn hm.kp (run_fnS (us := [.ref a]) (vs := [.ref a]) (E := WE W) F hr b (passAt tk σ) I1 (.cons rfl .nil) q)
/-- C(e, ..): its __init__ lets nothing out -/
theorem pe_n (M : Mk X.K C f) (c : Cee X.prog X.w X.K X.mg X.base k f ps sp) (hr : Room (k + 1) X.A) (hg : Gl X x) (hm : X.mg x = some (.ref C)) (ha : PA X (e :: es) t) (hdb : (x == ("__debug__" : Str)) = false := by decide)
    (he : starEach (e :: es) X.env = (false, eval e X.env) :: starEach es X.env := by rfl) (hpl : (backTo pos (starEach es X.env)).any (·.1) = false := by rfl) :
    PE X (.Call (.Name x p) (e :: es) [] pos) (tMake C (bx sp) [] E0 t) := by
  obtain ⟨fd, F, b⟩ := c.fn
  exact pe_make M F hr hg hm b .nil passL ha hdb he hpl
theorem pe_n0 (M : Mk X.K C f) (c : Cee X.prog X.w X.K X.mg X.base k f ps sp) (hr : Room (k + 1) X.A) (hg : Gl X x) (hm : X.mg x = some (.ref C)) (hdb : (x == ("__debug__" : Str)) = false := by decide) :
    PE X (.Call (.Name x p) [] [] pos) (tMake C (bx sp) [] E0 tNil) := by
  obtain ⟨fd, F, b⟩ := c.fn
  exact pe_make0 M F hr hg hm b .nil passL hdb
end
/-! ### what a closer knows -/
theorem sl_of {σ : List (Option V)} {i : Nat} {v : V} (h : σ[i]? = some (some v)) : σ[i]? = some (some v) := h
theorem veq_of {x y : V} (h : x = y) : x = y := h
theorem lsq_of {x y : List V} (h : x = y) : x = y := h
theorem sc_of {x y : V} (h : scal x y = true) : scal x y = true := h
theorem lk_of {fs : List (Str × V)} {f : Str} {v : V} (h : fs.lookup f = some v) : fs.lookup f = some v := h
theorem lkn_of {fs : List (Str × V)} {f : Str} (h : fs.lookup f = none) : fs.lookup f = none := h
theorem lt_of {fs : List (Str × V)} (h : fs.length < 1000) : fs.length < 1000 := h
theorem hp_of {H : Hp} {a : Addr} {o : HO} (h : H a = some o) : H a = some o := h
theorem cd_of {i j : Int} (h : 0 < j ∧ j < 1073741824) : CDiv i j := h
theorem cm_l {i j : Int} (h : -(2 ^ 64) < i ∧ i < 2 ^ 64) : CMul i j := .inl h
theorem cm_r {i j : Int} (h : -(2 ^ 64) < j ∧ j < 2 ^ 64) : CMul i j := .inr h
theorem sz_le {n : Nat} (h : n ≤ 100000) : n ≤ sizeLine := Nat.le_trans h (by decide)
theorem sz_lt {n : Nat} (h : n < 100000) : n < sizeLine := Nat.lt_of_lt_of_le h (by decide)
/-! ### tests -/
theorem if_d {p A B : Prop} [Decidable p] (h1 : p → A) (h2 : ¬ p → B) : if decide p = true then A else B := by
  by_cases h : p
  · rw [if_pos (decide_eq_true h)]; exact h1 h
  · rw [if_neg (by rw [decide_eq_false h]; exact Bool.false_ne_true)]; exact h2 h
theorem if_nd {p A B : Prop} [Decidable p] (h1 : ¬ p → A) (h2 : p → B) : if (!decide p) = true then A else B := by
  by_cases h : p
  · rw [decide_eq_true h, if_neg (by decide)]; exact h2 h
  · rw [decide_eq_false h, if_pos (by decide)]; exact h1 h
theorem if_ii {a b : Int} {A B : Prop} (h1 : a = b → A) (h2 : ¬ a = b → B) : if decide (V.int a = V.int b) = true then A else B :=
  if_d (fun h => h1 (V.int.inj h)) fun h => h2 fun e => h (by rw [e])
theorem if_nii {a b : Int} {A B : Prop} (h1 : ¬ a = b → A) (h2 : a = b → B) : if (!decide (V.int a = V.int b)) = true then A else B :=
  if_nd (fun h => h1 fun e => h (by rw [e])) fun h => h2 (V.int.inj h)
theorem if_ss {a b : Str} {A B : Prop} (h1 : a = b → A) (h2 : ¬ a = b → B) : if decide (V.str a = V.str b) = true then A else B :=
  if_d (fun h => h1 (V.str.inj h)) fun h => h2 fun e => h (by rw [e])
theorem if_nss {a b : Str} {A B : Prop} (h1 : ¬ a = b → A) (h2 : a = b → B) : if (!decide (V.str a = V.str b)) = true then A else B :=
  if_nd (fun h => h1 fun e => h (by rw [e])) fun h => h2 (V.str.inj h)
theorem if_b {b : Bool} {A B : Prop} (h1 : b = true → A) (h2 : b = false → B) : if b = true then A else B := by
  cases b with
  | true => exact h1 rfl
  | false => exact h2 rfl
theorem if_nb {b : Bool} {A B : Prop} (h1 : b = false → A) (h2 : b = true → B) : if (!b) = true then A else B := by
  cases b with
  | true => exact h2 rfl
  | false => exact h1 rfl
theorem kt_int_int {K : PySem.W.Frag} : PySem.W.kitOne K (.type "int") (.type "int") = some true := kit_ty (by decide +kernel)
theorem kt_int_bool {K : PySem.W.Frag} : PySem.W.kitOne K (.type "int") (.type "bool") = some false := kit_ty (by decide +kernel)
theorem kt_int_str {K : PySem.W.Frag} : PySem.W.kitOne K (.type "int") (.type "str") = some false := kit_ty (by decide +kernel)
theorem kt_int_list {K : PySem.W.Frag} : PySem.W.kitOne K (.type "int") (.type "list") = some false := kit_ty (by decide +kernel)
theorem kt_int_tuple {K : PySem.W.Frag} : PySem.W.kitOne K (.type "int") (.type "tuple") = some false := kit_ty (by decide +kernel)
theorem kt_int_dict {K : PySem.W.Frag} : PySem.W.kitOne K (.type "int") (.type "dict") = some false := kit_ty (by decide +kernel)
theorem kt_bool_int {K : PySem.W.Frag} : PySem.W.kitOne K (.type "bool") (.type "int") = some true := kit_ty (by decide +kernel)
theorem kt_bool_bool {K : PySem.W.Frag} : PySem.W.kitOne K (.type "bool") (.type "bool") = some true := kit_ty (by decide +kernel)
theorem kt_bool_str {K : PySem.W.Frag} : PySem.W.kitOne K (.type "bool") (.type "str") = some false := kit_ty (by decide +kernel)
theorem kt_bool_list {K : PySem.W.Frag} : PySem.W.kitOne K (.type "bool") (.type "list") = some false := kit_ty (by decide +kernel)
theorem kt_bool_tuple {K : PySem.W.Frag} : PySem.W.kitOne K (.type "bool") (.type "tuple") = some false := kit_ty (by decide +kernel)
theorem kt_bool_dict {K : PySem.W.Frag} : PySem.W.kitOne K (.type "bool") (.type "dict") = some false := kit_ty (by decide +kernel)
theorem kt_str_int {K : PySem.W.Frag} : PySem.W.kitOne K (.type "str") (.type "int") = some false := kit_ty (by decide +kernel)
theorem kt_str_bool {K : PySem.W.Frag} : PySem.W.kitOne K (.type "str") (.type "bool") = some false := kit_ty (by decide +kernel)
theorem kt_str_str {K : PySem.W.Frag} : PySem.W.kitOne K (.type "str") (.type "str") = some true := kit_ty (by decide +kernel)
theorem kt_str_list {K : PySem.W.Frag} : PySem.W.kitOne K (.type "str") (.type "list") = some false := kit_ty (by decide +kernel)
theorem kt_str_tuple {K : PySem.W.Frag} : PySem.W.kitOne K (.type "str") (.type "tuple") = some false := kit_ty (by decide +kernel)
theorem kt_str_dict {K : PySem.W.Frag} : PySem.W.kitOne K (.type "str") (.type "dict") = some false := kit_ty (by decide +kernel)
theorem kt_list_int {K : PySem.W.Frag} : PySem.W.kitOne K (.type "list") (.type "int") = some false := kit_ty (by decide +kernel)
theorem kt_list_bool {K : PySem.W.Frag} : PySem.W.kitOne K (.type "list") (.type "bool") = some false := kit_ty (by decide +kernel)
theorem kt_list_str {K : PySem.W.Frag} : PySem.W.kitOne K (.type "list") (.type "str") = some false := kit_ty (by decide +kernel)
theorem kt_list_list {K : PySem.W.Frag} : PySem.W.kitOne K (.type "list") (.type "list") = some true := kit_ty (by decide +kernel)
theorem kt_list_tuple {K : PySem.W.Frag} : PySem.W.kitOne K (.type "list") (.type "tuple") = some false := kit_ty (by decide +kernel)
theorem kt_list_dict {K : PySem.W.Frag} : PySem.W.kitOne K (.type "list") (.type "dict") = some false := kit_ty (by decide +kernel)
theorem kt_tuple_int {K : PySem.W.Frag} : PySem.W.kitOne K (.type "tuple") (.type "int") = some false := kit_ty (by decide +kernel)
theorem kt_tuple_bool {K : PySem.W.Frag} : PySem.W.kitOne K (.type "tuple") (.type "bool") = some false := kit_ty (by decide +kernel)
theorem kt_tuple_str {K : PySem.W.Frag} : PySem.W.kitOne K (.type "tuple") (.type "str") = some false := kit_ty (by decide +kernel)
theorem kt_tuple_list {K : PySem.W.Frag} : PySem.W.kitOne K (.type "tuple") (.type "list") = some false := kit_ty (by decide +kernel)
theorem kt_tuple_tuple {K : PySem.W.Frag} : PySem.W.kitOne K (.type "tuple") (.type "tuple") = some true := kit_ty (by decide +kernel)
theorem kt_tuple_dict {K : PySem.W.Frag} : PySem.W.kitOne K (.type "tuple") (.type "dict") = some false := kit_ty (by decide +kernel)
theorem kt_dict_int {K : PySem.W.Frag} : PySem.W.kitOne K (.type "dict") (.type "int") = some false := kit_ty (by decide +kernel)
theorem kt_dict_bool {K : PySem.W.Frag} : PySem.W.kitOne K (.type "dict") (.type "bool") = some false := kit_ty (by decide +kernel)
theorem kt_dict_str {K : PySem.W.Frag} : PySem.W.kitOne K (.type "dict") (.type "str") = some false := kit_ty (by decide +kernel)
theorem kt_dict_list {K : PySem.W.Frag} : PySem.W.kitOne K (.type "dict") (.type "list") = some false := kit_ty (by decide +kernel)
theorem kt_dict_tuple {K : PySem.W.Frag} : PySem.W.kitOne K (.type "dict") (.type "tuple") = some false := kit_ty (by decide +kernel)
theorem kt_dict_dict {K : PySem.W.Frag} : PySem.W.kitOne K (.type "dict") (.type "dict") = some true := kit_ty (by decide +kernel)
theorem kt_NoneType_int {K : PySem.W.Frag} : PySem.W.kitOne K (.type "NoneType") (.type "int") = some false := kit_ty (by decide +kernel)
theorem kt_NoneType_bool {K : PySem.W.Frag} : PySem.W.kitOne K (.type "NoneType") (.type "bool") = some false := kit_ty (by decide +kernel)
theorem kt_NoneType_str {K : PySem.W.Frag} : PySem.W.kitOne K (.type "NoneType") (.type "str") = some false := kit_ty (by decide +kernel)
theorem kt_NoneType_list {K : PySem.W.Frag} : PySem.W.kitOne K (.type "NoneType") (.type "list") = some false := kit_ty (by decide +kernel)
theorem kt_NoneType_tuple {K : PySem.W.Frag} : PySem.W.kitOne K (.type "NoneType") (.type "tuple") = some false := kit_ty (by decide +kernel)
theorem kt_NoneType_dict {K : PySem.W.Frag} : PySem.W.kitOne K (.type "NoneType") (.type "dict") = some false := kit_ty (by decide +kernel)
end Ow
namespace Ow
open PySem PySem.Spec PyProof.Rows L2
def XcIn (K : PySem.W.Frag) (C : Addr) : Prop := PySem.W.excIn K C He.veBase "ValueError.__new__" = true ∧ PySem.W.keepIn K (.ref C) = true ∧ PySem.W.subIn K (.ref C) (.type "BaseException") = some true ∧ PySem.W.typeIn K (.ref C) = some (.type "type")
theorem gI {mg : Str → Option Value} {x : Str} {i : Int} (h : ∃ t, mg x = some (.int i t)) : ∃ u, mg x = some u ∧ RelV (.int i) u := let ⟨t, e⟩ := h; ⟨_, e, t, rfl⟩
theorem gS {mg : Str → Option Value} {x z : Str} (h : ∃ t, mg x = some (.str z t)) : ∃ u, mg x = some u ∧ RelV (.str z) u := let ⟨t, e⟩ := h; ⟨_, e, t, rfl⟩
/-! ### promises by the number of arguments -/
def sp0 (f : Hp → VK → XK → Prop) : Sp := fun vs H Q E => vs = [] ∧ f H Q E
def sp1 (f : V → Hp → VK → XK → Prop) : Sp := fun vs H Q E => ∃ a, vs = [a] ∧ f a H Q E
def sp2 (f : V → V → Hp → VK → XK → Prop) : Sp := fun vs H Q E => ∃ a b, vs = [a, b] ∧ f a b H Q E
def sp3 (f : V → V → V → Hp → VK → XK → Prop) : Sp := fun vs H Q E => ∃ a b c, vs = [a, b, c] ∧ f a b c H Q E
def sp4 (f : V → V → V → V → Hp → VK → XK → Prop) : Sp := fun vs H Q E => ∃ a b c d, vs = [a, b, c, d] ∧ f a b c d H Q E
def sp5 (f : V → V → V → V → V → Hp → VK → XK → Prop) : Sp := fun vs H Q E => ∃ a b c d e, vs = [a, b, c, d, e] ∧ f a b c d e H Q E
section
variable {vs : List V} {H : Hp} {Q : VK} {E : XK} {a b c d e : V}
theorem sp0_len {f} (h : sp0 f vs H Q E) : vs.length = 0 := by obtain ⟨rfl, _⟩ := h; rfl
theorem sp1_len {f} (h : sp1 f vs H Q E) : vs.length = 1 := by obtain ⟨_, rfl, _⟩ := h; rfl
theorem sp2_len {f} (h : sp2 f vs H Q E) : vs.length = 2 := by obtain ⟨_, _, rfl, _⟩ := h; rfl
theorem sp3_len {f} (h : sp3 f vs H Q E) : vs.length = 3 := by obtain ⟨_, _, _, rfl, _⟩ := h; rfl
theorem sp4_len {f} (h : sp4 f vs H Q E) : vs.length = 4 := by obtain ⟨_, _, _, _, rfl, _⟩ := h; rfl
theorem sp5_len {f} (h : sp5 f vs H Q E) : vs.length = 5 := by obtain ⟨_, _, _, _, _, rfl, _⟩ := h; rfl
theorem ask0 {f} (h : f H Q E) : Box (sp0 f [] H Q E) := ⟨rfl, h⟩
theorem ask1 {f} (h : f a H Q E) : Box (sp1 f [a] H Q E) := ⟨_, rfl, h⟩
theorem ask2 {f} (h : f a b H Q E) : Box (sp2 f [a, b] H Q E) := ⟨_, _, rfl, h⟩
theorem ask3 {f} (h : f a b c H Q E) : Box (sp3 f [a, b, c] H Q E) := ⟨_, _, _, rfl, h⟩
theorem ask4 {f} (h : f a b c d H Q E) : Box (sp4 f [a, b, c, d] H Q E) := ⟨_, _, _, _, rfl, h⟩
theorem ask5 {f} (h : f a b c d e H Q E) : Box (sp5 f [a, b, c, d, e] H Q E) := ⟨_, _, _, _, _, rfl, h⟩
end
end Ow
namespace Ow
open PySem PySem.Spec PyProof.Rows L2
theorem pe_gc {X : Cx} {x : Str} {pos : Pos} {v : V} (hg : Gl X x) (hm : ∃ u, X.mg x = some u ∧ RelV v u) (hd : (x == ("__debug__" : Str)) = false := by decide) : PE X (.Name x pos) (tC v) :=
  let ⟨_, e, r⟩ := hm
  pe_glob hg e r hd
end Ow
namespace Ow
open PySem PySem.Spec PyProof.Rows L2
section
variable {H0 H : Hp} {A : List Addr} {cs : Cells} {x dx C : Addr}
/-- a new instance -/
theorem Own.inst (O : Own H0 H A cs) (h1 : H x = none) (h2 : H dx = none) (ne : dx ≠ x) : Own H0 (upd (upd H dx (.own x)) x (.ins C dx [])) A ((x, .ins C dx []) :: cs) :=
  ((O.new (o := .own x) h2).new (o := .ins C dx []) (p := x) (by rw [upd_ne ne.symm]; exact h1)).drop (List.Sublist.cons₂ _ (List.Sublist.cons _ (List.Sublist.refl _)))
theorem Own.last {c : Addr × HO} (O : Own H0 H A (c :: cs)) : Own H0 H A (cs ++ [c]) := O.perm (List.perm_append_singleton c cs).symm
theorem Own.eq {cs' : Cells} (O : Own H0 H A cs) (e : cs = cs') : Own H0 H A cs' := e ▸ O
theorem Own.adr {A' : List Addr} (O : Own H0 H A cs) (e : A = A') : Own H0 H A' cs := e ▸ O
end
/-! ### loops -/
section
variable {K : PySem.W.Frag} {a : Addr} {xs : List V} {g : TG} {tb : TS} {D : Ends} {σ : L2.St} {H : Hp}
theorem forL (Pv : Nat → L2.St → Hp → Prop) (h0 : Pv 0 σ H) (hl : ∀ i σ H, i ≤ xs.length → Pv i σ H → SqL K H a xs)
    (hs : ∀ i x σ H, xs[i]? = some x → Pv i σ H → g x σ H fun σ2 H2 => tb { D with nx := fun σ H => Box (Pv (i + 1) σ H), ct := fun σ H => Box (Pv (i + 1) σ H), bk := D.nx } σ2 H2) (hd : ∀ σ H, Pv xs.length σ H → D.nx σ H) :
    Box (∃ W : Nat → Nat → L2.St → Hp → Prop, (∃ m, W 0 m σ H) ∧ ∀ i m σ H, W i m σ H →
      ((Itl K a).stop i H ∧ D.nx σ H) ∨ ((Itl K a).go i H ∧ ∃ N : L2.St → Hp → Prop, (∀ σ' H', N σ' H' → ∃ m', m' < m ∧ W (i + 1) m' σ' H') ∧ ∀ x H', (Itl K a).yld i H x H' → g x σ H' fun σ2 H2 => tb { D with nx := N, ct := N, bk := D.nx } σ2 H2)) :=
  ⟨for_list (fun i σ H => Box (Pv i σ H)) ⟨h0⟩ (fun i σ H hi p => hl i σ H hi p.out) (fun i x σ H hx p => hs i x σ H hx p.out) (fun σ H p => hd σ H p.out)⟩
theorem forT (Pv : Nat → L2.St → Hp → Prop) (h0 : Pv 0 σ H) (hl : ∀ i σ H, i ≤ xs.length → Pv i σ H → SqT K H a xs)
    (hs : ∀ i x σ H, xs[i]? = some x → Pv i σ H → g x σ H fun σ2 H2 => tb { D with nx := fun σ H => Box (Pv (i + 1) σ H), ct := fun σ H => Box (Pv (i + 1) σ H), bk := D.nx } σ2 H2) (hd : ∀ σ H, Pv xs.length σ H → D.nx σ H) :
    Box (∃ W : Nat → Nat → L2.St → Hp → Prop, (∃ m, W 0 m σ H) ∧ ∀ i m σ H, W i m σ H →
      ((Itt K a).stop i H ∧ D.nx σ H) ∨ ((Itt K a).go i H ∧ ∃ N : L2.St → Hp → Prop, (∀ σ' H', N σ' H' → ∃ m', m' < m ∧ W (i + 1) m' σ' H') ∧ ∀ x H', (Itt K a).yld i H x H' → g x σ H' fun σ2 H2 => tb { D with nx := N, ct := N, bk := D.nx } σ2 H2)) :=
  ⟨for_tup (fun i σ H => Box (Pv i σ H)) ⟨h0⟩ (fun i σ H hi p => hl i σ H hi p.out) (fun i x σ H hx p => hs i x σ H hx p.out) (fun σ H p => hd σ H p.out)⟩
theorem forR {lo : Int} {n : Nat} (Pv : Nat → L2.St → Hp → Prop) (h0 : Pv 0 σ H)
    (hs : ∀ i σ H, i < n → Pv i σ H → g (.int (lo + i)) σ H fun σ2 H2 => tb { D with nx := fun σ H => Box (Pv (i + 1) σ H), ct := fun σ H => Box (Pv (i + 1) σ H), bk := D.nx } σ2 H2) (hd : ∀ σ H, Pv n σ H → D.nx σ H) :
    Box (∃ W : Nat → Nat → L2.St → Hp → Prop, (∃ m, W 0 m σ H) ∧ ∀ i m σ H, W i m σ H →
      ((Itr lo n).stop i H ∧ D.nx σ H) ∨ ((Itr lo n).go i H ∧ ∃ N : L2.St → Hp → Prop, (∀ σ' H', N σ' H' → ∃ m', m' < m ∧ W (i + 1) m' σ' H') ∧ ∀ x H', (Itr lo n).yld i H x H' → g x σ H' fun σ2 H2 => tb { D with nx := N, ct := N, bk := D.nx } σ2 H2)) :=
  ⟨for_range (fun i σ H => Box (Pv i σ H)) ⟨h0⟩ (fun i σ H hi p => hs i σ H hi p.out) (fun σ H p => hd σ H p.out)⟩
theorem forC {lo c : Int} {n : Nat} (Pv : Nat → L2.St → Hp → Prop) (h0 : Pv 0 σ H)
    (hs : ∀ i σ H, i < n → Pv i σ H → g (.int (lo + (i : Nat) * c)) σ H fun σ2 H2 => tb { D with nx := fun σ H => Box (Pv (i + 1) σ H), ct := fun σ H => Box (Pv (i + 1) σ H), bk := D.nx } σ2 H2) (hd : ∀ σ H, Pv n σ H → D.nx σ H) :
    Box (∃ W : Nat → Nat → L2.St → Hp → Prop, (∃ m, W 0 m σ H) ∧ ∀ i m σ H, W i m σ H →
      ((Itc lo c n).stop i H ∧ D.nx σ H) ∨ ((Itc lo c n).go i H ∧ ∃ N : L2.St → Hp → Prop, (∀ σ' H', N σ' H' → ∃ m', m' < m ∧ W (i + 1) m' σ' H') ∧ ∀ x H', (Itc lo c n).yld i H x H' → g x σ H' fun σ2 H2 => tb { D with nx := N, ct := N, bk := D.nx } σ2 H2)) :=
  ⟨for_rangeC (fun i σ H => Box (Pv i σ H)) ⟨h0⟩ (fun i σ H hi p => hs i σ H hi p.out) (fun σ H p => hd σ H p.out)⟩
/-- a while, by a word with its measure -/
theorem whI {c : TT} (W : Nat → L2.St → Hp → Prop) (m0 : Nat) (h0 : W m0 σ H) (hs : ∀ m σ H, W m σ H → c σ H fun b H1 => if b = true then ∃ N : L2.St → Hp → Prop, (∀ σ' H', N σ' H' → ∃ m', m' < m ∧ W m' σ' H') ∧ tb { D with nx := N, ct := N, bk := D.nx } σ H1 else D.nx σ H1) :
    Box (tWhile c tb D σ H) := ⟨W, ⟨m0, h0⟩, hs⟩
theorem whN {W : Nat → L2.St → Hp → Prop} {m : Nat} (h : tb { D with nx := fun σ' H' => Box (∃ m', m' < m ∧ W m' σ' H'), ct := fun σ' H' => Box (∃ m', m' < m ∧ W m' σ' H'), bk := D.nx } σ H) :
    ∃ N : L2.St → Hp → Prop, (∀ σ' H', N σ' H' → ∃ m', m' < m ∧ W m' σ' H') ∧ tb { D with nx := N, ct := N, bk := D.nx } σ H := ⟨_, fun _ _ h => h.out, h⟩
end
end Ow
namespace Ow
open PySem PySem.Spec PyProof.Rows L2
theorem if_t {b : Bool} {A B : Prop} (h : b = true) (k : A) : if b = true then A else B := by rw [if_pos h]; exact k
theorem if_f {b : Bool} {A B : Prop} (h : b = false) (k : B) : if b = true then A else B := by rw [if_neg (by rw [h]; exact Bool.false_ne_true)]; exact k
end Ow
namespace Ow
open PySem PySem.Spec PyProof.Rows L2
theorem dget_v {H : Hp} {a : Addr} {kvs : List (Key × V)} {k : Key} {v : V} (h : H a = some (.dK kvs)) (e : valV kvs k = some v) : DGet H a (kV k) (some v) := e ▸ DGet.k h
end Ow
namespace Ow
open PySem PySem.Spec PyProof.Rows L2
theorem kl {i : Int} : V.int i = kV (Sum.inl i) := rfl
theorem kr {z : Str} : V.str z = kV (Sum.inr z) := rfl
end Ow
namespace Ow
open PySem PySem.Spec PyProof.Rows L2
/-! ### lists of whole numbers, compared -/
section
variable {K : PySem.W.Frag} {H : Hp} {a b : Addr}
theorem dpa_ints : ∀ ns : List Int, DpAll K H (ns.map V.int) (ns.map PyData.int)
  | [] => .nil
  | n :: r => .cons (.int n) (dpa_ints r)
theorem dp_ints {ns : List Int} (h : H a = some (.lst (ns.map V.int))) : Dp K H (.ref a) (.list (ns.map PyData.int)) := .lst (SqL.of h) (dpa_ints ns)
theorem depth_ints : ∀ ns : List Int, PyData.depthAll (ns.map PyData.int) ≤ 1
  | [] => by simp [PyData.depthAll]
  | n :: r => by
    have := depth_ints r
    simp only [List.map_cons, PyData.depthAll, PyData.depth]
    omega
theorem lay_ints : ∀ ns : List Int, PyData.canLayAll0 (ns.map PyData.int) = true
  | [] => by simp [PyData.canLayAll0]
  | n :: r => by simp [PyData.canLayAll0, PyData.canLay0, lay_ints r]
theorem sh_ints (ns : List Int) : SeqAt.shaped (.list (ns.map PyData.int)) = true := by
  have h1 := depth_ints ns
  have h2 : PyData.depth (.list (ns.map PyData.int)) ≤ 64 := by
    simp only [PyData.depth]
    omega
  show (PyData.canLay0 (.list (ns.map PyData.int)) && decide (PyData.depth (.list (ns.map PyData.int)) ≤ 64)) = true
  rw [Bool.and_eq_true]
  exact ⟨by simp only [PyData.canLay0]; exact lay_ints ns, decide_eq_true h2⟩
theorem dist_ints : ∀ ns ms : List Int, PyData.eqvAll (ns.map PyData.int) (ms.map PyData.int) = decide (ns = ms)
  | [], [] => rfl
  | [], _ :: _ => rfl
  | _ :: _, [] => rfl
  | n :: r, m :: q => by
    rw [List.map_cons, List.map_cons, PyData.eqvAll, dist_ints r q]
    show ((n == m) && _) = _
    by_cases h : n = m
    · subst h; simp
    · rw [decide_eq_false (fun e => h (List.cons.inj e).1)]; simp [h]
theorem eqv_ints (ns ms : List Int) : PyData.eqv (.list (ns.map PyData.int)) (.list (ms.map PyData.int)) = decide (ns = ms) := dist_ints ns ms
/-- two rows of whole numbers, compared -/
theorem eq_ints {ns ms : List Int} {Q : VK} (ha : H a = some (.lst (ns.map V.int))) (hb : H b = some (.lst (ms.map V.int))) (k : Q (.bl (decide (ns = ms))) H) : rEqD K (.ref a) (.ref b) H Q :=
  ⟨_, _, dp_ints ha, dp_ints hb, sh_ints ns, sh_ints ms, by rw [eqv_ints]; exact k⟩
theorem ne_ints {ns ms : List Int} {Q : VK} (ha : H a = some (.lst (ns.map V.int))) (hb : H b = some (.lst (ms.map V.int))) (k : Q (.bl (!decide (ns = ms))) H) : rNeD K (.ref a) (.ref b) H Q :=
  ⟨_, _, dp_ints ha, dp_ints hb, sh_ints ns, sh_ints ms, by rw [eqv_ints]; exact k⟩
end
end Ow
namespace Ow
open PySem PySem.Spec PyProof.Rows L2
/-! ### the closers' own lemmas: head first -/
section
variable {K : PySem.W.Frag} {H0 H : Hp} {A : List Addr} {cs cs' : Cells} {a p : Addr} {o o' : HO} {xs : List V}
theorem Own.wr2 (O : Own H0 H A cs) (h : At cs a o o' cs') (n : isTup o = false) : Own H0 (upd H a o') A cs' := O.wr h n
theorem col_ex (h : H a = some (.lst xs)) : ∃ xs, SqL K H a xs := ⟨_, SqL.of h⟩
theorem col_ol {p : Prop} (h : H a = some (.lst xs)) : SqL K H a xs ∨ p := .inl (SqL.of h)
theorem col_or {p : Prop} (h : H a = some (.tup xs)) : p ∨ SqT K H a xs := .inr (SqT.of h)
theorem dget_ii {kvs : List (Key × V)} {i : Int} {v : V} (h : H a = some (.dK kvs)) (e : valV kvs (Sum.inl i) = some v) : DGet H a (.int i) (some v) := dget_v (k := Sum.inl i) h e
theorem dget_is {kvs : List (Key × V)} {i : Str} {v : V} (h : H a = some (.dK kvs)) (e : valV kvs (Sum.inr i) = some v) : DGet H a (.str i) (some v) := dget_v (k := Sum.inr i) h e
theorem dget_i {kvs : List (Key × V)} {i : Int} (h : H a = some (.dK kvs)) : DGet H a (.int i) (valV kvs (Sum.inl i)) := DGet.k (k := Sum.inl i) h
theorem dget_s {kvs : List (Key × V)} {i : Str} (h : H a = some (.dK kvs)) : DGet H a (.str i) (valV kvs (Sum.inr i)) := DGet.k (k := Sum.inr i) h
theorem dput_i {kvs : List (Key × V)} {i : Int} {v : V} (h : H a = some (.dK kvs)) (hl : kvs.length < 100000) : DPut H a (.int i) v (upd H a (.dK (putK kvs (Sum.inl i) v))) := DPut.k (k := Sum.inl i) h (sz_lt hl)
theorem dput_s {kvs : List (Key × V)} {i : Str} {v : V} (h : H a = some (.dK kvs)) (hl : kvs.length < 100000) : DPut H a (.str i) v (upd H a (.dK (putK kvs (Sum.inr i) v))) := DPut.k (k := Sum.inr i) h (sz_lt hl)
theorem isd_k {kvs : List (Key × V)} (h : H a = some (.dK kvs)) : IsD H a := Or.inl ⟨_, Or.inl h⟩
theorem wp_of {x y : List (Option V)} (h : x = y) : x = y := h
theorem ln_of {x y : Nat} (h : x = y) : x = y := h
theorem pos_of {m : Int} (h : 0 < m) : 0 < m := h
end
end Ow
namespace Ow
open PySem PySem.Spec PyProof.Rows L2
/-! ### items -/
theorem at_int {α : Type} {xs : List α} {n : Int} (h0 : 0 ≤ n) (h1 : n < (xs.length : Int)) : ∃ y, xs[n.toNat]? = some y ∧ atI xs n = some y := by
  have hj : n.toNat < xs.length := by omega
  refine ⟨xs[n.toNat], List.getElem?_eq_getElem hj, ?_⟩
  have := atI_nat (List.getElem?_eq_getElem hj)
  rwa [Int.toNat_of_nonneg h0] at this
theorem map_get {l : List Int} {i : Nat} {x : V} (h : (l.map V.int)[i]? = some x) : ∃ y, l[i]? = some y ∧ x = V.int y := by
  rw [List.getElem?_map] at h
  cases e : l[i]? with
  | none => rw [e] at h; cases h
  | some y => rw [e] at h; exact ⟨y, rfl, (Option.some.inj h).symm⟩
theorem at_ints {ns : List Int} {n : Int} (h0 : 0 ≤ n) (h1 : n < ((ns.map V.int).length : Int)) : ∃ y, ns[n.toNat]? = some y ∧ atI (ns.map V.int) n = some (V.int y) := by
  obtain ⟨y, h2, h3⟩ := at_int h0 h1
  obtain ⟨z, h4, rfl⟩ := map_get h2
  exact ⟨z, h4, h3⟩
end Ow
namespace Ow
open PySem PySem.Spec PyProof.Rows L2
theorem Own.fr0 {H0 H : Hp} {cs : Cells} {b : Addr} {o : HO} (O : Own H0 H [] cs) (h : H0 b = some o) : H b = some o := O.fr b o h (by simp)
/-! ### comprehensions -/
section
variable {K : PySem.W.Frag} {a : Addr} {xs : List V} {g : TG} {tt : TT} {te : TE} {vs : List Nat} {σ : L2.St} {H1 : Hp} {Q : Addr → Hp → Prop} {lo : Int} {n : Nat}
theorem lcR (Pv : Addr → Nat → Hp → Prop) (h0 : ∀ D, H1 D = none → Pv D 0 (upd H1 D (.lst [])))
    (hs : ∀ D i H, i < n → Pv D i H → g (.int (lo + i)) (wipe σ vs) H fun σ2 H2 => wipe σ2 vs = wipe σ vs ∧ tt σ2 H2 fun b H3 =>
      if b = true then te σ2 H3 fun y H4 => ∃ acc, H4 D = some (.lst acc) ∧ acc.length < sizeLine ∧ Box (Pv D (i + 1) (upd H4 D (.lst (acc ++ [y])))) else Box (Pv D (i + 1) H3)) (hd : ∀ D H, Pv D n H → Q D H) :
    Box (∀ D, H1 D = none → ∃ W : Nat → Nat → Hp → Prop, (∃ m, W 0 m (upd H1 D (.lst []))) ∧ ∀ i m H, W i m H →
      ((Itr lo n).stop i H ∧ Q D H) ∨ ((Itr lo n).go i H ∧ ∃ Nx : Hp → Prop, (∀ H', Nx H' → ∃ m', m' < m ∧ W (i + 1) m' H') ∧ ∀ x H', (Itr lo n).yld i H x H' → g x (wipe σ vs) H' fun σ2 H2 => wipe σ2 vs = wipe σ vs ∧ tt σ2 H2 fun b H3 =>
        if b = true then te σ2 H3 fun y H4 => ∃ acc, H4 D = some (.lst acc) ∧ acc.length < sizeLine ∧ Nx (upd H4 D (.lst (acc ++ [y]))) else Nx H3)) :=
  ⟨fun D hD => lc_range (fun i H => Box (Pv D i H)) ⟨h0 D hD⟩ (fun i H hi p => hs D i H hi p.out) (fun H p => hd D H p.out)⟩
theorem lcL (Pv : Addr → Nat → Hp → Prop) (h0 : ∀ D, H1 D = none → Pv D 0 (upd H1 D (.lst []))) (hl : ∀ D i H, i ≤ xs.length → Pv D i H → SqL K H a xs)
    (hs : ∀ D i x H, xs[i]? = some x → Pv D i H → g x (wipe σ vs) H fun σ2 H2 => wipe σ2 vs = wipe σ vs ∧ tt σ2 H2 fun b H3 =>
      if b = true then te σ2 H3 fun y H4 => ∃ acc, H4 D = some (.lst acc) ∧ acc.length < sizeLine ∧ Box (Pv D (i + 1) (upd H4 D (.lst (acc ++ [y])))) else Box (Pv D (i + 1) H3)) (hd : ∀ D H, Pv D xs.length H → Q D H) :
    Box (∀ D, H1 D = none → ∃ W : Nat → Nat → Hp → Prop, (∃ m, W 0 m (upd H1 D (.lst []))) ∧ ∀ i m H, W i m H →
      ((Itl K a).stop i H ∧ Q D H) ∨ ((Itl K a).go i H ∧ ∃ Nx : Hp → Prop, (∀ H', Nx H' → ∃ m', m' < m ∧ W (i + 1) m' H') ∧ ∀ x H', (Itl K a).yld i H x H' → g x (wipe σ vs) H' fun σ2 H2 => wipe σ2 vs = wipe σ vs ∧ tt σ2 H2 fun b H3 =>
        if b = true then te σ2 H3 fun y H4 => ∃ acc, H4 D = some (.lst acc) ∧ acc.length < sizeLine ∧ Nx (upd H4 D (.lst (acc ++ [y]))) else Nx H3)) :=
  ⟨fun D hD => lc_list (fun i H => Box (Pv D i H)) ⟨h0 D hD⟩ (fun i H hi p => hl D i H hi p.out) (fun i x H hx p => hs D i x H hx p.out) (fun H p => hd D H p.out)⟩
theorem lcT (Pv : Addr → Nat → Hp → Prop) (h0 : ∀ D, H1 D = none → Pv D 0 (upd H1 D (.lst []))) (hl : ∀ D i H, i ≤ xs.length → Pv D i H → SqT K H a xs)
    (hs : ∀ D i x H, xs[i]? = some x → Pv D i H → g x (wipe σ vs) H fun σ2 H2 => wipe σ2 vs = wipe σ vs ∧ tt σ2 H2 fun b H3 =>
      if b = true then te σ2 H3 fun y H4 => ∃ acc, H4 D = some (.lst acc) ∧ acc.length < sizeLine ∧ Box (Pv D (i + 1) (upd H4 D (.lst (acc ++ [y])))) else Box (Pv D (i + 1) H3)) (hd : ∀ D H, Pv D xs.length H → Q D H) :
    Box (∀ D, H1 D = none → ∃ W : Nat → Nat → Hp → Prop, (∃ m, W 0 m (upd H1 D (.lst []))) ∧ ∀ i m H, W i m H →
      ((Itt K a).stop i H ∧ Q D H) ∨ ((Itt K a).go i H ∧ ∃ Nx : Hp → Prop, (∀ H', Nx H' → ∃ m', m' < m ∧ W (i + 1) m' H') ∧ ∀ x H', (Itt K a).yld i H x H' → g x (wipe σ vs) H' fun σ2 H2 => wipe σ2 vs = wipe σ vs ∧ tt σ2 H2 fun b H3 =>
        if b = true then te σ2 H3 fun y H4 => ∃ acc, H4 D = some (.lst acc) ∧ acc.length < sizeLine ∧ Nx (upd H4 D (.lst (acc ++ [y]))) else Nx H3)) :=
  ⟨fun D hD => lc_tup (fun i H => Box (Pv D i H)) ⟨h0 D hD⟩ (fun i H hi p => hl D i H hi p.out) (fun i x H hx p => hs D i x H hx p.out) (fun H p => hd D H p.out)⟩
end
end Ow
namespace Ow
open PySem PySem.Spec PyProof.Rows L2
theorem cutV_sub (xs : List V) (lo hi : Option Int) {x : V} (h : x ∈ cutV xs lo hi) : x ∈ xs := List.mem_of_mem_drop (List.mem_of_mem_take h)
theorem cut_ints {xs : List Int} {lo hi : Option Int} {i : Nat} {x : V} (h : (cutV (xs.map V.int) lo hi)[i]? = some x) : ∃ y, x = V.int y := by
  obtain ⟨y, _, e⟩ := List.mem_map.mp (cutV_sub _ _ _ (List.mem_of_getElem? h))
  exact ⟨y, e.symm⟩
theorem cutV_take (xs : List V) (n : Nat) : (cutV xs none (some (n : Int))).length ≤ n := by
  unfold cutV
  rw [List.length_take]
  have : HT.sIx xs.length xs.length (some (n : Int)) ≤ n := by
    rw [HT.sIx_nat]
    omega
  omega
end Ow
namespace Ow
open PySem PySem.Spec PyProof.Rows L2
/-! ### where two ways meet -/
theorem cutT {c : TT} {σ : L2.St} {H : Hp} {post : Bool → Hp → Prop} (R : Bool → Hp → Prop) (h : ∀ post' : Bool → Hp → Prop, (∀ b H', R b H' → post' b H') → c σ H post') (k : ∀ b H', R b H' → post b H') : c σ H post := h post k
theorem cutI {c : TT} {a b : TS} {D : Ends} {σ : L2.St} {H : Hp} (R : Bool → Hp → Prop) (h : ∀ post' : Bool → Hp → Prop, (∀ b H', R b H' → post' b H') → c σ H post') (k : ∀ bb H', R bb H' → if bb = true then a D σ H' else b D σ H') : tIfS c a b D σ H := h _ k
theorem cutS {t : TS} {D : Ends} {σ : L2.St} {H : Hp} (R : L2.St → Hp → Prop) (h : ∀ nx' : L2.St → Hp → Prop, (∀ σ' H', R σ' H' → nx' σ' H') → t { D with nx := nx' } σ H) (k : ∀ σ' H', R σ' H' → D.nx σ' H') : Box (t D σ H) := ⟨h D.nx k⟩
end Ow
namespace Ow
open L2 in
theorem rg_mk {lo hi c : Int} (n : Nat) (h : (c ≠ 0 ∧ c.natAbs < 1073741824 ∧ PySem.Builtin.Range.small lo hi c = true ∧ PySem.Builtin.Range.rangeSize lo hi c = n) := by decide +kernel) : RgC lo hi c n := h
open L2 in
theorem Own.self {H0 H : Hp} {A : List PySem.Addr} {cs : Cells} (O : Own H0 H A cs) : Own H H (Ow.adr cs) cs := O.blk (s' := []) (cs' := []) .all
end Ow
namespace Ow
open L2 in
/-- behind a call that was handed nothing -/
theorem Own.callN {H0 H H' : Hp} {A : List PySem.Addr} {cs s' : Cells} (O : Own H0 H A cs) (C : Own H H' [] s') : Own H0 H' A (s' ++ cs) := O.call (s := []) .nil C
end Ow
namespace Ow
open PySem PySem.Spec PyProof.Rows L2
/-! ### what stands outside: the script -/
section
variable {K : PySem.W.Frag} {H0 H : Hp} {A : List Addr} {cs : Cells} {a : Addr} {xs : List V}
theorem Own.sq (O : Own H0 H [] cs) (h : SqL K H0 a xs) : SqL K H a xs := by
  rcases h with (h | ⟨o, h⟩) | h
  · exact .inl (.inl (O.fr0 h))
  · exact .inl (.inr ⟨o, O.fr0 h⟩)
  · exact .inr h
theorem Own.sqT (O : Own H0 H A cs) (h : SqT K H0 a xs) (hf : ∀ o, H0 a = some (.frz o (.tup xs)) → a ∉ A) : SqT K H a xs := by
  rcases h with (h | ⟨o, h⟩) | h
  · exact .inl (.inl (O.tup h))
  · exact .inl (.inr ⟨o, O.fr _ _ h (hf o h)⟩)
  · exact .inr h
theorem col_ex2 (h : SqL K H a xs) : ∃ xs, SqL K H a xs := ⟨_, h⟩
theorem col_ol2 {p : Prop} (h : SqL K H a xs) : SqL K H a xs ∨ p := .inl h
theorem col_or2 {p : Prop} (h : SqT K H a xs) : p ∨ SqT K H a xs := .inr h
end
end Ow
namespace Ow
open PySem PySem.Spec PyProof.Rows L2
/-! ### the end -/
theorem cx_no {P : Program} {w : World} {H : Hp} {s : Shared} {e : Value} {s' : Shared} (h : L2.CX P w [] H s (fun _ _ _ => False) e s') : False := by
  obtain ⟨_, _, _, _, _, _, _, _, _, _, _, _, h⟩ := h
  exact h
theorem walk_end {l : PySem.W.OpenLaw} {n k : Nat} {q : Program} {loose : List Str} {XP : (Str → Option Value) → Heap → Prop} {YP : World → Heap → Prop} {d : DefRec} {x : Str}
    (hn : l.most = some n) (hn2 : n ≤ sizeLine) (hdf : d.params.defaults = []) (hr : Room k callerA)
    (F : ∀ (w : World) (mg : Str → Option Value) (fa : Addr) (h : Heap), YP w h → h.Ns mainGlobals mg → mg d.name = some (.ref fa) →
      ∃ (K : PySem.W.Frag) (fd : FuncData) (sp : Sp), K.In h ∧ (∀ (s : Shared) (u : Value), BindsTo s fd ⟨[u], []⟩ [(x, u)]) ∧
        (∀ (H : Hp) (a : Addr) (ns : List Int), ns.length ≤ n → (∀ z ∈ ns, Builtin.Int.intBits z ≤ 1048576) → SqL K H a (ns.map V.int) → sp [.ref a] H (fun v _ => v = .bl true) fun _ _ _ => False) ∧
        ∀ base : Heap, K.In base → base.Ns mainGlobals mg → FnOk l.prog w K mg base (L2.CX l.prog w) k fa fd [x] sp) :
    PySem.W.WalkO q loose XP YP l.row.toRowW d [] (fun f vs => PySem.call f vs) := by
  refine Att.attach_callB hn hdf fun w s₀ s₁ mg mb fa o pm cd doc a vs ns G Y ho hd hcd hmg hobj hints hlen hbits hg => ?_
  obtain ⟨K, fd, sp, KX, hb, hsp, hF⟩ := F w mg fa _ Y G.T.g hmg
  exact law_call KX G.T.g G.T.b G.T.builtins G.T.nolimit hg hobj hints (Nat.le_trans hlen hn2) hr hF hb (fun H _ hS => hsp H a ns hlen hbits hS) fun _ _ _ h => cx_no h
theorem fn_of {P : Program} {w : World} {K : PySem.W.Frag} {mg : Str → Option Value} {base : Heap} {x qual : Str} {params : Arguments} {body : List Stmt} {scope : Scope} {f : Addr} {fd : FuncData} {N ps : List Str} {k : Nat} {sp : Sp} (F : FunD K x qual params body scope [] [] f fd) (S : FnScope N ps scope)
    (len : ∀ vs H Q E, sp vs H Q E → vs.length = ps.length)
    (hbody : ∀ (cdv : Value) (A : Around) (outer : List Env) (s : Shared) (H : Hp) (vs : List V) (Q : VK) (E : XK), Room k (A.deeper (envOfC qual scope s.heap.objs.size f cdv)) → sp vs H Q E →
      ∃ t, PSs (cxOf (L2.CX P w) P w K mg base N qual scope f cdv A outer s H E) body t ∧ t { nx := fun _ H' => Q .non H', rt := Q } (start N vs) H) : FnOk P w K mg base (L2.CX P w) (k + 1) f fd ps (bx sp) :=
  FunD.ok F S (fun vs H Q E h => len vs H Q E h.out) (fun cdv A outer s H vs Q E hr h => hbody cdv A outer s H vs Q E hr h.out)
end Ow
namespace Ow
open PySem PySem.Spec PyProof.Rows L2
/-! ### an exception that is held: known, in the suite and beyond it -/
theorem zc_of {cls : Value} {d : Option Addr} {o : Obj} (h : Zc cls d o) : o.cls = cls ∧ o.dict = d := ⟨h.1, by first | exact h.2 | exact h.2.1⟩
/-- an exception object at a, of the class cls, its dict d -/
def CxO (cls : Value) (d : Option Addr) (a : Addr) : HO := .ext fun h => ∃ (o : Obj) (vs : Array Value), h.get? a = some o ∧ Zc cls d o ∧ o.data = .fields vs
section
variable {X : Cx} {pins : List (Addr × Obj)} {σ : L2.St} {H : Hp} {s : Shared} {a : Addr} {cls : Value} {d : Option Addr} {o : Obj} {vs : Array Value}
theorem hold_ok (I : Inv X pins σ H s) (e : s.heap.get? a = some o) (z : Zc cls d o) (dt : o.data = .fields vs) (na : H a = none) (n0 : X.s_0.heap.get? a = none) (nL : a ≠ X.env.locals) (np : ∀ p ∈ X.pn ++ pins, p.1 ≠ a) :
    Inv X pins σ (upd H a (CxO cls d a)) s := by
  have sk : ∀ {b : Addr} {u : HO}, H b = some u → upd H a (CxO cls d a) b = some u := fun {b u} q => by
    rw [upd_ne (fun w => by rw [w, na] at q; cases q)]
    exact q
  have nk : ∀ {b : Addr}, b ≠ a → H b = none → upd H a (CxO cls d a) b = none := fun {b} q r => by
    rw [upd_ne q]
    exact r
  refine ⟨I.ok, I.os, I.bare, ⟨I.base.keep, I.base.slot, fun b u q1 q2 q3 => nk (fun w => by rw [w, n0] at q1; cases q1) (I.base.free b u q1 q2 q3), I.base.there, fun b xs q => sk (I.base.tups b xs q), fun b o' u q => sk (I.base.frzs b o' u q), fun b ps q => ?_⟩, I.loc, I.cell, nk (Ne.symm nL) I.free, fun x c q => nk (fun w => ?_) (I.freeC x c q), fun p hp => ?_, HOk.laidN I.hok (fun _ _ w => w) na ⟨⟨o, vs, e, z, dt⟩, ⟨o, e⟩, fun _ _ ⟨o2, v2, q, r⟩ k => ⟨o2, v2, k o2 q, r⟩⟩, I.len⟩
  · obtain ⟨m, r⟩ := I.base.tbls b ps q
    exact ⟨m, sk r⟩
  · subst w
    obtain ⟨v, oc, ho, hd⟩ := I.cell x c q
    rw [e] at ho
    cases ho
    rw [dt] at hd
    cases hd
  · obtain ⟨p1, p2, p3, p4, p5⟩ := I.pin p hp
    exact ⟨p1, nk (np p hp) p2, p3, p4, p5⟩
theorem suite_in {b : Addr} (I : Inv X pins σ H s) : Inv (X.suite b (X.pn ++ pins)) [] σ H s :=
  ⟨I.ok.suite _ _, I.os, I.bare, I.base, I.loc, I.cell, I.free, I.freeC, fun p hp => I.pin p ((List.append_nil (X.pn ++ pins)) ▸ hp), I.hok, I.len⟩
theorem suite_out {b : Addr} (I : Inv (X.suite b (X.pn ++ pins)) [] σ H s) (ok : X.Ok) : Inv X pins σ H s :=
  ⟨ok, I.os, I.bare, I.base, I.loc, I.cell, I.free, I.freeC, fun p hp => I.pin p ((List.append_nil (X.pn ++ pins)).symm ▸ hp), I.hok, I.len⟩
end
/-- the wish of a try whose suite may keep the exception -/
def wHold (K : PySem.W.Frag) (c : Value) (i : Nat) (ts : Addr → TS) (Wout : WX) (D : Ends) : WX := fun cls d σ H =>
  ∃ b, PySem.W.exmOne K cls c = some b ∧ (b = true → ∀ a, H a = none → ts a { nx := fun τ G => D.nx (τ.set i none) G, rt := D.rt, bk := fun τ G => D.bk (τ.set i none) G, ct := fun τ G => D.ct (τ.set i none) G } (σ.set i (some (.ref a))) (upd H a (CxO cls d a))) ∧ (b = false → Wout cls d σ H)
section
variable {X : Cx} {x n : Str} {c : Value} {i : Nat} {body suite : List Stmt} {b₀ : Stmt} {np pos pos' : Pos} {tb : WX → TS} {ts : Addr → TS} {Wout : WX}
theorem ps_tryX (hs : X.stack = X.env :: X.outer) (hf : X.env.frame = some X.env.locals) (hx : X.ex = []) (hN : X.N.Nodup) (hi : X.N[i]? = some n) (hln : X.env.kindOf n = some .local) (hc : Names X x c) (tk : Takes X Wout)
    (hb : ∀ (W : WX) (pn : List (Addr × Obj)) (xe : Value → Shared → Prop), Takes (X.tr pn xe) W → PassesOwn (model X.prog X.w) X.A X.env xe → PSs (X.tr pn xe) body (tb W))
    (hsu : ∀ (a : Addr) (pn : List (Addr × Obj)), PSs (X.suite a pn) (b₀ :: suite) (ts a)) :
    PS X (.Try body [.ExceptHandler (some (.Name x np)) (some n) (b₀ :: suite) pos'] [] [] pos) (fun D σ H => tb (wHold X.K c i ts Wout D) D σ H) := by
  refine ⟨fun pins s σ H D I hyp => ?_⟩
  have okX := I.ok
  have frames : X.A.frames = some (X.env :: X.outer) := by rw [okX.frames, hs]
  refine wpAny_Try_except ?_
  refine wpAny_mono ((hb (wHold X.K c i ts Wout D) (X.pn ++ pins) (fun ev sA => wpAny (model X.prog X.w) X.A (noteFrame ev X.env) (fun _ sB => wpAny (model X.prog X.w) X.A (setFlight ev none) (fun _ sC =>
    wpAny (model X.prog X.w) X.A (handleBy ev X.env [.ExceptHandler (some (.Name x np)) (some n) (b₀ :: suite) pos']) (SP X pins D) X.xe sC) X.xe sB) X.xe sA) (fun u sE flies => ?_) PassesOwn.looking).run [] s σ H D (I.toTry _) hyp) (fun fl sN ends => ?_) (fun ev sA left => left)
  · obtain ⟨a, B, sI, pins1, τ, G, cls, d, rfl, JT, nb, upS, skyS, na, os, ag, b, hm, yes, no⟩ := flies
    have JX : Inv X pins τ G sI := JT.ofTry okX
    have skyX : Sky B (X.env :: X.outer) a (Zc cls d) X.env.locals sE.heap := by rw [← hs]; exact skyS
    have nB : B.get? a = none := by
      rcases skyS with w | w | w
      · exact w.2.1
      · exact w.2.1
      · exact w.2.1
    show wpAny (model X.prog X.w) X.A (noteFrame (.ref a) X.env) _ _ _
    refine Sky.land Zc.steady frames hf skyX fun g3 fl3 up3 => ?_
    have J3 : Inv X pins τ G { sE with heap := g3 } := JX.landed nb fl3.1 (upS.trans up3) os ag
    obtain ⟨q3, w3, at3, z3, dt3⟩ := fl3.there
    have outside : a ∉ frs (X.env :: X.outer) := fun hm => by
      obtain ⟨_, o', e', hnf⟩ := fl3.2.2.1.mem hm
      rw [at3] at e'
      cases e'
      exact hnf _ dt3
    have nL : a ≠ X.env.locals := fun z => outside (List.mem_filterMap.mpr ⟨X.env, .head _, by rw [hf, z]⟩)
    have nF : a ∉ X.fs := fun hm => by
      obtain ⟨ev, he, q⟩ := List.mem_filterMap.mp hm
      exact outside (List.mem_filterMap.mpr ⟨ev, .tail _ he, q⟩)
    have below : ∀ {u : Addr} {ob : Obj}, sI.heap.get? u = some ob → u ∉ frs (X.env :: X.outer) → u ≠ a := fun {u ob} q r w => by
      have k := nb u ob q (by rw [hs]; exact r)
      rw [w, nB] at k
      cases k
    have new0 : X.s_0.heap.get? a = none := by
      cases q : X.s_0.heap.get? a with
      | none => rfl
      | some ob =>
        obtain ⟨ob2, r⟩ := JX.base.there a ob q (by rw [hx]; exact fun w => nomatch w)
        exact absurd rfl (below r outside)
    have unpinned : ∀ p ∈ X.pn ++ pins, p.1 ≠ a := fun p hp => by
      obtain ⟨p1, _, p3, p4, _⟩ := JX.pin p hp
      refine below p1 fun hm => ?_
      obtain ⟨ev, he, q⟩ := List.mem_filterMap.mp hm
      rcases List.mem_cons.mp he with w | w
      · rw [w, hf] at q
        exact p3 (Option.some.inj q).symm
      · exact p4 (List.mem_filterMap.mpr ⟨ev, w, q⟩)
    have S3 := J3.suite at3 dt3 na nL nF
    refine wpAny_handleBy_cons (codeAny_handlers_test ?_) (by intro w; cases w)
    have kind : PySem.W.Looks (model X.prog X.w) g3 (typeOf (.ref a)) cls := fun A Q E t k w => wpAny_typeOf_ref (k _ _ at3) (by rw [z3.1]; exact w)
    have match_ := PySem.W.exm_one (M := model X.prog X.w) (J3.kIn) kind hm
    have named : ∀ {Q E : Value → Shared → Prop}, Q c { sE with heap := g3 } → wpAny (model X.prog X.w) (X.A.mark (some (.ref a))) (eval (.Name x np) X.env) Q E { sE with heap := g3 } := fun {Q E} w => by
      obtain ⟨hg, hdbg, m1 | ⟨m1, m2, m3⟩⟩ := hc
      · exact ld_glob (X := X.suite a ((a, q3) :: (X.pn ++ pins))) S3 hg m1 w hdbg
      · exact ld_blt (X := X.suite a ((a, q3) :: (X.pn ++ pins))) S3 hg m1 m2 w m3 hdbg
    refine named (match_.here ?_)
    cases b with
    | true =>
      refine codeAny_handlers_suite_as ?_
      refine HandSPX.lands_againZ fl3 fun g4 fl4 up4 => ?_
      have J4 : Inv X pins τ G { sE with heap := g4 } := JX.landed nb fl4.1 ((upS.trans up3).trans up4) os ag
      obtain ⟨q4, w4, at4, z4, dt4⟩ := fl4.there
      have S4 := suite_in (b := a) (hold_ok J4 at4 z4 dt4 na new0 nL unpinned)
      refine store_ok (X := X.suite a (X.pn ++ pins)) (v := .ref a) S4 hN hi (.inl hln) rfl (fun s5 S5 => ?_) (.inr hln)
      refine wpAny_mono ((hsu a (X.pn ++ pins)).run [] s5 _ _ _ S5 (yes rfl a na)) (fun fl s6 ends => ?_) (fun _ _ w => False.elim w)
      have off : ∀ {τ6 : L2.St} {G6 : Hp} {Q : Shared → Prop}, Inv (X.suite a (X.pn ++ pins)) [] τ6 G6 s6 → (∀ s7, Inv X pins (τ6.set i none) G6 s7 → Q s7) →
          wpAny (model X.prog X.w) X.A (do bindName X.env n .none; unbindBehindTheSuite X.env n pos') (fun _ s7 => Q s7) X.xe s6 := fun {τ6 G6 Q} S6 w => gone_ok (suite_out S6 okX) hN hi hln w
      cases fl with
      | next =>
        obtain ⟨_, _, S6, r⟩ := ends
        exact off S6 fun _ J7 => ⟨_, _, J7, r⟩
      | brk =>
        obtain ⟨_, _, S6, r⟩ := ends
        exact off S6 fun _ J7 => ⟨_, _, J7, r⟩
      | cont =>
        obtain ⟨_, _, S6, r⟩ := ends
        exact off S6 fun _ J7 => ⟨_, _, J7, r⟩
      | ret u =>
        obtain ⟨_, _, _, S6, r1, r2⟩ := ends
        exact off S6 fun _ J7 => ⟨_, _, _, J7, r1, r2⟩
    | false =>
      show wpAny _ X.A (handleBy (.ref a) X.env []) _ _ _
      refine wpAny_handleBy_nil ?_
      obtain ⟨_, _, _, ob, ws, T, oT, tr, hob, hzb, hdb, hfb, hrb⟩ := id fl3
      unfold PySem.passOn
      refine wpAny_bind (wpAny_field hob hdb hfb ?_)
      rw [if_neg (show ¬ ((Value.ref T == Value.none) = true) by simp)]
      have out : wpAny (model X.prog X.w) X.A (setFlight (.ref a) X.env.frame) (fun _ t4 => wpAny (model X.prog X.w) X.A (throw (.ref a) : Sem Flow) (SP X pins D) X.xe t4) X.xe { sE with heap := g3 } := by
        rw [hf]
        refine HandSPX.setFlight_upZ fl3 fun g4 in4 up4 => wpAny_throw (tk _ _ ?_)
        exact ⟨a, B, sI, pins, τ, G, cls, d, rfl, JX, nb, (upS.trans up3).trans up4, .inr (.inr (by rw [hs]; exact in4)), na, os, ag, no rfl⟩
      first
        | exact wpAny_bind (wpAny_pure (wpAny_bind out))
        | exact wpAny_bind out
  · cases fl with
    | next =>
      obtain ⟨τ, G, JT, r⟩ := ends
      exact wpAny_execs_nil ⟨τ, G, JT.ofTry okX, r⟩
    | brk =>
      obtain ⟨τ, G, JT, r⟩ := ends
      exact ⟨τ, G, JT.ofTry okX, r⟩
    | cont =>
      obtain ⟨τ, G, JT, r⟩ := ends
      exact ⟨τ, G, JT.ofTry okX, r⟩
    | ret u =>
      obtain ⟨v, τ, G, JT, r1, r2⟩ := ends
      exact ⟨v, τ, G, JT.ofTry okX, r1, r2⟩
/-- isinstance(e, c), e a held exception -/
def rIsX (K : PySem.W.Frag) : List V → Hp → VK → Prop := fun xs H Q => ∃ (a D : Addr) (c : V) (cv : Value) (b : Bool), xs = [.ref a, c] ∧ H a = some (CxO (.ref D) none a) ∧ ExcC K D ∧ ClsV c cv ∧ PySem.W.kitOne K (.ref D) cv = some b ∧ Q (.bl b) H
theorem call_isX : CallR X (.builtin "isinstance") (rIsX X.K) := by
  intro pins s σ H xs us Q I r h
  obtain ⟨a, D, cl, cv, b, rfl, ha, C, only, says, q⟩ := h
  cases r with
  | cons rx rr =>
    cases rr with
    | cons rt rr =>
      cases rr
      cases rx
      have ec := only.eq rt
      subst ec
      obtain ⟨⟨ob, vs, at_, z, dt⟩, _, _⟩ := I.hok a _ ha
      have J : PySem.W.InstAt s.heap a ob D none := by
        obtain ⟨oc, od, oda, osl⟩ := ob
        obtain ⟨h1, h2⟩ := zc_of z
        dsimp only at h1 h2 dt
        subst h1 h2 dt
        exact ⟨at_, rfl, rfl, trivial⟩
      refine PySem.W.kia_one (PySem.W.handS_kitx_exc C.hg C.hk C.hs C.hd C.ha C.hn C.ht C.hm) I.kIn J says (fun w => nomatch w) fun tk => ?_
      exact ⟨.bl b, H, I.kept (t' := tk) fun _ _ w => w, rfl, q⟩
end
end Ow
namespace Ow
open PySem PySem.Spec PyProof.Rows L2
/-- xs[i], where it is read to be put anew -/
theorem get_list {X : Cx} : PGet X (rIxL X.K) := by
  intro pins s σ H o i ov iv Q I ro ri h
  obtain ⟨p, xs, k, z, rfl, rfl, hq, he, q⟩ := h
  cases ro
  obtain ⟨t, rfl⟩ := ri
  obtain ⟨its, r, pl, hz⟩ := I.list hq
  obtain ⟨j, h1, h2, h3, h4, h5⟩ := atI_get he
  obtain ⟨w, ew, rw'⟩ := r.get h2
  have lenX := r.length
  have wide := line63
  have done : EP X pins σ Q w s := ⟨z, H, I, rw', q⟩
  by_cases h0 : 0 ≤ k
  · have hk : k.toNat = j := by
      rw [seqIndex_of h0 h5] at h1
      exact Option.some.inj h1
    exact wpAny_getItem_list pl.isList h0 (by omega) (by rw [hk]; simpa using ew) done
  · have hk : (k + (its.toArray.size : Int)).toNat = j := by
      rw [seqIndex_neg (by omega) h4] at h1
      rw [List.size_toArray, ← lenX]
      exact Option.some.inj h1
    exact wpAny_getItem_list_neg pl.isList (by omega) (by rw [List.size_toArray] <;> omega) (by omega) (by rw [hk]; simpa using ew) done
end Ow
namespace Ow
open PySem PySem.Spec PyProof.Rows L2
/-! ### facts of exceptions, by one look -/
theorem all_at {l : List Bool} (h : l.all id = true) (k : Nat) {b : Bool} (e : l[k]? = some b) : b = true := List.all_eq_true.mp h b (List.mem_of_getElem? e)
theorem excB_ok {K : PySem.W.Frag} {D : Addr} (h : excB K D = true) : ExcC K D :=
  ⟨eq_of_beq (all_at h 0 rfl), eq_of_beq (all_at h 1 rfl), eq_of_beq (all_at h 2 rfl), all_at h 3 rfl, eq_of_beq (all_at h 4 rfl), eq_of_beq (all_at h 5 rfl), eq_of_beq (all_at h 6 rfl), eq_of_beq (all_at h 7 rfl)⟩
end Ow
namespace Ow
open PySem PySem.Spec PyProof.Rows L2
/-! ### rows of flat things -/
theorem fl_of {v : V} (h : flatV v = true) : flatV v = true := h
theorem all_flat (ns : List Int) : (ns.map V.int).all flatV = true := List.all_eq_true.mpr fun x hx => by
  obtain ⟨y, _, rfl⟩ := List.mem_map.mp hx
  rfl
theorem all_flatS (ns : List Str) : (ns.map V.str).all flatV = true := List.all_eq_true.mpr fun x hx => by
  obtain ⟨y, _, rfl⟩ := List.mem_map.mp hx
  rfl
theorem eqV_int (i j : Int) : eqV (.int i) (.int j) = decide (i = j) := by
  show (i == j) = _
  by_cases h : i = j
  · rw [decide_eq_true h, h]; simp
  · rw [decide_eq_false h]; simp [h]
theorem inV_ints (i : Int) (ns : List Int) : inV (.int i) (ns.map V.int) = decide (i ∈ ns) := by
  unfold inV
  rw [List.any_map]
  by_cases h : i ∈ ns
  · rw [decide_eq_true h]
    exact List.any_eq_true.mpr ⟨i, h, by show eqV (.int i) (.int i) = true; rw [eqV_int]; simp⟩
  · rw [decide_eq_false h]
    refine List.any_eq_false.mpr fun x hx => ?_
    show ¬ eqV (.int x) (.int i) = true
    rw [eqV_int]
    intro z
    exact h (of_decide_eq_true z ▸ hx)
theorem rep_flat (n : Nat) (v : V) : (List.replicate ((n : Nat) : Int).toNat [v]).flatten = List.replicate n v := by
  rw [Int.toNat_natCast]
  induction n with
  | zero => rfl
  | succ n ih => rw [List.replicate_succ, List.flatten_cons, ih]; rfl
theorem rep_map {α : Type} (f : α → V) (n : Nat) (a : α) : List.replicate n (f a) = (List.replicate n a).map f := (List.map_replicate).symm
end Ow
namespace Ow
open PySem PySem.Spec PyProof.Rows L2
theorem set_split {α : Type} {cs : List α} {i : Nat} {x y : α} (h : cs[i]? = some x) : cs.set i y = cs.take i ++ y :: cs.drop (i + 1) := by
  have h1 := (List.getElem?_eq_some_iff.mp h).1
  rw [List.set_eq_take_append_cons_drop, if_pos h1]
theorem at_split {α : Type} {cs : List α} {i : Nat} {x : α} (h : cs[i]? = some x) : cs = cs.take i ++ x :: cs.drop (i + 1) := by
  obtain ⟨h1, rfl⟩ := List.getElem?_eq_some_iff.mp h
  rw [List.getElem_cons_drop h1, List.take_append_drop]
theorem set_map {α β : Type} (f : α → β) : ∀ (l : List α) (i : Nat) (a : α), (l.map f).set i (f a) = (l.set i a).map f
  | [], _, _ => rfl
  | _ :: _, 0, _ => rfl
  | x :: r, i + 1, a => by rw [List.map_cons, List.set_cons_succ, List.set_cons_succ, List.map_cons, set_map f r i a]
theorem ix_at {n i : Nat} (h : i < n) : ixN n (i : Int) = some i := by
  unfold ixN
  rw [if_pos (by omega), if_pos (by omega), Int.toNat_natCast]
/-- a thing of a row is put anew: its old cell is let go -/
theorem Own.put {α : Type} {H0 H : Hp} {A : List Addr} {pre : Cells} {l : List α} {g : α → Addr × HO} {b y : α} {j : Nat} (O : Own H0 H A (g b :: (pre ++ l.map g))) (h : l[j]? = some y) : Own H0 H A (pre ++ (l.set j b).map g) := by
  have e := at_split h
  have O1 : Own H0 H A (g b :: (pre ++ ((l.take j).map g ++ (l.drop (j + 1)).map g))) := O.drop (by
    conv => rhs; rw [e, List.map_append, List.map_cons]
    exact .cons₂ _ (.append (.refl _) (.append (.refl _) (.cons _ (.refl _)))))
  rw [set_split h, List.map_append, List.map_cons]
  refine O1.perm ?_
  rw [← List.append_assoc, ← List.append_assoc]
  exact List.perm_middle.symm
end Ow
namespace Ow
open PySem PySem.Spec PyProof.Rows L2
theorem take_succ {α : Type} {l : List α} {i : Nat} {y : α} (h : l[i]? = some y) : l.take (i + 1) = l.take i ++ [y] := by
  rw [List.take_succ, h]; rfl
theorem sorted_ext : ∀ {l k : List Int}, l.Pairwise (· < ·) → k.Pairwise (· < ·) → (∀ m, m ∈ l ↔ m ∈ k) → l = k
  | [], [], _, _, _ => rfl
  | [], y :: k, _, _, h => absurd ((h y).mpr List.mem_cons_self) (by simp)
  | x :: l, [], _, _, h => absurd ((h x).mp List.mem_cons_self) (by simp)
  | x :: l, y :: k, h1, h2, h => by
    obtain ⟨a1, a2⟩ := List.pairwise_cons.mp h1
    obtain ⟨b1, b2⟩ := List.pairwise_cons.mp h2
    have e : x = y := by
      rcases List.mem_cons.mp ((h x).mp List.mem_cons_self) with z | z
      · exact z
      · rcases List.mem_cons.mp ((h y).mpr List.mem_cons_self) with w | w
        · exact w.symm
        · have := b1 _ z
          have := a1 _ w
          omega
    subst e
    rw [sorted_ext a2 b2 fun m => ⟨fun hm => ?_, fun hm => ?_⟩]
    · rcases List.mem_cons.mp ((h m).mp (List.mem_cons_of_mem _ hm)) with z | z
      · have := a1 _ hm; omega
      · exact z
    · rcases List.mem_cons.mp ((h m).mpr (List.mem_cons_of_mem _ hm)) with z | z
      · have := b1 _ hm; omega
      · exact z
end Ow
namespace Ow
open L2 in
/-- behind a call: what it has made stands ahead -/
theorem Own.callE {H0 H H' : Hp} {A : List PySem.Addr} {cs s s' cs' e : Cells} (O : Own H0 H A cs) (h : Sub cs s s' cs') (C : Own H H' (Ow.adr s) (e ++ s')) : Own H0 H' A (e ++ cs') := by
  obtain ⟨l, r, rfl, rfl⟩ := h.split
  have O1 := O.call (cs' := l ++ ((e ++ s') ++ r)) (.app .here) C
  refine O1.perm ?_
  have e1 : l ++ ((e ++ s') ++ r) = (l ++ e) ++ (s' ++ r) := by simp only [List.append_assoc]
  have e2 : e ++ (l ++ (s' ++ r)) = (e ++ l) ++ (s' ++ r) := by simp only [List.append_assoc]
  rw [e1, e2]
  exact (List.perm_append_comm).append_right _
end Ow
namespace Ow
open PySem PySem.Spec PyProof.Rows L2
/-- a new thing, as the goal names it: it is ours from now on -/
theorem Own.nxt {H0 H : Hp} {A : List Addr} {cs : Cells} {p : Addr} {o : HO} {G : Hp → Prop} (O : Own H0 H A cs) (h : H p = none) (k : Own H0 (upd H p o) A ((p, o) :: cs) → G (upd H p o)) : G (upd H p o) := k (O.new h)
theorem Own.nxtQ {H0 H : Hp} {A : List Addr} {cs : Cells} {p : Addr} {o : HO} {Q : VK} {G : Hp → VK → Prop} (O : Own H0 H A cs) (h : H p = none) (k : Own H0 (upd H p o) A ((p, o) :: cs) → G (upd H p o) Q) : G (upd H p o) Q := k (O.new h)
end Ow
namespace Ow
open PySem PySem.Spec PyProof.Rows L2
/-! ### loops and comprehensions over anything that is walked -/
section
variable {J : It} {n : Nat} {G : Hp → Prop} {Y : Nat → Hp → V → Hp → Prop}
theorem forW (w : Walk J n G Y) {g : TG} {tb : TS} {D : Ends} {σ : L2.St} {H : Hp} (Pv : Nat → L2.St → Hp → Prop) (h0 : Pv 0 σ H) (hG : ∀ i σ H, i ≤ n → Pv i σ H → G H)
    (hs : ∀ i x σ H H', i < n → Pv i σ H → Y i H x H' → g x σ H' fun σ2 H2 => tb { D with nx := fun σ H => Box (Pv (i + 1) σ H), ct := fun σ H => Box (Pv (i + 1) σ H), bk := D.nx } σ2 H2) (hd : ∀ σ H, Pv n σ H → D.nx σ H) :
    Box (∃ W : Nat → Nat → L2.St → Hp → Prop, (∃ m, W 0 m σ H) ∧ ∀ i m σ H, W i m σ H →
      (J.stop i H ∧ D.nx σ H) ∨ (J.go i H ∧ ∃ N : L2.St → Hp → Prop, (∀ σ' H', N σ' H' → ∃ m', m' < m ∧ W (i + 1) m' σ' H') ∧ ∀ x H', J.yld i H x H' → g x σ H' fun σ2 H2 => tb { D with nx := N, ct := N, bk := D.nx } σ2 H2)) :=
  ⟨for_it w (fun i σ H => Box (Pv i σ H)) ⟨h0⟩ (fun i σ H hi p => hG i σ H hi p.out) (fun i x σ H H' hi p y => hs i x σ H H' hi p.out y) (fun σ H p => hd σ H p.out)⟩
theorem lcW (w : Walk J n G Y) {g : TG} {tt : TT} {te : TE} {vs : List Nat} {σ : L2.St} {H1 : Hp} {Q : Addr → Hp → Prop} (Pv : Addr → Nat → Hp → Prop) (h0 : ∀ D, H1 D = none → Pv D 0 (upd H1 D (.lst []))) (hG : ∀ D i H, i ≤ n → Pv D i H → G H)
    (hs : ∀ D i x H H', i < n → Pv D i H → Y i H x H' → g x (wipe σ vs) H' fun σ2 H2 => wipe σ2 vs = wipe σ vs ∧ tt σ2 H2 fun b H3 =>
      if b = true then te σ2 H3 fun y H4 => ∃ acc, H4 D = some (.lst acc) ∧ acc.length < sizeLine ∧ Box (Pv D (i + 1) (upd H4 D (.lst (acc ++ [y])))) else Box (Pv D (i + 1) H3)) (hd : ∀ D H, Pv D n H → Q D H) :
    Box (∀ D, H1 D = none → ∃ W : Nat → Nat → Hp → Prop, (∃ m, W 0 m (upd H1 D (.lst []))) ∧ ∀ i m H, W i m H →
      (J.stop i H ∧ Q D H) ∨ (J.go i H ∧ ∃ Nx : Hp → Prop, (∀ H', Nx H' → ∃ m', m' < m ∧ W (i + 1) m' H') ∧ ∀ x H', J.yld i H x H' → g x (wipe σ vs) H' fun σ2 H2 => wipe σ2 vs = wipe σ vs ∧ tt σ2 H2 fun b H3 =>
        if b = true then te σ2 H3 fun y H4 => ∃ acc, H4 D = some (.lst acc) ∧ acc.length < sizeLine ∧ Nx (upd H4 D (.lst (acc ++ [y]))) else Nx H3)) :=
  ⟨fun D hD => lc_it w (fun i H => Box (Pv D i H)) ⟨h0 D hD⟩ (fun i H hi p => hG D i H hi p.out) (fun i x H H' hi p y => hs D i x H H' hi p.out y) (fun H p => hd D H p.out)⟩
end
/-- None or a whole number -/
def oV : Option Int → V
  | none => .non
  | some i => .int i
theorem tyStr_of {K : PySem.W.Frag} {z : Str} {H : Hp} : tyV K "str" (.str z) H := rfl
theorem isStr_of {z : Str} : ∃ a, V.str z = V.str a := ⟨z, rfl⟩
theorem putF_lt {f : Str} {v : V} {n : Nat} : ∀ {fs : List (Str × V)}, fs.length < n → (putF f v fs).length < n + 1
  | [], h => by show 1 < n + 1; simp only [List.length_nil] at h; omega
  | (g, x) :: r, h => by
    rw [List.length_cons] at h
    unfold putF
    by_cases e : g = f
    · rw [if_pos e, List.length_cons]; omega
    · rw [if_neg e, List.length_cons]
      have := putF_lt (f := f) (v := v) (n := n - 1) (fs := r) (by omega)
      omega
theorem at_of {xs : List V} {i : Int} {v : V} (h : atI xs i = some v) : atI xs i = some v := h
theorem ix_of {n : Nat} {i : Int} {j : Nat} (h : ixN n i = some j) : ixN n i = some j := h
theorem cp_of {i j : Int} (h : CPow i j) : CPow i j := h
theorem cmw_of {i j : Int} (h : CMulW i j) : CMulW i j := h
theorem eq_oV {o : Option Int} {j : Int} : decide (oV o = V.int j) = decide (o = some j) := by
  cases o with
  | none => simp [oV]
  | some i => simp [oV]
theorem zip_all {α β γ : Type} [DecidableEq γ] (f : α → γ) (g : β → γ) : ∀ (xs : List α) (ys : List β), xs.length = ys.length → ((xs.zip ys).map fun p => decide (f p.1 = g p.2)).all id = decide (xs.map f = ys.map g)
  | [], [], _ => rfl
  | [], _ :: _, h => by cases h
  | _ :: _, [], h => by cases h
  | x :: xs, y :: ys, h => by
    have ih := zip_all f g xs ys (by simpa using h)
    simp only [List.zip_cons_cons, List.map_cons, List.all_cons, id_eq, ih, List.cons.injEq, Bool.decide_and]
theorem zip_at {α β : Type} {xs : List α} {ys : List β} {i : Nat} {x : α} {y : β} (h1 : xs[i]? = some x) (h2 : ys[i]? = some y) : (xs.zip ys)[i]? = some (x, y) := List.getElem?_zip_eq_some.mpr ⟨h1, h2⟩
/-! ### readings by name, for what stands within a comprehension -/
def rLenSq (K : PySem.W.Frag) : List V → Hp → VK → Prop := fun xs H Q => ∃ p ys, xs = [.ref p] ∧ (SqL K H p ys ∨ SqT K H p ys) ∧ Q (.int ys.length) H
def rLenV (K : PySem.W.Frag) : List V → Hp → VK → Prop := fun xs H Q => ∃ x n, xs = [x] ∧ LenV K x H n ∧ Q (.int n) H
def rListOf (K : PySem.W.Frag) : List V → Hp → VK → Prop := fun xs H Q => ∃ p ys, xs = [.ref p] ∧ (SqL K H p ys ∨ SqT K H p ys) ∧ ∀ l, H l = none → Q (.ref l) (upd H l (.lst ys))
def rTupOf (K : PySem.W.Frag) : List V → Hp → VK → Prop := fun xs H Q => ∃ p ys, xs = [.ref p] ∧ ((SqL K H p ys ∧ ∀ l, H l = none → Q (.ref l) (upd H l (.tup ys))) ∨ (SqT K H p ys ∧ Q (.ref p) H))
/-! ### rows of whole numbers, each with its place -/
abbrev Pg := Addr × List Int
abbrev pcel (x : Pg) : Addr × HO := (x.1, .lst (x.2.map V.int))
/-- the rows stand in the heap -/
def RowsAt (H : Hp) (rs : List Pg) : Prop := ∀ r ∈ rs, H r.1 = some (.lst (r.2.map V.int))
theorem RowsAt.mono {H0 H : Hp} {cs : Cells} {rs : List Pg} (h : RowsAt H0 rs) (O : Own H0 H [] cs) : RowsAt H rs := fun r hr => O.fr0 (h r hr)
theorem Own.rows {H0 H : Hp} {A : List Addr} {cs : Cells} {rs : List Pg} (O : Own H0 H A cs) (h : ∀ r ∈ rs, pcel r ∈ cs) : RowsAt H rs := fun r hr => O.get (h r hr)
theorem refs_get {rs : List Pg} {i : Nat} {x : V} (h : (rs.map fun x : Pg => V.ref x.1)[i]? = some x) : ∃ y, rs[i]? = some y ∧ x = V.ref y.1 := by
  rw [List.getElem?_map] at h
  cases e : rs[i]? with
  | none => rw [e] at h; cases h
  | some y => rw [e] at h; exact ⟨y, rfl, (Option.some.inj h).symm⟩
/-- a thing of a row is put anew, where more stands behind -/
theorem Own.put2 {α : Type} {H0 H : Hp} {A : List Addr} {pre post : Cells} {l : List α} {g : α → Addr × HO} {b y : α} {j : Nat} (O : Own H0 H A (g b :: (pre ++ (l.map g ++ post)))) (h : l[j]? = some y) : Own H0 H A (pre ++ ((l.set j b).map g ++ post)) := by
  have O1 : Own H0 H A (g b :: ((post ++ pre) ++ l.map g)) := O.perm (by
    refine .cons _ ?_
    rw [List.append_assoc, ← List.append_assoc pre]
    exact List.perm_append_comm)
  have O2 := O1.put h
  refine O2.perm ?_
  rw [List.append_assoc, ← List.append_assoc pre]
  exact List.perm_append_comm
theorem rgV0 (n : Nat) : rgV 0 (n : Int) = ((List.range n).map fun i : Nat => (i : Int)).map V.int := by
  unfold rgV
  rw [List.map_map, show ((n : Int) - 0).toNat = n by omega]
  exact List.map_congr_left fun i _ => by rw [Int.zero_add]; rfl
theorem cutV_to (xs : List V) (n : Nat) : cutV xs none (some (n : Int)) = xs.take n := by
  unfold cutV
  rw [HT.sIx_nat]
  show (xs.drop 0).take _ = _
  rw [List.drop_zero, HT.sIx_none, Nat.sub_zero]
  by_cases h : n ≤ xs.length
  · rw [show min n xs.length = n by omega]
  · rw [show min n xs.length = xs.length by omega, List.take_length, List.take_of_length_le (by omega)]
theorem cutV_from (xs : List V) (n : Nat) : cutV xs (some (n : Int)) none = xs.drop n := by
  unfold cutV
  rw [HT.sIx_nat]
  show (xs.drop (min n xs.length)).take (xs.length - min n xs.length) = _
  by_cases h : n ≤ xs.length
  · rw [show min n xs.length = n by omega, List.take_of_length_le (by rw [List.length_drop]; omega)]
  · rw [show min n xs.length = xs.length by omega, List.drop_length, List.drop_eq_nil_of_le (by omega), List.take_nil]
theorem cutV_mid (xs : List V) (a b : Nat) (h : a ≤ b) (hb : b ≤ xs.length) : cutV xs (some (a : Int)) (some (b : Int)) = (xs.drop a).take (b - a) := by
  unfold cutV
  rw [HT.sIx_nat, HT.sIx_nat, show min a xs.length = a by omega, show min b xs.length = b by omega]
/-- cells that were handed and stand as they stood need not be told -/
theorem Own.back {H0 H : Hp} {cs bs : Cells} (O : Own H0 H (Ow.adr bs) (cs ++ bs)) (h : ∀ a o, (a, o) ∈ bs → H0 a = some o) : Own H0 H [] cs := by
  have nd := O.nd
  rw [adr_app] at nd
  obtain ⟨n1, n2, n3⟩ := List.nodup_append.mp nd
  refine ⟨fun a o m => O.at_ a o (List.mem_append_left _ m), n1, fun b o e _ => ?_, fun b m => ?_, O.tp⟩
  · by_cases hb : b ∈ Ow.adr bs
    · obtain ⟨c, hc, rfl⟩ := List.mem_map.mp hb
      have e2 := h c.1 c.2 hc
      rw [e] at e2
      cases e2
      exact O.at_ _ _ (List.mem_append_right _ hc)
    · exact O.fr b o e hb
  · rcases O.nw b (by rw [adr_app]; exact List.mem_append_left _ m) with z | z
    · exact absurd rfl (n3 b m b z)
    · exact .inr z
/-- a dict is written: a key that is not there comes last -/
theorem putK_new {kvs : List (Key × V)} {k : Key} {v : V} (h : k ∉ kvs.map (·.1)) : putK kvs k v = kvs ++ [(k, v)] := by
  unfold putK
  rw [if_neg]
  intro e
  obtain ⟨x, hx, e⟩ := List.any_eq_true.mp e
  exact h (List.mem_map.mpr ⟨x, hx, of_decide_eq_true e⟩)
theorem mergeK_app : ∀ {more acc : List (Key × V)}, ((acc ++ more).map (·.1)).Nodup → mergeK acc more = acc ++ more
  | [], acc, _ => (List.append_nil acc).symm
  | (k, v) :: r, acc, h => by
    have h1 : k ∉ acc.map (·.1) := by
      rw [List.map_append] at h
      intro z
      exact (List.nodup_append.mp h).2.2 k z k (by simp) rfl
    show mergeK (putK acc k v) r = _
    rw [putK_new h1, mergeK_app (by rw [List.append_assoc]; exact h), List.append_assoc]
    rfl
theorem Own.sep {H0 H : Hp} {A : List Addr} {X Y : Cells} {a : Addr} (O : Own H0 H A (X ++ Y)) (h : a ∈ Ow.adr X) : a ∉ Ow.adr Y := fun z => by
  have nd := O.nd
  rw [adr_app] at nd
  exact (List.nodup_append.mp nd).2.2 a h a z rfl
theorem atI_last {xs : List V} {v : V} (h : xs[xs.length - 1]? = some v) : atI xs (-1) = some v := by
  have hl := (List.getElem?_eq_some_iff.mp h).1
  have e : ixN xs.length (-1) = some (xs.length - 1) := by
    unfold ixN
    rw [if_neg (by decide), if_pos (by omega)]
    congr 1
    omega
  unfold atI
  rw [e]
  exact h
/-! ### dicts of lists, compared -/
section
open PySem.Calls PyProof.V
variable {prog : Program} {w : World} {κ : Type} [DecidableEq κ] {knd : KeyKind prog w κ} {A : Around} {s : Shared}
theorem neP_dicts {a b : Addr} {ka kb : List (κ × Value)} {r : Bool} (ha : (a == sysModules) = false) (hb : (b == sysModules) = false) (da : s.heap.DictOf knd a ka) (db : s.heap.DictOf knd b kb) (hu : A.units < cLine)
    (hits : ka.length = kb.length → PySem.W.KeqHitsP prog w A.in1 s kb ka r) (E Q : Value → Shared → Prop) (h : Q (.bool (!(ka.length == kb.length && r))) s) : wpAny (model prog w) A (compareOp .NotEq (.ref a) (.ref b)) Q E s := by
  refine wpAny_richCompare_same_room (op := .NotEq) da.typeIs db.typeIs PySem.F.slot_dict_ne (wpAny_call_entry PySem.F.slot_dict_ne da.typeIs PySem.F.entry_dict_ne ?_ (PySem.F.args_dict_ne_2 _ _)) hu
  show wpAny _ _ (Builtin.Dict.dictSlotArgs "__ne__" ⟨[.ref a, .ref b], []⟩ >>= _) _ _ s
  refine wpAny_bind ?_
  unfold Builtin.Dict.dictSlotArgs
  refine wpAny_bind (wpAny_notOrdered_dict da.typeIs ?_)
  show wpAny _ _ (pure (Value.ref a, Value.ref b)) _ _ s
  refine wpAny_pure ?_
  refine wpAny_bind (wpAny_isInstance (T := "dict") db.typeIs PySem.F.sub_dict_dict ?_)
  simp only [Bool.not_true, Bool.false_eq_true, if_false]
  refine wpAny_bind (wpAny_pure (wpAny_bind (wpAny_pure ?_)))
  refine wpAny_bind (PySem.W.samePairsP ha hb da db hits ?_)
  refine wpAny_pure ⟨_, rfl, ?_, ?_⟩
  · exact fun x => nomatch x
  · simpa using h
end
/-- d != e, two dicts: of unlike lengths, or equal -/
def rNeDV (K : PySem.W.Frag) : R2 := fun x y H Q => ∃ a b ks ls, x = .ref a ∧ y = .ref b ∧ H a = some (.dK ks) ∧ H b = some (.dK ls) ∧
  ((ks.length ≠ ls.length ∧ Q (.bl true) H) ∨ (ks.length = ls.length ∧ (∀ p ∈ ks, ∃ u, valV ls p.1 = some u ∧ EqV K H 2 p.2 u) ∧ Q (.bl false) H))
theorem op_neDV {X : Cx} (hu : X.A.units + 64 < cLine) : OpR X (compareOp .NotEq) (rNeDV X.K) := by
  intro pins s σ H x y v u Q I rx ry h
  obtain ⟨a, b, ks, ls, rfl, rfl, ea, eb, h⟩ := h
  obtain rfl : v = Value.ref a := rx
  obtain rfl : u = Value.ref b := ry
  obtain ⟨_, ya, va, ra, da⟩ := (show ObjOk X.prog X.w H s.heap a (.dK ks) from I.hok a _ ea)
  obtain ⟨_, yb, vb, rb, db⟩ := (show ObjOk X.prog X.w H s.heap b (.dK ls) from I.hok b _ eb)
  have e1 : va.length = ks.length := ra.length.symm
  have e2 : vb.length = ls.length := rb.length.symm
  rcases h with ⟨hne, q⟩ | ⟨hl, hp, q⟩
  · refine neP_dicts (knd := mixKind X.prog X.w) (r := false) ya yb da db (by omega) (fun z => absurd (by omega) hne) _ _ ?_
    rw [show (!(va.length == vb.length && false)) = true by simp]
    exact ⟨.bl true, H, I, rfl, q⟩
  · refine neP_dicts (knd := mixKind X.prog X.w) (r := true) ya yb da db (by omega) (fun _ => hits_run (eqV_run I 2 X.A.in1 (by show X.A.units + 1 + 2 < cLine; omega)) rb ra hp) _ _ ?_
    rw [show (!(va.length == vb.length && true)) = false by rw [e1, e2, hl]; simp]
    exact ⟨.bl false, H, I, rfl, q⟩
theorem paired_ints {K : PySem.W.Frag} {H : Hp} : ∀ ns : List Int, Paired (EqV K H 1) (ns.map V.int) (ns.map V.int)
  | [] => .nil
  | n :: r => .cons (.inl ⟨rfl, rfl⟩) (paired_ints r)
theorem eqV_ints {K : PySem.W.Frag} {H : Hp} {a b : Addr} {ns : List Int} (ha : H a = some (.lst (ns.map V.int))) (hb : H b = some (.lst (ns.map V.int))) : EqV K H 2 (.ref a) (.ref b) :=
  .inr (.inr (.inl ⟨a, b, _, _, rfl, rfl, SqL.of ha, SqL.of hb, paired_ints ns⟩))
/-! ### lists of texts, compared -/
section
variable {K : PySem.W.Frag} {H : Hp} {a b : Addr}
theorem dpa_strs : ∀ ns : List Str, DpAll K H (ns.map V.str) (ns.map PyData.str)
  | [] => .nil
  | n :: r => .cons (.str n) (dpa_strs r)
theorem depth_strs : ∀ ns : List Str, PyData.depthAll (ns.map PyData.str) ≤ 1
  | [] => by simp [PyData.depthAll]
  | n :: r => by
    have := depth_strs r
    simp only [List.map_cons, PyData.depthAll, PyData.depth]
    omega
theorem lay_strs : ∀ ns : List Str, (ns.all PyData.strOk = true) → PyData.canLayAll0 (ns.map PyData.str) = true
  | [], _ => by simp [PyData.canLayAll0]
  | n :: r, h => by
    rw [List.all_cons, Bool.and_eq_true] at h
    simp [PyData.canLayAll0, PyData.canLay0, lay_strs r h.2, h.1]
theorem sh_strs (ns : List Str) (h : ns.all PyData.strOk = true) : SeqAt.shaped (.list (ns.map PyData.str)) = true := by
  have h1 := depth_strs ns
  have h2 : PyData.depth (.list (ns.map PyData.str)) ≤ 64 := by
    simp only [PyData.depth]
    omega
  show (PyData.canLay0 (.list (ns.map PyData.str)) && decide (PyData.depth (.list (ns.map PyData.str)) ≤ 64)) = true
  rw [Bool.and_eq_true]
  exact ⟨by simp only [PyData.canLay0]; exact lay_strs ns h, decide_eq_true h2⟩
theorem dist_strs : ∀ ns ms : List Str, PyData.eqvAll (ns.map PyData.str) (ms.map PyData.str) = decide (ns = ms)
  | [], [] => rfl
  | [], _ :: _ => rfl
  | _ :: _, [] => rfl
  | n :: r, m :: q => by
    rw [List.map_cons, List.map_cons, PyData.eqvAll, dist_strs r q]
    show ((n == m) && _) = _
    by_cases h : n = m
    · subst h; simp
    · rw [decide_eq_false (fun e => h (List.cons.inj e).1)]; simp [h]
theorem eq_strs {ns ms : List Str} {Q : VK} (h1 : ns.all PyData.strOk = true) (h2 : ms.all PyData.strOk = true) (ha : H a = some (.lst (ns.map V.str))) (hb : H b = some (.lst (ms.map V.str))) (k : Q (.bl (decide (ns = ms))) H) : rEqD K (.ref a) (.ref b) H Q :=
  ⟨_, _, .lst (SqL.of ha) (dpa_strs ns), .lst (SqL.of hb) (dpa_strs ms), sh_strs ns h1, sh_strs ms h2, by rw [show PyData.eqv (.list (ns.map PyData.str)) (.list (ms.map PyData.str)) = decide (ns = ms) from dist_strs ns ms]; exact k⟩
end
/-! ### held exceptions, asked about several classes -/
/-- isinstance(e, (c, ..)), e a held exception -/
def rIsXT (K : PySem.W.Frag) : List V → Hp → VK → Prop := fun xs H Q => ∃ (a D tp : Addr) (cs : List V) (us : List Value) (b : Bool), xs = [.ref a, .ref tp] ∧ H a = some (CxO (.ref D) none a) ∧ ExcC K D ∧ H tp = some (.tup cs) ∧ Paired ClsV cs us ∧ PySem.W.kitAny K (.ref D) us = some b ∧ Q (.bl b) H
theorem call_isXT {X : Cx} : CallR X (.builtin "isinstance") (rIsXT X.K) := by
  intro pins s σ H xs us Q I r h
  obtain ⟨a, D, tp, cs, ws, b, rfl, ha, C, hT, k, says, q⟩ := h
  obtain ⟨u1, u2, rfl, r1, r2⟩ := vals2 r
  cases (show u1 = Value.ref a from r1)
  cases (show u2 = Value.ref tp from r2)
  obtain ⟨⟨ob, vs, at_, z, dt⟩, _, _⟩ := I.hok a _ ha
  have J : PySem.W.InstAt s.heap a ob D none := by
    obtain ⟨oc, od, oda, osl⟩ := ob
    obtain ⟨h1, h2⟩ := zc_of z
    dsimp only at h1 h2 dt
    subst h1 h2 dt
    exact ⟨at_, rfl, rfl, trivial⟩
  obtain ⟨_, its, rv, o, h1, h2, n, h3⟩ := (show ObjOk X.prog X.w H s.heap tp (.tup cs) from I.hok tp _ hT)
  have e3 := ClsV.all k rv
  subst e3
  obtain ⟨oc, od, dt, sl⟩ := o
  simp only at h2 h3
  subst h2 h3
  refine PySem.W.kia_tup (PySem.W.handS_kitx_exc C.hg C.hk C.hs C.hd C.ha C.hn C.ht C.hm) I.kIn J h1 says (fun w => nomatch w) fun tk => ?_
  exact ⟨.bl b, H, I.kept (t' := tk) fun _ _ w => w, rfl, q⟩
theorem kit_any {K : PySem.W.Frag} {t : Value} : ∀ {us : List Value} {bs : List Bool}, Paired (fun u b => PySem.W.kitOne K t u = some b) us bs → PySem.W.kitAny K t us = some (bs.any id)
  | _, _, .nil => rfl
  | _, _, .cons (b := b) h k => by
    refine kitAny_cons h (fun e => ?_) (fun e => ?_)
    · have z := kit_any k
      rw [e]; exact z
    · rw [e]; rfl
/-! ### a dict is locked while it is walked -/
theorem lock_d {H : Hp} {d : Addr} {kvs : List (Key × V)} {t : TS} {D : Ends} {σ : L2.St} (h : H d = some (.dK kvs))
    (k : ∀ od, t ⟨fun σ' H' => H' d = some (.frz od (.dK kvs)) ∧ D.nx σ' (upd H' d (.dK kvs)), fun v H' => H' d = some (.frz od (.dK kvs)) ∧ D.rt v (upd H' d (.dK kvs)), fun σ' H' => H' d = some (.frz od (.dK kvs)) ∧ D.bk σ' (upd H' d (.dK kvs)), fun σ' H' => H' d = some (.frz od (.dK kvs)) ∧ D.ct σ' (upd H' d (.dK kvs))⟩ σ (upd H d (.frz od (.dK kvs)))) : tLock t D σ H :=
  ⟨d, _, h, True.intro, k⟩
end Ow
namespace Ow
open PySem PySem.Spec PyProof.Rows L2
/-! ### int(x) by kinds -/
theorem call_intB {X : Cx} : CallR X (.type "int") (fun xs H Q => ∃ k, xs = [.bl k] ∧ Q (.int (if k = true then 1 else 0)) H) := by
  intro pins s σ H xs us Q I r h
  exact call_int1 pins s σ H xs us Q I r (.inr h)
theorem call_intI {X : Cx} : CallR X (.type "int") (fun xs H Q => ∃ i, xs = [.int i] ∧ Q (.int i) H) := by
  intro pins s σ H xs us Q I r h
  exact call_int1 pins s σ H xs us Q I r (.inl h)
/-! ### the keys of a dict, as a view -/
/-- a view of the keys of the dict at d stands at r -/
def KO (r d : Addr) : HO := .ext fun h => PySem.W.KdlKeysView h r d
def rKeysV : V → List V → Hp → VK → Prop := fun x xs H Q => ∃ d kvs, x = .ref d ∧ xs = [] ∧ Rd H d (.dK kvs) ∧ ∀ r, H r = none → Q (.ref r) (upd H r (KO r d))
theorem mt_keys {X : Cx} : MtR X "dict.keys" rKeysV := by
  intro pins s σ H x vs v us Q I rx rv h
  obtain ⟨d, kvs, rfl, rfl, hd, q⟩ := h
  cases rx
  cases rv
  obtain ⟨z, lo, ws, rel, dd⟩ := dk_rd I.hok hd
  refine call_meetsIn F.slot_dict_keys dd.typeIs F.entry_dict_keys (F.args_dict_keys_1 _) (PySem.W.kdl_meets_keys (mixKind X.prog X.w) d lo) ⟨⟨ws, dd⟩, ?_⟩
  refine ⟨.ref s.heap.objs.size, upd H s.heap.objs.size (KO s.heap.objs.size d), I.laid (t' := s.toks) (fun b u e => Heap.get?_push_of_some _ e) (Nat.le_refl _) ?_, rfl, q _ (I.hok.fresh (Nat.le_refl _))⟩
  exact ⟨⟨_, Heap.get?_push_size _ rfl, rfl, rfl⟩, ⟨_, Heap.get?_push_size _ rfl⟩, fun h1 h2 ⟨o, e, c, dt⟩ k => ⟨o, k o e, c, dt⟩⟩
/-- sorted of what lists whole numbers -/
theorem sorted_src {X : Cx} {pins : List (Addr × Obj)} {σ : L2.St} {H : Hp} {s : Shared} {T : String} {r d : Addr} {vs : List (Key × Value)} {OK : Heap → Prop} {ks : List Int} {Q : VK} (hcalm : X.calm = true) (I : Inv X pins σ H s)
    (S : PySem.W.KdlSrc X.prog X.w T r d vs.length (fun i v => ∃ k x, vs[i]? = some (k, x) ∧ (mixKind X.prog X.w).is k v = true) OK) (ok : OK s.heap) (hkeys : vs.map (·.1) = ks.map Sum.inl) (hz : ks.length ≤ sizeLine)
    (q : ∀ (ys : List Int) (p : Addr), ys.Perm ks → ys.Pairwise (· ≤ ·) → H p = none → Q (.ref p) (upd H p (.lst (ys.map V.int)))) : wpAny (model X.prog X.w) X.A (call (.builtin "sorted") [.ref r]) (EP X pins σ Q) X.xe s := by
  have hl : vs.length = ks.length := by
    have e := congrArg List.length hkeys
    rw [List.length_map, List.length_map] at e
    exact e
  refine Calls.call_function_entry PyProof.Rows.kind_sorted PyProof.Rows.plain_sorted PyProof.Rows.entry_sorted (PyProof.Rows.args_sorted1 _) ?_
  unfold Builtin.«sorted»
  refine wpAny_bind (m := checkCount "sorted" 1 1 _) (wpAny_pure ?_)
  refine wpAny_bind (PySem.W.kdu_collect (A := X.A.in1) S (I.ok.hd hcalm) ok (by omega) fun h' tk acc hk hacc => ?_)
  have hal : acc.toList.length = ks.length := by rw [Array.length_toList, hacc.1, hl]
  have hS : IntsAre acc.toList ks := ints_each hal fun j v e => by
    obtain ⟨k, x, e1, e2⟩ := hacc.2 j v (by rw [← Array.getElem?_toList]; exact e)
    have e3 : (vs.map (·.1))[j]? = some k := by rw [List.getElem?_map, e1]; rfl
    rw [hkeys, List.getElem?_map] at e3
    cases e4 : ks[j]? with
    | none => rw [e4] at e3; cases e3
    | some y =>
      rw [e4] at e3
      have e5 : Sum.inl y = k := Option.some.inj e3
      subst e5
      rcases keyIs_shape (show keyIs (Sum.inl y) v = true from e2) with ⟨i, t, ek, ev⟩ | ⟨z, t, ek, ev⟩
      · cases ek
        exact ⟨y, t, rfl, ev⟩
      · cases ek
  have I1 : Inv X pins σ H { s with heap := h', toks := tk } := I.kept hk
  refine wpAny_bind (wpAny_newList ?_ (by rw [hal]; exact hz))
  have hoL : (h'.push (seqObj "list" acc.toList.toArray 0)).get? h'.objs.size = some (seqObj "list" acc.toList.toArray 0) := Heap.get?_push_size _ rfl
  show wpAny _ _ _ _ _ { s with heap := h'.push (seqObj "list" acc.toList.toArray 0), toks := tk }
  refine wpAny_bind (wpAny_holding (wpAny_call_entry PyProof.Rows.slot_list_sort ⟨_, hoL, rfl⟩ PyProof.Rows.entry_list_sort
    (SrtO.list_sort_ord (s := { s with heap := h'.push (seqObj "list" acc.toList.toArray 0), toks := tk }) SrtO.swo_int hoL (by rw [hal]; exact hz) (fun h2 => SrtO.ints_sortable hS h2) fun out h1 h2 => ⟨_, rfl, ?_⟩) (PyProof.Rows.args_list_sort _)))
  obtain ⟨g1, g2, g3⟩ := SrtO.ints_out hS h1 h2
  obtain ⟨e', he'⟩ := PyProof.Rows.sortedHeap_at (vs := acc.toList) (out := out.toArray) hoL
  have hlen : ((out.map SrtO.iv).map V.int).length ≤ sizeLine := by
    rw [List.length_map, g2.length_eq]
    exact hz
  refine wpAny_pure ⟨_, rfl, .ref h'.objs.size, upd H h'.objs.size (.lst ((out.map SrtO.iv).map V.int)), I1.laid (t' := tk) (fun b u e => ?_) (Nat.le_refl _)
    (show ObjOk X.prog X.w _ _ _ (.lst ((out.map SrtO.iv).map V.int)) from ⟨hlen, out, e', vals_of_ints g1, he'⟩), rfl, q _ _ g2 g3 (I1.hok.fresh (Nat.le_refl _))⟩
  have hb : b < h'.objs.size := Heap.lt_size e
  rw [PyProof.Rows.sortedHeap_old (Nat.ne_of_lt hb) (by rw [size_push']; exact Nat.lt_succ_of_lt hb)]
  exact Heap.get?_push_of_some _ e
def rSortedK : List V → Hp → VK → Prop := fun xs H Q => ∃ (r a : Addr) (kvs : List (Key × V)) (ks : List Int), xs = [.ref r] ∧ H r = some (KO r a) ∧ Rd H a (.dK kvs) ∧ kvs.map (·.1) = ks.map Sum.inl ∧
    ∀ (ys : List Int) (p : Addr), ys.Perm ks → ys.Pairwise (· ≤ ·) → H p = none → Q (.ref p) (upd H p (.lst (ys.map V.int)))
/-- sorted(d.keys()), all ints -/
theorem call_sortedK {X : Cx} (hcalm : X.calm = true) : CallR X (.builtin "sorted") rSortedK := by
  intro pins s σ H xs us Q I r q
  obtain ⟨v, a, kvs, ks, ex, hv, hd, hks, q⟩ := q
  subst ex
  obtain ⟨u, eu, rx⟩ := vals1 r
  subst eu
  cases rx
  obtain ⟨hview, _, _⟩ := I.hok v _ hv
  obtain ⟨z, lo, vs, rel, dd⟩ := dk_rd I.hok hd
  obtain ⟨ep, hat⟩ := dd.dictAt
  have hkeys : vs.map (·.1) = ks.map Sum.inl := rel.keys.symm.trans hks
  have hz := congrArg List.length hks
  rw [List.length_map, List.length_map] at hz
  exact sorted_src hcalm I (PySem.W.kdl_keys (knd := mixKind X.prog X.w) (kvs := vs) (ep := ep) (r := v) (d := a)) ⟨hview, hat⟩ hkeys (by omega) q
def rSortedDW : List V → Hp → VK → Prop := fun xs H Q => ∃ (a : Addr) (kvs : List (Key × V)) (ks : List Int), xs = [.ref a] ∧ Rd H a (.dK kvs) ∧ kvs.map (·.1) = ks.map Sum.inl ∧
    ∀ (ys : List Int) (p : Addr), ys.Perm ks → ys.Pairwise (· ≤ ·) → H p = none → Q (.ref p) (upd H p (.lst (ys.map V.int)))
/-- sorted(d), all ints -/
theorem call_sortedDW {X : Cx} (hcalm : X.calm = true) : CallR X (.builtin "sorted") rSortedDW := by
  intro pins s σ H xs us Q I r q
  obtain ⟨a, kvs, ks, ex, hd, hks, q⟩ := q
  subst ex
  obtain ⟨u, eu, rx⟩ := vals1 r
  subst eu
  cases rx
  obtain ⟨z, lo, vs, rel, dd⟩ := dk_rd I.hok hd
  obtain ⟨ep, hat⟩ := dd.dictAt
  have hkeys : vs.map (·.1) = ks.map Sum.inl := rel.keys.symm.trans hks
  have hz := congrArg List.length hks
  rw [List.length_map, List.length_map] at hz
  exact sorted_src hcalm I (PySem.W.kdl_dict (knd := mixKind X.prog X.w) (kvs := vs) (ep := ep) lo) hat hkeys (by omega) q
end Ow
namespace Ow
open PySem PySem.Spec PyProof.Rows L2
/-! ### range(i, j), its ends of any size -/
theorem turn_long {P : Program} {w : World} {K : PySem.W.Frag} {tg : Expr} (it : Addr) (lo : Int) (n : Nat) : Turn P w K tg (Itr lo n) [it] it (fun i h => IsLongIter h it (lo + (i : Nat) * 1) ((n : Int) - (i : Nat)) 1) where
  mem := by simp
  obj := fun i h st b hb => by
    cases List.mem_singleton.mp hb
    exact ⟨_, st, fun v z => by
      have z' : Data.fields _ = Data.cell v := z
      cases z'⟩
  keep := fun i h h' st k => k it (by simp) _ st
  item := by
    intro X hP hw hK hc i pins s σ H E I hf st hg
    subst hP hw hK
    obtain ⟨f0, f1, _, f3, f4, f5⟩ := hf it (by simp)
    have hlt : i < n := hg
    refine wpAny_pyNext_long_item st (by omega) fun h' st' sb => ?_
    have st2 : IsLongIter h' it (lo + ((i + 1 : Nat) : Int) * 1) ((n : Int) - ((i + 1 : Nat) : Int)) 1 := by
      rw [show lo + ((i + 1 : Nat) : Int) * 1 = lo + ((i : Nat) : Int) * 1 + 1 by omega, show (n : Int) - ((i + 1 : Nat) : Int) = (n : Int) - ((i : Nat) : Int) - 1 by omega]
      exact st'
    have J : Inv X pins σ H { s with heap := h', toks := s.toks + 1 } := I.turned (fun b o hb q => (sb.2 b hb).trans q) f0 f1 f3 f4 f5
    refine ⟨_, rfl, go_of (s := { s with heap := h', toks := s.toks + 1 }) (n := "longrange_iterator") st2 rfl rfl (by decide) ⟨.int (lo + i), H, J, ⟨s.toks, ?_⟩, ⟨rfl, rfl⟩, st2, fun b hb => (hf b hb).1⟩⟩
    rw [Int.mul_one]
  done := by
    intro X hP hw hK hc i pins s σ H E I hf st hg
    subst hP hw hK
    obtain ⟨f0, f1, _, f3, f4, f5⟩ := hf it (by simp)
    exact wpAny_pyNext_long_end (I.ok.hd hc) st (by have : n ≤ i := hg; omega) fun h' eb => ⟨rfl, I.turned (t' := s.toks) (fun b o hb q => eb b o hb q) f0 f1 f3 f4 f5⟩
  self := fun _ _ _ _ _ st h => wpAny_pyIter_longiter st h
def iRngW (ta : TA) : TI := fun σ H R => ta σ H fun vs H1 => ∃ i j : Int, vs = [.int i, .int j] ∧ R (Itr i (j - i).toNat) H1
theorem pi_range2W {X : Cx} {tg a b : Expr} {ta : TA} {p pos : Pos} (hg : Gl X "range") (hm : X.mg "range" = none) (ha : PA X [a, b] ta) (hs : starEach [a, b] X.env = [(false, eval a X.env), (false, eval b X.env)] := by rfl) (hs2 : starEach [b] X.env = [(false, eval b X.env)] := by rfl) :
    PI X tg (.Call (.Name "range" p) [a, b] [] pos) (iRngW ta) := by
  constructor
  intro pins s σ H R I h
  refine Call_ (ld_blt I hg hm boot_range (PyProof.Rows.callWith_type1 (thn (ha.run pos pins s σ H _ I h) fun us s1 ⟨vs, H1, I1, r1, lo, hi, ev, q⟩ => ?_) (by rw [hs, hs2]) (by rw [hs2]; rfl)))
  subst ev
  obtain ⟨u1, u2, rfl, ⟨t, rfl⟩, ⟨t', rfl⟩⟩ := vals2 r1
  refine call_range_2 ?_
  generalize hh : s1.heap.push { cls := .type "range", data := .fields #[.int lo t, .int hi t', .int 1 s1.toks] } = g
  have I2 : Inv X pins σ H1 { s1 with heap := g, toks := s1.toks + 1 } := I1.kept fun b o q => by rw [← hh]; exact Heap.get?_push_of_some _ q
  have at_ : IsRange g s1.heap.objs.size lo hi 1 t t' s1.toks := by rw [← hh]; exact Heap.get?_push_size _ rfl
  have size : ((((hi - lo).toNat : Nat) : Int) - ((0 : Nat) : Int)) = Builtin.Range.rangeSize lo hi 1 := by rw [rangeSize_one]; split <;> omega
  have place : lo + ((0 : Nat) : Int) * 1 = lo := by simp
  cases hb : Builtin.Range.small lo hi 1 with
  | true =>
    refine wpAny_pyIter_range at_ hb ⟨g.objs.size, [g.objs.size], _, _, H1, rfl, I2.kept (t' := s1.toks + 1) fun b o q => Heap.get?_push_of_some _ q, turn_range _ lo (hi - lo).toNat, ?_, fun b hb => ?_, q⟩
    · show IsRangeIter _ _ (lo + ((0 : Nat) : Int) * 1) ((((hi - lo).toNat : Nat) : Int) - ((0 : Nat) : Int)) 1
      rw [place, size]
      exact Heap.get?_push_size _ rfl
    · cases List.mem_singleton.mp hb
      exact I2.fpOk (Nat.le_refl _) (I2.hok.fresh (Nat.le_refl _))
  | false =>
    refine wpAny_pyIter_longrange at_ hb ⟨g.objs.size, [g.objs.size], _, _, H1, rfl, I2.kept (t' := s1.toks + 1) fun b o q => Heap.get?_push_of_some _ q, turn_long _ lo (hi - lo).toNat, ?_, fun b hb => ?_, q⟩
    · show IsLongIter _ _ (lo + ((0 : Nat) : Int) * 1) ((((hi - lo).toNat : Nat) : Int) - ((0 : Nat) : Int)) 1
      rw [place, size]
      exact Heap.get?_push_size _ rfl
    · cases List.mem_singleton.mp hb
      exact I2.fpOk (Nat.le_refl _) (I2.hok.fresh (Nat.le_refl _))
end Ow
namespace Ow
open PySem PySem.Spec PyProof.Rows L2
/-! ### defs that are called while an exception is handled -/
theorem roomX {k : Nat} {A : Around} {v : Option Value} (r : Room k A) : L2H.RoomH k (A.mark v) := ⟨r.dp, r.un⟩
/-- the same context under another surrounding, not calm -/
theorem inv_re {X : Cx} {pins : List (Addr × Obj)} {σ : L2.St} {H : Hp} {s : Shared} (I : Inv X pins σ H s) (A2 : Around) (xe2 : Value → Shared → Prop) (h : A2.frames = X.A.frames) : Inv { X with A := A2, calm := false, xe := xe2 } pins σ H s :=
  have k := I.ok
  ⟨⟨k.mod, k.kind, k.glob, k.blt, k.above, k.inj, k.has, k.cab, (fun z => Bool.noConfusion (show false = true from z)), h.trans k.frames, k.stk, k.exf, k.bs, k.bsz, k.noex, k.exfs, k.funs, k.frf⟩, I.os, I.bare, I.base, I.loc, I.cell, I.free, I.freeC, I.pin, I.hok, I.len⟩
/-- what a def promises where the exception at a is handled -/
structure FnX (P : Program) (w : World) (K : PySem.W.Frag) (mg : Str → Option Value) (base : Heap) (k : Nat) (f : Addr) (fd : FuncData) (ps : List Str) (sp : Addr → Sp) : Prop where
  many : ∀ a vs H Q E, sp a vs H Q E → vs.length = ps.length
  runs : ∀ (a : Addr) (A : Around) (outer : List Env) (s : Shared) (H : Hp) (args : Args) (us : List Value) (vs : List V) (Q : VK) (E : XK), A.handled = some (.ref a) → L2H.RoomH k A → Env0 P w K mg base A outer s H → BindsTo s fd args (ps.zip us) → Vals vs us → sp a vs H Q E →
    codeAny (model P w) A (.call (.ref f) args) (CR (L2.CX P w) outer P w H s Q E) s
abbrev cxX (P : Program) (w : World) (K : PySem.W.Frag) (mg : Str → Option Value) (base : Heap) (N : List Str) (qual : Str) (scope : Scope) (f : Addr) (cd : Value) (A : Around) (outer : List Env) (s : Shared) (H : Hp) (E : XK) : Cx :=
  { cxOf (L2.CX P w) P w K mg base N qual scope f cd A outer s H E with calm := false }
section
variable {P : Program} {w : World} {K : PySem.W.Frag} {mg : Str → Option Value} {base : Heap}
theorem fnX_of {x qual : Str} {params : Arguments} {body : List Stmt} {scope : Scope} {f : Addr} {fd : FuncData} {N ps : List Str} {k : Nat} {sp : Addr → Sp} (F : FunD K x qual params body scope [] [] f fd) (S : FnScope N ps scope) (many : ∀ a vs H Q E, sp a vs H Q E → vs.length = ps.length)
    (does : ∀ (cdv : Value) (A : Around) (outer : List Env) (s : Shared) (H : Hp) (vs : List V) (Q : VK) (E : XK) (a : Addr), A.handled = some (.ref a) → L2H.RoomH k (A.deeper (envOfC qual scope s.heap.objs.size f cdv)) → sp a vs H Q E →
      ∃ t, PSs (cxX P w K mg base N qual scope f cdv A outer s H E) body t ∧ t { nx := fun _ H' => Q .non H', rt := Q } (L2.start N vs) H) : FnX P w K mg base (k + 1) f fd ps sp := by
  obtain ⟨oc, od, dV, kV, doc, pm, an, cdv, ct, osl, rfl, looked, coded, _, _⟩ := F.ex
  refine ⟨many, fun a A outer s H args us vs Q E hot room e0 bound r asked => ?_⟩
  have given := many _ _ _ _ _ asked
  have inK : K.In s.heap := e0.mod.kin.keeps fun b o e => (e0.bs b o e).1
  have unbound : s.heap.NoLimit := e0.mod.nolimit.keeps fun b o e => (e0.bs b o e).1
  have kinds : ∀ y ∈ ps.zip us, scope.names.lookup y.1 = some .local ∨ (scope.names.lookup y.1 = some .cell ∧ ((cellsFrom (s.heap.objs.size + 1) scope.names []).lookup y.1).isSome = true) := by
    intro y hy
    refine (S.par y.1 (List.of_mem_zip (a := y.1) (b := y.2) hy).1).imp (fun z => z) fun z => ⟨z, ?_⟩
    exact PySem.W.cellsFrom_some _ _ _ (.inl z)
  refine codeAny_call_function room.depth (inK _ _ looked) rfl S.co S.gen rfl (PySem.W.codeRec_of inK coded) (bound _ _ _ _ (wpAny_newFunctionEnv_cells S.kind kinds fun env he s1 x => ?_))
  cases he
  refine ⟨unbound.keeps x.toInCall.keep, codeAny_func ?_⟩
  obtain ⟨t, derived, reads⟩ := does cdv A outer s H vs Q E a hot (room.deeper _) asked
  have cold : Env0 P w K mg base { A with handled := none } outer s H := ⟨e0.frames, e0.mod, e0.bs, e0.bsz, e0.funs, e0.frf, e0.hok, e0.bare⟩
  have I : Inv (cxX P w K mg base N qual scope f cdv A outer s H E) [] (L2.start N vs) H s1 := inv_re (inv_start (CX := L2.CX P w) (E := E) S rfl cold given r x) (A.deeper (envOfC qual scope s.heap.objs.size f cdv)) _ rfl
  refine wpAny_mono (derived.run [] s1 (L2.start N vs) H _ I reads) (fun fl s2 ends => ?_) fun _ _ left => left
  rcases fl with _ | _ | _ | u
  · obtain ⟨τ, G, J, q⟩ := ends
    exact ⟨.non, G, J.os, J.bare, J.base, J.hok, rfl, q⟩
  · exact ends.elim fun _ z => z.elim fun _ z => z.2.elim
  · exact ends.elim fun _ z => z.elim fun _ z => z.2.elim
  · obtain ⟨v, τ, G, J, rv, q⟩ := ends
    exact ⟨v, G, J.os, J.bare, J.base, J.hok, rv, q⟩
end
/-- a def that may be called so -/
structure CeeX (P : Program) (w : World) (K : PySem.W.Frag) (mg : Str → Option Value) (base : Heap) (k : Nat) (f : Addr) (ps : List Str) (sp : Addr → Sp) : Prop where
  kp : PySem.W.keepIn K (.ref f) = true
  fn : ∃ fd, FnX P w K mg base k f fd ps (fun a => bx (sp a)) ∧ Binds K fd ps []
theorem ceeX_of {P : Program} {w : World} {K : PySem.W.Frag} {mg : Str → Option Value} {base : Heap} {x qual : Str} {params : Arguments} {body : List Stmt} {scope : Scope} {f : Addr} {N ps : List Str} {k : Nat} {sp : Addr → Sp} (F : ∃ fd, FunD K x qual params body scope [] [] f fd) (S : FnScope N ps scope)
    (hb : ∀ (kV doc pm : Value) (an : Option Addr) (cdv ct : Value) (us : List Value), us.length = ps.length → bindArgs (PySem.W.fnOf x qual params body scope .none kV doc pm an cdv ct) ⟨us, []⟩ = pure (ps.zip us))
    (many : ∀ a vs H Q E, sp a vs H Q E → vs.length = ps.length)
    (does : ∀ (cdv : Value) (A : Around) (outer : List Env) (s : Shared) (H : Hp) (vs : List V) (Q : VK) (E : XK) (a : Addr), A.handled = some (.ref a) → L2H.RoomH k (A.deeper (envOfC qual scope s.heap.objs.size f cdv)) → sp a vs H Q E →
      ∃ t, PSs (cxX P w K mg base N qual scope f cdv A outer s H E) body t ∧ t { nx := fun _ H' => Q .non H', rt := Q } (L2.start N vs) H) : CeeX P w K mg base (k + 1) f ps sp := by
  obtain ⟨fd, F⟩ := F
  exact ⟨F.kp, fd, fnX_of F S (fun a vs H Q E h => many a vs H Q E h.out) (fun cdv A outer s H vs Q E a hot room h => does cdv A outer s H vs Q E a hot room h.out), F.bindsN hb⟩
section
variable {X : Cx} {k : Nat} {f a : Addr} {ps : List Str} {sp : Addr → Sp} {W : WX} {x : Str} {p pos : Pos} {e : Expr} {es : List Expr} {t : TA}
theorem pe_fX (c : CeeX X.prog X.w X.K X.mg X.base k f ps sp) (hr : L2H.RoomH k X.A) (hot : X.A.handled = some (.ref a)) (tk : Takes X W) (hg : Gl X x) (hm : X.mg x = some (.ref f)) (ha : PA X (e :: es) t) (hdb : (x == ("__debug__" : Str)) = false := by decide)
    (he : starEach (e :: es) X.env = (false, eval e X.env) :: starEach es X.env := by rfl) (hpl : (backTo pos (starEach es X.env)).any (·.1) = false := by rfl) :
    PE X (.Call (.Name x p) (e :: es) [] pos) (tCallS (bx (sp a)) (WE W) t) := by
  obtain ⟨fd, F, b⟩ := c.fn
  constructor
  intro pins s σ H Q I h
  refine wpAny_Call_Name_kw (ld_glob I hg hm (PySem.W.callWith_K (h₀ := X.base) I.ok.mod.kin c.kp (thn (ha.run pos pins s σ H _ I h) fun us s1 ⟨vs, H1, I1, rv, q⟩ => ⟨I1.kIn, ?_⟩) he hpl) hdb)
  have many : us.length = ps.length := by rw [← rv.length]; exact F.many _ _ _ _ _ q
  have binds := b s1 us I1.kIn (by rw [List.append_nil]; exact many)
  rw [List.append_nil] at binds
  refine wpAny_call (codeAny_mono (F.runs a X.A X.stack s1 H1 ⟨us, []⟩ us vs Q (WE W σ) hot hr I1.env0 binds rv q) fun r s' ends => ?_)
  rcases r with ev | fl
  · exact passAt tk σ pins H1 s1 ev s' I1 ends
  · rcases fl with _ | _ | _ | u
    · exact ends.elim
    · exact ends.elim
    · exact ends.elim
    · exact I1.after ends
end
end Ow
namespace Ow
open PySem PySem.Spec PyProof.Rows L2
/-! ### texts, ranges -/
theorem op_notIn_rng {X : Cx} : OpR X (compareOp .NotIn) (fun x y H Q => ∃ i a lo hi, x = V.int i ∧ y = V.ref a ∧ H a = some (.rng lo hi) ∧ Q (.bl (!decide (lo ≤ i ∧ i < hi))) H) := by
  intro pins s σ H x y v u Q I rx ry h
  obtain ⟨i, a, lo, hi, rfl, rfl, ha, q⟩ := h
  obtain ⟨k, rfl⟩ := rx
  obtain rfl : u = Value.ref a := ry
  obtain ⟨t1, t2, t3, ho⟩ := I.hok a _ ha
  show wpAny _ _ (do return Value.bool (!(← contains (Value.ref a) (Value.int i k)))) _ _ s
  refine wpAny_bind (wpAny_contains_slot (T := "range") ⟨_, ho, rfl⟩ F.slot_range_contains (call_meets F.slot_range_contains ⟨_, ho, rfl⟩ F.entry_range_contains (F.args_range_contains_2 _ _) (q_contains a lo hi i t1 t2 t3 k) ⟨ho, wpAny_truthy_bool (wpAny_pure ?_)⟩))
  refine ⟨.bl _, H, I, rfl, ?_⟩
  rw [place1]
  exact q
/-- so many times a text -/
def repS (z : Str) (n : Int) : Str := ⟨((List.replicate n.toNat z.cps.toList).flatten).toArray⟩
theorem foldl_cps (c : Array Nat) : ∀ (k : Nat) (a : Array Nat), (List.replicate k c).foldl (· ++ ·) a = a ++ ((List.replicate k c.toList).flatten).toArray
  | 0, a => by simp
  | k + 1, a => by
    rw [List.replicate_succ, List.foldl_cons, foldl_cps c k, List.replicate_succ, List.flatten_cons, Array.append_assoc]
    congr 1
    apply Array.ext'
    simp
theorem op_rep_str {X : Cx} : OpR X (binaryOp .Mult) (fun x y H Q => ∃ z n, x = .str z ∧ y = .int n ∧ 0 ≤ n ∧ n ≤ 2000 ∧ z.length ≤ 2000 ∧ Q (.str (repS z n)) H) := by
  intro pins s σ H x y v u Q I rx ry h
  obtain ⟨z, n, rfl, rfl, h0, h1, h2, q⟩ := h
  obtain ⟨t, rfl⟩ := rx
  obtain ⟨t2, rfl⟩ := ry
  have hl : z.length * n.toNat ≤ 4000000 := Nat.le_trans (Nat.mul_le_mul h2 (show n.toNat ≤ 2000 by omega)) (by decide)
  have e0 : n < 1 → repS z n = Str.empty := fun h => by
    have : n.toNat = 0 := by omega
    unfold repS; rw [this]; rfl
  have e1 : (n == 1 || z.length == 0) = true → ¬ n < 1 → repS z n = z := fun h hn => by
    rcases (Bool.or_eq_true _ _).mp h with h | h
    · obtain rfl := eq_of_beq h
      unfold repS
      show (⟨((List.replicate 1 z.cps.toList).flatten).toArray⟩ : Str) = z
      simp
    · have hz : z.cps.toList = [] := by
        have := eq_of_beq h
        exact List.length_eq_zero_iff.mp (by rw [Array.length_toList]; exact this)
      have hc : z.cps = #[] := Array.ext' hz
      unfold repS
      rw [hz, List.flatten_replicate_nil]
      cases z
      congr 1
      exact hc.symm
  have e2 : (⟨(List.replicate n.toNat z.cps).foldl (· ++ ·) #[]⟩ : Str) = repS z n := by rw [foldl_cps, Array.empty_append]; rfl
  refine P.mul_str (by
      have a1 : ¬ n < -(2 ^ 63) := by omega
      have a2 : ¬ n ≥ 2 ^ 63 := by omega
      rw [decide_eq_false a1, decide_eq_false a2]; rfl) (fun hn _ hc => ?_) (fun _ _ => ?_) ?_
  · have h3 : (2000 : Int) ≤ (2 ^ 63 - 1) / n := Int.le_ediv_of_mul_le (by omega) (by omega)
    omega
  · unfold Builtin.Str.tooLong
    exact decide_eq_false (by have : sizeLine ≥ 4000000 := by decide
                              omega)
  · split
    · next hn => exact ⟨by decide, .str (repS z n), H, I.tok _, ⟨_, by rw [e0 hn]⟩, q⟩
    · next hn =>
      split
      · next hb => exact ⟨.str (repS z n), H, I, ⟨_, by rw [e1 hb hn]⟩, q⟩
      · next hb =>
        refine ⟨?_, .str (repS z n), H, I.tok _, ⟨_, by rw [e2]⟩, q⟩
        rw [e2]
        unfold repS Str.length
        rw [List.size_toArray, List.length_flatten, List.map_replicate, List.sum_replicate_nat, Array.length_toList]
        have h4 : z.length = z.cps.size := rfl
        rw [← h4, Nat.mul_comm]
        exact Nat.le_trans hl (by decide)
section
variable {H0 H : Hp} {A : List Addr} {cs : Cells} {p : Addr} {o : HO}
/-- a new cell, the heap behind it by a letter -/
theorem Own.sQ {β : Type} {y : β} {G : Hp → β → Prop} (O : Own H0 H A cs) (h : H p = none) (k : ∀ H', Own H0 H' A ((p, o) :: cs) → Own H H' (Ow.adr cs) ((p, o) :: cs) → G H' y) : G (upd H p o) y := k _ (O.new h) (O.self.new h)
theorem Own.sT {β : Type} {y : β} {G : Hp → β → Prop} (O : Own H0 H A cs) (h : H p = none) (k : ∀ H', Own H0 H' A cs → Own H H' (Ow.adr cs) cs → H' p = some o → G H' y) : G (upd H p o) y := k _ (O.newT h) (O.self.newT h) upd_same
theorem Own.sG {G : Hp → Prop} (O : Own H0 H A cs) (h : H p = none) (k : ∀ H', Own H0 H' A ((p, o) :: cs) → Own H H' (Ow.adr cs) ((p, o) :: cs) → G H') : G (upd H p o) := k _ (O.new h) (O.self.new h)
end
end Ow
namespace Ow
open PySem PySem.Spec PyProof.Rows L2
/-! ### list.count of flat things -/
def rCntF (K : PySem.W.Frag) : V → List V → Hp → VK → Prop := fun x xs H Q => ∃ (a : Addr) (ys : List V) (y : V), x = V.ref a ∧ xs = [y] ∧ SqL K H a ys ∧ flatV y = true ∧ ys.all flatV = true ∧ Q (.int (ys.countP (fun z => eqV z y) : Nat)) H
theorem cnt_flat {y : V} : ∀ {ys : List V} {us : List Value}, Vals ys us → ys.all flatV = true → us.countP (eqU y) = ys.countP fun z => eqV z y
  | _, _, .nil, _ => rfl
  | _, _, @Paired.cons _ _ _ z u _ _ h r, f => by
    rw [List.all_cons, Bool.and_eq_true] at f
    have ih := cnt_flat (y := y) r f.2
    rw [List.countP_cons, List.countP_cons, ih, eqU_of h f.1]
theorem mt_lcountF {X : Cx} : MtR X "list.count" (rCntF X.K) := by
  intro pins s σ H x xs v us Q I rx rxs h
  obtain ⟨a, ys, y, rfl, rfl, hs, fy, fys, q⟩ := h
  cases rx
  cases rxs with
  | cons ry rt =>
    rename_i uy ut
    cases rt
    obtain ⟨its, rv, ⟨⟨cls, dd, data, sl⟩, n, ho, hc, hdn, hd⟩, hlen⟩ := I.list hs
    simp only at hc hd
    subst hc hd
    refine call_meets PySem.F.slot_list_count ⟨_, ho, rfl⟩ PySem.F.entry_list_count (PySem.F.args_list_count_2 _ _)
      (SeqAt.list_countAt a its.toArray n dd sl uy (eqU y)) ⟨ho, fun u' hu' => mem_eqAt ry fy rv fys u' (by simpa using hu'), ?_⟩
    have ec : its.toArray.toList.countP (eqU y) = ys.countP fun z => eqV z y := cnt_flat rv fys
    refine ⟨.int (ys.countP (fun z => eqV z y) : Nat), H, I.tok _, ⟨s.toks, ?_⟩, q⟩
    show Value.int ((its.toArray.toList.countP (eqU y) : Nat) : Int) s.toks = Value.int ((ys.countP (fun z => eqV z y) : Nat) : Int) s.toks
    rw [ec]
end Ow
namespace Ow
open PySem PySem.Spec PyProof.Rows L2
/-! ### isinstance by a class's own row of classes: few looks for many askings -/
theorem sub_of {K : PySem.W.Frag} {D : Addr} {cs : List Value} {bs : List Bool} (h : mroB K D cs bs = true) (k : Nat) {c : Value} {b : Bool} (e1 : cs[k]? = some c) (e2 : bs[k]? = some b) : PySem.W.subIn K (.ref D) c = some b ∧ (((.ref D : Value) == c) = true → b = true) := by
  unfold mroB at h
  split at h
  · next cd hcd =>
    rw [Bool.and_eq_true, Bool.and_eq_true] at h
    obtain ⟨h1, h2, h3⟩ := h
    have h3 := eq_of_beq h3
    have h4 : cd.mro.contains c = b := by
      have := congrArg (fun l : List Bool => l[k]?) h3
      simp only [List.getElem?_map, e1, e2, Option.map_some] at this
      exact Option.some.inj this
    refine ⟨?_, fun z => ?_⟩
    · show PySem.W.mroIn K D c = some b
      unfold PySem.W.mroIn
      rw [hcd, Option.bind_some, if_neg (by simpa using h1), h4]
    · rw [← eq_of_beq z, h2] at h4
      exact h4.symm
  · cases h
theorem kit_ref {K : PySem.W.Frag} {D C : Addr} {cs : List Value} {bs : List Bool} (h : mroB K D cs bs = true) (hc : clsOk K C = true) (k : Nat) {b : Bool} (e1 : cs[k]? = some (.ref C)) (e2 : bs[k]? = some b) : PySem.W.kitOne K (.ref D) (.ref C) = some b := by
  obtain ⟨h1, h2⟩ := sub_of h k e1 e2
  unfold PySem.W.kitOne
  split
  · next z => rw [h2 z]
  · unfold PySem.W.kitCls
    unfold clsOk at hc
    dsimp only
    rw [if_pos hc]
    exact h1
theorem kit_typ {K : PySem.W.Frag} {D : Addr} {T : String} {cs : List Value} {bs : List Bool} (h : mroB K D cs bs = true) (hc : PySem.W.kitMeta T = true) (k : Nat) {b : Bool} (e1 : cs[k]? = some (.type T)) (e2 : bs[k]? = some b) : PySem.W.kitOne K (.ref D) (.type T) = some b := by
  obtain ⟨h1, h2⟩ := sub_of h k e1 e2
  unfold PySem.W.kitOne
  split
  · next z => rw [h2 z]
  · unfold PySem.W.kitCls
    dsimp only
    rw [if_pos hc]
    exact h1
end Ow
namespace Ow
open PySem PySem.Spec PyProof.Rows L2
theorem room65 {k : Nat} {A : Around} (r : Room k A) : A.units + 65 < cLine := by have := r.un; omega
/-! ### list(d.keys()), list(d.values()) -/
/-- a view of the values of the dict at d stands at r -/
def VO (r d : Addr) : HO := .ext fun h => h.IsValuesView r d
def rValsV : V → List V → Hp → VK → Prop := fun x xs H Q => ∃ d kvs, x = .ref d ∧ xs = [] ∧ Rd H d (.dK kvs) ∧ ∀ r, H r = none → Q (.ref r) (upd H r (VO r d))
theorem mt_values {X : Cx} : MtR X "dict.values" rValsV := by
  intro pins s σ H x vs v us Q I rx rv h
  obtain ⟨d, kvs, rfl, rfl, hd, q⟩ := h
  cases rx
  cases rv
  obtain ⟨z, lo, ws, rel, dd⟩ := dk_rd I.hok hd
  refine call_meetsIn F.slot_dict_values dd.typeIs F.entry_dict_values (F.args_dict_values_1 _) (meets_dict_values (mixKind X.prog X.w) d lo) ⟨⟨ws, dd⟩, ?_⟩
  refine ⟨.ref s.heap.objs.size, upd H s.heap.objs.size (VO s.heap.objs.size d), I.laid (t' := s.toks) (fun b u e => Heap.get?_push_of_some _ e) (Nat.le_refl _) ?_, rfl, q _ (I.hok.fresh (Nat.le_refl _))⟩
  exact ⟨⟨_, Heap.get?_push_size _ rfl, rfl, rfl⟩, ⟨_, Heap.get?_push_size _ rfl⟩, fun h1 h2 ⟨o, e, c, dt⟩ k => ⟨o, k o e, c, dt⟩⟩
def rListK : List V → Hp → VK → Prop := fun xs H Q => ∃ (r a : Addr) (kvs : List (Key × V)), xs = [.ref r] ∧ H r = some (KO r a) ∧ Rd H a (.dK kvs) ∧ ∀ q, H q = none → Q (.ref q) (upd H q (.lst (kvs.map fun kv => kV kv.1)))
theorem call_listK {X : Cx} (hc : X.calm = true) : CallR X (.type "list") rListK := by
  intro pins s σ H xs us Q I r h
  obtain ⟨v, a, kvs, ex, hv, hd, q⟩ := h
  subst ex
  obtain ⟨u, eu, rx⟩ := vals1 r
  subst eu
  cases rx
  obtain ⟨hview, _, _⟩ := I.hok v _ hv
  obtain ⟨z, lo, vs, rk, dd⟩ := dk_rd I.hok hd
  obtain ⟨ep, hat⟩ := dd.dictAt
  have hl : kvs.length = vs.length := Paired.length rk
  refine PySem.W.kdl_call (PySem.W.kdl_keys (knd := mixKind X.prog X.w) (kvs := vs) (ep := ep) (r := v) (d := a)) (I.ok.hd hc) ⟨hview, hat⟩ (by rw [← hl]; exact z) fun h' tk acc' c' hkeep hS hacc => ?_
  refine ⟨.ref s.heap.objs.size, upd H s.heap.objs.size (.lst (kvs.map fun kv => kV kv.1)), I.laid hkeep (Nat.le_refl _) (show ObjOk X.prog X.w _ _ _ (.lst (kvs.map fun kv => kV kv.1)) from ⟨?_, acc'.toList, c', ?_, ?_⟩), rfl, q _ (I.hok.fresh (Nat.le_refl _))⟩
  · rw [List.length_map]; exact z
  · have el : acc'.toList.length = acc'.size := by simp
    refine vals_of_at (by rw [List.length_map, el, hacc.1, hl]) fun j x w h1 h2 => ?_
    obtain ⟨k, y, hky, hi⟩ := hacc.2 j w (by rw [← Array.getElem?_toList]; exact h2)
    have e1 : (kvs.map (·.1))[j]? = some k := by
      rw [KV.keys rk, List.getElem?_map, hky] <;> rfl
    have e2 : (kvs.map fun kv => kV kv.1)[j]? = some (kV k) := by
      have e3 : (kvs.map fun kv => kV kv.1) = (kvs.map (·.1)).map kV := by rw [List.map_map] <;> rfl
      rw [e3, List.getElem?_map, e1] <;> rfl
    rw [e2] at h1
    cases h1
    exact keyIs_rel hi
  · rw [Array.toArray_toList]; exact hS
def rListVs : List V → Hp → VK → Prop := fun xs H Q => ∃ (r a : Addr) (kvs : List (Key × V)), xs = [.ref r] ∧ H r = some (VO r a) ∧ Rd H a (.dK kvs) ∧ ∀ q, H q = none → Q (.ref q) (upd H q (.lst (kvs.map (·.2))))
theorem call_listVs {X : Cx} (hc : X.calm = true) : CallR X (.type "list") rListVs := by
  intro pins s σ H xs us Q I r h
  obtain ⟨v, a, kvs, ex, hv, hd, q⟩ := h
  subst ex
  obtain ⟨u, eu, rx⟩ := vals1 r
  subst eu
  cases rx
  obtain ⟨hview, _, _⟩ := I.hok v _ hv
  obtain ⟨z, lo, vs, rk, dd⟩ := dk_rd I.hok hd
  obtain ⟨ep, hat⟩ := dd.dictAt
  have hl : kvs.length = vs.length := Paired.length rk
  refine PySem.W.kdl_call (PySem.W.kdl_values (knd := mixKind X.prog X.w) (kvs := vs) (ep := ep) (r := v) (d := a)) (I.ok.hd hc) ⟨hview, hat⟩ (by rw [← hl]; exact z) fun h' tk acc' c' hkeep hS hacc => ?_
  refine ⟨.ref s.heap.objs.size, upd H s.heap.objs.size (.lst (kvs.map (·.2))), I.laid hkeep (Nat.le_refl _) (show ObjOk X.prog X.w _ _ _ (.lst (kvs.map (·.2))) from ⟨?_, acc'.toList, c', ?_, ?_⟩), rfl, q _ (I.hok.fresh (Nat.le_refl _))⟩
  · rw [List.length_map]; exact z
  · have el : acc'.toList.length = acc'.size := by simp
    refine vals_of_at (by rw [List.length_map, el, hacc.1, hl]) fun j x w h1 h2 => ?_
    obtain ⟨k, hk⟩ := hacc.2 j w (by rw [← Array.getElem?_toList]; exact h2)
    obtain ⟨y, hy, ry⟩ := KV.at' rk hk
    rw [List.getElem?_map, hy] at h1
    cases h1
    exact ry
  · rw [Array.toArray_toList]; exact hS
section
variable {H0 H : Hp} {A : List Addr} {cs : Cells} {d : Addr} {kvs : List (Key × V)} {Q : VK}
theorem list_keys (O : Own H0 H A cs) (hm : (d, HO.dK kvs) ∈ cs) (k : ∀ H' q, Own H0 H' A ((q, .lst (kvs.map fun kv => kV kv.1)) :: cs) → Q (.ref q) H') : rKeysV (.ref d) [] H fun x H1 => rListK [x] H1 Q := by
  refine ⟨d, kvs, rfl, rfl, .inl (O.get hm), fun r hr => ?_⟩
  have O1 := O.new (o := KO r d) hr
  exact ⟨r, d, kvs, rfl, O1.get (.head _), .inl (O1.get (.tail _ hm)), fun q hq => k _ q ((O1.new hq).drop (.cons₂ _ (.cons _ (.refl _))))⟩
theorem list_vals (O : Own H0 H A cs) (hm : (d, HO.dK kvs) ∈ cs) (k : ∀ H' q, Own H0 H' A ((q, .lst (kvs.map (·.2))) :: cs) → Q (.ref q) H') : rValsV (.ref d) [] H fun x H1 => rListVs [x] H1 Q := by
  refine ⟨d, kvs, rfl, rfl, .inl (O.get hm), fun r hr => ?_⟩
  have O1 := O.new (o := VO r d) hr
  exact ⟨r, d, kvs, rfl, O1.get (.head _), .inl (O1.get (.tail _ hm)), fun q hq => k _ q ((O1.new hq).drop (.cons₂ _ (.cons _ (.refl _))))⟩
end
end Ow
namespace Ow
open PySem PySem.Spec PyProof.Rows L2

structure Txt (K : PySem.W.Frag) (mg : Str → Option Value) : Prop where
  g_KernelError : mg "KernelError" = some (.ref (He.ga K "KernelError"))
  g_Taken : mg "Taken" = some (.ref (He.ga K "Taken"))
  g_BadName : mg "BadName" = some (.ref (He.ga K "BadName"))
  g_NoName : mg "NoName" = some (.ref (He.ga K "NoName"))
  g_NotDir : mg "NotDir" = some (.ref (He.ga K "NotDir"))
  g_IsDir : mg "IsDir" = some (.ref (He.ga K "IsDir"))
  g_NotEmpty : mg "NotEmpty" = some (.ref (He.ga K "NotEmpty"))
  g_Inside : mg "Inside" = some (.ref (He.ga K "Inside"))
  g_NoNode : mg "NoNode" = some (.ref (He.ga K "NoNode"))
  g_NoSpace : mg "NoSpace" = some (.ref (He.ga K "NoSpace"))
  g_TooMany : mg "TooMany" = some (.ref (He.ga K "TooMany"))
  g_TooBig : mg "TooBig" = some (.ref (He.ga K "TooBig"))
  g_NotHeld : mg "NotHeld" = some (.ref (He.ga K "NotHeld"))
  g_NotAllowed : mg "NotAllowed" = some (.ref (He.ga K "NotAllowed"))
  g_SMALL : ∃ t, mg "SMALL" = some (.str "abcdefghijklmnopqrstuvwxyz" t)
  g_LONGEST : ∃ t, mg "LONGEST" = some (.int 6 t)
  g_is_name : mg "is_name" = some (.ref (He.ga K "is_name"))
  g_names_of : mg "names_of" = some (.ref (He.ga K "names_of"))
  g_SLOT_CELLS : ∃ t, mg "SLOT_CELLS" = some (.int 8 t)
  g_BLOCK_CELLS : ∃ t, mg "BLOCK_CELLS" = some (.int 16 t)
  g_PLAIN_CELLS : ∃ t, mg "PLAIN_CELLS" = some (.int 64 t)
  g_blocks_for : mg "blocks_for" = some (.ref (He.ga K "blocks_for"))
  g_PlainFile : mg "PlainFile" = some (.ref (He.ga K "PlainFile"))
  g_PlainDir : mg "PlainDir" = some (.ref (He.ga K "PlainDir"))
  g_node_known : mg "node_known" = some (.ref (He.ga K "node_known"))
  g_MOST_SLOTS : ∃ t, mg "MOST_SLOTS" = some (.int 40 t)
  g_walked : mg "walked" = some (.ref (He.ga K "walked"))
  g_walked_to_new : mg "walked_to_new" = some (.ref (He.ga K "walked_to_new"))
  g_blocks_free : mg "blocks_free" = some (.ref (He.ga K "blocks_free"))
  g_look_slot : mg "look_slot" = some (.ref (He.ga K "look_slot"))
  g_look_growth : mg "look_growth" = some (.ref (He.ga K "look_growth"))
  g_MOST_NODES : ∃ t, mg "MOST_NODES" = some (.int 24 t)
  g_new_node : mg "new_node" = some (.ref (He.ga K "new_node"))
  g_clear_lost : mg "clear_lost" = some (.ref (He.ga K "clear_lost"))
  g_PlainFiles : mg "PlainFiles" = some (.ref (He.ga K "PlainFiles"))
  g__law_mixed : mg "_law_mixed" = some (.ref (He.ga K "_law_mixed"))
  g__law_digit : mg "_law_digit" = some (.ref (He.ga K "_law_digit"))
  g__law_left : mg "_law_left" = some (.ref (He.ga K "_law_left"))
  g__law_alike : mg "_law_alike" = some (.ref (He.ga K "_law_alike"))
  g__law_kind : mg "_law_kind" = some (.ref (He.ga K "_law_kind"))
  g__law_done : mg "_law_done" = some (.ref (He.ga K "_law_done"))
  g__law_told : mg "_law_told" = some (.ref (He.ga K "_law_told"))
  g__law_names : mg "_law_names" = some (.ref (He.ga K "_law_names"))
  g__law_begun : mg "_law_begun" = some (.ref (He.ga K "_law_begun"))
  g__law_blocks : mg "_law_blocks" = some (.ref (He.ga K "_law_blocks"))
  g__law_spare : mg "_law_spare" = some (.ref (He.ga K "_law_spare"))
  g__law_links : mg "_law_links" = some (.ref (He.ga K "_law_links"))
  g__law_seek : mg "_law_seek" = some (.ref (He.ga K "_law_seek"))
  g__law_found : mg "_law_found" = some (.ref (He.ga K "_law_found"))
  g__law_spot : mg "_law_spot" = some (.ref (He.ga K "_law_spot"))
  g__law_full : mg "_law_full" = some (.ref (He.ga K "_law_full"))
  g__law_lacks : mg "_law_lacks" = some (.ref (He.ga K "_law_lacks"))
  g__law_put : mg "_law_put" = some (.ref (He.ga K "_law_put"))
  g__law_freed : mg "_law_freed" = some (.ref (He.ga K "_law_freed"))
  g__law_cleared : mg "_law_cleared" = some (.ref (He.ga K "_law_cleared"))
  g__law_made : mg "_law_made" = some (.ref (He.ga K "_law_made"))
  g__law_linked : mg "_law_linked" = some (.ref (He.ga K "_law_linked"))
  g__law_unlinked : mg "_law_unlinked" = some (.ref (He.ga K "_law_unlinked"))
  g__law_removed : mg "_law_removed" = some (.ref (He.ga K "_law_removed"))
  g__law_moved : mg "_law_moved" = some (.ref (He.ga K "_law_moved"))
  g__law_by_path : mg "_law_by_path" = some (.ref (He.ga K "_law_by_path"))
  g__law_stat : mg "_law_stat" = some (.ref (He.ga K "_law_stat"))
  g__law_named_due : mg "_law_named_due" = some (.ref (He.ga K "_law_named_due"))
  g__law_due : mg "_law_due" = some (.ref (He.ga K "_law_due"))
  g__law_right : mg "_law_right" = some (.ref (He.ga K "_law_right"))
  g__law_path : mg "_law_path" = some (.ref (He.ga K "_law_path"))
  g__law_node : mg "_law_node" = some (.ref (He.ga K "_law_node"))
  g__law_letters : mg "_law_letters" = some (.ref (He.ga K "_law_letters"))
  g__law_deeds : mg "_law_deeds" = some (.ref (He.ga K "_law_deeds"))
  g_law : mg "law" = some (.ref (He.ga K "law"))
  n_ValueError : mg "ValueError" = none
  n_min : mg "min" = none
  n_range : mg "range" = none
  n_isinstance : mg "isinstance" = none
  n_str : mg "str" = none
  n_list : mg "list" = none
  n_sorted : mg "sorted" = none
  n_all : mg "all" = none
  n_sum : mg "sum" = none
  n_len : mg "len" = none
  n_tuple : mg "tuple" = none
  n_int : mg "int" = none
  n_abs : mg "abs" = none
  n_bool : mg "bool" = none
  n_zip : mg "zip" = none
  x_Taken : XcIn K (He.ga K "Taken")
  x_BadName : XcIn K (He.ga K "BadName")
  x_NoName : XcIn K (He.ga K "NoName")
  x_NotDir : XcIn K (He.ga K "NotDir")
  x_IsDir : XcIn K (He.ga K "IsDir")
  x_NotEmpty : XcIn K (He.ga K "NotEmpty")
  x_Inside : XcIn K (He.ga K "Inside")
  x_NoNode : XcIn K (He.ga K "NoNode")
  x_NoSpace : XcIn K (He.ga K "NoSpace")
  x_TooMany : XcIn K (He.ga K "TooMany")
  x_NotAllowed : XcIn K (He.ga K "NotAllowed")
  c_PlainFile : Cls K (He.ga K "PlainFile")
  m_PlainFile : Mk K (He.ga K "PlainFile") (He.ma K (He.ga K "PlainFile") "__init__")
  m_PlainFile_is_dir : Meth K (He.ga K "PlainFile") "is_dir" (He.ma K (He.ga K "PlainFile") "is_dir")
  m_PlainFile_blocks_used : Meth K (He.ga K "PlainFile") "blocks_used" (He.ma K (He.ga K "PlainFile") "blocks_used")
  m_PlainFile_told : Meth K (He.ga K "PlainFile") "told" (He.ma K (He.ga K "PlainFile") "told")
  a_PlainFile_slots : NoAttr K (He.ga K "PlainFile") "slots"
  a_PlainFile_contents : NoAttr K (He.ga K "PlainFile") "contents"
  a_PlainFile_links : NoAttr K (He.ga K "PlainFile") "links"
  a_PlainFile_holds : NoAttr K (He.ga K "PlainFile") "holds"
  c_PlainDir : Cls K (He.ga K "PlainDir")
  m_PlainDir : Mk K (He.ga K "PlainDir") (He.ma K (He.ga K "PlainDir") "__init__")
  m_PlainDir_is_dir : Meth K (He.ga K "PlainDir") "is_dir" (He.ma K (He.ga K "PlainDir") "is_dir")
  m_PlainDir_blocks_used : Meth K (He.ga K "PlainDir") "blocks_used" (He.ma K (He.ga K "PlainDir") "blocks_used")
  m_PlainDir_told : Meth K (He.ga K "PlainDir") "told" (He.ma K (He.ga K "PlainDir") "told")
  m_PlainDir_node_of : Meth K (He.ga K "PlainDir") "node_of" (He.ma K (He.ga K "PlainDir") "node_of")
  m_PlainDir_names_in : Meth K (He.ga K "PlainDir") "names_in" (He.ma K (He.ga K "PlainDir") "names_in")
  m_PlainDir_add_name : Meth K (He.ga K "PlainDir") "add_name" (He.ma K (He.ga K "PlainDir") "add_name")
  m_PlainDir_drop_name : Meth K (He.ga K "PlainDir") "drop_name" (He.ma K (He.ga K "PlainDir") "drop_name")
  a_PlainDir_slots : NoAttr K (He.ga K "PlainDir") "slots"
  a_PlainDir_contents : NoAttr K (He.ga K "PlainDir") "contents"
  a_PlainDir_links : NoAttr K (He.ga K "PlainDir") "links"
  a_PlainDir_holds : NoAttr K (He.ga K "PlainDir") "holds"
  c_PlainFiles : Cls K (He.ga K "PlainFiles")
  m_PlainFiles : Mk K (He.ga K "PlainFiles") (He.ma K (He.ga K "PlainFiles") "__init__")
  m_PlainFiles_find : Meth K (He.ga K "PlainFiles") "find" (He.ma K (He.ga K "PlainFiles") "find")
  m_PlainFiles_make : Meth K (He.ga K "PlainFiles") "make" (He.ma K (He.ga K "PlainFiles") "make")
  m_PlainFiles_make_dir : Meth K (He.ga K "PlainFiles") "make_dir" (He.ma K (He.ga K "PlainFiles") "make_dir")
  m_PlainFiles_link : Meth K (He.ga K "PlainFiles") "link" (He.ma K (He.ga K "PlainFiles") "link")
  m_PlainFiles_unlink : Meth K (He.ga K "PlainFiles") "unlink" (He.ma K (He.ga K "PlainFiles") "unlink")
  m_PlainFiles_remove_dir : Meth K (He.ga K "PlainFiles") "remove_dir" (He.ma K (He.ga K "PlainFiles") "remove_dir")
  m_PlainFiles_move : Meth K (He.ga K "PlainFiles") "move" (He.ma K (He.ga K "PlainFiles") "move")
  m_PlainFiles_names : Meth K (He.ga K "PlainFiles") "names" (He.ma K (He.ga K "PlainFiles") "names")
  m_PlainFiles_stat : Meth K (He.ga K "PlainFiles") "stat" (He.ma K (He.ga K "PlainFiles") "stat")
  m_PlainFiles_free : Meth K (He.ga K "PlainFiles") "free" (He.ma K (He.ga K "PlainFiles") "free")
  a_PlainFiles_blocks : NoAttr K (He.ga K "PlainFiles") "blocks"
  a_PlainFiles_nodes : NoAttr K (He.ga K "PlainFiles") "nodes"
  e_BadName : ExcC K (He.ga K "BadName")
  o_BadName : clsOk K (He.ga K "BadName") = true
  o_NoName : clsOk K (He.ga K "NoName") = true
  o_NotDir : clsOk K (He.ga K "NotDir") = true
  o_IsDir : clsOk K (He.ga K "IsDir") = true
  o_NotEmpty : clsOk K (He.ga K "NotEmpty") = true
  o_Inside : clsOk K (He.ga K "Inside") = true
  o_NoNode : clsOk K (He.ga K "NoNode") = true
  o_NoSpace : clsOk K (He.ga K "NoSpace") = true
  o_TooMany : clsOk K (He.ga K "TooMany") = true
  o_TooBig : clsOk K (He.ga K "TooBig") = true
  o_NotHeld : clsOk K (He.ga K "NotHeld") = true
  o_NotAllowed : clsOk K (He.ga K "NotAllowed") = true
  o_Taken : clsOk K (He.ga K "Taken") = true
  w_BadName : mroB K (He.ga K "BadName") [(.ref (He.ga K "BadName")), (.ref (He.ga K "NoName")), (.ref (He.ga K "NotDir")), (.ref (He.ga K "IsDir")), (.ref (He.ga K "NotEmpty")), (.ref (He.ga K "Inside")), (.ref (He.ga K "NoNode")), (.ref (He.ga K "NoSpace")), (.ref (He.ga K "TooMany")), (.ref (He.ga K "TooBig")), (.ref (He.ga K "NotHeld")), (.ref (He.ga K "NotAllowed")), (.ref (He.ga K "Taken")), (.type "ValueError")] [true, false, false, false, false, false, false, false, false, false, false, false, false, true] = true
  y_BadName_KernelError : PySem.W.exmOne K (.ref (He.ga K "BadName")) (.ref (He.ga K "KernelError")) = some true
  e_NoNode : ExcC K (He.ga K "NoNode")
  w_NoNode : mroB K (He.ga K "NoNode") [(.ref (He.ga K "BadName")), (.ref (He.ga K "NoName")), (.ref (He.ga K "NotDir")), (.ref (He.ga K "IsDir")), (.ref (He.ga K "NotEmpty")), (.ref (He.ga K "Inside")), (.ref (He.ga K "NoNode")), (.ref (He.ga K "NoSpace")), (.ref (He.ga K "TooMany")), (.ref (He.ga K "TooBig")), (.ref (He.ga K "NotHeld")), (.ref (He.ga K "NotAllowed")), (.ref (He.ga K "Taken")), (.type "ValueError")] [false, false, false, false, false, false, true, false, false, false, false, false, false, true] = true
  y_NoNode_KernelError : PySem.W.exmOne K (.ref (He.ga K "NoNode")) (.ref (He.ga K "KernelError")) = some true
  e_NotDir : ExcC K (He.ga K "NotDir")
  w_NotDir : mroB K (He.ga K "NotDir") [(.ref (He.ga K "BadName")), (.ref (He.ga K "NoName")), (.ref (He.ga K "NotDir")), (.ref (He.ga K "IsDir")), (.ref (He.ga K "NotEmpty")), (.ref (He.ga K "Inside")), (.ref (He.ga K "NoNode")), (.ref (He.ga K "NoSpace")), (.ref (He.ga K "TooMany")), (.ref (He.ga K "TooBig")), (.ref (He.ga K "NotHeld")), (.ref (He.ga K "NotAllowed")), (.ref (He.ga K "Taken")), (.type "ValueError")] [false, false, true, false, false, false, false, false, false, false, false, false, false, true] = true
  y_NotDir_KernelError : PySem.W.exmOne K (.ref (He.ga K "NotDir")) (.ref (He.ga K "KernelError")) = some true
  e_NoName : ExcC K (He.ga K "NoName")
  w_NoName : mroB K (He.ga K "NoName") [(.ref (He.ga K "BadName")), (.ref (He.ga K "NoName")), (.ref (He.ga K "NotDir")), (.ref (He.ga K "IsDir")), (.ref (He.ga K "NotEmpty")), (.ref (He.ga K "Inside")), (.ref (He.ga K "NoNode")), (.ref (He.ga K "NoSpace")), (.ref (He.ga K "TooMany")), (.ref (He.ga K "TooBig")), (.ref (He.ga K "NotHeld")), (.ref (He.ga K "NotAllowed")), (.ref (He.ga K "Taken")), (.type "ValueError")] [false, true, false, false, false, false, false, false, false, false, false, false, false, true] = true
  y_NoName_KernelError : PySem.W.exmOne K (.ref (He.ga K "NoName")) (.ref (He.ga K "KernelError")) = some true
  e_Taken : ExcC K (He.ga K "Taken")
  w_Taken : mroB K (He.ga K "Taken") [(.ref (He.ga K "BadName")), (.ref (He.ga K "NoName")), (.ref (He.ga K "NotDir")), (.ref (He.ga K "IsDir")), (.ref (He.ga K "NotEmpty")), (.ref (He.ga K "Inside")), (.ref (He.ga K "NoNode")), (.ref (He.ga K "NoSpace")), (.ref (He.ga K "TooMany")), (.ref (He.ga K "TooBig")), (.ref (He.ga K "NotHeld")), (.ref (He.ga K "NotAllowed")), (.ref (He.ga K "Taken")), (.type "ValueError")] [false, false, false, false, false, false, false, false, false, false, false, false, true, true] = true
  y_Taken_KernelError : PySem.W.exmOne K (.ref (He.ga K "Taken")) (.ref (He.ga K "KernelError")) = some true
  e_TooMany : ExcC K (He.ga K "TooMany")
  w_TooMany : mroB K (He.ga K "TooMany") [(.ref (He.ga K "BadName")), (.ref (He.ga K "NoName")), (.ref (He.ga K "NotDir")), (.ref (He.ga K "IsDir")), (.ref (He.ga K "NotEmpty")), (.ref (He.ga K "Inside")), (.ref (He.ga K "NoNode")), (.ref (He.ga K "NoSpace")), (.ref (He.ga K "TooMany")), (.ref (He.ga K "TooBig")), (.ref (He.ga K "NotHeld")), (.ref (He.ga K "NotAllowed")), (.ref (He.ga K "Taken")), (.type "ValueError")] [false, false, false, false, false, false, false, false, true, false, false, false, false, true] = true
  y_TooMany_KernelError : PySem.W.exmOne K (.ref (He.ga K "TooMany")) (.ref (He.ga K "KernelError")) = some true
  e_NoSpace : ExcC K (He.ga K "NoSpace")
  w_NoSpace : mroB K (He.ga K "NoSpace") [(.ref (He.ga K "BadName")), (.ref (He.ga K "NoName")), (.ref (He.ga K "NotDir")), (.ref (He.ga K "IsDir")), (.ref (He.ga K "NotEmpty")), (.ref (He.ga K "Inside")), (.ref (He.ga K "NoNode")), (.ref (He.ga K "NoSpace")), (.ref (He.ga K "TooMany")), (.ref (He.ga K "TooBig")), (.ref (He.ga K "NotHeld")), (.ref (He.ga K "NotAllowed")), (.ref (He.ga K "Taken")), (.type "ValueError")] [false, false, false, false, false, false, false, true, false, false, false, false, false, true] = true
  y_NoSpace_KernelError : PySem.W.exmOne K (.ref (He.ga K "NoSpace")) (.ref (He.ga K "KernelError")) = some true
  e_IsDir : ExcC K (He.ga K "IsDir")
  w_IsDir : mroB K (He.ga K "IsDir") [(.ref (He.ga K "BadName")), (.ref (He.ga K "NoName")), (.ref (He.ga K "NotDir")), (.ref (He.ga K "IsDir")), (.ref (He.ga K "NotEmpty")), (.ref (He.ga K "Inside")), (.ref (He.ga K "NoNode")), (.ref (He.ga K "NoSpace")), (.ref (He.ga K "TooMany")), (.ref (He.ga K "TooBig")), (.ref (He.ga K "NotHeld")), (.ref (He.ga K "NotAllowed")), (.ref (He.ga K "Taken")), (.type "ValueError")] [false, false, false, true, false, false, false, false, false, false, false, false, false, true] = true
  y_IsDir_KernelError : PySem.W.exmOne K (.ref (He.ga K "IsDir")) (.ref (He.ga K "KernelError")) = some true
  e_NotAllowed : ExcC K (He.ga K "NotAllowed")
  w_NotAllowed : mroB K (He.ga K "NotAllowed") [(.ref (He.ga K "BadName")), (.ref (He.ga K "NoName")), (.ref (He.ga K "NotDir")), (.ref (He.ga K "IsDir")), (.ref (He.ga K "NotEmpty")), (.ref (He.ga K "Inside")), (.ref (He.ga K "NoNode")), (.ref (He.ga K "NoSpace")), (.ref (He.ga K "TooMany")), (.ref (He.ga K "TooBig")), (.ref (He.ga K "NotHeld")), (.ref (He.ga K "NotAllowed")), (.ref (He.ga K "Taken")), (.type "ValueError")] [false, false, false, false, false, false, false, false, false, false, false, true, false, true] = true
  y_NotAllowed_KernelError : PySem.W.exmOne K (.ref (He.ga K "NotAllowed")) (.ref (He.ga K "KernelError")) = some true
  e_NotEmpty : ExcC K (He.ga K "NotEmpty")
  w_NotEmpty : mroB K (He.ga K "NotEmpty") [(.ref (He.ga K "BadName")), (.ref (He.ga K "NoName")), (.ref (He.ga K "NotDir")), (.ref (He.ga K "IsDir")), (.ref (He.ga K "NotEmpty")), (.ref (He.ga K "Inside")), (.ref (He.ga K "NoNode")), (.ref (He.ga K "NoSpace")), (.ref (He.ga K "TooMany")), (.ref (He.ga K "TooBig")), (.ref (He.ga K "NotHeld")), (.ref (He.ga K "NotAllowed")), (.ref (He.ga K "Taken")), (.type "ValueError")] [false, false, false, false, true, false, false, false, false, false, false, false, false, true] = true
  y_NotEmpty_KernelError : PySem.W.exmOne K (.ref (He.ga K "NotEmpty")) (.ref (He.ga K "KernelError")) = some true
  e_Inside : ExcC K (He.ga K "Inside")
  w_Inside : mroB K (He.ga K "Inside") [(.ref (He.ga K "BadName")), (.ref (He.ga K "NoName")), (.ref (He.ga K "NotDir")), (.ref (He.ga K "IsDir")), (.ref (He.ga K "NotEmpty")), (.ref (He.ga K "Inside")), (.ref (He.ga K "NoNode")), (.ref (He.ga K "NoSpace")), (.ref (He.ga K "TooMany")), (.ref (He.ga K "TooBig")), (.ref (He.ga K "NotHeld")), (.ref (He.ga K "NotAllowed")), (.ref (He.ga K "Taken")), (.type "ValueError")] [false, false, false, false, false, true, false, false, false, false, false, false, false, true] = true
  y_Inside_KernelError : PySem.W.exmOne K (.ref (He.ga K "Inside")) (.ref (He.ga K "KernelError")) = some true
  k_BadName_BadName : PySem.W.kitOne K (.ref (He.ga K "BadName")) (.ref (He.ga K "BadName")) = some true
  k_BadName_NoName : PySem.W.kitOne K (.ref (He.ga K "BadName")) (.ref (He.ga K "NoName")) = some false
  k_BadName_NotDir : PySem.W.kitOne K (.ref (He.ga K "BadName")) (.ref (He.ga K "NotDir")) = some false
  k_BadName_IsDir : PySem.W.kitOne K (.ref (He.ga K "BadName")) (.ref (He.ga K "IsDir")) = some false
  k_BadName_NotEmpty : PySem.W.kitOne K (.ref (He.ga K "BadName")) (.ref (He.ga K "NotEmpty")) = some false
  k_BadName_Inside : PySem.W.kitOne K (.ref (He.ga K "BadName")) (.ref (He.ga K "Inside")) = some false
  k_BadName_NoNode : PySem.W.kitOne K (.ref (He.ga K "BadName")) (.ref (He.ga K "NoNode")) = some false
  k_BadName_NoSpace : PySem.W.kitOne K (.ref (He.ga K "BadName")) (.ref (He.ga K "NoSpace")) = some false
  k_BadName_TooMany : PySem.W.kitOne K (.ref (He.ga K "BadName")) (.ref (He.ga K "TooMany")) = some false
  k_BadName_TooBig : PySem.W.kitOne K (.ref (He.ga K "BadName")) (.ref (He.ga K "TooBig")) = some false
  k_BadName_NotHeld : PySem.W.kitOne K (.ref (He.ga K "BadName")) (.ref (He.ga K "NotHeld")) = some false
  k_BadName_NotAllowed : PySem.W.kitOne K (.ref (He.ga K "BadName")) (.ref (He.ga K "NotAllowed")) = some false
  k_BadName_Taken : PySem.W.kitOne K (.ref (He.ga K "BadName")) (.ref (He.ga K "Taken")) = some false
  k_BadName_ValueError : PySem.W.kitOne K (.ref (He.ga K "BadName")) (.type "ValueError") = some true
  k_NoNode_BadName : PySem.W.kitOne K (.ref (He.ga K "NoNode")) (.ref (He.ga K "BadName")) = some false
  k_NoNode_NoName : PySem.W.kitOne K (.ref (He.ga K "NoNode")) (.ref (He.ga K "NoName")) = some false
  k_NoNode_NotDir : PySem.W.kitOne K (.ref (He.ga K "NoNode")) (.ref (He.ga K "NotDir")) = some false
  k_NoNode_IsDir : PySem.W.kitOne K (.ref (He.ga K "NoNode")) (.ref (He.ga K "IsDir")) = some false
  k_NoNode_NotEmpty : PySem.W.kitOne K (.ref (He.ga K "NoNode")) (.ref (He.ga K "NotEmpty")) = some false
  k_NoNode_Inside : PySem.W.kitOne K (.ref (He.ga K "NoNode")) (.ref (He.ga K "Inside")) = some false
  k_NoNode_NoNode : PySem.W.kitOne K (.ref (He.ga K "NoNode")) (.ref (He.ga K "NoNode")) = some true
  k_NoNode_NoSpace : PySem.W.kitOne K (.ref (He.ga K "NoNode")) (.ref (He.ga K "NoSpace")) = some false
  k_NoNode_TooMany : PySem.W.kitOne K (.ref (He.ga K "NoNode")) (.ref (He.ga K "TooMany")) = some false
  k_NoNode_TooBig : PySem.W.kitOne K (.ref (He.ga K "NoNode")) (.ref (He.ga K "TooBig")) = some false
  k_NoNode_NotHeld : PySem.W.kitOne K (.ref (He.ga K "NoNode")) (.ref (He.ga K "NotHeld")) = some false
  k_NoNode_NotAllowed : PySem.W.kitOne K (.ref (He.ga K "NoNode")) (.ref (He.ga K "NotAllowed")) = some false
  k_NoNode_Taken : PySem.W.kitOne K (.ref (He.ga K "NoNode")) (.ref (He.ga K "Taken")) = some false
  k_NoNode_ValueError : PySem.W.kitOne K (.ref (He.ga K "NoNode")) (.type "ValueError") = some true
  k_NotDir_BadName : PySem.W.kitOne K (.ref (He.ga K "NotDir")) (.ref (He.ga K "BadName")) = some false
  k_NotDir_NoName : PySem.W.kitOne K (.ref (He.ga K "NotDir")) (.ref (He.ga K "NoName")) = some false
  k_NotDir_NotDir : PySem.W.kitOne K (.ref (He.ga K "NotDir")) (.ref (He.ga K "NotDir")) = some true
  k_NotDir_IsDir : PySem.W.kitOne K (.ref (He.ga K "NotDir")) (.ref (He.ga K "IsDir")) = some false
  k_NotDir_NotEmpty : PySem.W.kitOne K (.ref (He.ga K "NotDir")) (.ref (He.ga K "NotEmpty")) = some false
  k_NotDir_Inside : PySem.W.kitOne K (.ref (He.ga K "NotDir")) (.ref (He.ga K "Inside")) = some false
  k_NotDir_NoNode : PySem.W.kitOne K (.ref (He.ga K "NotDir")) (.ref (He.ga K "NoNode")) = some false
  k_NotDir_NoSpace : PySem.W.kitOne K (.ref (He.ga K "NotDir")) (.ref (He.ga K "NoSpace")) = some false
  k_NotDir_TooMany : PySem.W.kitOne K (.ref (He.ga K "NotDir")) (.ref (He.ga K "TooMany")) = some false
  k_NotDir_TooBig : PySem.W.kitOne K (.ref (He.ga K "NotDir")) (.ref (He.ga K "TooBig")) = some false
  k_NotDir_NotHeld : PySem.W.kitOne K (.ref (He.ga K "NotDir")) (.ref (He.ga K "NotHeld")) = some false
  k_NotDir_NotAllowed : PySem.W.kitOne K (.ref (He.ga K "NotDir")) (.ref (He.ga K "NotAllowed")) = some false
  k_NotDir_Taken : PySem.W.kitOne K (.ref (He.ga K "NotDir")) (.ref (He.ga K "Taken")) = some false
  k_NotDir_ValueError : PySem.W.kitOne K (.ref (He.ga K "NotDir")) (.type "ValueError") = some true
  k_NoName_BadName : PySem.W.kitOne K (.ref (He.ga K "NoName")) (.ref (He.ga K "BadName")) = some false
  k_NoName_NoName : PySem.W.kitOne K (.ref (He.ga K "NoName")) (.ref (He.ga K "NoName")) = some true
  k_NoName_NotDir : PySem.W.kitOne K (.ref (He.ga K "NoName")) (.ref (He.ga K "NotDir")) = some false
  k_NoName_IsDir : PySem.W.kitOne K (.ref (He.ga K "NoName")) (.ref (He.ga K "IsDir")) = some false
  k_NoName_NotEmpty : PySem.W.kitOne K (.ref (He.ga K "NoName")) (.ref (He.ga K "NotEmpty")) = some false
  k_NoName_Inside : PySem.W.kitOne K (.ref (He.ga K "NoName")) (.ref (He.ga K "Inside")) = some false
  k_NoName_NoNode : PySem.W.kitOne K (.ref (He.ga K "NoName")) (.ref (He.ga K "NoNode")) = some false
  k_NoName_NoSpace : PySem.W.kitOne K (.ref (He.ga K "NoName")) (.ref (He.ga K "NoSpace")) = some false
  k_NoName_TooMany : PySem.W.kitOne K (.ref (He.ga K "NoName")) (.ref (He.ga K "TooMany")) = some false
  k_NoName_TooBig : PySem.W.kitOne K (.ref (He.ga K "NoName")) (.ref (He.ga K "TooBig")) = some false
  k_NoName_NotHeld : PySem.W.kitOne K (.ref (He.ga K "NoName")) (.ref (He.ga K "NotHeld")) = some false
  k_NoName_NotAllowed : PySem.W.kitOne K (.ref (He.ga K "NoName")) (.ref (He.ga K "NotAllowed")) = some false
  k_NoName_Taken : PySem.W.kitOne K (.ref (He.ga K "NoName")) (.ref (He.ga K "Taken")) = some false
  k_NoName_ValueError : PySem.W.kitOne K (.ref (He.ga K "NoName")) (.type "ValueError") = some true
  k_Taken_BadName : PySem.W.kitOne K (.ref (He.ga K "Taken")) (.ref (He.ga K "BadName")) = some false
  k_Taken_NoName : PySem.W.kitOne K (.ref (He.ga K "Taken")) (.ref (He.ga K "NoName")) = some false
  k_Taken_NotDir : PySem.W.kitOne K (.ref (He.ga K "Taken")) (.ref (He.ga K "NotDir")) = some false
  k_Taken_IsDir : PySem.W.kitOne K (.ref (He.ga K "Taken")) (.ref (He.ga K "IsDir")) = some false
  k_Taken_NotEmpty : PySem.W.kitOne K (.ref (He.ga K "Taken")) (.ref (He.ga K "NotEmpty")) = some false
  k_Taken_Inside : PySem.W.kitOne K (.ref (He.ga K "Taken")) (.ref (He.ga K "Inside")) = some false
  k_Taken_NoNode : PySem.W.kitOne K (.ref (He.ga K "Taken")) (.ref (He.ga K "NoNode")) = some false
  k_Taken_NoSpace : PySem.W.kitOne K (.ref (He.ga K "Taken")) (.ref (He.ga K "NoSpace")) = some false
  k_Taken_TooMany : PySem.W.kitOne K (.ref (He.ga K "Taken")) (.ref (He.ga K "TooMany")) = some false
  k_Taken_TooBig : PySem.W.kitOne K (.ref (He.ga K "Taken")) (.ref (He.ga K "TooBig")) = some false
  k_Taken_NotHeld : PySem.W.kitOne K (.ref (He.ga K "Taken")) (.ref (He.ga K "NotHeld")) = some false
  k_Taken_NotAllowed : PySem.W.kitOne K (.ref (He.ga K "Taken")) (.ref (He.ga K "NotAllowed")) = some false
  k_Taken_Taken : PySem.W.kitOne K (.ref (He.ga K "Taken")) (.ref (He.ga K "Taken")) = some true
  k_Taken_ValueError : PySem.W.kitOne K (.ref (He.ga K "Taken")) (.type "ValueError") = some true
  k_TooMany_BadName : PySem.W.kitOne K (.ref (He.ga K "TooMany")) (.ref (He.ga K "BadName")) = some false
  k_TooMany_NoName : PySem.W.kitOne K (.ref (He.ga K "TooMany")) (.ref (He.ga K "NoName")) = some false
  k_TooMany_NotDir : PySem.W.kitOne K (.ref (He.ga K "TooMany")) (.ref (He.ga K "NotDir")) = some false
  k_TooMany_IsDir : PySem.W.kitOne K (.ref (He.ga K "TooMany")) (.ref (He.ga K "IsDir")) = some false
  k_TooMany_NotEmpty : PySem.W.kitOne K (.ref (He.ga K "TooMany")) (.ref (He.ga K "NotEmpty")) = some false
  k_TooMany_Inside : PySem.W.kitOne K (.ref (He.ga K "TooMany")) (.ref (He.ga K "Inside")) = some false
  k_TooMany_NoNode : PySem.W.kitOne K (.ref (He.ga K "TooMany")) (.ref (He.ga K "NoNode")) = some false
  k_TooMany_NoSpace : PySem.W.kitOne K (.ref (He.ga K "TooMany")) (.ref (He.ga K "NoSpace")) = some false
  k_TooMany_TooMany : PySem.W.kitOne K (.ref (He.ga K "TooMany")) (.ref (He.ga K "TooMany")) = some true
  k_TooMany_TooBig : PySem.W.kitOne K (.ref (He.ga K "TooMany")) (.ref (He.ga K "TooBig")) = some false
  k_TooMany_NotHeld : PySem.W.kitOne K (.ref (He.ga K "TooMany")) (.ref (He.ga K "NotHeld")) = some false
  k_TooMany_NotAllowed : PySem.W.kitOne K (.ref (He.ga K "TooMany")) (.ref (He.ga K "NotAllowed")) = some false
  k_TooMany_Taken : PySem.W.kitOne K (.ref (He.ga K "TooMany")) (.ref (He.ga K "Taken")) = some false
  k_TooMany_ValueError : PySem.W.kitOne K (.ref (He.ga K "TooMany")) (.type "ValueError") = some true
  k_NoSpace_BadName : PySem.W.kitOne K (.ref (He.ga K "NoSpace")) (.ref (He.ga K "BadName")) = some false
  k_NoSpace_NoName : PySem.W.kitOne K (.ref (He.ga K "NoSpace")) (.ref (He.ga K "NoName")) = some false
  k_NoSpace_NotDir : PySem.W.kitOne K (.ref (He.ga K "NoSpace")) (.ref (He.ga K "NotDir")) = some false
  k_NoSpace_IsDir : PySem.W.kitOne K (.ref (He.ga K "NoSpace")) (.ref (He.ga K "IsDir")) = some false
  k_NoSpace_NotEmpty : PySem.W.kitOne K (.ref (He.ga K "NoSpace")) (.ref (He.ga K "NotEmpty")) = some false
  k_NoSpace_Inside : PySem.W.kitOne K (.ref (He.ga K "NoSpace")) (.ref (He.ga K "Inside")) = some false
  k_NoSpace_NoNode : PySem.W.kitOne K (.ref (He.ga K "NoSpace")) (.ref (He.ga K "NoNode")) = some false
  k_NoSpace_NoSpace : PySem.W.kitOne K (.ref (He.ga K "NoSpace")) (.ref (He.ga K "NoSpace")) = some true
  k_NoSpace_TooMany : PySem.W.kitOne K (.ref (He.ga K "NoSpace")) (.ref (He.ga K "TooMany")) = some false
  k_NoSpace_TooBig : PySem.W.kitOne K (.ref (He.ga K "NoSpace")) (.ref (He.ga K "TooBig")) = some false
  k_NoSpace_NotHeld : PySem.W.kitOne K (.ref (He.ga K "NoSpace")) (.ref (He.ga K "NotHeld")) = some false
  k_NoSpace_NotAllowed : PySem.W.kitOne K (.ref (He.ga K "NoSpace")) (.ref (He.ga K "NotAllowed")) = some false
  k_NoSpace_Taken : PySem.W.kitOne K (.ref (He.ga K "NoSpace")) (.ref (He.ga K "Taken")) = some false
  k_NoSpace_ValueError : PySem.W.kitOne K (.ref (He.ga K "NoSpace")) (.type "ValueError") = some true
  k_IsDir_BadName : PySem.W.kitOne K (.ref (He.ga K "IsDir")) (.ref (He.ga K "BadName")) = some false
  k_IsDir_NoName : PySem.W.kitOne K (.ref (He.ga K "IsDir")) (.ref (He.ga K "NoName")) = some false
  k_IsDir_NotDir : PySem.W.kitOne K (.ref (He.ga K "IsDir")) (.ref (He.ga K "NotDir")) = some false
  k_IsDir_IsDir : PySem.W.kitOne K (.ref (He.ga K "IsDir")) (.ref (He.ga K "IsDir")) = some true
  k_IsDir_NotEmpty : PySem.W.kitOne K (.ref (He.ga K "IsDir")) (.ref (He.ga K "NotEmpty")) = some false
  k_IsDir_Inside : PySem.W.kitOne K (.ref (He.ga K "IsDir")) (.ref (He.ga K "Inside")) = some false
  k_IsDir_NoNode : PySem.W.kitOne K (.ref (He.ga K "IsDir")) (.ref (He.ga K "NoNode")) = some false
  k_IsDir_NoSpace : PySem.W.kitOne K (.ref (He.ga K "IsDir")) (.ref (He.ga K "NoSpace")) = some false
  k_IsDir_TooMany : PySem.W.kitOne K (.ref (He.ga K "IsDir")) (.ref (He.ga K "TooMany")) = some false
  k_IsDir_TooBig : PySem.W.kitOne K (.ref (He.ga K "IsDir")) (.ref (He.ga K "TooBig")) = some false
  k_IsDir_NotHeld : PySem.W.kitOne K (.ref (He.ga K "IsDir")) (.ref (He.ga K "NotHeld")) = some false
  k_IsDir_NotAllowed : PySem.W.kitOne K (.ref (He.ga K "IsDir")) (.ref (He.ga K "NotAllowed")) = some false
  k_IsDir_Taken : PySem.W.kitOne K (.ref (He.ga K "IsDir")) (.ref (He.ga K "Taken")) = some false
  k_IsDir_ValueError : PySem.W.kitOne K (.ref (He.ga K "IsDir")) (.type "ValueError") = some true
  k_NotAllowed_BadName : PySem.W.kitOne K (.ref (He.ga K "NotAllowed")) (.ref (He.ga K "BadName")) = some false
  k_NotAllowed_NoName : PySem.W.kitOne K (.ref (He.ga K "NotAllowed")) (.ref (He.ga K "NoName")) = some false
  k_NotAllowed_NotDir : PySem.W.kitOne K (.ref (He.ga K "NotAllowed")) (.ref (He.ga K "NotDir")) = some false
  k_NotAllowed_IsDir : PySem.W.kitOne K (.ref (He.ga K "NotAllowed")) (.ref (He.ga K "IsDir")) = some false
  k_NotAllowed_NotEmpty : PySem.W.kitOne K (.ref (He.ga K "NotAllowed")) (.ref (He.ga K "NotEmpty")) = some false
  k_NotAllowed_Inside : PySem.W.kitOne K (.ref (He.ga K "NotAllowed")) (.ref (He.ga K "Inside")) = some false
  k_NotAllowed_NoNode : PySem.W.kitOne K (.ref (He.ga K "NotAllowed")) (.ref (He.ga K "NoNode")) = some false
  k_NotAllowed_NoSpace : PySem.W.kitOne K (.ref (He.ga K "NotAllowed")) (.ref (He.ga K "NoSpace")) = some false
  k_NotAllowed_TooMany : PySem.W.kitOne K (.ref (He.ga K "NotAllowed")) (.ref (He.ga K "TooMany")) = some false
  k_NotAllowed_TooBig : PySem.W.kitOne K (.ref (He.ga K "NotAllowed")) (.ref (He.ga K "TooBig")) = some false
  k_NotAllowed_NotHeld : PySem.W.kitOne K (.ref (He.ga K "NotAllowed")) (.ref (He.ga K "NotHeld")) = some false
  k_NotAllowed_NotAllowed : PySem.W.kitOne K (.ref (He.ga K "NotAllowed")) (.ref (He.ga K "NotAllowed")) = some true
  k_NotAllowed_Taken : PySem.W.kitOne K (.ref (He.ga K "NotAllowed")) (.ref (He.ga K "Taken")) = some false
  k_NotAllowed_ValueError : PySem.W.kitOne K (.ref (He.ga K "NotAllowed")) (.type "ValueError") = some true
  k_NotEmpty_BadName : PySem.W.kitOne K (.ref (He.ga K "NotEmpty")) (.ref (He.ga K "BadName")) = some false
  k_NotEmpty_NoName : PySem.W.kitOne K (.ref (He.ga K "NotEmpty")) (.ref (He.ga K "NoName")) = some false
  k_NotEmpty_NotDir : PySem.W.kitOne K (.ref (He.ga K "NotEmpty")) (.ref (He.ga K "NotDir")) = some false
  k_NotEmpty_IsDir : PySem.W.kitOne K (.ref (He.ga K "NotEmpty")) (.ref (He.ga K "IsDir")) = some false
  k_NotEmpty_NotEmpty : PySem.W.kitOne K (.ref (He.ga K "NotEmpty")) (.ref (He.ga K "NotEmpty")) = some true
  k_NotEmpty_Inside : PySem.W.kitOne K (.ref (He.ga K "NotEmpty")) (.ref (He.ga K "Inside")) = some false
  k_NotEmpty_NoNode : PySem.W.kitOne K (.ref (He.ga K "NotEmpty")) (.ref (He.ga K "NoNode")) = some false
  k_NotEmpty_NoSpace : PySem.W.kitOne K (.ref (He.ga K "NotEmpty")) (.ref (He.ga K "NoSpace")) = some false
  k_NotEmpty_TooMany : PySem.W.kitOne K (.ref (He.ga K "NotEmpty")) (.ref (He.ga K "TooMany")) = some false
  k_NotEmpty_TooBig : PySem.W.kitOne K (.ref (He.ga K "NotEmpty")) (.ref (He.ga K "TooBig")) = some false
  k_NotEmpty_NotHeld : PySem.W.kitOne K (.ref (He.ga K "NotEmpty")) (.ref (He.ga K "NotHeld")) = some false
  k_NotEmpty_NotAllowed : PySem.W.kitOne K (.ref (He.ga K "NotEmpty")) (.ref (He.ga K "NotAllowed")) = some false
  k_NotEmpty_Taken : PySem.W.kitOne K (.ref (He.ga K "NotEmpty")) (.ref (He.ga K "Taken")) = some false
  k_NotEmpty_ValueError : PySem.W.kitOne K (.ref (He.ga K "NotEmpty")) (.type "ValueError") = some true
  k_Inside_BadName : PySem.W.kitOne K (.ref (He.ga K "Inside")) (.ref (He.ga K "BadName")) = some false
  k_Inside_NoName : PySem.W.kitOne K (.ref (He.ga K "Inside")) (.ref (He.ga K "NoName")) = some false
  k_Inside_NotDir : PySem.W.kitOne K (.ref (He.ga K "Inside")) (.ref (He.ga K "NotDir")) = some false
  k_Inside_IsDir : PySem.W.kitOne K (.ref (He.ga K "Inside")) (.ref (He.ga K "IsDir")) = some false
  k_Inside_NotEmpty : PySem.W.kitOne K (.ref (He.ga K "Inside")) (.ref (He.ga K "NotEmpty")) = some false
  k_Inside_Inside : PySem.W.kitOne K (.ref (He.ga K "Inside")) (.ref (He.ga K "Inside")) = some true
  k_Inside_NoNode : PySem.W.kitOne K (.ref (He.ga K "Inside")) (.ref (He.ga K "NoNode")) = some false
  k_Inside_NoSpace : PySem.W.kitOne K (.ref (He.ga K "Inside")) (.ref (He.ga K "NoSpace")) = some false
  k_Inside_TooMany : PySem.W.kitOne K (.ref (He.ga K "Inside")) (.ref (He.ga K "TooMany")) = some false
  k_Inside_TooBig : PySem.W.kitOne K (.ref (He.ga K "Inside")) (.ref (He.ga K "TooBig")) = some false
  k_Inside_NotHeld : PySem.W.kitOne K (.ref (He.ga K "Inside")) (.ref (He.ga K "NotHeld")) = some false
  k_Inside_NotAllowed : PySem.W.kitOne K (.ref (He.ga K "Inside")) (.ref (He.ga K "NotAllowed")) = some false
  k_Inside_Taken : PySem.W.kitOne K (.ref (He.ga K "Inside")) (.ref (He.ga K "Taken")) = some false
  k_Inside_ValueError : PySem.W.kitOne K (.ref (He.ga K "Inside")) (.type "ValueError") = some true
  d_is_name : ∃ fd, FunD K "is_name" "is_name" (defArgs s_is_name) (defBody s_is_name) (defScope s_is_name) [] [] (He.fAd K ("is_name", none)) fd
  d_names_of : ∃ fd, FunD K "names_of" "names_of" (defArgs s_names_of) (defBody s_names_of) (defScope s_names_of) [] [] (He.fAd K ("names_of", none)) fd
  d_blocks_for : ∃ fd, FunD K "blocks_for" "blocks_for" (defArgs s_blocks_for) (defBody s_blocks_for) (defScope s_blocks_for) [] [] (He.fAd K ("blocks_for", none)) fd
  d_PlainFile___init__ : ∃ fd, FunD K "__init__" "PlainFile.__init__" (defArgs s_PlainFile___init__) (defBody s_PlainFile___init__) (defScope s_PlainFile___init__) [] [] (He.fAd K ("PlainFile", some "__init__")) fd
  d_PlainFile_is_dir : ∃ fd, FunD K "is_dir" "PlainFile.is_dir" (defArgs s_PlainFile_is_dir) (defBody s_PlainFile_is_dir) (defScope s_PlainFile_is_dir) [] [] (He.fAd K ("PlainFile", some "is_dir")) fd
  d_PlainFile_blocks_used : ∃ fd, FunD K "blocks_used" "PlainFile.blocks_used" (defArgs s_PlainFile_blocks_used) (defBody s_PlainFile_blocks_used) (defScope s_PlainFile_blocks_used) [] [] (He.fAd K ("PlainFile", some "blocks_used")) fd
  d_PlainFile_told : ∃ fd, FunD K "told" "PlainFile.told" (defArgs s_PlainFile_told) (defBody s_PlainFile_told) (defScope s_PlainFile_told) [] [] (He.fAd K ("PlainFile", some "told")) fd
  d_PlainDir___init__ : ∃ fd, FunD K "__init__" "PlainDir.__init__" (defArgs s_PlainDir___init__) (defBody s_PlainDir___init__) (defScope s_PlainDir___init__) [] [] (He.fAd K ("PlainDir", some "__init__")) fd
  d_PlainDir_is_dir : ∃ fd, FunD K "is_dir" "PlainDir.is_dir" (defArgs s_PlainDir_is_dir) (defBody s_PlainDir_is_dir) (defScope s_PlainDir_is_dir) [] [] (He.fAd K ("PlainDir", some "is_dir")) fd
  d_PlainDir_blocks_used : ∃ fd, FunD K "blocks_used" "PlainDir.blocks_used" (defArgs s_PlainDir_blocks_used) (defBody s_PlainDir_blocks_used) (defScope s_PlainDir_blocks_used) [] [] (He.fAd K ("PlainDir", some "blocks_used")) fd
  d_PlainDir_told : ∃ fd, FunD K "told" "PlainDir.told" (defArgs s_PlainDir_told) (defBody s_PlainDir_told) (defScope s_PlainDir_told) [] [] (He.fAd K ("PlainDir", some "told")) fd
  d_PlainDir_node_of : ∃ fd, FunD K "node_of" "PlainDir.node_of" (defArgs s_PlainDir_node_of) (defBody s_PlainDir_node_of) (defScope s_PlainDir_node_of) [] [] (He.fAd K ("PlainDir", some "node_of")) fd
  d_PlainDir_names_in : ∃ fd, FunD K "names_in" "PlainDir.names_in" (defArgs s_PlainDir_names_in) (defBody s_PlainDir_names_in) (defScope s_PlainDir_names_in) [] [] (He.fAd K ("PlainDir", some "names_in")) fd
  d_PlainDir_add_name : ∃ fd, FunD K "add_name" "PlainDir.add_name" (defArgs s_PlainDir_add_name) (defBody s_PlainDir_add_name) (defScope s_PlainDir_add_name) [] [] (He.fAd K ("PlainDir", some "add_name")) fd
  d_PlainDir_drop_name : ∃ fd, FunD K "drop_name" "PlainDir.drop_name" (defArgs s_PlainDir_drop_name) (defBody s_PlainDir_drop_name) (defScope s_PlainDir_drop_name) [] [] (He.fAd K ("PlainDir", some "drop_name")) fd
  d_node_known : ∃ fd, FunD K "node_known" "node_known" (defArgs s_node_known) (defBody s_node_known) (defScope s_node_known) [] [] (He.fAd K ("node_known", none)) fd
  d_walked : ∃ fd, FunD K "walked" "walked" (defArgs s_walked) (defBody s_walked) (defScope s_walked) [] [] (He.fAd K ("walked", none)) fd
  d_walked_to_new : ∃ fd, FunD K "walked_to_new" "walked_to_new" (defArgs s_walked_to_new) (defBody s_walked_to_new) (defScope s_walked_to_new) [] [] (He.fAd K ("walked_to_new", none)) fd
  d_blocks_free : ∃ fd, FunD K "blocks_free" "blocks_free" (defArgs s_blocks_free) (defBody s_blocks_free) (defScope s_blocks_free) [] [] (He.fAd K ("blocks_free", none)) fd
  d_look_slot : ∃ fd, FunD K "look_slot" "look_slot" (defArgs s_look_slot) (defBody s_look_slot) (defScope s_look_slot) [] [] (He.fAd K ("look_slot", none)) fd
  d_look_growth : ∃ fd, FunD K "look_growth" "look_growth" (defArgs s_look_growth) (defBody s_look_growth) (defScope s_look_growth) [] [] (He.fAd K ("look_growth", none)) fd
  d_new_node : ∃ fd, FunD K "new_node" "new_node" (defArgs s_new_node) (defBody s_new_node) (defScope s_new_node) [] [] (He.fAd K ("new_node", none)) fd
  d_clear_lost : ∃ fd, FunD K "clear_lost" "clear_lost" (defArgs s_clear_lost) (defBody s_clear_lost) (defScope s_clear_lost) [] [] (He.fAd K ("clear_lost", none)) fd
  d_PlainFiles___init__ : ∃ fd, FunD K "__init__" "PlainFiles.__init__" (defArgs s_PlainFiles___init__) (defBody s_PlainFiles___init__) (defScope s_PlainFiles___init__) [] [] (He.fAd K ("PlainFiles", some "__init__")) fd
  d_PlainFiles_find : ∃ fd, FunD K "find" "PlainFiles.find" (defArgs s_PlainFiles_find) (defBody s_PlainFiles_find) (defScope s_PlainFiles_find) [] [] (He.fAd K ("PlainFiles", some "find")) fd
  d_PlainFiles_make : ∃ fd, FunD K "make" "PlainFiles.make" (defArgs s_PlainFiles_make) (defBody s_PlainFiles_make) (defScope s_PlainFiles_make) [] [] (He.fAd K ("PlainFiles", some "make")) fd
  d_PlainFiles_make_dir : ∃ fd, FunD K "make_dir" "PlainFiles.make_dir" (defArgs s_PlainFiles_make_dir) (defBody s_PlainFiles_make_dir) (defScope s_PlainFiles_make_dir) [] [] (He.fAd K ("PlainFiles", some "make_dir")) fd
  d_PlainFiles_link : ∃ fd, FunD K "link" "PlainFiles.link" (defArgs s_PlainFiles_link) (defBody s_PlainFiles_link) (defScope s_PlainFiles_link) [] [] (He.fAd K ("PlainFiles", some "link")) fd
  d_PlainFiles_unlink : ∃ fd, FunD K "unlink" "PlainFiles.unlink" (defArgs s_PlainFiles_unlink) (defBody s_PlainFiles_unlink) (defScope s_PlainFiles_unlink) [] [] (He.fAd K ("PlainFiles", some "unlink")) fd
  d_PlainFiles_remove_dir : ∃ fd, FunD K "remove_dir" "PlainFiles.remove_dir" (defArgs s_PlainFiles_remove_dir) (defBody s_PlainFiles_remove_dir) (defScope s_PlainFiles_remove_dir) [] [] (He.fAd K ("PlainFiles", some "remove_dir")) fd
  d_PlainFiles_move : ∃ fd, FunD K "move" "PlainFiles.move" (defArgs s_PlainFiles_move) (defBody s_PlainFiles_move) (defScope s_PlainFiles_move) [] [] (He.fAd K ("PlainFiles", some "move")) fd
  d_PlainFiles_names : ∃ fd, FunD K "names" "PlainFiles.names" (defArgs s_PlainFiles_names) (defBody s_PlainFiles_names) (defScope s_PlainFiles_names) [] [] (He.fAd K ("PlainFiles", some "names")) fd
  d_PlainFiles_stat : ∃ fd, FunD K "stat" "PlainFiles.stat" (defArgs s_PlainFiles_stat) (defBody s_PlainFiles_stat) (defScope s_PlainFiles_stat) [] [] (He.fAd K ("PlainFiles", some "stat")) fd
  d_PlainFiles_free : ∃ fd, FunD K "free" "PlainFiles.free" (defArgs s_PlainFiles_free) (defBody s_PlainFiles_free) (defScope s_PlainFiles_free) [] [] (He.fAd K ("PlainFiles", some "free")) fd
  d__law_mixed : ∃ fd, FunD K "_law_mixed" "_law_mixed" (defArgs s__law_mixed) (defBody s__law_mixed) (defScope s__law_mixed) [] [] (He.fAd K ("_law_mixed", none)) fd
  d__law_digit : ∃ fd, FunD K "_law_digit" "_law_digit" (defArgs s__law_digit) (defBody s__law_digit) (defScope s__law_digit) [] [] (He.fAd K ("_law_digit", none)) fd
  d__law_left : ∃ fd, FunD K "_law_left" "_law_left" (defArgs s__law_left) (defBody s__law_left) (defScope s__law_left) [] [] (He.fAd K ("_law_left", none)) fd
  d__law_alike : ∃ fd, FunD K "_law_alike" "_law_alike" (defArgs s__law_alike) (defBody s__law_alike) (defScope s__law_alike) [] [] (He.fAd K ("_law_alike", none)) fd
  d__law_kind : ∃ fd, FunD K "_law_kind" "_law_kind" (defArgs s__law_kind) (defBody s__law_kind) (defScope s__law_kind) [] [] (He.fAd K ("_law_kind", none)) fd
  d__law_done : ∃ fd, FunD K "_law_done" "_law_done" (defArgs s__law_done) (defBody s__law_done) (defScope s__law_done) [] [] (He.fAd K ("_law_done", none)) fd
  d__law_told : ∃ fd, FunD K "_law_told" "_law_told" (defArgs s__law_told) (defBody s__law_told) (defScope s__law_told) [] [] (He.fAd K ("_law_told", none)) fd
  d__law_names : ∃ fd, FunD K "_law_names" "_law_names" (defArgs s__law_names) (defBody s__law_names) (defScope s__law_names) [] [] (He.fAd K ("_law_names", none)) fd
  d__law_begun : ∃ fd, FunD K "_law_begun" "_law_begun" (defArgs s__law_begun) (defBody s__law_begun) (defScope s__law_begun) [] [] (He.fAd K ("_law_begun", none)) fd
  d__law_blocks : ∃ fd, FunD K "_law_blocks" "_law_blocks" (defArgs s__law_blocks) (defBody s__law_blocks) (defScope s__law_blocks) [] [] (He.fAd K ("_law_blocks", none)) fd
  d__law_spare : ∃ fd, FunD K "_law_spare" "_law_spare" (defArgs s__law_spare) (defBody s__law_spare) (defScope s__law_spare) [] [] (He.fAd K ("_law_spare", none)) fd
  d__law_links : ∃ fd, FunD K "_law_links" "_law_links" (defArgs s__law_links) (defBody s__law_links) (defScope s__law_links) [] [] (He.fAd K ("_law_links", none)) fd
  d__law_seek : ∃ fd, FunD K "_law_seek" "_law_seek" (defArgs s__law_seek) (defBody s__law_seek) (defScope s__law_seek) [] [] (He.fAd K ("_law_seek", none)) fd
  d__law_found : ∃ fd, FunD K "_law_found" "_law_found" (defArgs s__law_found) (defBody s__law_found) (defScope s__law_found) [] [] (He.fAd K ("_law_found", none)) fd
  d__law_spot : ∃ fd, FunD K "_law_spot" "_law_spot" (defArgs s__law_spot) (defBody s__law_spot) (defScope s__law_spot) [] [] (He.fAd K ("_law_spot", none)) fd
  d__law_full : ∃ fd, FunD K "_law_full" "_law_full" (defArgs s__law_full) (defBody s__law_full) (defScope s__law_full) [] [] (He.fAd K ("_law_full", none)) fd
  d__law_lacks : ∃ fd, FunD K "_law_lacks" "_law_lacks" (defArgs s__law_lacks) (defBody s__law_lacks) (defScope s__law_lacks) [] [] (He.fAd K ("_law_lacks", none)) fd
  d__law_put : ∃ fd, FunD K "_law_put" "_law_put" (defArgs s__law_put) (defBody s__law_put) (defScope s__law_put) [] [] (He.fAd K ("_law_put", none)) fd
  d__law_freed : ∃ fd, FunD K "_law_freed" "_law_freed" (defArgs s__law_freed) (defBody s__law_freed) (defScope s__law_freed) [] [] (He.fAd K ("_law_freed", none)) fd
  d__law_cleared : ∃ fd, FunD K "_law_cleared" "_law_cleared" (defArgs s__law_cleared) (defBody s__law_cleared) (defScope s__law_cleared) [] [] (He.fAd K ("_law_cleared", none)) fd
  d__law_made : ∃ fd, FunD K "_law_made" "_law_made" (defArgs s__law_made) (defBody s__law_made) (defScope s__law_made) [] [] (He.fAd K ("_law_made", none)) fd
  d__law_linked : ∃ fd, FunD K "_law_linked" "_law_linked" (defArgs s__law_linked) (defBody s__law_linked) (defScope s__law_linked) [] [] (He.fAd K ("_law_linked", none)) fd
  d__law_unlinked : ∃ fd, FunD K "_law_unlinked" "_law_unlinked" (defArgs s__law_unlinked) (defBody s__law_unlinked) (defScope s__law_unlinked) [] [] (He.fAd K ("_law_unlinked", none)) fd
  d__law_removed : ∃ fd, FunD K "_law_removed" "_law_removed" (defArgs s__law_removed) (defBody s__law_removed) (defScope s__law_removed) [] [] (He.fAd K ("_law_removed", none)) fd
  d__law_moved : ∃ fd, FunD K "_law_moved" "_law_moved" (defArgs s__law_moved) (defBody s__law_moved) (defScope s__law_moved) [] [] (He.fAd K ("_law_moved", none)) fd
  d__law_by_path : ∃ fd, FunD K "_law_by_path" "_law_by_path" (defArgs s__law_by_path) (defBody s__law_by_path) (defScope s__law_by_path) [] [] (He.fAd K ("_law_by_path", none)) fd
  d__law_stat : ∃ fd, FunD K "_law_stat" "_law_stat" (defArgs s__law_stat) (defBody s__law_stat) (defScope s__law_stat) [] [] (He.fAd K ("_law_stat", none)) fd
  d__law_named_due : ∃ fd, FunD K "_law_named_due" "_law_named_due" (defArgs s__law_named_due) (defBody s__law_named_due) (defScope s__law_named_due) [] [] (He.fAd K ("_law_named_due", none)) fd
  d__law_due : ∃ fd, FunD K "_law_due" "_law_due" (defArgs s__law_due) (defBody s__law_due) (defScope s__law_due) [] [] (He.fAd K ("_law_due", none)) fd
  d__law_right : ∃ fd, FunD K "_law_right" "_law_right" (defArgs s__law_right) (defBody s__law_right) (defScope s__law_right) [] [] (He.fAd K ("_law_right", none)) fd
  d__law_path : ∃ fd, FunD K "_law_path" "_law_path" (defArgs s__law_path) (defBody s__law_path) (defScope s__law_path) [] [] (He.fAd K ("_law_path", none)) fd
  d__law_node : ∃ fd, FunD K "_law_node" "_law_node" (defArgs s__law_node) (defBody s__law_node) (defScope s__law_node) [] [] (He.fAd K ("_law_node", none)) fd
  d__law_letters : ∃ fd, FunD K "_law_letters" "_law_letters" (defArgs s__law_letters) (defBody s__law_letters) (defScope s__law_letters) [] [] (He.fAd K ("_law_letters", none)) fd
  d__law_deeds : ∃ fd, FunD K "_law_deeds" "_law_deeds" (defArgs s__law_deeds) (defBody s__law_deeds) (defScope s__law_deeds) [] [] (He.fAd K ("_law_deeds", none)) fd
  d_law : ∃ fd, FunD K "law" "law" (defArgs s_law) (defBody s_law) (defScope s_law) [] [] (He.fAd K ("law", none)) fd

theorem txt_mk {K : PySem.W.Frag} {h : Heap} {mg : Str → Option Value} (X : K.In h) (G : h.Ns mainGlobals mg) (c : He.SaysD fas fns K) (m : exB K = true) : Txt K mg where
  g_KernelError := He.glo_ok X G (c.fact 0 (f := .glo "KernelError") rfl)
  g_Taken := He.glo_ok X G (c.fact 1 (f := .glo "Taken") rfl)
  g_BadName := He.glo_ok X G (c.fact 2 (f := .glo "BadName") rfl)
  g_NoName := He.glo_ok X G (c.fact 3 (f := .glo "NoName") rfl)
  g_NotDir := He.glo_ok X G (c.fact 4 (f := .glo "NotDir") rfl)
  g_IsDir := He.glo_ok X G (c.fact 5 (f := .glo "IsDir") rfl)
  g_NotEmpty := He.glo_ok X G (c.fact 6 (f := .glo "NotEmpty") rfl)
  g_Inside := He.glo_ok X G (c.fact 7 (f := .glo "Inside") rfl)
  g_NoNode := He.glo_ok X G (c.fact 8 (f := .glo "NoNode") rfl)
  g_NoSpace := He.glo_ok X G (c.fact 9 (f := .glo "NoSpace") rfl)
  g_TooMany := He.glo_ok X G (c.fact 10 (f := .glo "TooMany") rfl)
  g_TooBig := He.glo_ok X G (c.fact 11 (f := .glo "TooBig") rfl)
  g_NotHeld := He.glo_ok X G (c.fact 12 (f := .glo "NotHeld") rfl)
  g_NotAllowed := He.glo_ok X G (c.fact 13 (f := .glo "NotAllowed") rfl)
  g_SMALL := He.str_ok X G (c.fact 14 (f := .str "SMALL" "abcdefghijklmnopqrstuvwxyz") rfl)
  g_LONGEST := He.int_ok X G (c.fact 15 (f := .int "LONGEST" 6) rfl)
  g_is_name := He.glo_ok X G (c.fact 16 (f := .glo "is_name") rfl)
  g_names_of := He.glo_ok X G (c.fact 17 (f := .glo "names_of") rfl)
  g_SLOT_CELLS := He.int_ok X G (c.fact 18 (f := .int "SLOT_CELLS" 8) rfl)
  g_BLOCK_CELLS := He.int_ok X G (c.fact 19 (f := .int "BLOCK_CELLS" 16) rfl)
  g_PLAIN_CELLS := He.int_ok X G (c.fact 20 (f := .int "PLAIN_CELLS" 64) rfl)
  g_blocks_for := He.glo_ok X G (c.fact 21 (f := .glo "blocks_for") rfl)
  g_PlainFile := He.glo_ok X G (c.fact 22 (f := .glo "PlainFile") rfl)
  g_PlainDir := He.glo_ok X G (c.fact 23 (f := .glo "PlainDir") rfl)
  g_node_known := He.glo_ok X G (c.fact 24 (f := .glo "node_known") rfl)
  g_MOST_SLOTS := He.int_ok X G (c.fact 25 (f := .int "MOST_SLOTS" 40) rfl)
  g_walked := He.glo_ok X G (c.fact 26 (f := .glo "walked") rfl)
  g_walked_to_new := He.glo_ok X G (c.fact 27 (f := .glo "walked_to_new") rfl)
  g_blocks_free := He.glo_ok X G (c.fact 28 (f := .glo "blocks_free") rfl)
  g_look_slot := He.glo_ok X G (c.fact 29 (f := .glo "look_slot") rfl)
  g_look_growth := He.glo_ok X G (c.fact 30 (f := .glo "look_growth") rfl)
  g_MOST_NODES := He.int_ok X G (c.fact 31 (f := .int "MOST_NODES" 24) rfl)
  g_new_node := He.glo_ok X G (c.fact 32 (f := .glo "new_node") rfl)
  g_clear_lost := He.glo_ok X G (c.fact 33 (f := .glo "clear_lost") rfl)
  g_PlainFiles := He.glo_ok X G (c.fact 34 (f := .glo "PlainFiles") rfl)
  g__law_mixed := He.glo_ok X G (c.fact 35 (f := .glo "_law_mixed") rfl)
  g__law_digit := He.glo_ok X G (c.fact 36 (f := .glo "_law_digit") rfl)
  g__law_left := He.glo_ok X G (c.fact 37 (f := .glo "_law_left") rfl)
  g__law_alike := He.glo_ok X G (c.fact 38 (f := .glo "_law_alike") rfl)
  g__law_kind := He.glo_ok X G (c.fact 39 (f := .glo "_law_kind") rfl)
  g__law_done := He.glo_ok X G (c.fact 40 (f := .glo "_law_done") rfl)
  g__law_told := He.glo_ok X G (c.fact 41 (f := .glo "_law_told") rfl)
  g__law_names := He.glo_ok X G (c.fact 42 (f := .glo "_law_names") rfl)
  g__law_begun := He.glo_ok X G (c.fact 43 (f := .glo "_law_begun") rfl)
  g__law_blocks := He.glo_ok X G (c.fact 44 (f := .glo "_law_blocks") rfl)
  g__law_spare := He.glo_ok X G (c.fact 45 (f := .glo "_law_spare") rfl)
  g__law_links := He.glo_ok X G (c.fact 46 (f := .glo "_law_links") rfl)
  g__law_seek := He.glo_ok X G (c.fact 47 (f := .glo "_law_seek") rfl)
  g__law_found := He.glo_ok X G (c.fact 48 (f := .glo "_law_found") rfl)
  g__law_spot := He.glo_ok X G (c.fact 49 (f := .glo "_law_spot") rfl)
  g__law_full := He.glo_ok X G (c.fact 50 (f := .glo "_law_full") rfl)
  g__law_lacks := He.glo_ok X G (c.fact 51 (f := .glo "_law_lacks") rfl)
  g__law_put := He.glo_ok X G (c.fact 52 (f := .glo "_law_put") rfl)
  g__law_freed := He.glo_ok X G (c.fact 53 (f := .glo "_law_freed") rfl)
  g__law_cleared := He.glo_ok X G (c.fact 54 (f := .glo "_law_cleared") rfl)
  g__law_made := He.glo_ok X G (c.fact 55 (f := .glo "_law_made") rfl)
  g__law_linked := He.glo_ok X G (c.fact 56 (f := .glo "_law_linked") rfl)
  g__law_unlinked := He.glo_ok X G (c.fact 57 (f := .glo "_law_unlinked") rfl)
  g__law_removed := He.glo_ok X G (c.fact 58 (f := .glo "_law_removed") rfl)
  g__law_moved := He.glo_ok X G (c.fact 59 (f := .glo "_law_moved") rfl)
  g__law_by_path := He.glo_ok X G (c.fact 60 (f := .glo "_law_by_path") rfl)
  g__law_stat := He.glo_ok X G (c.fact 61 (f := .glo "_law_stat") rfl)
  g__law_named_due := He.glo_ok X G (c.fact 62 (f := .glo "_law_named_due") rfl)
  g__law_due := He.glo_ok X G (c.fact 63 (f := .glo "_law_due") rfl)
  g__law_right := He.glo_ok X G (c.fact 64 (f := .glo "_law_right") rfl)
  g__law_path := He.glo_ok X G (c.fact 65 (f := .glo "_law_path") rfl)
  g__law_node := He.glo_ok X G (c.fact 66 (f := .glo "_law_node") rfl)
  g__law_letters := He.glo_ok X G (c.fact 67 (f := .glo "_law_letters") rfl)
  g__law_deeds := He.glo_ok X G (c.fact 68 (f := .glo "_law_deeds") rfl)
  g_law := He.glo_ok X G (c.fact 69 (f := .glo "law") rfl)
  n_ValueError := He.free_ok X G (c.fact 70 (f := .free "ValueError") rfl)
  n_min := He.free_ok X G (c.fact 71 (f := .free "min") rfl)
  n_range := He.free_ok X G (c.fact 72 (f := .free "range") rfl)
  n_isinstance := He.free_ok X G (c.fact 73 (f := .free "isinstance") rfl)
  n_str := He.free_ok X G (c.fact 74 (f := .free "str") rfl)
  n_list := He.free_ok X G (c.fact 75 (f := .free "list") rfl)
  n_sorted := He.free_ok X G (c.fact 76 (f := .free "sorted") rfl)
  n_all := He.free_ok X G (c.fact 77 (f := .free "all") rfl)
  n_sum := He.free_ok X G (c.fact 78 (f := .free "sum") rfl)
  n_len := He.free_ok X G (c.fact 79 (f := .free "len") rfl)
  n_tuple := He.free_ok X G (c.fact 80 (f := .free "tuple") rfl)
  n_int := He.free_ok X G (c.fact 81 (f := .free "int") rfl)
  n_abs := He.free_ok X G (c.fact 82 (f := .free "abs") rfl)
  n_bool := He.free_ok X G (c.fact 83 (f := .free "bool") rfl)
  n_zip := He.free_ok X G (c.fact 84 (f := .free "zip") rfl)
  x_Taken := He.exc_ok (c.fact 85 (f := .exc "Taken") rfl)
  x_BadName := He.exc_ok (c.fact 86 (f := .exc "BadName") rfl)
  x_NoName := He.exc_ok (c.fact 87 (f := .exc "NoName") rfl)
  x_NotDir := He.exc_ok (c.fact 88 (f := .exc "NotDir") rfl)
  x_IsDir := He.exc_ok (c.fact 89 (f := .exc "IsDir") rfl)
  x_NotEmpty := He.exc_ok (c.fact 90 (f := .exc "NotEmpty") rfl)
  x_Inside := He.exc_ok (c.fact 91 (f := .exc "Inside") rfl)
  x_NoNode := He.exc_ok (c.fact 92 (f := .exc "NoNode") rfl)
  x_NoSpace := He.exc_ok (c.fact 93 (f := .exc "NoSpace") rfl)
  x_TooMany := He.exc_ok (c.fact 94 (f := .exc "TooMany") rfl)
  x_NotAllowed := He.exc_ok (c.fact 95 (f := .exc "NotAllowed") rfl)
  c_PlainFile := He.cls_ok (c.fact 96 (f := .cls "PlainFile") rfl)
  m_PlainFile := He.mkr_ok (c.fact 97 (f := .mkr "PlainFile") rfl)
  m_PlainFile_is_dir := He.meth_ok (c.fact 98 (f := .meth "PlainFile" "is_dir") rfl)
  m_PlainFile_blocks_used := He.meth_ok (c.fact 99 (f := .meth "PlainFile" "blocks_used") rfl)
  m_PlainFile_told := He.meth_ok (c.fact 100 (f := .meth "PlainFile" "told") rfl)
  a_PlainFile_slots := He.noat_ok (c.fact 101 (f := .noat "PlainFile" "slots") rfl)
  a_PlainFile_contents := He.noat_ok (c.fact 102 (f := .noat "PlainFile" "contents") rfl)
  a_PlainFile_links := He.noat_ok (c.fact 103 (f := .noat "PlainFile" "links") rfl)
  a_PlainFile_holds := He.noat_ok (c.fact 104 (f := .noat "PlainFile" "holds") rfl)
  c_PlainDir := He.cls_ok (c.fact 105 (f := .cls "PlainDir") rfl)
  m_PlainDir := He.mkr_ok (c.fact 106 (f := .mkr "PlainDir") rfl)
  m_PlainDir_is_dir := He.meth_ok (c.fact 107 (f := .meth "PlainDir" "is_dir") rfl)
  m_PlainDir_blocks_used := He.meth_ok (c.fact 108 (f := .meth "PlainDir" "blocks_used") rfl)
  m_PlainDir_told := He.meth_ok (c.fact 109 (f := .meth "PlainDir" "told") rfl)
  m_PlainDir_node_of := He.meth_ok (c.fact 110 (f := .meth "PlainDir" "node_of") rfl)
  m_PlainDir_names_in := He.meth_ok (c.fact 111 (f := .meth "PlainDir" "names_in") rfl)
  m_PlainDir_add_name := He.meth_ok (c.fact 112 (f := .meth "PlainDir" "add_name") rfl)
  m_PlainDir_drop_name := He.meth_ok (c.fact 113 (f := .meth "PlainDir" "drop_name") rfl)
  a_PlainDir_slots := He.noat_ok (c.fact 114 (f := .noat "PlainDir" "slots") rfl)
  a_PlainDir_contents := He.noat_ok (c.fact 115 (f := .noat "PlainDir" "contents") rfl)
  a_PlainDir_links := He.noat_ok (c.fact 116 (f := .noat "PlainDir" "links") rfl)
  a_PlainDir_holds := He.noat_ok (c.fact 117 (f := .noat "PlainDir" "holds") rfl)
  c_PlainFiles := He.cls_ok (c.fact 118 (f := .cls "PlainFiles") rfl)
  m_PlainFiles := He.mkr_ok (c.fact 119 (f := .mkr "PlainFiles") rfl)
  m_PlainFiles_find := He.meth_ok (c.fact 120 (f := .meth "PlainFiles" "find") rfl)
  m_PlainFiles_make := He.meth_ok (c.fact 121 (f := .meth "PlainFiles" "make") rfl)
  m_PlainFiles_make_dir := He.meth_ok (c.fact 122 (f := .meth "PlainFiles" "make_dir") rfl)
  m_PlainFiles_link := He.meth_ok (c.fact 123 (f := .meth "PlainFiles" "link") rfl)
  m_PlainFiles_unlink := He.meth_ok (c.fact 124 (f := .meth "PlainFiles" "unlink") rfl)
  m_PlainFiles_remove_dir := He.meth_ok (c.fact 125 (f := .meth "PlainFiles" "remove_dir") rfl)
  m_PlainFiles_move := He.meth_ok (c.fact 126 (f := .meth "PlainFiles" "move") rfl)
  m_PlainFiles_names := He.meth_ok (c.fact 127 (f := .meth "PlainFiles" "names") rfl)
  m_PlainFiles_stat := He.meth_ok (c.fact 128 (f := .meth "PlainFiles" "stat") rfl)
  m_PlainFiles_free := He.meth_ok (c.fact 129 (f := .meth "PlainFiles" "free") rfl)
  a_PlainFiles_blocks := He.noat_ok (c.fact 130 (f := .noat "PlainFiles" "blocks") rfl)
  a_PlainFiles_nodes := He.noat_ok (c.fact 131 (f := .noat "PlainFiles" "nodes") rfl)
  e_BadName := excB_ok (all_at (all_at m 0 rfl) 0 rfl)
  o_BadName := id (all_at (all_at m 0 rfl) 1 rfl)
  o_NoName := id (all_at (all_at m 0 rfl) 2 rfl)
  o_NotDir := id (all_at (all_at m 0 rfl) 3 rfl)
  o_IsDir := id (all_at (all_at m 0 rfl) 4 rfl)
  o_NotEmpty := id (all_at (all_at m 0 rfl) 5 rfl)
  o_Inside := id (all_at (all_at m 0 rfl) 6 rfl)
  o_NoNode := id (all_at (all_at m 0 rfl) 7 rfl)
  o_NoSpace := id (all_at (all_at m 0 rfl) 8 rfl)
  o_TooMany := id (all_at (all_at m 0 rfl) 9 rfl)
  o_TooBig := id (all_at (all_at m 0 rfl) 10 rfl)
  o_NotHeld := id (all_at (all_at m 0 rfl) 11 rfl)
  o_NotAllowed := id (all_at (all_at m 1 rfl) 0 rfl)
  o_Taken := id (all_at (all_at m 1 rfl) 1 rfl)
  w_BadName := id (all_at (all_at m 1 rfl) 2 rfl)
  y_BadName_KernelError := eq_of_beq (all_at (all_at m 1 rfl) 3 rfl)
  e_NoNode := excB_ok (all_at (all_at m 1 rfl) 4 rfl)
  w_NoNode := id (all_at (all_at m 1 rfl) 5 rfl)
  y_NoNode_KernelError := eq_of_beq (all_at (all_at m 1 rfl) 6 rfl)
  e_NotDir := excB_ok (all_at (all_at m 1 rfl) 7 rfl)
  w_NotDir := id (all_at (all_at m 1 rfl) 8 rfl)
  y_NotDir_KernelError := eq_of_beq (all_at (all_at m 1 rfl) 9 rfl)
  e_NoName := excB_ok (all_at (all_at m 1 rfl) 10 rfl)
  w_NoName := id (all_at (all_at m 1 rfl) 11 rfl)
  y_NoName_KernelError := eq_of_beq (all_at (all_at m 2 rfl) 0 rfl)
  e_Taken := excB_ok (all_at (all_at m 2 rfl) 1 rfl)
  w_Taken := id (all_at (all_at m 2 rfl) 2 rfl)
  y_Taken_KernelError := eq_of_beq (all_at (all_at m 2 rfl) 3 rfl)
  e_TooMany := excB_ok (all_at (all_at m 2 rfl) 4 rfl)
  w_TooMany := id (all_at (all_at m 2 rfl) 5 rfl)
  y_TooMany_KernelError := eq_of_beq (all_at (all_at m 2 rfl) 6 rfl)
  e_NoSpace := excB_ok (all_at (all_at m 2 rfl) 7 rfl)
  w_NoSpace := id (all_at (all_at m 2 rfl) 8 rfl)
  y_NoSpace_KernelError := eq_of_beq (all_at (all_at m 2 rfl) 9 rfl)
  e_IsDir := excB_ok (all_at (all_at m 2 rfl) 10 rfl)
  w_IsDir := id (all_at (all_at m 2 rfl) 11 rfl)
  y_IsDir_KernelError := eq_of_beq (all_at (all_at m 3 rfl) 0 rfl)
  e_NotAllowed := excB_ok (all_at (all_at m 3 rfl) 1 rfl)
  w_NotAllowed := id (all_at (all_at m 3 rfl) 2 rfl)
  y_NotAllowed_KernelError := eq_of_beq (all_at (all_at m 3 rfl) 3 rfl)
  e_NotEmpty := excB_ok (all_at (all_at m 3 rfl) 4 rfl)
  w_NotEmpty := id (all_at (all_at m 3 rfl) 5 rfl)
  y_NotEmpty_KernelError := eq_of_beq (all_at (all_at m 3 rfl) 6 rfl)
  e_Inside := excB_ok (all_at (all_at m 3 rfl) 7 rfl)
  w_Inside := id (all_at (all_at m 3 rfl) 8 rfl)
  y_Inside_KernelError := eq_of_beq (all_at (all_at m 3 rfl) 9 rfl)
  k_BadName_BadName := kit_ref (all_at (all_at m 1 rfl) 2 rfl) (all_at (all_at m 0 rfl) 1 rfl) 0 rfl rfl
  k_BadName_NoName := kit_ref (all_at (all_at m 1 rfl) 2 rfl) (all_at (all_at m 0 rfl) 2 rfl) 1 rfl rfl
  k_BadName_NotDir := kit_ref (all_at (all_at m 1 rfl) 2 rfl) (all_at (all_at m 0 rfl) 3 rfl) 2 rfl rfl
  k_BadName_IsDir := kit_ref (all_at (all_at m 1 rfl) 2 rfl) (all_at (all_at m 0 rfl) 4 rfl) 3 rfl rfl
  k_BadName_NotEmpty := kit_ref (all_at (all_at m 1 rfl) 2 rfl) (all_at (all_at m 0 rfl) 5 rfl) 4 rfl rfl
  k_BadName_Inside := kit_ref (all_at (all_at m 1 rfl) 2 rfl) (all_at (all_at m 0 rfl) 6 rfl) 5 rfl rfl
  k_BadName_NoNode := kit_ref (all_at (all_at m 1 rfl) 2 rfl) (all_at (all_at m 0 rfl) 7 rfl) 6 rfl rfl
  k_BadName_NoSpace := kit_ref (all_at (all_at m 1 rfl) 2 rfl) (all_at (all_at m 0 rfl) 8 rfl) 7 rfl rfl
  k_BadName_TooMany := kit_ref (all_at (all_at m 1 rfl) 2 rfl) (all_at (all_at m 0 rfl) 9 rfl) 8 rfl rfl
  k_BadName_TooBig := kit_ref (all_at (all_at m 1 rfl) 2 rfl) (all_at (all_at m 0 rfl) 10 rfl) 9 rfl rfl
  k_BadName_NotHeld := kit_ref (all_at (all_at m 1 rfl) 2 rfl) (all_at (all_at m 0 rfl) 11 rfl) 10 rfl rfl
  k_BadName_NotAllowed := kit_ref (all_at (all_at m 1 rfl) 2 rfl) (all_at (all_at m 1 rfl) 0 rfl) 11 rfl rfl
  k_BadName_Taken := kit_ref (all_at (all_at m 1 rfl) 2 rfl) (all_at (all_at m 1 rfl) 1 rfl) 12 rfl rfl
  k_BadName_ValueError := kit_typ (all_at (all_at m 1 rfl) 2 rfl) (by decide +kernel) 13 rfl rfl
  k_NoNode_BadName := kit_ref (all_at (all_at m 1 rfl) 5 rfl) (all_at (all_at m 0 rfl) 1 rfl) 0 rfl rfl
  k_NoNode_NoName := kit_ref (all_at (all_at m 1 rfl) 5 rfl) (all_at (all_at m 0 rfl) 2 rfl) 1 rfl rfl
  k_NoNode_NotDir := kit_ref (all_at (all_at m 1 rfl) 5 rfl) (all_at (all_at m 0 rfl) 3 rfl) 2 rfl rfl
  k_NoNode_IsDir := kit_ref (all_at (all_at m 1 rfl) 5 rfl) (all_at (all_at m 0 rfl) 4 rfl) 3 rfl rfl
  k_NoNode_NotEmpty := kit_ref (all_at (all_at m 1 rfl) 5 rfl) (all_at (all_at m 0 rfl) 5 rfl) 4 rfl rfl
  k_NoNode_Inside := kit_ref (all_at (all_at m 1 rfl) 5 rfl) (all_at (all_at m 0 rfl) 6 rfl) 5 rfl rfl
  k_NoNode_NoNode := kit_ref (all_at (all_at m 1 rfl) 5 rfl) (all_at (all_at m 0 rfl) 7 rfl) 6 rfl rfl
  k_NoNode_NoSpace := kit_ref (all_at (all_at m 1 rfl) 5 rfl) (all_at (all_at m 0 rfl) 8 rfl) 7 rfl rfl
  k_NoNode_TooMany := kit_ref (all_at (all_at m 1 rfl) 5 rfl) (all_at (all_at m 0 rfl) 9 rfl) 8 rfl rfl
  k_NoNode_TooBig := kit_ref (all_at (all_at m 1 rfl) 5 rfl) (all_at (all_at m 0 rfl) 10 rfl) 9 rfl rfl
  k_NoNode_NotHeld := kit_ref (all_at (all_at m 1 rfl) 5 rfl) (all_at (all_at m 0 rfl) 11 rfl) 10 rfl rfl
  k_NoNode_NotAllowed := kit_ref (all_at (all_at m 1 rfl) 5 rfl) (all_at (all_at m 1 rfl) 0 rfl) 11 rfl rfl
  k_NoNode_Taken := kit_ref (all_at (all_at m 1 rfl) 5 rfl) (all_at (all_at m 1 rfl) 1 rfl) 12 rfl rfl
  k_NoNode_ValueError := kit_typ (all_at (all_at m 1 rfl) 5 rfl) (by decide +kernel) 13 rfl rfl
  k_NotDir_BadName := kit_ref (all_at (all_at m 1 rfl) 8 rfl) (all_at (all_at m 0 rfl) 1 rfl) 0 rfl rfl
  k_NotDir_NoName := kit_ref (all_at (all_at m 1 rfl) 8 rfl) (all_at (all_at m 0 rfl) 2 rfl) 1 rfl rfl
  k_NotDir_NotDir := kit_ref (all_at (all_at m 1 rfl) 8 rfl) (all_at (all_at m 0 rfl) 3 rfl) 2 rfl rfl
  k_NotDir_IsDir := kit_ref (all_at (all_at m 1 rfl) 8 rfl) (all_at (all_at m 0 rfl) 4 rfl) 3 rfl rfl
  k_NotDir_NotEmpty := kit_ref (all_at (all_at m 1 rfl) 8 rfl) (all_at (all_at m 0 rfl) 5 rfl) 4 rfl rfl
  k_NotDir_Inside := kit_ref (all_at (all_at m 1 rfl) 8 rfl) (all_at (all_at m 0 rfl) 6 rfl) 5 rfl rfl
  k_NotDir_NoNode := kit_ref (all_at (all_at m 1 rfl) 8 rfl) (all_at (all_at m 0 rfl) 7 rfl) 6 rfl rfl
  k_NotDir_NoSpace := kit_ref (all_at (all_at m 1 rfl) 8 rfl) (all_at (all_at m 0 rfl) 8 rfl) 7 rfl rfl
  k_NotDir_TooMany := kit_ref (all_at (all_at m 1 rfl) 8 rfl) (all_at (all_at m 0 rfl) 9 rfl) 8 rfl rfl
  k_NotDir_TooBig := kit_ref (all_at (all_at m 1 rfl) 8 rfl) (all_at (all_at m 0 rfl) 10 rfl) 9 rfl rfl
  k_NotDir_NotHeld := kit_ref (all_at (all_at m 1 rfl) 8 rfl) (all_at (all_at m 0 rfl) 11 rfl) 10 rfl rfl
  k_NotDir_NotAllowed := kit_ref (all_at (all_at m 1 rfl) 8 rfl) (all_at (all_at m 1 rfl) 0 rfl) 11 rfl rfl
  k_NotDir_Taken := kit_ref (all_at (all_at m 1 rfl) 8 rfl) (all_at (all_at m 1 rfl) 1 rfl) 12 rfl rfl
  k_NotDir_ValueError := kit_typ (all_at (all_at m 1 rfl) 8 rfl) (by decide +kernel) 13 rfl rfl
  k_NoName_BadName := kit_ref (all_at (all_at m 1 rfl) 11 rfl) (all_at (all_at m 0 rfl) 1 rfl) 0 rfl rfl
  k_NoName_NoName := kit_ref (all_at (all_at m 1 rfl) 11 rfl) (all_at (all_at m 0 rfl) 2 rfl) 1 rfl rfl
  k_NoName_NotDir := kit_ref (all_at (all_at m 1 rfl) 11 rfl) (all_at (all_at m 0 rfl) 3 rfl) 2 rfl rfl
  k_NoName_IsDir := kit_ref (all_at (all_at m 1 rfl) 11 rfl) (all_at (all_at m 0 rfl) 4 rfl) 3 rfl rfl
  k_NoName_NotEmpty := kit_ref (all_at (all_at m 1 rfl) 11 rfl) (all_at (all_at m 0 rfl) 5 rfl) 4 rfl rfl
  k_NoName_Inside := kit_ref (all_at (all_at m 1 rfl) 11 rfl) (all_at (all_at m 0 rfl) 6 rfl) 5 rfl rfl
  k_NoName_NoNode := kit_ref (all_at (all_at m 1 rfl) 11 rfl) (all_at (all_at m 0 rfl) 7 rfl) 6 rfl rfl
  k_NoName_NoSpace := kit_ref (all_at (all_at m 1 rfl) 11 rfl) (all_at (all_at m 0 rfl) 8 rfl) 7 rfl rfl
  k_NoName_TooMany := kit_ref (all_at (all_at m 1 rfl) 11 rfl) (all_at (all_at m 0 rfl) 9 rfl) 8 rfl rfl
  k_NoName_TooBig := kit_ref (all_at (all_at m 1 rfl) 11 rfl) (all_at (all_at m 0 rfl) 10 rfl) 9 rfl rfl
  k_NoName_NotHeld := kit_ref (all_at (all_at m 1 rfl) 11 rfl) (all_at (all_at m 0 rfl) 11 rfl) 10 rfl rfl
  k_NoName_NotAllowed := kit_ref (all_at (all_at m 1 rfl) 11 rfl) (all_at (all_at m 1 rfl) 0 rfl) 11 rfl rfl
  k_NoName_Taken := kit_ref (all_at (all_at m 1 rfl) 11 rfl) (all_at (all_at m 1 rfl) 1 rfl) 12 rfl rfl
  k_NoName_ValueError := kit_typ (all_at (all_at m 1 rfl) 11 rfl) (by decide +kernel) 13 rfl rfl
  k_Taken_BadName := kit_ref (all_at (all_at m 2 rfl) 2 rfl) (all_at (all_at m 0 rfl) 1 rfl) 0 rfl rfl
  k_Taken_NoName := kit_ref (all_at (all_at m 2 rfl) 2 rfl) (all_at (all_at m 0 rfl) 2 rfl) 1 rfl rfl
  k_Taken_NotDir := kit_ref (all_at (all_at m 2 rfl) 2 rfl) (all_at (all_at m 0 rfl) 3 rfl) 2 rfl rfl
  k_Taken_IsDir := kit_ref (all_at (all_at m 2 rfl) 2 rfl) (all_at (all_at m 0 rfl) 4 rfl) 3 rfl rfl
  k_Taken_NotEmpty := kit_ref (all_at (all_at m 2 rfl) 2 rfl) (all_at (all_at m 0 rfl) 5 rfl) 4 rfl rfl
  k_Taken_Inside := kit_ref (all_at (all_at m 2 rfl) 2 rfl) (all_at (all_at m 0 rfl) 6 rfl) 5 rfl rfl
  k_Taken_NoNode := kit_ref (all_at (all_at m 2 rfl) 2 rfl) (all_at (all_at m 0 rfl) 7 rfl) 6 rfl rfl
  k_Taken_NoSpace := kit_ref (all_at (all_at m 2 rfl) 2 rfl) (all_at (all_at m 0 rfl) 8 rfl) 7 rfl rfl
  k_Taken_TooMany := kit_ref (all_at (all_at m 2 rfl) 2 rfl) (all_at (all_at m 0 rfl) 9 rfl) 8 rfl rfl
  k_Taken_TooBig := kit_ref (all_at (all_at m 2 rfl) 2 rfl) (all_at (all_at m 0 rfl) 10 rfl) 9 rfl rfl
  k_Taken_NotHeld := kit_ref (all_at (all_at m 2 rfl) 2 rfl) (all_at (all_at m 0 rfl) 11 rfl) 10 rfl rfl
  k_Taken_NotAllowed := kit_ref (all_at (all_at m 2 rfl) 2 rfl) (all_at (all_at m 1 rfl) 0 rfl) 11 rfl rfl
  k_Taken_Taken := kit_ref (all_at (all_at m 2 rfl) 2 rfl) (all_at (all_at m 1 rfl) 1 rfl) 12 rfl rfl
  k_Taken_ValueError := kit_typ (all_at (all_at m 2 rfl) 2 rfl) (by decide +kernel) 13 rfl rfl
  k_TooMany_BadName := kit_ref (all_at (all_at m 2 rfl) 5 rfl) (all_at (all_at m 0 rfl) 1 rfl) 0 rfl rfl
  k_TooMany_NoName := kit_ref (all_at (all_at m 2 rfl) 5 rfl) (all_at (all_at m 0 rfl) 2 rfl) 1 rfl rfl
  k_TooMany_NotDir := kit_ref (all_at (all_at m 2 rfl) 5 rfl) (all_at (all_at m 0 rfl) 3 rfl) 2 rfl rfl
  k_TooMany_IsDir := kit_ref (all_at (all_at m 2 rfl) 5 rfl) (all_at (all_at m 0 rfl) 4 rfl) 3 rfl rfl
  k_TooMany_NotEmpty := kit_ref (all_at (all_at m 2 rfl) 5 rfl) (all_at (all_at m 0 rfl) 5 rfl) 4 rfl rfl
  k_TooMany_Inside := kit_ref (all_at (all_at m 2 rfl) 5 rfl) (all_at (all_at m 0 rfl) 6 rfl) 5 rfl rfl
  k_TooMany_NoNode := kit_ref (all_at (all_at m 2 rfl) 5 rfl) (all_at (all_at m 0 rfl) 7 rfl) 6 rfl rfl
  k_TooMany_NoSpace := kit_ref (all_at (all_at m 2 rfl) 5 rfl) (all_at (all_at m 0 rfl) 8 rfl) 7 rfl rfl
  k_TooMany_TooMany := kit_ref (all_at (all_at m 2 rfl) 5 rfl) (all_at (all_at m 0 rfl) 9 rfl) 8 rfl rfl
  k_TooMany_TooBig := kit_ref (all_at (all_at m 2 rfl) 5 rfl) (all_at (all_at m 0 rfl) 10 rfl) 9 rfl rfl
  k_TooMany_NotHeld := kit_ref (all_at (all_at m 2 rfl) 5 rfl) (all_at (all_at m 0 rfl) 11 rfl) 10 rfl rfl
  k_TooMany_NotAllowed := kit_ref (all_at (all_at m 2 rfl) 5 rfl) (all_at (all_at m 1 rfl) 0 rfl) 11 rfl rfl
  k_TooMany_Taken := kit_ref (all_at (all_at m 2 rfl) 5 rfl) (all_at (all_at m 1 rfl) 1 rfl) 12 rfl rfl
  k_TooMany_ValueError := kit_typ (all_at (all_at m 2 rfl) 5 rfl) (by decide +kernel) 13 rfl rfl
  k_NoSpace_BadName := kit_ref (all_at (all_at m 2 rfl) 8 rfl) (all_at (all_at m 0 rfl) 1 rfl) 0 rfl rfl
  k_NoSpace_NoName := kit_ref (all_at (all_at m 2 rfl) 8 rfl) (all_at (all_at m 0 rfl) 2 rfl) 1 rfl rfl
  k_NoSpace_NotDir := kit_ref (all_at (all_at m 2 rfl) 8 rfl) (all_at (all_at m 0 rfl) 3 rfl) 2 rfl rfl
  k_NoSpace_IsDir := kit_ref (all_at (all_at m 2 rfl) 8 rfl) (all_at (all_at m 0 rfl) 4 rfl) 3 rfl rfl
  k_NoSpace_NotEmpty := kit_ref (all_at (all_at m 2 rfl) 8 rfl) (all_at (all_at m 0 rfl) 5 rfl) 4 rfl rfl
  k_NoSpace_Inside := kit_ref (all_at (all_at m 2 rfl) 8 rfl) (all_at (all_at m 0 rfl) 6 rfl) 5 rfl rfl
  k_NoSpace_NoNode := kit_ref (all_at (all_at m 2 rfl) 8 rfl) (all_at (all_at m 0 rfl) 7 rfl) 6 rfl rfl
  k_NoSpace_NoSpace := kit_ref (all_at (all_at m 2 rfl) 8 rfl) (all_at (all_at m 0 rfl) 8 rfl) 7 rfl rfl
  k_NoSpace_TooMany := kit_ref (all_at (all_at m 2 rfl) 8 rfl) (all_at (all_at m 0 rfl) 9 rfl) 8 rfl rfl
  k_NoSpace_TooBig := kit_ref (all_at (all_at m 2 rfl) 8 rfl) (all_at (all_at m 0 rfl) 10 rfl) 9 rfl rfl
  k_NoSpace_NotHeld := kit_ref (all_at (all_at m 2 rfl) 8 rfl) (all_at (all_at m 0 rfl) 11 rfl) 10 rfl rfl
  k_NoSpace_NotAllowed := kit_ref (all_at (all_at m 2 rfl) 8 rfl) (all_at (all_at m 1 rfl) 0 rfl) 11 rfl rfl
  k_NoSpace_Taken := kit_ref (all_at (all_at m 2 rfl) 8 rfl) (all_at (all_at m 1 rfl) 1 rfl) 12 rfl rfl
  k_NoSpace_ValueError := kit_typ (all_at (all_at m 2 rfl) 8 rfl) (by decide +kernel) 13 rfl rfl
  k_IsDir_BadName := kit_ref (all_at (all_at m 2 rfl) 11 rfl) (all_at (all_at m 0 rfl) 1 rfl) 0 rfl rfl
  k_IsDir_NoName := kit_ref (all_at (all_at m 2 rfl) 11 rfl) (all_at (all_at m 0 rfl) 2 rfl) 1 rfl rfl
  k_IsDir_NotDir := kit_ref (all_at (all_at m 2 rfl) 11 rfl) (all_at (all_at m 0 rfl) 3 rfl) 2 rfl rfl
  k_IsDir_IsDir := kit_ref (all_at (all_at m 2 rfl) 11 rfl) (all_at (all_at m 0 rfl) 4 rfl) 3 rfl rfl
  k_IsDir_NotEmpty := kit_ref (all_at (all_at m 2 rfl) 11 rfl) (all_at (all_at m 0 rfl) 5 rfl) 4 rfl rfl
  k_IsDir_Inside := kit_ref (all_at (all_at m 2 rfl) 11 rfl) (all_at (all_at m 0 rfl) 6 rfl) 5 rfl rfl
  k_IsDir_NoNode := kit_ref (all_at (all_at m 2 rfl) 11 rfl) (all_at (all_at m 0 rfl) 7 rfl) 6 rfl rfl
  k_IsDir_NoSpace := kit_ref (all_at (all_at m 2 rfl) 11 rfl) (all_at (all_at m 0 rfl) 8 rfl) 7 rfl rfl
  k_IsDir_TooMany := kit_ref (all_at (all_at m 2 rfl) 11 rfl) (all_at (all_at m 0 rfl) 9 rfl) 8 rfl rfl
  k_IsDir_TooBig := kit_ref (all_at (all_at m 2 rfl) 11 rfl) (all_at (all_at m 0 rfl) 10 rfl) 9 rfl rfl
  k_IsDir_NotHeld := kit_ref (all_at (all_at m 2 rfl) 11 rfl) (all_at (all_at m 0 rfl) 11 rfl) 10 rfl rfl
  k_IsDir_NotAllowed := kit_ref (all_at (all_at m 2 rfl) 11 rfl) (all_at (all_at m 1 rfl) 0 rfl) 11 rfl rfl
  k_IsDir_Taken := kit_ref (all_at (all_at m 2 rfl) 11 rfl) (all_at (all_at m 1 rfl) 1 rfl) 12 rfl rfl
  k_IsDir_ValueError := kit_typ (all_at (all_at m 2 rfl) 11 rfl) (by decide +kernel) 13 rfl rfl
  k_NotAllowed_BadName := kit_ref (all_at (all_at m 3 rfl) 2 rfl) (all_at (all_at m 0 rfl) 1 rfl) 0 rfl rfl
  k_NotAllowed_NoName := kit_ref (all_at (all_at m 3 rfl) 2 rfl) (all_at (all_at m 0 rfl) 2 rfl) 1 rfl rfl
  k_NotAllowed_NotDir := kit_ref (all_at (all_at m 3 rfl) 2 rfl) (all_at (all_at m 0 rfl) 3 rfl) 2 rfl rfl
  k_NotAllowed_IsDir := kit_ref (all_at (all_at m 3 rfl) 2 rfl) (all_at (all_at m 0 rfl) 4 rfl) 3 rfl rfl
  k_NotAllowed_NotEmpty := kit_ref (all_at (all_at m 3 rfl) 2 rfl) (all_at (all_at m 0 rfl) 5 rfl) 4 rfl rfl
  k_NotAllowed_Inside := kit_ref (all_at (all_at m 3 rfl) 2 rfl) (all_at (all_at m 0 rfl) 6 rfl) 5 rfl rfl
  k_NotAllowed_NoNode := kit_ref (all_at (all_at m 3 rfl) 2 rfl) (all_at (all_at m 0 rfl) 7 rfl) 6 rfl rfl
  k_NotAllowed_NoSpace := kit_ref (all_at (all_at m 3 rfl) 2 rfl) (all_at (all_at m 0 rfl) 8 rfl) 7 rfl rfl
  k_NotAllowed_TooMany := kit_ref (all_at (all_at m 3 rfl) 2 rfl) (all_at (all_at m 0 rfl) 9 rfl) 8 rfl rfl
  k_NotAllowed_TooBig := kit_ref (all_at (all_at m 3 rfl) 2 rfl) (all_at (all_at m 0 rfl) 10 rfl) 9 rfl rfl
  k_NotAllowed_NotHeld := kit_ref (all_at (all_at m 3 rfl) 2 rfl) (all_at (all_at m 0 rfl) 11 rfl) 10 rfl rfl
  k_NotAllowed_NotAllowed := kit_ref (all_at (all_at m 3 rfl) 2 rfl) (all_at (all_at m 1 rfl) 0 rfl) 11 rfl rfl
  k_NotAllowed_Taken := kit_ref (all_at (all_at m 3 rfl) 2 rfl) (all_at (all_at m 1 rfl) 1 rfl) 12 rfl rfl
  k_NotAllowed_ValueError := kit_typ (all_at (all_at m 3 rfl) 2 rfl) (by decide +kernel) 13 rfl rfl
  k_NotEmpty_BadName := kit_ref (all_at (all_at m 3 rfl) 5 rfl) (all_at (all_at m 0 rfl) 1 rfl) 0 rfl rfl
  k_NotEmpty_NoName := kit_ref (all_at (all_at m 3 rfl) 5 rfl) (all_at (all_at m 0 rfl) 2 rfl) 1 rfl rfl
  k_NotEmpty_NotDir := kit_ref (all_at (all_at m 3 rfl) 5 rfl) (all_at (all_at m 0 rfl) 3 rfl) 2 rfl rfl
  k_NotEmpty_IsDir := kit_ref (all_at (all_at m 3 rfl) 5 rfl) (all_at (all_at m 0 rfl) 4 rfl) 3 rfl rfl
  k_NotEmpty_NotEmpty := kit_ref (all_at (all_at m 3 rfl) 5 rfl) (all_at (all_at m 0 rfl) 5 rfl) 4 rfl rfl
  k_NotEmpty_Inside := kit_ref (all_at (all_at m 3 rfl) 5 rfl) (all_at (all_at m 0 rfl) 6 rfl) 5 rfl rfl
  k_NotEmpty_NoNode := kit_ref (all_at (all_at m 3 rfl) 5 rfl) (all_at (all_at m 0 rfl) 7 rfl) 6 rfl rfl
  k_NotEmpty_NoSpace := kit_ref (all_at (all_at m 3 rfl) 5 rfl) (all_at (all_at m 0 rfl) 8 rfl) 7 rfl rfl
  k_NotEmpty_TooMany := kit_ref (all_at (all_at m 3 rfl) 5 rfl) (all_at (all_at m 0 rfl) 9 rfl) 8 rfl rfl
  k_NotEmpty_TooBig := kit_ref (all_at (all_at m 3 rfl) 5 rfl) (all_at (all_at m 0 rfl) 10 rfl) 9 rfl rfl
  k_NotEmpty_NotHeld := kit_ref (all_at (all_at m 3 rfl) 5 rfl) (all_at (all_at m 0 rfl) 11 rfl) 10 rfl rfl
  k_NotEmpty_NotAllowed := kit_ref (all_at (all_at m 3 rfl) 5 rfl) (all_at (all_at m 1 rfl) 0 rfl) 11 rfl rfl
  k_NotEmpty_Taken := kit_ref (all_at (all_at m 3 rfl) 5 rfl) (all_at (all_at m 1 rfl) 1 rfl) 12 rfl rfl
  k_NotEmpty_ValueError := kit_typ (all_at (all_at m 3 rfl) 5 rfl) (by decide +kernel) 13 rfl rfl
  k_Inside_BadName := kit_ref (all_at (all_at m 3 rfl) 8 rfl) (all_at (all_at m 0 rfl) 1 rfl) 0 rfl rfl
  k_Inside_NoName := kit_ref (all_at (all_at m 3 rfl) 8 rfl) (all_at (all_at m 0 rfl) 2 rfl) 1 rfl rfl
  k_Inside_NotDir := kit_ref (all_at (all_at m 3 rfl) 8 rfl) (all_at (all_at m 0 rfl) 3 rfl) 2 rfl rfl
  k_Inside_IsDir := kit_ref (all_at (all_at m 3 rfl) 8 rfl) (all_at (all_at m 0 rfl) 4 rfl) 3 rfl rfl
  k_Inside_NotEmpty := kit_ref (all_at (all_at m 3 rfl) 8 rfl) (all_at (all_at m 0 rfl) 5 rfl) 4 rfl rfl
  k_Inside_Inside := kit_ref (all_at (all_at m 3 rfl) 8 rfl) (all_at (all_at m 0 rfl) 6 rfl) 5 rfl rfl
  k_Inside_NoNode := kit_ref (all_at (all_at m 3 rfl) 8 rfl) (all_at (all_at m 0 rfl) 7 rfl) 6 rfl rfl
  k_Inside_NoSpace := kit_ref (all_at (all_at m 3 rfl) 8 rfl) (all_at (all_at m 0 rfl) 8 rfl) 7 rfl rfl
  k_Inside_TooMany := kit_ref (all_at (all_at m 3 rfl) 8 rfl) (all_at (all_at m 0 rfl) 9 rfl) 8 rfl rfl
  k_Inside_TooBig := kit_ref (all_at (all_at m 3 rfl) 8 rfl) (all_at (all_at m 0 rfl) 10 rfl) 9 rfl rfl
  k_Inside_NotHeld := kit_ref (all_at (all_at m 3 rfl) 8 rfl) (all_at (all_at m 0 rfl) 11 rfl) 10 rfl rfl
  k_Inside_NotAllowed := kit_ref (all_at (all_at m 3 rfl) 8 rfl) (all_at (all_at m 1 rfl) 0 rfl) 11 rfl rfl
  k_Inside_Taken := kit_ref (all_at (all_at m 3 rfl) 8 rfl) (all_at (all_at m 1 rfl) 1 rfl) 12 rfl rfl
  k_Inside_ValueError := kit_typ (all_at (all_at m 3 rfl) 8 rfl) (by decide +kernel) 13 rfl rfl
  d_is_name := c.def_ 0 (d := ⟨("is_name", none), "is_name", "is_name", defArgs (top 19), defBody (top 19), defScope (top 19), [], []⟩) rfl
  d_names_of := c.def_ 1 (d := ⟨("names_of", none), "names_of", "names_of", defArgs (top 20), defBody (top 20), defScope (top 20), [], []⟩) rfl
  d_blocks_for := c.def_ 2 (d := ⟨("blocks_for", none), "blocks_for", "blocks_for", defArgs (top 25), defBody (top 25), defScope (top 25), [], []⟩) rfl
  d_PlainFile___init__ := c.def_ 3 (d := ⟨("PlainFile", some "__init__"), "__init__", "PlainFile.__init__", defArgs (inClass (top 26) 0), defBody (inClass (top 26) 0), defScope (inClass (top 26) 0), [], []⟩) rfl
  d_PlainFile_is_dir := c.def_ 4 (d := ⟨("PlainFile", some "is_dir"), "is_dir", "PlainFile.is_dir", defArgs (inClass (top 26) 1), defBody (inClass (top 26) 1), defScope (inClass (top 26) 1), [], []⟩) rfl
  d_PlainFile_blocks_used := c.def_ 5 (d := ⟨("PlainFile", some "blocks_used"), "blocks_used", "PlainFile.blocks_used", defArgs (inClass (top 26) 2), defBody (inClass (top 26) 2), defScope (inClass (top 26) 2), [], []⟩) rfl
  d_PlainFile_told := c.def_ 6 (d := ⟨("PlainFile", some "told"), "told", "PlainFile.told", defArgs (inClass (top 26) 3), defBody (inClass (top 26) 3), defScope (inClass (top 26) 3), [], []⟩) rfl
  d_PlainDir___init__ := c.def_ 7 (d := ⟨("PlainDir", some "__init__"), "__init__", "PlainDir.__init__", defArgs (inClass (top 27) 0), defBody (inClass (top 27) 0), defScope (inClass (top 27) 0), [], []⟩) rfl
  d_PlainDir_is_dir := c.def_ 8 (d := ⟨("PlainDir", some "is_dir"), "is_dir", "PlainDir.is_dir", defArgs (inClass (top 27) 1), defBody (inClass (top 27) 1), defScope (inClass (top 27) 1), [], []⟩) rfl
  d_PlainDir_blocks_used := c.def_ 9 (d := ⟨("PlainDir", some "blocks_used"), "blocks_used", "PlainDir.blocks_used", defArgs (inClass (top 27) 2), defBody (inClass (top 27) 2), defScope (inClass (top 27) 2), [], []⟩) rfl
  d_PlainDir_told := c.def_ 10 (d := ⟨("PlainDir", some "told"), "told", "PlainDir.told", defArgs (inClass (top 27) 3), defBody (inClass (top 27) 3), defScope (inClass (top 27) 3), [], []⟩) rfl
  d_PlainDir_node_of := c.def_ 11 (d := ⟨("PlainDir", some "node_of"), "node_of", "PlainDir.node_of", defArgs (inClass (top 27) 4), defBody (inClass (top 27) 4), defScope (inClass (top 27) 4), [], []⟩) rfl
  d_PlainDir_names_in := c.def_ 12 (d := ⟨("PlainDir", some "names_in"), "names_in", "PlainDir.names_in", defArgs (inClass (top 27) 5), defBody (inClass (top 27) 5), defScope (inClass (top 27) 5), [], []⟩) rfl
  d_PlainDir_add_name := c.def_ 13 (d := ⟨("PlainDir", some "add_name"), "add_name", "PlainDir.add_name", defArgs (inClass (top 27) 6), defBody (inClass (top 27) 6), defScope (inClass (top 27) 6), [], []⟩) rfl
  d_PlainDir_drop_name := c.def_ 14 (d := ⟨("PlainDir", some "drop_name"), "drop_name", "PlainDir.drop_name", defArgs (inClass (top 27) 7), defBody (inClass (top 27) 7), defScope (inClass (top 27) 7), [], []⟩) rfl
  d_node_known := c.def_ 15 (d := ⟨("node_known", none), "node_known", "node_known", defArgs (top 28), defBody (top 28), defScope (top 28), [], []⟩) rfl
  d_walked := c.def_ 16 (d := ⟨("walked", none), "walked", "walked", defArgs (top 31), defBody (top 31), defScope (top 31), [], []⟩) rfl
  d_walked_to_new := c.def_ 17 (d := ⟨("walked_to_new", none), "walked_to_new", "walked_to_new", defArgs (top 32), defBody (top 32), defScope (top 32), [], []⟩) rfl
  d_blocks_free := c.def_ 18 (d := ⟨("blocks_free", none), "blocks_free", "blocks_free", defArgs (top 33), defBody (top 33), defScope (top 33), [], []⟩) rfl
  d_look_slot := c.def_ 19 (d := ⟨("look_slot", none), "look_slot", "look_slot", defArgs (top 34), defBody (top 34), defScope (top 34), [], []⟩) rfl
  d_look_growth := c.def_ 20 (d := ⟨("look_growth", none), "look_growth", "look_growth", defArgs (top 35), defBody (top 35), defScope (top 35), [], []⟩) rfl
  d_new_node := c.def_ 21 (d := ⟨("new_node", none), "new_node", "new_node", defArgs (top 38), defBody (top 38), defScope (top 38), [], []⟩) rfl
  d_clear_lost := c.def_ 22 (d := ⟨("clear_lost", none), "clear_lost", "clear_lost", defArgs (top 39), defBody (top 39), defScope (top 39), [], []⟩) rfl
  d_PlainFiles___init__ := c.def_ 23 (d := ⟨("PlainFiles", some "__init__"), "__init__", "PlainFiles.__init__", defArgs (inClass (top 40) 0), defBody (inClass (top 40) 0), defScope (inClass (top 40) 0), [], []⟩) rfl
  d_PlainFiles_find := c.def_ 24 (d := ⟨("PlainFiles", some "find"), "find", "PlainFiles.find", defArgs (inClass (top 40) 1), defBody (inClass (top 40) 1), defScope (inClass (top 40) 1), [], []⟩) rfl
  d_PlainFiles_make := c.def_ 25 (d := ⟨("PlainFiles", some "make"), "make", "PlainFiles.make", defArgs (inClass (top 40) 2), defBody (inClass (top 40) 2), defScope (inClass (top 40) 2), [], []⟩) rfl
  d_PlainFiles_make_dir := c.def_ 26 (d := ⟨("PlainFiles", some "make_dir"), "make_dir", "PlainFiles.make_dir", defArgs (inClass (top 40) 3), defBody (inClass (top 40) 3), defScope (inClass (top 40) 3), [], []⟩) rfl
  d_PlainFiles_link := c.def_ 27 (d := ⟨("PlainFiles", some "link"), "link", "PlainFiles.link", defArgs (inClass (top 40) 4), defBody (inClass (top 40) 4), defScope (inClass (top 40) 4), [], []⟩) rfl
  d_PlainFiles_unlink := c.def_ 28 (d := ⟨("PlainFiles", some "unlink"), "unlink", "PlainFiles.unlink", defArgs (inClass (top 40) 5), defBody (inClass (top 40) 5), defScope (inClass (top 40) 5), [], []⟩) rfl
  d_PlainFiles_remove_dir := c.def_ 29 (d := ⟨("PlainFiles", some "remove_dir"), "remove_dir", "PlainFiles.remove_dir", defArgs (inClass (top 40) 6), defBody (inClass (top 40) 6), defScope (inClass (top 40) 6), [], []⟩) rfl
  d_PlainFiles_move := c.def_ 30 (d := ⟨("PlainFiles", some "move"), "move", "PlainFiles.move", defArgs (inClass (top 40) 7), defBody (inClass (top 40) 7), defScope (inClass (top 40) 7), [], []⟩) rfl
  d_PlainFiles_names := c.def_ 31 (d := ⟨("PlainFiles", some "names"), "names", "PlainFiles.names", defArgs (inClass (top 40) 8), defBody (inClass (top 40) 8), defScope (inClass (top 40) 8), [], []⟩) rfl
  d_PlainFiles_stat := c.def_ 32 (d := ⟨("PlainFiles", some "stat"), "stat", "PlainFiles.stat", defArgs (inClass (top 40) 9), defBody (inClass (top 40) 9), defScope (inClass (top 40) 9), [], []⟩) rfl
  d_PlainFiles_free := c.def_ 33 (d := ⟨("PlainFiles", some "free"), "free", "PlainFiles.free", defArgs (inClass (top 40) 15), defBody (inClass (top 40) 15), defScope (inClass (top 40) 15), [], []⟩) rfl
  d__law_mixed := c.def_ 34 (d := ⟨("_law_mixed", none), "_law_mixed", "_law_mixed", defArgs (top 42), defBody (top 42), defScope (top 42), [], []⟩) rfl
  d__law_digit := c.def_ 35 (d := ⟨("_law_digit", none), "_law_digit", "_law_digit", defArgs (top 43), defBody (top 43), defScope (top 43), [], []⟩) rfl
  d__law_left := c.def_ 36 (d := ⟨("_law_left", none), "_law_left", "_law_left", defArgs (top 44), defBody (top 44), defScope (top 44), [], []⟩) rfl
  d__law_alike := c.def_ 37 (d := ⟨("_law_alike", none), "_law_alike", "_law_alike", defArgs (top 45), defBody (top 45), defScope (top 45), [], []⟩) rfl
  d__law_kind := c.def_ 38 (d := ⟨("_law_kind", none), "_law_kind", "_law_kind", defArgs (top 46), defBody (top 46), defScope (top 46), [], []⟩) rfl
  d__law_done := c.def_ 39 (d := ⟨("_law_done", none), "_law_done", "_law_done", defArgs (top 47), defBody (top 47), defScope (top 47), [], []⟩) rfl
  d__law_told := c.def_ 40 (d := ⟨("_law_told", none), "_law_told", "_law_told", defArgs (top 48), defBody (top 48), defScope (top 48), [], []⟩) rfl
  d__law_names := c.def_ 41 (d := ⟨("_law_names", none), "_law_names", "_law_names", defArgs (top 49), defBody (top 49), defScope (top 49), [], []⟩) rfl
  d__law_begun := c.def_ 42 (d := ⟨("_law_begun", none), "_law_begun", "_law_begun", defArgs (top 50), defBody (top 50), defScope (top 50), [], []⟩) rfl
  d__law_blocks := c.def_ 43 (d := ⟨("_law_blocks", none), "_law_blocks", "_law_blocks", defArgs (top 51), defBody (top 51), defScope (top 51), [], []⟩) rfl
  d__law_spare := c.def_ 44 (d := ⟨("_law_spare", none), "_law_spare", "_law_spare", defArgs (top 52), defBody (top 52), defScope (top 52), [], []⟩) rfl
  d__law_links := c.def_ 45 (d := ⟨("_law_links", none), "_law_links", "_law_links", defArgs (top 53), defBody (top 53), defScope (top 53), [], []⟩) rfl
  d__law_seek := c.def_ 46 (d := ⟨("_law_seek", none), "_law_seek", "_law_seek", defArgs (top 54), defBody (top 54), defScope (top 54), [], []⟩) rfl
  d__law_found := c.def_ 47 (d := ⟨("_law_found", none), "_law_found", "_law_found", defArgs (top 55), defBody (top 55), defScope (top 55), [], []⟩) rfl
  d__law_spot := c.def_ 48 (d := ⟨("_law_spot", none), "_law_spot", "_law_spot", defArgs (top 56), defBody (top 56), defScope (top 56), [], []⟩) rfl
  d__law_full := c.def_ 49 (d := ⟨("_law_full", none), "_law_full", "_law_full", defArgs (top 57), defBody (top 57), defScope (top 57), [], []⟩) rfl
  d__law_lacks := c.def_ 50 (d := ⟨("_law_lacks", none), "_law_lacks", "_law_lacks", defArgs (top 58), defBody (top 58), defScope (top 58), [], []⟩) rfl
  d__law_put := c.def_ 51 (d := ⟨("_law_put", none), "_law_put", "_law_put", defArgs (top 59), defBody (top 59), defScope (top 59), [], []⟩) rfl
  d__law_freed := c.def_ 52 (d := ⟨("_law_freed", none), "_law_freed", "_law_freed", defArgs (top 60), defBody (top 60), defScope (top 60), [], []⟩) rfl
  d__law_cleared := c.def_ 53 (d := ⟨("_law_cleared", none), "_law_cleared", "_law_cleared", defArgs (top 61), defBody (top 61), defScope (top 61), [], []⟩) rfl
  d__law_made := c.def_ 54 (d := ⟨("_law_made", none), "_law_made", "_law_made", defArgs (top 62), defBody (top 62), defScope (top 62), [], []⟩) rfl
  d__law_linked := c.def_ 55 (d := ⟨("_law_linked", none), "_law_linked", "_law_linked", defArgs (top 63), defBody (top 63), defScope (top 63), [], []⟩) rfl
  d__law_unlinked := c.def_ 56 (d := ⟨("_law_unlinked", none), "_law_unlinked", "_law_unlinked", defArgs (top 64), defBody (top 64), defScope (top 64), [], []⟩) rfl
  d__law_removed := c.def_ 57 (d := ⟨("_law_removed", none), "_law_removed", "_law_removed", defArgs (top 65), defBody (top 65), defScope (top 65), [], []⟩) rfl
  d__law_moved := c.def_ 58 (d := ⟨("_law_moved", none), "_law_moved", "_law_moved", defArgs (top 66), defBody (top 66), defScope (top 66), [], []⟩) rfl
  d__law_by_path := c.def_ 59 (d := ⟨("_law_by_path", none), "_law_by_path", "_law_by_path", defArgs (top 67), defBody (top 67), defScope (top 67), [], []⟩) rfl
  d__law_stat := c.def_ 60 (d := ⟨("_law_stat", none), "_law_stat", "_law_stat", defArgs (top 68), defBody (top 68), defScope (top 68), [], []⟩) rfl
  d__law_named_due := c.def_ 61 (d := ⟨("_law_named_due", none), "_law_named_due", "_law_named_due", defArgs (top 69), defBody (top 69), defScope (top 69), [], []⟩) rfl
  d__law_due := c.def_ 62 (d := ⟨("_law_due", none), "_law_due", "_law_due", defArgs (top 70), defBody (top 70), defScope (top 70), [], []⟩) rfl
  d__law_right := c.def_ 63 (d := ⟨("_law_right", none), "_law_right", "_law_right", defArgs (top 71), defBody (top 71), defScope (top 71), [], []⟩) rfl
  d__law_path := c.def_ 64 (d := ⟨("_law_path", none), "_law_path", "_law_path", defArgs (top 72), defBody (top 72), defScope (top 72), [], []⟩) rfl
  d__law_node := c.def_ 65 (d := ⟨("_law_node", none), "_law_node", "_law_node", defArgs (top 73), defBody (top 73), defScope (top 73), [], []⟩) rfl
  d__law_letters := c.def_ 66 (d := ⟨("_law_letters", none), "_law_letters", "_law_letters", defArgs (top 74), defBody (top 74), defScope (top 74), [], []⟩) rfl
  d__law_deeds := c.def_ 67 (d := ⟨("_law_deeds", none), "_law_deeds", "_law_deeds", defArgs (top 75), defBody (top 75), defScope (top 75), [], []⟩) rfl
  d_law := c.def_ 68 (d := ⟨("law", none), "law", "law", defArgs (top 76), defBody (top 76), defScope (top 76), [], []⟩) rfl
local macro_rules | `(tactic| walk_at "xf") => `(tactic| first | with_reducible exact Txt.e_BadName (by assumption) | with_reducible exact Txt.y_BadName_KernelError (by assumption) | with_reducible exact Txt.e_NoNode (by assumption) | with_reducible exact Txt.y_NoNode_KernelError (by assumption) | with_reducible exact Txt.e_NotDir (by assumption) | with_reducible exact Txt.y_NotDir_KernelError (by assumption) | with_reducible exact Txt.e_NoName (by assumption) | with_reducible exact Txt.y_NoName_KernelError (by assumption) | with_reducible exact Txt.e_Taken (by assumption) | with_reducible exact Txt.y_Taken_KernelError (by assumption) | with_reducible exact Txt.e_TooMany (by assumption) | with_reducible exact Txt.y_TooMany_KernelError (by assumption) | with_reducible exact Txt.e_NoSpace (by assumption) | with_reducible exact Txt.y_NoSpace_KernelError (by assumption) | with_reducible exact Txt.e_IsDir (by assumption) | with_reducible exact Txt.y_IsDir_KernelError (by assumption) | with_reducible exact Txt.e_NotAllowed (by assumption) | with_reducible exact Txt.y_NotAllowed_KernelError (by assumption) | with_reducible exact Txt.e_NotEmpty (by assumption) | with_reducible exact Txt.y_NotEmpty_KernelError (by assumption) | with_reducible exact Txt.e_Inside (by assumption) | with_reducible exact Txt.y_Inside_KernelError (by assumption) | with_reducible exact Txt.k_BadName_BadName (by assumption) | with_reducible exact Txt.k_BadName_NoName (by assumption) | with_reducible exact Txt.k_BadName_NotDir (by assumption) | with_reducible exact Txt.k_BadName_IsDir (by assumption) | with_reducible exact Txt.k_BadName_NotEmpty (by assumption) | with_reducible exact Txt.k_BadName_Inside (by assumption) | with_reducible exact Txt.k_BadName_NoNode (by assumption) | with_reducible exact Txt.k_BadName_NoSpace (by assumption) | with_reducible exact Txt.k_BadName_TooMany (by assumption) | with_reducible exact Txt.k_BadName_TooBig (by assumption) | with_reducible exact Txt.k_BadName_NotHeld (by assumption) | with_reducible exact Txt.k_BadName_NotAllowed (by assumption) | with_reducible exact Txt.k_BadName_Taken (by assumption) | with_reducible exact Txt.k_BadName_ValueError (by assumption) | with_reducible exact Txt.k_NoNode_BadName (by assumption) | with_reducible exact Txt.k_NoNode_NoName (by assumption) | with_reducible exact Txt.k_NoNode_NotDir (by assumption) | with_reducible exact Txt.k_NoNode_IsDir (by assumption) | with_reducible exact Txt.k_NoNode_NotEmpty (by assumption) | with_reducible exact Txt.k_NoNode_Inside (by assumption) | with_reducible exact Txt.k_NoNode_NoNode (by assumption) | with_reducible exact Txt.k_NoNode_NoSpace (by assumption) | with_reducible exact Txt.k_NoNode_TooMany (by assumption) | with_reducible exact Txt.k_NoNode_TooBig (by assumption) | with_reducible exact Txt.k_NoNode_NotHeld (by assumption) | with_reducible exact Txt.k_NoNode_NotAllowed (by assumption) | with_reducible exact Txt.k_NoNode_Taken (by assumption) | with_reducible exact Txt.k_NoNode_ValueError (by assumption) | with_reducible exact Txt.k_NotDir_BadName (by assumption) | with_reducible exact Txt.k_NotDir_NoName (by assumption) | with_reducible exact Txt.k_NotDir_NotDir (by assumption) | with_reducible exact Txt.k_NotDir_IsDir (by assumption) | with_reducible exact Txt.k_NotDir_NotEmpty (by assumption) | with_reducible exact Txt.k_NotDir_Inside (by assumption) | with_reducible exact Txt.k_NotDir_NoNode (by assumption) | with_reducible exact Txt.k_NotDir_NoSpace (by assumption) | with_reducible exact Txt.k_NotDir_TooMany (by assumption) | with_reducible exact Txt.k_NotDir_TooBig (by assumption) | with_reducible exact Txt.k_NotDir_NotHeld (by assumption) | with_reducible exact Txt.k_NotDir_NotAllowed (by assumption) | with_reducible exact Txt.k_NotDir_Taken (by assumption) | with_reducible exact Txt.k_NotDir_ValueError (by assumption) | with_reducible exact Txt.k_NoName_BadName (by assumption) | with_reducible exact Txt.k_NoName_NoName (by assumption) | with_reducible exact Txt.k_NoName_NotDir (by assumption) | with_reducible exact Txt.k_NoName_IsDir (by assumption) | with_reducible exact Txt.k_NoName_NotEmpty (by assumption) | with_reducible exact Txt.k_NoName_Inside (by assumption) | with_reducible exact Txt.k_NoName_NoNode (by assumption) | with_reducible exact Txt.k_NoName_NoSpace (by assumption) | with_reducible exact Txt.k_NoName_TooMany (by assumption) | with_reducible exact Txt.k_NoName_TooBig (by assumption) | with_reducible exact Txt.k_NoName_NotHeld (by assumption) | with_reducible exact Txt.k_NoName_NotAllowed (by assumption) | with_reducible exact Txt.k_NoName_Taken (by assumption) | with_reducible exact Txt.k_NoName_ValueError (by assumption) | with_reducible exact Txt.k_Taken_BadName (by assumption) | with_reducible exact Txt.k_Taken_NoName (by assumption) | with_reducible exact Txt.k_Taken_NotDir (by assumption) | with_reducible exact Txt.k_Taken_IsDir (by assumption) | with_reducible exact Txt.k_Taken_NotEmpty (by assumption) | with_reducible exact Txt.k_Taken_Inside (by assumption) | with_reducible exact Txt.k_Taken_NoNode (by assumption) | with_reducible exact Txt.k_Taken_NoSpace (by assumption) | with_reducible exact Txt.k_Taken_TooMany (by assumption) | with_reducible exact Txt.k_Taken_TooBig (by assumption) | with_reducible exact Txt.k_Taken_NotHeld (by assumption) | with_reducible exact Txt.k_Taken_NotAllowed (by assumption) | with_reducible exact Txt.k_Taken_Taken (by assumption) | with_reducible exact Txt.k_Taken_ValueError (by assumption) | with_reducible exact Txt.k_TooMany_BadName (by assumption) | with_reducible exact Txt.k_TooMany_NoName (by assumption) | with_reducible exact Txt.k_TooMany_NotDir (by assumption) | with_reducible exact Txt.k_TooMany_IsDir (by assumption) | with_reducible exact Txt.k_TooMany_NotEmpty (by assumption) | with_reducible exact Txt.k_TooMany_Inside (by assumption) | with_reducible exact Txt.k_TooMany_NoNode (by assumption) | with_reducible exact Txt.k_TooMany_NoSpace (by assumption) | with_reducible exact Txt.k_TooMany_TooMany (by assumption) | with_reducible exact Txt.k_TooMany_TooBig (by assumption) | with_reducible exact Txt.k_TooMany_NotHeld (by assumption) | with_reducible exact Txt.k_TooMany_NotAllowed (by assumption) | with_reducible exact Txt.k_TooMany_Taken (by assumption) | with_reducible exact Txt.k_TooMany_ValueError (by assumption) | with_reducible exact Txt.k_NoSpace_BadName (by assumption) | with_reducible exact Txt.k_NoSpace_NoName (by assumption) | with_reducible exact Txt.k_NoSpace_NotDir (by assumption) | with_reducible exact Txt.k_NoSpace_IsDir (by assumption) | with_reducible exact Txt.k_NoSpace_NotEmpty (by assumption) | with_reducible exact Txt.k_NoSpace_Inside (by assumption) | with_reducible exact Txt.k_NoSpace_NoNode (by assumption) | with_reducible exact Txt.k_NoSpace_NoSpace (by assumption) | with_reducible exact Txt.k_NoSpace_TooMany (by assumption) | with_reducible exact Txt.k_NoSpace_TooBig (by assumption) | with_reducible exact Txt.k_NoSpace_NotHeld (by assumption) | with_reducible exact Txt.k_NoSpace_NotAllowed (by assumption) | with_reducible exact Txt.k_NoSpace_Taken (by assumption) | with_reducible exact Txt.k_NoSpace_ValueError (by assumption) | with_reducible exact Txt.k_IsDir_BadName (by assumption) | with_reducible exact Txt.k_IsDir_NoName (by assumption) | with_reducible exact Txt.k_IsDir_NotDir (by assumption) | with_reducible exact Txt.k_IsDir_IsDir (by assumption) | with_reducible exact Txt.k_IsDir_NotEmpty (by assumption) | with_reducible exact Txt.k_IsDir_Inside (by assumption) | with_reducible exact Txt.k_IsDir_NoNode (by assumption) | with_reducible exact Txt.k_IsDir_NoSpace (by assumption) | with_reducible exact Txt.k_IsDir_TooMany (by assumption) | with_reducible exact Txt.k_IsDir_TooBig (by assumption) | with_reducible exact Txt.k_IsDir_NotHeld (by assumption) | with_reducible exact Txt.k_IsDir_NotAllowed (by assumption) | with_reducible exact Txt.k_IsDir_Taken (by assumption) | with_reducible exact Txt.k_IsDir_ValueError (by assumption) | with_reducible exact Txt.k_NotAllowed_BadName (by assumption) | with_reducible exact Txt.k_NotAllowed_NoName (by assumption) | with_reducible exact Txt.k_NotAllowed_NotDir (by assumption) | with_reducible exact Txt.k_NotAllowed_IsDir (by assumption) | with_reducible exact Txt.k_NotAllowed_NotEmpty (by assumption) | with_reducible exact Txt.k_NotAllowed_Inside (by assumption) | with_reducible exact Txt.k_NotAllowed_NoNode (by assumption) | with_reducible exact Txt.k_NotAllowed_NoSpace (by assumption) | with_reducible exact Txt.k_NotAllowed_TooMany (by assumption) | with_reducible exact Txt.k_NotAllowed_TooBig (by assumption) | with_reducible exact Txt.k_NotAllowed_NotHeld (by assumption) | with_reducible exact Txt.k_NotAllowed_NotAllowed (by assumption) | with_reducible exact Txt.k_NotAllowed_Taken (by assumption) | with_reducible exact Txt.k_NotAllowed_ValueError (by assumption) | with_reducible exact Txt.k_NotEmpty_BadName (by assumption) | with_reducible exact Txt.k_NotEmpty_NoName (by assumption) | with_reducible exact Txt.k_NotEmpty_NotDir (by assumption) | with_reducible exact Txt.k_NotEmpty_IsDir (by assumption) | with_reducible exact Txt.k_NotEmpty_NotEmpty (by assumption) | with_reducible exact Txt.k_NotEmpty_Inside (by assumption) | with_reducible exact Txt.k_NotEmpty_NoNode (by assumption) | with_reducible exact Txt.k_NotEmpty_NoSpace (by assumption) | with_reducible exact Txt.k_NotEmpty_TooMany (by assumption) | with_reducible exact Txt.k_NotEmpty_TooBig (by assumption) | with_reducible exact Txt.k_NotEmpty_NotHeld (by assumption) | with_reducible exact Txt.k_NotEmpty_NotAllowed (by assumption) | with_reducible exact Txt.k_NotEmpty_Taken (by assumption) | with_reducible exact Txt.k_NotEmpty_ValueError (by assumption) | with_reducible exact Txt.k_Inside_BadName (by assumption) | with_reducible exact Txt.k_Inside_NoName (by assumption) | with_reducible exact Txt.k_Inside_NotDir (by assumption) | with_reducible exact Txt.k_Inside_IsDir (by assumption) | with_reducible exact Txt.k_Inside_NotEmpty (by assumption) | with_reducible exact Txt.k_Inside_Inside (by assumption) | with_reducible exact Txt.k_Inside_NoNode (by assumption) | with_reducible exact Txt.k_Inside_NoSpace (by assumption) | with_reducible exact Txt.k_Inside_TooMany (by assumption) | with_reducible exact Txt.k_Inside_TooBig (by assumption) | with_reducible exact Txt.k_Inside_NotHeld (by assumption) | with_reducible exact Txt.k_Inside_NotAllowed (by assumption) | with_reducible exact Txt.k_Inside_Taken (by assumption) | with_reducible exact Txt.k_Inside_ValueError (by assumption) | fail)
local macro_rules | `(tactic| walk_at "fact") => `(tactic| first | with_reducible exact Txt.c_PlainFile (by assumption) | with_reducible exact Txt.c_PlainDir (by assumption) | with_reducible exact Txt.c_PlainFiles (by assumption) | with_reducible exact Txt.a_PlainFile_slots (by assumption) | with_reducible exact Txt.a_PlainFile_contents (by assumption) | with_reducible exact Txt.a_PlainFile_links (by assumption) | with_reducible exact Txt.a_PlainFile_holds (by assumption) | with_reducible exact Txt.a_PlainDir_slots (by assumption) | with_reducible exact Txt.a_PlainDir_contents (by assumption) | with_reducible exact Txt.a_PlainDir_links (by assumption) | with_reducible exact Txt.a_PlainDir_holds (by assumption) | with_reducible exact Txt.a_PlainFiles_blocks (by assumption) | with_reducible exact Txt.a_PlainFiles_nodes (by assumption) | fail)
/-! ### the walk's own lines -/
local macro_rules | `(tactic| walk_at "mem") => `(tactic| first | exact List.mem_cons_self | (apply List.mem_cons_of_mem; walk_at "mem") | (apply List.mem_append_right; walk_at "mem") | (apply List.mem_append_left; walk_at "mem"))
local macro_rules | `(tactic| walk_at "at") => `(tactic| first | exact At.here | (apply At.there; walk_at "at") | (apply At.app; walk_at "at") | (apply At.appl; walk_at "at"))
local macro_rules | `(tactic| walk_at "sub") => `(tactic| first | exact Sub.all | exact Sub.here | exact Sub.one | (apply Sub.there; walk_at "sub") | (apply Sub.appl; walk_at "sub") | (apply Sub.app; walk_at "sub"))
local macro_rules | `(tactic| walk_at "own") => `(tactic| first | assumption | ((with_reducible apply Own.wr2); (focus walk_at "own"); (focus walk_at "at"); rfl) | ((with_reducible apply Own.new); (focus walk_at "own"); assumption))
local macro_rules | `(tactic| walk_at "h") => `(tactic| first | assumption | (apply Own.get; (focus walk_at "own"); walk_at "mem") | (apply Own.fr0; (focus walk_at "own"); assumption) | (rename Own _ _ _ _ => otmp; clear otmp; walk_at "h"))
local macro_rules | `(tactic| walk_at "ar") => `(tactic| first | omega | (simp only [List.length_nil, List.length_cons, List.length_append, List.length_map, List.length_set, List.length_replicate, List.length_range]; omega))
/-- one premise -/
local macro_rules | `(tactic| walk_at "c") => `(tactic| first
  | with_reducible exact rfl
  | ((with_reducible apply sl_of); rfl)
  | ((with_reducible apply sc_of); rfl)
  | ((with_reducible apply lsq_of); rfl)
  | ((with_reducible apply wp_of); rfl)
  | ((with_reducible apply ln_of); rfl)
  | ((with_reducible apply veq_of); first | rfl | exact kl | exact kr)
  | ((with_reducible apply lk_of); rfl)
  | ((with_reducible apply lkn_of); rfl)
  | ((with_reducible apply lt_of); (first | decide | walk_at "ar" | ((repeat (with_reducible apply putF_lt)); walk_at "ar")))
  | ((with_reducible apply hp_of); walk_at "h")
  | ((with_reducible apply cd_of); first | exact ⟨by decide, by decide⟩ | exact ⟨by omega, by omega⟩)
  | ((with_reducible apply at_of); first | assumption | exact atI_nat (j := 0) rfl | exact atI_nat (j := 1) rfl | exact atI_nat (j := 2) rfl | exact atI_nat (j := 3) rfl | exact atI_nat (j := 4) rfl)
  | ((with_reducible apply ix_of); first | assumption | rfl)
  | ((with_reducible apply cp_of); exact ⟨by decide, by decide, by decide⟩)
  | ((with_reducible apply cmw_of); first | assumption | (unfold CMulW; decide +kernel))
  | ((with_reducible apply cm_l); first | exact ⟨by decide, by decide⟩ | exact ⟨by omega, by omega⟩)
  | ((with_reducible apply cm_r); first | exact ⟨by decide, by decide⟩ | exact ⟨by omega, by omega⟩)
  | ((with_reducible show SqL _ _ _ _); assumption)
  | ((with_reducible show DGet _ _ _ _); assumption)
  | ((with_reducible show DPut _ _ _ _ _); assumption)
  | with_reducible exact isStr_of
  | with_reducible exact tyStr_of
  | walk_at "fact"
  | walk_at "kit"
  | walk_at "xf"
  | walk_at "col"
  | assumption)
local macro_rules | `(tactic| walk_at "prd") => `(tactic| first | exact Paired.nil | ((with_reducible apply Paired.cons); (focus walk_at "c"); walk_at "prd"))
local macro_rules | `(tactic| walk_at "kit") => `(tactic| first
  | (with_reducible exact Paired.nil) | ((with_reducible apply Paired.cons); (focus walk_at "c"); walk_at "prd") | ((with_reducible apply kit_any); walk_at "prd")
  | with_reducible exact ClsV.ty _ | with_reducible exact ClsV.own _
  | with_reducible exact kt_int_int | with_reducible exact kt_int_bool | with_reducible exact kt_bool_int | with_reducible exact kt_bool_bool | with_reducible exact kt_list_list | with_reducible exact kt_tuple_tuple | with_reducible exact kt_NoneType_tuple | with_reducible exact kt_str_str | with_reducible exact kt_NoneType_list | with_reducible exact kt_NoneType_int | with_reducible exact kt_NoneType_bool | with_reducible exact kt_NoneType_dict | with_reducible exact kt_NoneType_str | with_reducible exact kt_str_list | with_reducible exact kt_list_str | with_reducible exact kt_str_int | with_reducible exact kt_int_str | with_reducible exact kt_int_list | with_reducible exact kt_int_tuple | with_reducible exact kt_list_tuple | with_reducible exact kt_tuple_list | with_reducible exact kt_dict_dict | with_reducible exact kt_list_dict | with_reducible exact kt_dict_list | with_reducible exact kt_int_dict | with_reducible exact kt_str_bool | with_reducible exact kt_str_tuple | with_reducible exact kt_str_dict | with_reducible exact kt_list_int | with_reducible exact kt_list_bool | with_reducible exact kt_tuple_int | with_reducible exact kt_tuple_bool | with_reducible exact kt_tuple_str | with_reducible exact kt_tuple_dict
  | ((with_reducible apply TyX.base); first | with_reducible exact TyOf.non | with_reducible exact TyOf.bl _ | with_reducible exact TyOf.int _ | with_reducible exact TyOf.str _ | ((with_reducible apply TyOf.lst); walk_at "h") | ((with_reducible apply TyOf.tup); walk_at "h") | ((with_reducible apply TyOf.dK); walk_at "h")))
/-- lists, tuples, dicts, sizes -/
local macro_rules | `(tactic| walk_at "sq") => `(tactic| first | assumption | ((with_reducible apply SqL.of); walk_at "h") | ((with_reducible apply SqT.of); walk_at "h") | ((with_reducible apply Own.sq); (focus walk_at "own"); assumption))
local macro_rules | `(tactic| walk_at "col") => `(tactic| first
  | ((with_reducible apply SqL.of); walk_at "h") | ((with_reducible apply SqT.of); walk_at "h") | ((with_reducible apply Rd.of); walk_at "h")
  | ((with_reducible apply Own.sq); (focus walk_at "own"); assumption)
  | ((with_reducible apply col_ex2); walk_at "sq") | ((with_reducible apply col_ol2); walk_at "sq") | ((with_reducible apply col_or2); walk_at "sq")
  | ((with_reducible apply sz_le); first | decide | walk_at "ar")
  | ((with_reducible apply sz_lt); first | decide | walk_at "ar")
  | ((with_reducible apply isd_k); walk_at "h")
  | ((with_reducible apply dget_ii); (focus walk_at "h"); assumption) | ((with_reducible apply dget_is); (focus walk_at "h"); assumption)
  | ((with_reducible apply dget_i); walk_at "h") | ((with_reducible apply dget_s); walk_at "h")
  | ((with_reducible apply dput_i); (focus walk_at "h"); walk_at "ar") | ((with_reducible apply dput_s); (focus walk_at "h"); walk_at "ar")
  | (apply Or.inl; apply And.intro rfl; apply col_ex; walk_at "h")
  | (apply Or.inr; apply Or.inr; apply Or.inl; apply And.intro rfl; apply Or.inl; constructor; walk_at "h") | (apply Or.inr; apply Or.inr; apply Or.inl; apply And.intro rfl; apply Or.inr; constructor; walk_at "h")
  | with_reducible exact all_flat _ | with_reducible exact all_flatS _ | ((with_reducible apply fl_of); rfl)
  | ((with_reducible apply pos_of); first | decide | assumption | omega | decide +kernel)
  | walk_at "ar")
/-- one step -/
local macro_rules | `(tactic| walk_at "s1") => `(tactic| first
  | (apply @Exists.intro V)
  | (apply @Exists.intro Addr)
  | (apply @Exists.intro Int)
  | (apply @Exists.intro (List V))
  | (apply @Exists.intro (List (Str × V)))
  | (apply @Exists.intro (List (Key × V)))
  | (apply @Exists.intro Key)
  | (apply @Exists.intro Bool)
  | (apply @Exists.intro Str)
  | (apply @Exists.intro Value)
  | (apply @Exists.intro (Option V))
  | (apply @Exists.intro (List Int)) | (apply @Exists.intro (List Bool)) | (apply @Exists.intro Obj) | (apply @Exists.intro (List Value)) | (apply @Exists.intro Hp)
  | (apply And.intro; (focus walk_at "c")))
local macro_rules | `(tactic| walk_at "s") => `(tactic| repeat walk_at "s1")
local macro_rules | `(tactic| walk_at "b") => `(tactic| (apply Box.mk; walk_at "s"))
local macro_rules | `(tactic| walk_at "sk") => `(tactic| (refine if_ss (fun z => absurd z (by decide)) (fun _ => ?_); walk_at "s"))
local macro_rules | `(tactic| walk_at "bb") => `(tactic| repeat (apply Box.mk; walk_at "s"))
local macro_rules | `(tactic| walk_at "pm") => `(tactic| (classical (refine List.perm_iff_count.mpr fun zz => ?_; simp only [List.count_cons, List.count_append, List.count_nil, List.cons_append, List.nil_append, List.append_nil]; omega)))
local macro_rules | `(tactic| walk_at "clo") => `(tactic| repeat (rename Own _ _ _ _ => otmp; clear otmp))
/-! ## paths: names in a text -/
open SX (S)
/-- a text's signs, few and plain -/
structure TxO (z : List Nat) : Prop where
  len : z.length ≤ 5000
  low : ∀ c ∈ z, c < 256
def smallL : List Nat := [97, 98, 99, 100, 101, 102, 103, 104, 105, 106, 107, 108, 109, 110, 111, 112, 113, 114, 115, 116, 117, 118, 119, 120, 121, 122]
theorem small_eq : ("abcdefghijklmnopqrstuvwxyz" : Str) = S smallL := by decide +kernel
def nameB (z : List Nat) : Bool := decide (1 ≤ z.length) && (decide (z.length ≤ 6) && z.all fun c => smallL.contains c)
def pieces (z : List Nat) : List (List Nat) := TL.spl [47] 0 [] z
/-- the names of a path, none where it is no path -/
def namesL (z : List Nat) : Option (List (List Nat)) :=
  if z = [47] then some [] else if (pieces z).length < 2 ∨ (pieces z).head? ≠ some [] then none else if (pieces z).tail.all nameB then some (pieces z).tail else none
theorem takeW_len {g : Nat → Bool} : ∀ z : List Nat, (z.takeWhile g).length = z.length ↔ z.all g = true
  | [] => by simp
  | c :: z => by
    rw [List.takeWhile_cons, List.all_cons]
    cases h : g c with
    | true => rw [if_pos rfl, List.length_cons, List.length_cons, Bool.true_and, ← takeW_len z]; omega
    | false => simp
theorem takeW_le {g : Nat → Bool} (z : List Nat) : (z.takeWhile g).length ≤ z.length := (List.takeWhile_sublist g).length_le
theorem takeW_at {g : Nat → Bool} : ∀ z : List Nat, ∀ h : (z.takeWhile g).length < z.length, g z[(z.takeWhile g).length] = false
  | c :: z, h => by
    cases hc : g c with
    | true =>
      have e : (c :: z).takeWhile g = c :: z.takeWhile g := by rw [List.takeWhile_cons, if_pos hc]
      have h2 : (z.takeWhile g).length < z.length := by rw [e, List.length_cons, List.length_cons] at h; omega
      have := takeW_at z h2
      simp only [e, List.length_cons, List.getElem_cons_succ]
      exact this
    | false =>
      have e : (c :: z).takeWhile g = [] := by rw [List.takeWhile_cons, hc]; rfl
      simp only [e, List.length_nil, List.getElem_cons_zero]
      exact hc
theorem strip_nil (g : Nat → Bool) (z : List Nat) : (Txt.stripBy g true true (S z) = S []) ↔ z.all g = true := by
  rw [W.stripBy_eq]
  show Builtin.Str.strSub (S z) (z.takeWhile g).length (z.length - ((z.drop (z.takeWhile g).length).reverse.takeWhile g).length) = S [] ↔ _
  have h0 := takeW_le (g := g) z
  have h1 := takeW_le (g := g) (z.drop (z.takeWhile g).length).reverse
  rw [List.length_reverse, List.length_drop] at h1
  have key : (Builtin.Str.strSub (S z) (z.takeWhile g).length (z.length - ((z.drop (z.takeWhile g).length).reverse.takeWhile g).length)).cps.size = (z.length - ((z.drop (z.takeWhile g).length).reverse.takeWhile g).length) - (z.takeWhile g).length := by
    show (Array.extract _ _ _).size = _
    rw [Array.size_extract, List.size_toArray]
    omega
  constructor
  · intro h
    rw [h] at key
    have key : 0 = (z.length - ((z.drop (z.takeWhile g).length).reverse.takeWhile g).length) - (z.takeWhile g).length := key
    rw [← takeW_len]
    by_cases hl : (z.takeWhile g).length < z.length
    · exfalso
      have h2 : ((z.drop (z.takeWhile g).length).reverse.takeWhile g).length = (z.drop (z.takeWhile g).length).reverse.length := by rw [List.length_reverse, List.length_drop]; omega
      rw [takeW_len, List.all_reverse, List.drop_eq_getElem_cons hl, List.all_cons, takeW_at z hl] at h2
      cases h2
    · omega
  · intro h
    rw [← takeW_len] at h
    have e : (Builtin.Str.strSub (S z) (z.takeWhile g).length (z.length - ((z.drop (z.takeWhile g).length).reverse.takeWhile g).length)).cps.size = 0 := by rw [key]; omega
    have e2 := Array.size_eq_zero_iff.mp e
    generalize Builtin.Str.strSub (S z) _ _ = q at e2
    cases q
    exact congrArg Str.mk e2
theorem strip_all (z : List Nat) : decide (V.str (Txt.stripChars (S z) "abcdefghijklmnopqrstuvwxyz") = V.str "") = z.all fun c => smallL.contains c := by
  have hc : (("abcdefghijklmnopqrstuvwxyz" : Str).cps.contains : Nat → Bool) = fun c => smallL.contains c := by
    funext c
    rw [small_eq]
    show smallL.toArray.contains c = _
    simp
  have h := strip_nil (fun c => smallL.contains c) z
  rw [← hc] at h
  have e0 : ("" : Str) = S [] := by decide +kernel
  rw [e0]
  cases ha : z.all fun c => smallL.contains c with
  | true => rw [← hc] at ha; rw [hc] at ha; exact decide_eq_true (congrArg V.str (h.mpr (by rw [hc]; exact ha)))
  | false => exact decide_eq_false fun q => by rw [h.mp (V.str.inj q) |> fun x => (by rw [hc] at x; exact x : (z.all fun c => smallL.contains c) = true)] at ha; cases ha
/-- texts as values -/
abbrev SV (ns : List (List Nat)) : List V := ns.map fun n => V.str (S n)
theorem spl1 (c : Nat) : ∀ (z acc : List Nat), (TL.spl [c] 0 acc z).length ≤ z.length + 1 ∧ 1 ≤ (TL.spl [c] 0 acc z).length ∧ ∀ p ∈ TL.spl [c] 0 acc z, p.length ≤ acc.length + z.length ∧ ∀ x ∈ p, x ∈ acc ∨ x ∈ z
  | [], acc => ⟨by simp [TL.spl], by simp [TL.spl], fun p hp => by
      have : p = acc := by simpa [TL.spl] using hp
      subst this
      exact ⟨by simp, fun x hx => .inl hx⟩⟩
  | y :: r, acc => by
    show (if TL.pre [c] (y :: r) = true then acc :: TL.spl [c] 0 [] r else TL.spl [c] 0 (acc ++ [y]) r).length ≤ _ ∧ 1 ≤ (if TL.pre [c] (y :: r) = true then acc :: TL.spl [c] 0 [] r else TL.spl [c] 0 (acc ++ [y]) r).length ∧ ∀ p ∈ (if TL.pre [c] (y :: r) = true then acc :: TL.spl [c] 0 [] r else TL.spl [c] 0 (acc ++ [y]) r), _
    split
    · obtain ⟨h1, h2, h3⟩ := spl1 c r []
      refine ⟨by rw [List.length_cons, List.length_cons]; omega, by rw [List.length_cons]; omega, fun p hp => ?_⟩
      rcases List.mem_cons.mp hp with rfl | hp
      · exact ⟨by simp, fun x hx => .inl hx⟩
      · obtain ⟨h4, h5⟩ := h3 p hp
        refine ⟨by rw [List.length_cons]; simp only [List.length_nil] at h4; omega, fun x hx => ?_⟩
        rcases h5 x hx with h | h
        · cases h
        · exact .inr (.tail _ h)
    · obtain ⟨h1, h2, h3⟩ := spl1 c r (acc ++ [y])
      refine ⟨by rw [List.length_cons]; omega, h2, fun p hp => ?_⟩
      obtain ⟨h4, h5⟩ := h3 p hp
      refine ⟨by rw [List.length_cons]; rw [List.length_append, List.length_singleton] at h4; omega, fun x hx => ?_⟩
      rcases h5 x hx with h | h
      · rcases List.mem_append.mp h with h | h
        · exact .inl h
        · exact .inr (by rw [List.mem_singleton.mp h]; exact .head _)
      · exact .inr (.tail _ h)
theorem pieces_few {z : List Nat} : (pieces z).length ≤ z.length + 1 ∧ 1 ≤ (pieces z).length := ⟨(spl1 47 z []).1, (spl1 47 z []).2.1⟩
theorem pieces_low {z : List Nat} (h : TxO z) {p : List Nat} (hp : p ∈ pieces z) : TxO p := by
  obtain ⟨h1, h2⟩ := (spl1 47 z []).2.2 p hp
  have := h.len
  refine ⟨by simp only [List.length_nil] at h1; omega, fun c hc => ?_⟩
  rcases h2 c hc with q | q
  · cases q
  · exact h.low c q
theorem split_pieces (z : List Nat) : Txt.split (S z) "/" = (pieces z).map S := by
  rw [show ("/" : Str) = S [47] by decide +kernel]
  exact SX.split_S (by simp) (by decide)
theorem SV_get {ns : List (List Nat)} {i : Nat} {x : V} (h : (SV ns)[i]? = some x) : ∃ n, ns[i]? = some n ∧ x = .str (S n) := by
  rw [List.getElem?_map] at h
  cases e : ns[i]? with
  | none => rw [e] at h; cases h
  | some n => rw [e] at h; exact ⟨n, rfl, (Option.some.inj h).symm⟩
def sp_is_name (K : PySem.W.Frag) : Sp := sp1 fun x H Q _ => ∃ z, x = .str (S z) ∧ z.length ≤ 5000 ∧ Q (.bl (nameB z)) H
def sp_names_of (K : PySem.W.Frag) : Sp := sp1 fun x H Q E => ∃ z, x = .str (S z) ∧ TxO z ∧ (namesL z = none → ∀ H', Own H H' [] [] → E (.ref (He.ga K "BadName")) none H') ∧
  (∀ ns, namesL z = some ns → ∀ H' b, Own H H' [] [(b, .lst (ns.map fun n => V.str (S n)))] → Q (.ref b) H')
theorem S_len5 {z : List Nat} (h : z.length ≤ 5000) : (S z).length + 2 ≤ sizeLine := by rw [SX.S_len]; exact sz_le (by omega)
theorem sc_is_name : FnScope ["text"] ["text"] (defScope s_is_name) := ⟨rfl, rfl, rfl, by decide +kernel, rfl, by decide +kernel, by decide +kernel⟩
theorem ok_is_name {P : Program} {w : World} {K : PySem.W.Frag} {mg : Str → Option Value} {base : Heap} (T : Txt K mg) : Cee P w K mg base 1 (He.fAd K ("is_name", none)) ["text"] (sp_is_name K) := by
  refine cee_of T.d_is_name sc_is_name (fun _ _ _ _ _ _ us hl => match us, hl with | [_], _ => rfl) (fun vs H Q E h => sp1_len h) (fun cdv A outer s H vs Q E hr h => ⟨_, (pss_one (ps_ret (pe_and (pe_chain op_le op_le pe_int (pe_callB call_len_str (by rfl) T.n_len (by decide +kernel) (pa_cons (pv 0) pa_nil)) (pe_gc (v := .int 6) rfl (gI T.g_LONGEST))) (pe_one (pe_cmpR op_eq (pe_bm PySem.F.plainAttrs_str PySem.F.slot_str_strip PySem.F.type_str_strip mt_stripChars (pv 0) (pa_cons (pe_gc (v := .str "abcdefghijklmnopqrstuvwxyz") rfl (gS T.g_SMALL)) pa_nil)) pe_str (nomark _)))))), ?_⟩)
  obtain ⟨v0, rfl, h⟩ := h
  dsimp only [cxOf, L2.start]
  obtain ⟨z, rfl, hz, k⟩ := h
  have hl1 : (S z).length ≤ sizeLine := by have := S_len5 hz; omega
  have hl2 := SX.S_len z
  walk_at "s"
  have hN : nameB z = (decide (1 ≤ z.length) && (decide (z.length ≤ 6) && z.all fun c => smallL.contains c)) := rfl
  rw [hN] at k
  refine if_d (fun h1 => ?_) (fun h1 => ?_)
  · rw [decide_eq_true (show 1 ≤ z.length by omega), Bool.true_and] at k
    walk_at "s"
    refine if_d (fun h2 => ?_) (fun h2 => ?_)
    · rw [decide_eq_true (show z.length ≤ 6 by omega), Bool.true_and] at k
      walk_at "s"
      rw [strip_all]
      exact k
    · rw [decide_eq_false (show ¬ z.length ≤ 6 by omega), Bool.false_and] at k
      walk_at "s"
      exact k
  · rw [decide_eq_false (show ¬ 1 ≤ z.length by omega), Bool.false_and] at k
    walk_at "s"
    exact k
theorem sc_names_of : FnScope ["path", "pieces", "piece"] ["path"] (defScope s_names_of) := ⟨rfl, rfl, rfl, by decide +kernel, rfl, by decide +kernel, by decide +kernel⟩
theorem ok_names_of {P : Program} {w : World} {K : PySem.W.Frag} {mg : Str → Option Value} {base : Heap} (T : Txt K mg) : Cee P w K mg base 2 (He.fAd K ("names_of", none)) ["path"] (sp_names_of K) := by
  have c_is_name : Cee P w K mg base 1 (He.fAd K ("is_name", none)) ["text"] (sp_is_name K) := ok_is_name T
  refine cee_of T.d_names_of sc_names_of (fun _ _ _ _ _ _ us hl => match us, hl with | [_], _ => rfl) (fun vs H Q E h => sp1_len h) (fun cdv A outer s H vs Q E hr h => ⟨_, (pss_cons (ps_if (pt_cmpR op_eq (pv 0) pe_str (nomark _)) (pss_one (ps_ret (pe_lst pa_nil))) pss_nil) (pss_cons (ps_set (i := 1) sc_names_of.nd rfl (Or.inl rfl) (pe_split (pv 0) pe_str)) (pss_cons (PS.box (ps_if (PW.pt (pw_or (pt_cmpR op_lt (pe_callB call_len_seq (by rfl) T.n_len (by decide +kernel) (pa_cons (pv 1) pa_nil)) pe_int (nomark _)) (pw_or1 (pt_cmpR op_ne (pe_ix ix_list (pv 1) pe_int (fun _ _ => rfl)) pe_str (nomark _))))) (pss_one (ps_raise rfl (takes_of rfl rfl rfl rfl) (pmk_own PySem.F.excBase_ValueError T.x_BadName.1 T.g_BadName T.x_BadName.2.1 (raises_own T.x_BadName.2.2.1 T.x_BadName.2.2.2) rfl))) pss_nil)) (pss_cons (ps_for (passes_of rfl) rfl (PI.box (pi_list (pe_slice sl_list (pv 1) (po_some pe_int) po_none))) (pg_name (i := 2) sc_names_of.nd rfl (Or.inl rfl)) (pss_one (ps_if (pt_not (pt_val (pe_f c_is_name (hr.mono (by decide)) (takes_of rfl rfl rfl rfl) (by rfl) T.g_is_name (pa_cons (pv 2) pa_nil)))) (pss_one (ps_raise rfl (takes_of rfl rfl rfl rfl) (pmk_own PySem.F.excBase_ValueError T.x_BadName.1 T.g_BadName T.x_BadName.2.1 (raises_own T.x_BadName.2.2.1 T.x_BadName.2.2.2) rfl))) pss_nil))) (pss_one (ps_ret (pe_slice sl_list (pv 1) (po_some pe_int) po_none))))))), ?_⟩)
  obtain ⟨v0, rfl, h⟩ := h
  dsimp only [cxOf, L2.start]
  obtain ⟨z, rfl, hz, ke, k⟩ := h
  have hl := S_len5 hz.len
  walk_at "s"
  refine if_ss (fun e => ?_) (fun e => ?_)
  · have ez : z = [47] := SX.S_inj (e.trans (by decide +kernel))
    walk_at "s"
    intro b hb
    exact k [] (by unfold namesL; rw [if_pos ez]) _ b (Own.start.new hb)
  · have ez : z ≠ [47] := fun h => e (by rw [h]; decide +kernel)
    walk_at "s"
    refine ⟨by decide +kernel, hl, fun b hb => ?_⟩
    rw [split_pieces, List.map_map]
    have hpf := pieces_few (z := z)
    have hzl := hz.len
    refine (Own.start (H := H)).sG hb fun H1 O1 _ => ?_
    have O1 : Own H H1 [] [(b, .lst (SV (pieces z)))] := O1
    have hb1 : H1 b = some (.lst (SV (pieces z))) := O1.get (.head _)
    have hbl : (SV (pieces z)).length = (pieces z).length := List.length_map ..
    obtain ⟨p0, hp0⟩ : ∃ p0, (pieces z)[0]? = some p0 := ⟨(pieces z)[0]'(by omega), List.getElem?_eq_getElem _⟩
    have hat : atI (SV (pieces z)) 0 = some (.str (S p0)) := atI_nat (j := 0) (by rw [List.getElem?_map, hp0]; rfl)
    have hhd : (pieces z).head? = some p0 := by rw [List.head?_eq_getElem?]; exact hp0
    have hns : namesL z = if (pieces z).length < 2 ∨ (pieces z).head? ≠ some [] then none else if (pieces z).tail.all nameB then some (pieces z).tail else none := by unfold namesL; rw [if_neg ez]
    walk_at "s"
    refine cutS (fun σ' H' => σ' = [some (.str (S z)), some (.ref b), none] ∧ Own H H' [] [(b, .lst (SV (pieces z)))] ∧ 2 ≤ (pieces z).length ∧ p0 = []) (fun nx hn => ?_) ?_
    · walk_at "s"
      refine if_d (fun h2 => ?_) (fun h2 => ?_)
      · walk_at "s"
        refine if_t rfl ?_
        exact ke (by rw [hns, if_pos (.inl (by omega))]) _ (O1.drop (List.nil_sublist _))
      · walk_at "s"
        refine if_nss (fun hp => ?_) (fun hp => ?_)
        · exact ke (by rw [hns, if_pos (.inr (by rw [hhd]; exact fun q => hp (by rw [Option.some.inj q]; decide +kernel)))]) _ (O1.drop (List.nil_sublist _))
        · exact hn _ _ ⟨rfl, O1, by omega, SX.S_inj (hp.trans (by decide +kernel))⟩
    · clear O1 hb1
      rintro σ' H2 ⟨rfl, O2, h2, rfl⟩
      have hb2 : SqL K H2 b (SV (pieces z)) := SqL.of (O2.get (.head _))
      rw [if_neg (by rw [hhd]; intro q; rcases q with q | q; (· omega); exact q rfl)] at hns
      have hcut : cutV (SV (pieces z)) (some 1) none = SV (pieces z).tail := (cutV_from _ 1).trans (by rw [← List.map_drop, List.drop_one])
      have htl : ∀ q ∈ (pieces z).tail, q.length ≤ 5000 := fun q hq => (pieces_low hz (List.mem_of_mem_tail hq)).len
      walk_at "s"
      rw [hcut]
      intro c hc
      have O3 := O2.new (o := .lst (SV (pieces z).tail)) hc
      generalize upd H2 c _ = H3 at O3 ⊢
      have hc3 : SqL K H3 c (SV (pieces z).tail) := SqL.of (O3.get (.head _))
      walk_at "s"
      refine forL (xs := SV (pieces z).tail) (fun i σ H' => ∃ v2 : Option V, σ = [some (.str (S z)), some (.ref b), v2] ∧ Own H H' [] [(c, .lst (SV (pieces z).tail)), (b, .lst (SV (pieces z)))] ∧ ((pieces z).tail.take i).all nameB = true) ⟨_, rfl, O3, by rfl⟩ (fun i σ H' _ ⟨_, _, O, _⟩ => SqL.of (O.get (.head _))) ?_ ?_
      · rintro i x σ H4 hx ⟨v2, rfl, O4, ha⟩
        obtain ⟨q, hq, rfl⟩ := SV_get hx
        walk_at "s"
        refine ask1 ⟨q, rfl, htl q (List.mem_of_getElem? hq), ?_⟩
        walk_at "s"
        refine if_nb (fun hb => ?_) (fun hb => ?_)
        · refine ke ?_ _ (O4.drop (List.nil_sublist _))
          rw [hns, if_neg]
          intro hall
          rw [List.all_eq_true] at hall
          rw [hall q (List.mem_of_getElem? hq)] at hb
          cases hb
        · exact ⟨⟨_, rfl, O4, by rw [take_succ hq, List.all_append, ha]; simp [hb]⟩⟩
      · rintro σ H4 ⟨v2, rfl, O4, ha⟩
        have hb4 : SqL K H4 b (SV (pieces z)) := SqL.of (O4.get (.tail _ (.head _)))
        rw [show (SV (pieces z).tail).length = (pieces z).tail.length from List.length_map .., List.take_length] at ha
        rw [if_pos ha] at hns
        walk_at "s"
        rw [hcut]
        intro d hd
        exact k _ hns _ d ((O4.new hd).drop (.cons₂ _ (List.nil_sublist _)))
/-! ### texts by size and signs -/
structure StO (n : Nat) (z : Str) : Prop where
  len : z.length ≤ n
  low : ∀ c ∈ z.cps.toList, c < 256
theorem StO.of {z : List Nat} {n : Nat} (h : TxO z) (hn : z.length ≤ n) : StO n (S z) := ⟨by rw [SX.S_len]; exact hn, h.low⟩
theorem StO.tx {z : Str} {n : Nat} (h : StO n z) (hn : n ≤ 5000) : ∃ l, z = S l ∧ TxO l := ⟨z.cps.toList, (SX.S_tl z).symm, by have := h.len; rw [show z.length = z.cps.toList.length from (Array.length_toList ..).symm] at this; omega, h.low⟩
theorem StO.cat {a b : Str} {n m : Nat} (h : StO n a) (k : StO m b) : StO (n + m) (a ++ b) := by
  refine ⟨by rw [Str.length_append]; have := h.len; have := k.len; omega, fun c hc => ?_⟩
  rw [Str.cps_append, Array.toList_append] at hc
  rcases List.mem_append.mp hc with q | q
  · exact h.low c q
  · exact k.low c q
theorem StO.cut {a : Str} {n : Nat} (h : StO n a) (lo hi : Option Int) : StO n (L2.cutS a lo hi) := by
  unfold L2.cutS
  refine ⟨?_, fun c hc => h.low c (List.mem_of_mem_drop (List.mem_of_mem_take hc))⟩
  show (List.toArray _).size ≤ n
  rw [List.size_toArray, List.length_take, List.length_drop, Array.length_toList]
  have := h.len
  have e : a.length = a.cps.size := rfl
  omega
theorem StO.rep {a : Str} {n : Nat} (h : StO n a) (k : Int) : StO (k.toNat * n) (repS a k) := by
  unfold repS
  refine ⟨?_, fun c hc => ?_⟩
  · show (List.toArray _).size ≤ _
    rw [List.size_toArray, List.length_flatten, List.map_replicate, List.sum_replicate_nat, Array.length_toList]
    exact Nat.mul_le_mul_left _ h.len
  · obtain ⟨l, hl, hc⟩ := List.mem_flatten.mp hc
    rw [List.eq_of_mem_replicate hl] at hc
    exact h.low c hc
theorem StO.lit (z : Str) (n : Nat) (h : (decide (z.length ≤ n) && z.cps.toList.all fun c => decide (c < 256)) = true) : StO n z := by
  rw [Bool.and_eq_true] at h
  exact ⟨of_decide_eq_true h.1, fun c hc => of_decide_eq_true (List.all_eq_true.mp h.2 c hc)⟩
theorem StO.fit {a b : Str} {n m : Nat} (h : StO n a) (k : StO m b) (hn : n + m ≤ 100000) : a.length + b.length ≤ sizeLine := sz_le (by have := h.len; have := k.len; omega)
theorem StO.mono {a : Str} {n m : Nat} (h : StO n a) (hn : n ≤ m) : StO m a := ⟨Nat.le_trans h.len hn, h.low⟩
theorem ok_strs {ns : List (List Nat)} (h : ∀ n ∈ ns, TxO n) : (ns.map S).all PyData.strOk = true := by
  rw [List.all_map, List.all_eq_true]
  intro n hn
  show (Array.all _ _) = true
  rw [← Array.all_toList]
  exact List.all_eq_true.mpr fun c hc => decide_eq_true (Nat.lt_trans ((h n hn).low c hc) (by decide))
theorem SV_map (ns : List (List Nat)) : SV ns = (ns.map S).map V.str := by simp [SV, Function.comp_def]
theorem namesL_low {z : List Nat} {ns : List (List Nat)} (hz : TxO z) (h : namesL z = some ns) : (∀ n ∈ ns, TxO n) ∧ ns.length ≤ 5001 := by
  unfold namesL at h
  split at h
  · cases h; exact ⟨nofun, by decide⟩
  · split at h
    · cases h
    · split at h
      · cases h
        have := (pieces_few (z := z)).1
        have h2 := hz.len
        exact ⟨fun n hn => pieces_low hz (List.mem_of_mem_tail hn), by rw [List.length_tail]; omega⟩
      · cases h
section
variable {K : PySem.W.Frag} {H : Hp} {a b : Addr} {Q : VK}
theorem eq_SV {ns ms : List (List Nat)} (h1 : ∀ n ∈ ns, TxO n) (h2 : ∀ n ∈ ms, TxO n) (ha : H a = some (.lst (SV ns))) (hb : H b = some (.lst (SV ms))) (k : Q (.bl (decide (ns.map S = ms.map S))) H) : rEqD K (.ref a) (.ref b) H Q :=
  eq_strs (ok_strs h1) (ok_strs h2) (by rw [← SV_map]; exact ha) (by rw [← SV_map]; exact hb) k
theorem ne_SV {ns ms : List (List Nat)} (h1 : ∀ n ∈ ns, TxO n) (h2 : ∀ n ∈ ms, TxO n) (ha : H a = some (.lst (SV ns))) (hb : H b = some (.lst (SV ms))) (k : Q (.bl (!decide (ns.map S = ms.map S))) H) : rNeD K (.ref a) (.ref b) H Q := by
  rw [SV_map] at ha hb
  exact ⟨_, _, .lst (SqL.of ha) (dpa_strs _), .lst (SqL.of hb) (dpa_strs _), sh_strs _ (ok_strs h1), sh_strs _ (ok_strs h2), by rw [show PyData.eqv (.list ((ns.map S).map PyData.str)) (.list ((ms.map S).map PyData.str)) = decide (ns.map S = ms.map S) from dist_strs _ _]; exact k⟩
theorem eq_word {x y : Str} (hx : PyData.strOk x = true) (hy : PyData.strOk y = true) (k : Q (.bl (decide (x = y))) H) : rEqD K (.str x) (.str y) H Q := by
  refine ⟨.str x, .str y, .str x, .str y, ?_, ?_, ?_⟩
  · show (PyData.canLay0 _ && decide (PyData.depth _ ≤ 64)) = true
    simp [PyData.canLay0, PyData.depth, hx]
  · show (PyData.canLay0 _ && decide (PyData.depth _ ≤ 64)) = true
    simp [PyData.canLay0, PyData.depth, hy]
  · have e : PyData.eqv (.str x) (.str y) = decide (x = y) := by
      show (x == y) = _
      by_cases h : x = y
      · subst h; simp
      · rw [decide_eq_false h]; simp [h]
    rw [e]; exact k
end
theorem StO.lits {xs : List Str} {n : Nat} (h : (xs.all fun z => decide (z.length ≤ n) && z.cps.toList.all fun c => decide (c < 256)) = true) : ∀ z ∈ xs, StO n z := fun z hz => StO.lit z n (List.all_eq_true.mp h z hz)
theorem pick_str {xs : List Str} {u : Int} {n : Nat} (h0 : 0 ≤ u) (h1 : u < (xs.length : Nat)) (h : ∀ z ∈ xs, StO n z) : ∃ z, atI (xs.map V.str) u = some (.str z) ∧ StO n z := by
  obtain ⟨k, rfl⟩ : ∃ k : Nat, u = k := ⟨u.toNat, by omega⟩
  have hk : k < xs.length := by omega
  exact ⟨xs[k], atI_nat (by rw [List.getElem?_map, List.getElem?_eq_getElem hk]; rfl), h _ (List.getElem_mem hk)⟩

/-! ## dicts of rows by number -/
section
variable {α : Type}
theorem lk_split {m : List (Int × α)} {k : Int} {v : α} (h : m.lookup k = some v) : ∃ l q, m = l ++ (k, v) :: q ∧ k ∉ l.map (·.1) := by
  induction m with
  | nil => cases h
  | cons x r ih =>
    obtain ⟨j, u⟩ := x
    rw [List.lookup_cons] at h
    cases e : k == j with
    | true =>
      rw [e] at h
      cases h
      cases eq_of_beq e
      exact ⟨[], r, rfl, List.not_mem_nil⟩
    | false =>
      rw [e] at h
      obtain ⟨l, q, rfl, hl⟩ := ih h
      refine ⟨(j, u) :: l, q, rfl, fun z => ?_⟩
      rcases List.mem_cons.mp z with z | z
      · rw [z] at e; simp at e
      · exact hl z
theorem lk_none {m : List (Int × α)} {k : Int} : m.lookup k = none ↔ k ∉ m.map (·.1) := by
  induction m with
  | nil => exact ⟨fun _ => List.not_mem_nil, fun _ => rfl⟩
  | cons x r ih =>
    obtain ⟨j, u⟩ := x
    rw [List.lookup_cons, List.map_cons, List.mem_cons]
    cases e : k == j with
    | true => exact ⟨nofun, fun z => absurd (.inl (eq_of_beq e)) z⟩
    | false =>
      have hne : k ≠ j := fun z => by rw [z] at e; simp at e
      refine ih.trans ⟨fun h z => z.elim hne h, fun h z => h (.inr z)⟩
theorem lk_some {m : List (Int × α)} {k : Int} : (m.lookup k).isSome = true ↔ k ∈ m.map (·.1) := by
  cases h : m.lookup k with
  | none => exact ⟨nofun, fun z => absurd z (lk_none.mp h)⟩
  | some v =>
    refine ⟨fun _ => ?_, fun _ => rfl⟩
    obtain ⟨l, q, rfl, _⟩ := lk_split h
    simp
theorem lk_map {β : Type} (f : α → β) (m : List (Int × α)) (k : Int) : (m.map fun x => (x.1, f x.2)).lookup k = (m.lookup k).map f := by
  induction m with
  | nil => rfl
  | cons x r ih =>
    obtain ⟨j, u⟩ := x
    rw [List.map_cons, List.lookup_cons, List.lookup_cons]
    cases k == j with
    | true => rfl
    | false => exact ih
theorem lk_val (f : α → V) (m : List (Int × α)) (k : Int) : valV (m.map fun x => ((Sum.inl x.1 : Key), f x.2)) (Sum.inl k) = (m.lookup k).map f := by
  induction m with
  | nil => rfl
  | cons x r ih =>
    obtain ⟨j, u⟩ := x
    rw [List.lookup_cons, List.map_cons]
    by_cases e : j = k
    · subst e
      rw [show (j == j) = true by simp]
      exact valV_pos rfl
    · rw [show (k == j) = false by simpa using fun z => e z.symm]
      exact (valV_neg (fun z => e (Sum.inl.inj z))).trans ih
theorem lk_mem {m : List (Int × α)} {k : Int} {v : α} (h : m.lookup k = some v) : (k, v) ∈ m := by
  obtain ⟨l, q, rfl, _⟩ := lk_split h
  simp
theorem lk_nd {m : List (Int × α)} {k : Int} {v : α} (nd : (m.map (·.1)).Nodup) (h : (k, v) ∈ m) : m.lookup k = some v := by
  induction m with
  | nil => cases h
  | cons x q ih =>
    obtain ⟨j, u⟩ := x
    rw [List.map_cons] at nd
    obtain ⟨n1, n2⟩ := List.nodup_cons.mp nd
    rw [List.lookup_cons]
    rcases List.mem_cons.mp h with z | z
    · cases z; simp
    · have hne : k ≠ j := fun e => n1 (e ▸ List.mem_map.mpr ⟨_, z, rfl⟩)
      rw [show (k == j) = false by simpa using hne]
      exact ih n2 z
/-- one goes -/
def dropA (m : List (Int × α)) (k : Int) : List (Int × α) := m.filter fun x => decide (x.1 ≠ k)
/-- one gets another thing -/
def setA (m : List (Int × α)) (k : Int) (v : α) : List (Int × α) := m.map fun x => if x.1 = k then (x.1, v) else x
theorem dropA_no {m : List (Int × α)} {k : Int} (h : k ∉ m.map (·.1)) : dropA m k = m :=
  List.filter_eq_self.mpr fun x hx => decide_eq_true fun e => h (List.mem_map.mpr ⟨x, hx, e⟩)
theorem setA_no {m : List (Int × α)} {k : Int} {v : α} (h : k ∉ m.map (·.1)) : setA m k v = m := by
  unfold setA
  conv => rhs; rw [← List.map_id m]
  exact List.map_congr_left fun x hx => if_neg fun e => h (List.mem_map.mpr ⟨x, hx, e⟩)
theorem nd_mid {l q : List (Int × α)} {k : Int} {v : α} (nd : ((l ++ (k, v) :: q).map (·.1)).Nodup) : k ∉ l.map (·.1) ∧ k ∉ q.map (·.1) := by
  rw [List.map_append, List.map_cons] at nd
  obtain ⟨n1, n2, n3⟩ := List.nodup_append.mp nd
  exact ⟨fun z => n3 k z k (.head _) rfl, (List.nodup_cons.mp n2).1⟩
theorem dropA_mid {l q : List (Int × α)} {k : Int} {v : α} (nd : ((l ++ (k, v) :: q).map (·.1)).Nodup) : dropA (l ++ (k, v) :: q) k = l ++ q := by
  obtain ⟨h1, h2⟩ := nd_mid nd
  unfold dropA
  rw [List.filter_append, List.filter_cons, if_neg (by simp)]
  exact congr (congrArg _ (dropA_no h1)) (dropA_no h2)
theorem setA_mid {l q : List (Int × α)} {k : Int} {v u : α} (nd : ((l ++ (k, v) :: q).map (·.1)).Nodup) : setA (l ++ (k, v) :: q) k u = l ++ (k, u) :: q := by
  obtain ⟨h1, h2⟩ := nd_mid nd
  unfold setA
  rw [List.map_append, List.map_cons, if_pos rfl]
  exact congr (congrArg _ (setA_no h1)) (congrArg _ (setA_no h2))
theorem dropA_val (f : α → V) (m : List (Int × α)) (k : Int) : dropK (m.map fun x => ((Sum.inl x.1 : Key), f x.2)) (Sum.inl k) = (dropA m k).map fun x => ((Sum.inl x.1 : Key), f x.2) := by
  unfold dropK dropA
  rw [List.filter_map]
  congr 1
  refine List.filter_congr fun x _ => ?_
  show decide ((Sum.inl x.1 : Key) ≠ Sum.inl k) = _
  exact decide_eq_decide.mpr ⟨fun h e => h (congrArg _ e), fun h e => h (Sum.inl.inj e)⟩
theorem dropA_map {β : Type} (f : α → β) (m : List (Int × α)) (k : Int) : dropA (m.map fun x => (x.1, f x.2)) k = (dropA m k).map fun x => (x.1, f x.2) := by
  unfold dropA
  rw [List.filter_map]
  rfl
theorem setA_keys (m : List (Int × α)) (k : Int) (v : α) : (setA m k v).map (·.1) = m.map (·.1) := by
  unfold setA
  rw [List.map_map]
  refine List.map_congr_left fun x _ => ?_
  show (if x.1 = k then (x.1, v) else x).1 = x.1
  split <;> rfl
theorem lk_setA (m : List (Int × α)) (k j : Int) (v : α) : (setA m k v).lookup j = if j = k then (m.lookup k).map (fun _ => v) else m.lookup j := by
  induction m with
  | nil => show none = _; split <;> rfl
  | cons x r ih =>
    obtain ⟨i, u⟩ := x
    have e1 : setA ((i, u) :: r) k v = (if i = k then (i, v) else (i, u)) :: setA r k v := rfl
    rw [e1]
    by_cases h : i = k
    · rw [if_pos h, List.lookup_cons, List.lookup_cons, List.lookup_cons]
      subst h
      by_cases z : j = i
      · subst z; simp
      · rw [show (j == i) = false by simpa using z, if_neg z]
        refine ih.trans ?_
        rw [if_neg z]
    · rw [if_neg h, List.lookup_cons, List.lookup_cons, List.lookup_cons, show (k == i) = false by simpa using fun z => h z.symm]
      by_cases z : j = i
      · subst z; simp [h]
      · rw [show (j == i) = false by simpa using z]
        exact ih
theorem lk_dropA (m : List (Int × α)) (k j : Int) : (dropA m k).lookup j = if j = k then none else m.lookup j := by
  induction m with
  | nil => show none = _; split <;> rfl
  | cons x r ih =>
    obtain ⟨i, u⟩ := x
    unfold dropA at ih ⊢
    rw [List.filter_cons]
    by_cases h : i = k
    · rw [if_neg (by simp [h]), ih]
      subst h
      by_cases z : j = i
      · rw [if_pos z, if_pos z]
      · rw [if_neg z, if_neg z, List.lookup_cons, show (j == i) = false by simpa using z]
    · rw [if_pos (by simp [h]), List.lookup_cons, List.lookup_cons]
      by_cases z : j = i
      · subst z; simp [h]
      · rw [show (j == i) = false by simpa using z]
        exact ih
theorem lk_app (l q : List (Int × α)) (j : Int) : (l ++ q).lookup j = (l.lookup j).or (q.lookup j) := by
  induction l with
  | nil => rfl
  | cons x r ih =>
    obtain ⟨i, u⟩ := x
    rw [List.cons_append, List.lookup_cons, List.lookup_cons]
    cases j == i with
    | true => rfl
    | false => exact ih
theorem dropA_sub (m : List (Int × α)) (k : Int) : List.Sublist (dropA m k) m := List.filter_sublist
end
abbrev Ch := List (Int × Pg)
abbrev Ch.kvs (ch : Ch) : List (Key × V) := ch.map fun x => (Sum.inl x.1, V.ref x.2.1)
abbrev Ch.pure (ch : Ch) : List (Int × List Int) := ch.map fun x => (x.1, x.2.2)
def cCh (c : Addr) (ch : Ch) : Cells := (c, .dK (Ch.kvs ch)) :: ch.map fun x => pcel x.2
/-! ### rooms by task -/
abbrev Wl := List (Int × Addr × Ch)
abbrev wlD (w : Wl) : List (Key × V) := w.map fun x => (Sum.inl x.1, V.ref x.2.1)
def cRms (w : Wl) : Cells := w.flatMap fun x => cCh x.2.1 x.2.2
def cWl (D : Addr) (w : Wl) : Cells := (D, .dK (wlD w)) :: cRms w
theorem cRms_mid (l q : Wl) (x : Int × Addr × Ch) : cRms (l ++ x :: q) = cRms l ++ (cCh x.2.1 x.2.2 ++ cRms q) := by
  unfold cRms
  rw [List.flatMap_append, List.flatMap_cons]
theorem cRms_app (l q : Wl) : cRms (l ++ q) = cRms l ++ cRms q := by
  unfold cRms
  rw [List.flatMap_append]
abbrev ARm := List (Int × List Int)
abbrev AWl := List (Int × ARm)
abbrev Wl.abs (w : Wl) : AWl := w.map fun x => (x.1, Ch.pure x.2.2)
theorem Wl.look (w : Wl) (t : Int) : valV (wlD w) (Sum.inl t) = (w.lookup t).map fun x => V.ref x.1 := lk_val (fun x : Addr × Ch => V.ref x.1) w t
theorem Wl.look_abs (w : Wl) (t : Int) : w.abs.lookup t = (w.lookup t).map fun x => x.2.pure := lk_map (fun x : Addr × Ch => x.2.pure) w t
theorem Ch.lookV (ch : Ch) (t : Int) : valV ch.kvs (Sum.inl t) = (ch.lookup t).map fun x => V.ref x.1 := lk_val (fun x : Pg => V.ref x.1) ch t
theorem Ch.look_abs (ch : Ch) (t : Int) : ch.pure.lookup t = (ch.lookup t).map (·.2) := lk_map (fun x : Pg => x.2) ch t
/-! ### what rooms are, and what deeds do, in plain words -/
structure ROk (r : ARm) : Prop where
  nd : (r.map (·.1)).Nodup
  key : ∀ k ∈ r.map (·.1), 0 ≤ k ∧ k < 64
  wide : ∀ x ∈ r, x.2.length = 8
structure WOk (w : AWl) : Prop where
  nd : (w.map (·.1)).Nodup
  rms : ∀ x ∈ w, ROk x.2
  few : w.length ≤ 1000
def pgs (p : Int) (n : Nat) : List Int := (List.range n).map fun i : Nat => p + i
def zeros : List Int := List.replicate 8 0
def mapR (r : ARm) (ps : List Int) : ARm := r ++ ps.map fun p => (p, zeros)
def dropR (r : ARm) (ps : List Int) : ARm := ps.foldl dropA r
def cellR (r : ARm) (at_ : Int) : Int := (((r.lookup (at_ / 8)).getD [])[(at_ % 8).toNat]?).getD 0
def peekR (r : ARm) (a : Int) (n : Nat) : List Int := (List.range n).map fun i : Nat => cellR r (a + i)
def putR (r : ARm) (at_ c : Int) : ARm := setA r (at_ / 8) (((r.lookup (at_ / 8)).getD []).set (at_ % 8).toNat c)
def pokeR (r : ARm) (a : Int) : List Int → ARm
  | [] => r
  | c :: cs => pokeR (putR r a c) (a + 1) cs
def heldA (w : AWl) : Int := ((w.map fun x => x.2.length).sum : Nat)
inductive Rf where
  | taken | noTask | noPage | noRoom
deriving DecidableEq
def Rf.name : Rf → Str
  | .taken => "Taken"
  | .noTask => "NoTask"
  | .noPage => "NoPage"
  | .noRoom => "NoRoom"
abbrev Rf.cls (K : PySem.W.Frag) : Rf → Value
  | .taken => .ref (He.ga K "Taken")
  | .noTask => .ref (He.ga K "NoTask")
  | .noPage => .ref (He.ga K "NoPage")
  | .noRoom => .ref (He.ga K "NoRoom")
inductive RDeed where
  | begin (t : Int) | close (t : Int) | map (t p n : Int) | drop (t p n : Int) | peek (t a n : Int) | poke (t a : Int) (cs : List Int) | copy (t o : Int)
def badP (p n : Int) : Bool := decide (n < 1 ∨ p < 0 ∨ p + n > 64)
def badA (a n : Int) : Bool := decide (n < 0 ∨ (n > 0 ∧ (a < 0 ∨ a + n > 512)))
def anyP (r : ARm) (ps : List Int) : Bool := ps.any fun p => (r.lookup p).isSome
def allP (r : ARm) (ps : List Int) : Bool := ps.all fun p => (r.lookup p).isSome
/-- the pages that the addresses lie in are there -/
def allA (r : ARm) (a : Int) (n : Nat) : Bool := (List.range n).all fun i : Nat => (r.lookup ((a + i) / 8)).isSome
def sem (tot : Int) (w : AWl) : RDeed → Except Rf (AWl × Option (List Int))
  | .begin t => if (w.lookup t).isSome then .error .taken else .ok (w ++ [(t, [])], none)
  | .close t => if (w.lookup t).isSome then .ok (dropA w t, none) else .error .noTask
  | .map t p n => match w.lookup t with
    | none => .error .noTask
    | some r => if badP p n then .error .noPage else if anyP r (pgs p n.toNat) then .error .taken else if heldA w + n > tot then .error .noRoom else .ok (setA w t (mapR r (pgs p n.toNat)), none)
  | .drop t p n => match w.lookup t with
    | none => .error .noTask
    | some r => if badP p n then .error .noPage else if allP r (pgs p n.toNat) then .ok (setA w t (dropR r (pgs p n.toNat)), none) else .error .noPage
  | .peek t a n => match w.lookup t with
    | none => .error .noTask
    | some r => if badA a n then .error .noPage else if allA r a n.toNat then .ok (w, some (peekR r a n.toNat)) else .error .noPage
  | .poke t a cs => match w.lookup t with
    | none => .error .noTask
    | some r => if badA a cs.length then .error .noPage else if allA r a cs.length then .ok (setA w t (pokeR r a cs), none) else .error .noPage
  | .copy t o => match w.lookup t with
    | none => .error .noTask
    | some r => if (w.lookup o).isSome then .error .taken else if heldA w + r.length > tot then .error .noRoom else .ok (w ++ [(o, r)], none)
section
variable {tot : Int} {w : AWl} {t p n a o : Int} {cs : List Int} {r : ARm}
theorem sem_begin0 (h : w.lookup t = none) : sem tot w (.begin t) = .ok (w ++ [(t, [])], none) := by
  show (if (w.lookup t).isSome = true then _ else _) = _
  rw [h]; rfl
theorem sem_begin1 (h : (w.lookup t).isSome = true) : sem tot w (.begin t) = .error .taken := if_pos h
theorem sem_close0 (h : w.lookup t = none) : sem tot w (.close t) = .error .noTask := by
  show (if (w.lookup t).isSome = true then _ else _) = _
  rw [h]; rfl
theorem sem_close1 (h : (w.lookup t).isSome = true) : sem tot w (.close t) = .ok (dropA w t, none) := if_pos h
theorem sem_map0 (h : w.lookup t = none) : sem tot w (.map t p n) = .error .noTask := by
  show (match w.lookup t with | none => _ | some r => _) = _
  rw [h]
theorem sem_map1 (h : w.lookup t = some r) : sem tot w (.map t p n) = if badP p n = true then .error .noPage else if anyP r (pgs p n.toNat) = true then .error .taken else if heldA w + n > tot then .error .noRoom else .ok (setA w t (mapR r (pgs p n.toNat)), none) := by
  show (match w.lookup t with | none => _ | some r => _) = _
  rw [h]
theorem sem_drop0 (h : w.lookup t = none) : sem tot w (.drop t p n) = .error .noTask := by
  show (match w.lookup t with | none => _ | some r => _) = _
  rw [h]
theorem sem_drop1 (h : w.lookup t = some r) : sem tot w (.drop t p n) = if badP p n = true then .error .noPage else if allP r (pgs p n.toNat) = true then .ok (setA w t (dropR r (pgs p n.toNat)), none) else .error .noPage := by
  show (match w.lookup t with | none => _ | some r => _) = _
  rw [h]
theorem sem_peek0 (h : w.lookup t = none) : sem tot w (.peek t a n) = .error .noTask := by
  show (match w.lookup t with | none => _ | some r => _) = _
  rw [h]
theorem sem_peek1 (h : w.lookup t = some r) : sem tot w (.peek t a n) = if badA a n = true then .error .noPage else if allA r a n.toNat = true then .ok (w, some (peekR r a n.toNat)) else .error .noPage := by
  show (match w.lookup t with | none => _ | some r => _) = _
  rw [h]
theorem sem_poke0 (h : w.lookup t = none) : sem tot w (.poke t a cs) = .error .noTask := by
  show (match w.lookup t with | none => _ | some r => _) = _
  rw [h]
theorem sem_poke1 (h : w.lookup t = some r) : sem tot w (.poke t a cs) = if badA a cs.length = true then .error .noPage else if allA r a cs.length = true then .ok (setA w t (pokeR r a cs), none) else .error .noPage := by
  show (match w.lookup t with | none => _ | some r => _) = _
  rw [h]
theorem sem_copy0 (h : w.lookup t = none) : sem tot w (.copy t o) = .error .noTask := by
  show (match w.lookup t with | none => _ | some r => _) = _
  rw [h]
theorem sem_copy1 (h : w.lookup t = some r) : sem tot w (.copy t o) = if (w.lookup o).isSome = true then .error .taken else if heldA w + r.length > tot then .error .noRoom else .ok (w ++ [(o, r)], none) := by
  show (match w.lookup t with | none => _ | some r => _) = _
  rw [h]
end
theorem Wl.abs_none {w : Wl} {t : Int} (h : w.lookup t = none) : w.abs.lookup t = none := by rw [Wl.look_abs, h]; rfl
theorem Wl.abs_some {w : Wl} {t : Int} {a : Addr} {r : Ch} (h : w.lookup t = some (a, r)) : w.abs.lookup t = some r.pure := by rw [Wl.look_abs, h]; rfl
theorem Wl.nd {w : Wl} (ok : WOk w.abs) : (w.map (·.1)).Nodup := by
  have := ok.nd
  rw [List.map_map] at this
  exact this
theorem Wl.len {w : Wl} (ok : WOk w.abs) : w.length ≤ 1000 := by
  have := ok.few
  rw [List.length_map] at this
  exact this
theorem Wl.new {w : Wl} {t : Int} {v : V} (h : w.lookup t = none) : putK (wlD w) (Sum.inl t) v = wlD w ++ [(Sum.inl t, v)] := putK_new (fun z => by
  rw [List.map_map] at z
  obtain ⟨x, hx, e⟩ := List.mem_map.mp z
  cases e
  exact lk_none.mp h (List.mem_map.mpr ⟨x, hx, rfl⟩))
theorem Wl.drop {l q : Wl} {t : Int} {x : Addr × Ch} (nd : ((l ++ (t, x) :: q).map (·.1)).Nodup) : dropK (wlD (l ++ (t, x) :: q)) (Sum.inl t) = wlD (l ++ q) := (dropA_val (fun x : Addr × Ch => V.ref x.1) _ t).trans (by rw [dropA_mid nd])
theorem Wl.drop_abs {l q : Wl} {t : Int} {x : Addr × Ch} (nd : ((l ++ (t, x) :: q).map (·.1)).Nodup) : dropA (Wl.abs (l ++ (t, x) :: q)) t = Wl.abs (l ++ q) := (dropA_map (fun x : Addr × Ch => Ch.pure x.2) _ t).trans (by rw [dropA_mid nd])
theorem Wl.set_abs {l q : Wl} {t : Int} {a b : Addr} {r r' : Ch} (nd : ((l ++ (t, a, r) :: q).map (·.1)).Nodup) : setA (Wl.abs (l ++ (t, a, r) :: q)) t r'.pure = Wl.abs (l ++ (t, b, r') :: q) := by
  have e : Wl.abs (l ++ (t, a, r) :: q) = Wl.abs l ++ (t, r.pure) :: Wl.abs q := by unfold Wl.abs; rw [List.map_append]; rfl
  have nd2 : ((Wl.abs l ++ (t, r.pure) :: Wl.abs q).map (·.1)).Nodup := by
    rw [← e, List.map_map]
    exact nd
  rw [e, setA_mid nd2]
  unfold Wl.abs
  rw [List.map_append]
  rfl
theorem anyP_yes {r : ARm} {ps : List Int} {y : Int} (hy : y ∈ ps) (h : (r.lookup y).isSome = true) : anyP r ps = true := List.any_eq_true.mpr ⟨y, hy, h⟩
theorem anyP_no {r : ARm} {ps : List Int} (h : ∀ y ∈ ps, r.lookup y = none) : ¬ anyP r ps = true := fun z => by
  obtain ⟨y, hy, e⟩ := List.any_eq_true.mp z
  rw [h y hy] at e
  cases e
theorem allP_no {r : ARm} {ps : List Int} {y : Int} (hy : y ∈ ps) (h : r.lookup y = none) : ¬ allP r ps = true := fun z => by
  have e := List.all_eq_true.mp z y hy
  rw [h] at e
  cases e
theorem allP_yes {r : ARm} {ps : List Int} (h : ∀ y ∈ ps, (r.lookup y).isSome = true) : allP r ps = true := List.all_eq_true.mpr h
theorem ints_le : ∀ (m : Nat) (l : List Int), l.Nodup → (∀ x ∈ l, 0 ≤ x ∧ x < (m : Int)) → l.length ≤ m
  | 0, l, _, h => by
    cases l with
    | nil => exact Nat.le_refl 0
    | cons a r => have := h a (.head _); omega
  | m + 1, l, hn, h => by
    have h1 := ints_le m (l.erase (m : Int)) (hn.erase _) fun x hx => by
      have h2 := h x (List.mem_of_mem_erase hx)
      have h3 : x ≠ (m : Int) := fun e => by
        subst e
        exact hn.not_mem_erase hx
      omega
    by_cases hm : (m : Int) ∈ l
    · rw [List.length_erase_of_mem hm] at h1
      omega
    · rw [List.erase_of_not_mem hm] at h1
      omega
theorem ROk.len {r : ARm} (h : ROk r) : r.length ≤ 64 := by
  have := ints_le 64 (r.map (·.1)) h.nd fun x hx => h.key x hx
  rwa [List.length_map] at this
theorem pgs_nd (p : Int) (n : Nat) : (pgs p n).Nodup := List.Pairwise.map _ (fun a b h z => h (by omega)) List.nodup_range
theorem pgs_len (p : Int) (n : Nat) : (pgs p n).length = n := by unfold pgs; rw [List.length_map, List.length_range]
theorem pgs_at {p : Int} {n j : Nat} {y : Int} (h : (pgs p n)[j]? = some y) : y = p + j ∧ j < n := by
  unfold pgs at h
  rw [List.getElem?_map] at h
  have hj : j < (List.range n).length := by
    cases e : (List.range n)[j]? with
    | none => rw [e] at h; cases h
    | some z => exact (List.getElem?_eq_some_iff.mp e).1
  rw [List.getElem?_eq_getElem hj, List.getElem_range] at h
  rw [List.length_range] at hj
  exact ⟨(Option.some.inj h).symm, hj⟩
theorem pgs_mem {p : Int} {n : Nat} {y : Int} : y ∈ pgs p n ↔ p ≤ y ∧ y < p + n := by
  unfold pgs
  rw [List.mem_map]
  constructor
  · rintro ⟨i, hi, rfl⟩
    have := List.mem_range.mp hi
    omega
  · intro h
    exact ⟨(y - p).toNat, List.mem_range.mpr (by omega), by omega⟩
/-- not among those ahead of it -/
theorem nd_take {l : List Int} (nd : l.Nodup) {j : Nat} {y : Int} (h : l[j]? = some y) : y ∉ l.take j := fun z => by
  have e := at_split h
  rw [e] at nd
  exact (List.nodup_append.mp nd).2.2 y z y (.head _) rfl
theorem wlD_mid (l q : Wl) (t : Int) (a : Addr) (r r' : Ch) : wlD (l ++ (t, a, r) :: q) = wlD (l ++ (t, a, r') :: q) := by
  unfold wlD
  rw [List.map_append, List.map_append]
  rfl
theorem Own.into {H0 H : Hp} {A : List Addr} {e : Addr × HO} {X Y Z : Cells} (O : Own H0 H A (e :: (X ++ (Y ++ Z)))) : Own H0 H A (X ++ ((Y ++ [e]) ++ Z)) := O.perm (by
  rw [← List.append_assoc X Y Z, List.append_assoc Y [e] Z, ← List.append_assoc X Y]
  exact List.perm_middle.symm)
theorem WOk.at {w : Wl} (ok : WOk w.abs) {t : Int} {a : Addr} {r : Ch} (h : w.lookup t = some (a, r)) : ROk r.pure := ok.rms _ (lk_mem (Wl.abs_some h))
theorem allA_no {r : ARm} {a : Int} {n i : Nat} (hi : i < n) (h : r.lookup ((a + i) / 8) = none) : allA r a n = false := by
  cases e : allA r a n with
  | false => rfl
  | true =>
    have := List.all_eq_true.mp e i (List.mem_range.mpr hi)
    rw [h] at this
    cases this
theorem allA_yes {r : ARm} {a : Int} {n : Nat} (h : ∀ i : Nat, i < n → (r.lookup ((a + i) / 8)).isSome = true) : allA r a n = true := List.all_eq_true.mpr fun i hi => h i (List.mem_range.mp hi)
theorem allA_at {r : ARm} {a : Int} {n i : Nat} (h : allA r a n = true) (hi : i < n) : (r.lookup ((a + i) / 8)).isSome = true := List.all_eq_true.mp h i (List.mem_range.mpr hi)
theorem cellR_at {r : Ch} {at_ : Int} {b : Pg} (h : r.lookup (at_ / 8) = some b) : cellR r.pure at_ = ((b.2)[(at_ % 8).toNat]?).getD 0 := by
  unfold cellR
  rw [Ch.look_abs, h]
  rfl
theorem peekR_take (r : ARm) (a : Int) (n : Nat) {j : Nat} (h : j < n) : (peekR r a n).take (j + 1) = (peekR r a n).take j ++ [cellR r (a + j)] := by
  refine take_succ ?_
  unfold peekR
  rw [List.getElem?_map, List.getElem?_range h]
  rfl
theorem peekR_len (r : ARm) (a : Int) (n : Nat) : (peekR r a n).length = n := by unfold peekR; rw [List.length_map, List.length_range]
theorem ROk.eight {r : Ch} (h : ROk r.pure) {k : Int} {b : Pg} (hb : r.lookup k = some b) : b.2.length = 8 := h.wide (k, b.2) (List.mem_map.mpr ⟨_, lk_mem hb, rfl⟩)
theorem rm_mem {w : Wl} {t : Int} {a : Addr} {r : Ch} (h : w.lookup t = some (a, r)) : (a, HO.dK (Ch.kvs r)) ∈ cRms w := List.mem_flatMap.mpr ⟨_, lk_mem h, .head _⟩
theorem pg_mem {w : Wl} {t k : Int} {a : Addr} {r : Ch} {b : Pg} (h : w.lookup t = some (a, r)) (hb : r.lookup k = some b) : (b.1, HO.lst (b.2.map V.int)) ∈ cRms w := List.mem_flatMap.mpr ⟨_, lk_mem h, .tail _ (List.mem_map.mpr ⟨_, lk_mem hb, rfl⟩)⟩
theorem ite3 {α : Type} {a b : Bool} {x y : α} (h : a = true ∨ b = false) : (if a = true then x else if b = true then y else x) = x := by
  rcases h with z | z
  · rw [if_pos z]
  · rw [z]
    split <;> rfl
theorem pokeR_snoc (r : ARm) (a : Int) (xs : List Int) (c : Int) : pokeR r a (xs ++ [c]) = putR (pokeR r a xs) (a + xs.length) c := by
  induction xs generalizing r a with
  | nil => show putR r a c = putR r (a + 0) c; rw [Int.add_zero]
  | cons x q ih =>
    show pokeR (putR r a x) (a + 1) (q ++ [c]) = putR (pokeR (putR r a x) (a + 1) q) _ c
    rw [ih, List.length_cons, show a + 1 + (q.length : Int) = a + ((q.length + 1 : Nat) : Int) by omega]
theorem putR_mid {l q : Ch} {k : Int} {b : Pg} {at_ c : Int} (nd : ((l ++ (k, b) :: q).map (·.1)).Nodup) (h : at_ / 8 = k) : putR (Ch.pure (l ++ (k, b) :: q)) at_ c = Ch.pure (l ++ (k, (b.1, b.2.set (at_ % 8).toNat c)) :: q) := by
  subst h
  have e : Ch.pure (l ++ (at_ / 8, b) :: q) = Ch.pure l ++ (at_ / 8, b.2) :: Ch.pure q := by unfold Ch.pure; rw [List.map_append]; rfl
  have nd2 : ((Ch.pure l ++ (at_ / 8, b.2) :: Ch.pure q).map (·.1)).Nodup := by
    rw [← e, List.map_map]
    exact nd
  unfold putR
  rw [e, lk_nd (v := b.2) nd2 (List.mem_append_right _ (.head _)), setA_mid nd2]
  unfold Ch.pure
  rw [List.map_append]
  rfl
theorem cCh_mid (a : Addr) (l q : Ch) (k : Int) (b : Pg) : cCh a (l ++ (k, b) :: q) = (a, .dK (Ch.kvs (l ++ (k, b) :: q))) :: (l.map (fun x => pcel x.2) ++ pcel b :: q.map fun x => pcel x.2) := by
  unfold cCh
  rw [List.map_append (l₁ := l)]
  rfl
theorem kvs_mid (l q : Ch) (k : Int) (b b' : Pg) (h : b.1 = b'.1) : Ch.kvs (l ++ (k, b) :: q) = Ch.kvs (l ++ (k, b') :: q) := by
  unfold Ch.kvs
  rw [List.map_append, List.map_append, List.map_cons, List.map_cons, h]
theorem dget_fi {H : Hp} {a : Addr} {o : Obj} {kvs : List (Key × V)} {i : Int} {v : V} (h : H a = some (.frz o (.dK kvs))) (e : valV kvs (Sum.inl i) = some v) : DGet H a (.int i) (some v) := .inl ⟨kvs, Sum.inl i, .inr ⟨o, h⟩, rfl, e.symm⟩
theorem ok_inj {α β : Type} {x y : β} (h : (Except.ok x : Except α β) = .ok y) : x = y := by cases h; rfl
theorem if_ok {c : Prop} [Decidable c] {α β : Type} {e : α} {x y : β} (h : (if c then (.error e) else (.ok x) : Except α β) = .ok y) : ¬ c ∧ x = y := by
  by_cases z : c
  · rw [if_pos z] at h; cases h
  · rw [if_neg z] at h; cases h; exact ⟨z, rfl⟩
theorem if_ok2 {c : Prop} [Decidable c] {α β : Type} {e : α} {x : Except α β} {y : β} (h : (if c then (.error e) else x) = .ok y) : ¬ c ∧ x = .ok y := by
  by_cases z : c
  · rw [if_pos z] at h; cases h
  · rw [if_neg z] at h; exact ⟨z, h⟩
theorem if_ok3 {c : Prop} [Decidable c] {α β : Type} {e : α} {x y : β} (h : (if c then (.ok x) else (.error e) : Except α β) = .ok y) : c ∧ x = y := by
  by_cases z : c
  · rw [if_pos z] at h; cases h; exact ⟨z, rfl⟩
  · rw [if_neg z] at h; cases h
theorem mget {α : Type} {f : α → V} {l : List α} {i : Nat} {x : V} (h : (l.map f)[i]? = some x) : ∃ y, l[i]? = some y ∧ x = f y := by
  rw [List.getElem?_map] at h
  cases e : l[i]? with
  | none => rw [e] at h; cases h
  | some y => rw [e] at h; exact ⟨y, rfl, (Option.some.inj h).symm⟩
theorem mgetK {α : Type} {f : α → Key × V} {l : List α} {i : Nat} {x : Key × V} (h : (l.map f)[i]? = some x) : ∃ y, l[i]? = some y ∧ x = f y := by
  rw [List.getElem?_map] at h
  cases e : l[i]? with
  | none => rw [e] at h; cases h
  | some y => rw [e] at h; exact ⟨y, rfl, (Option.some.inj h).symm⟩
/-- the parts of a deed's tuple; b is the list of a poke -/
def RDeed.vs (b : Addr) : RDeed → List V
  | .begin t => [.str "begin", .int t]
  | .close t => [.str "close", .int t]
  | .map t p n => [.str "map", .int t, .int p, .int n]
  | .drop t p n => [.str "drop", .int t, .int p, .int n]
  | .peek t a n => [.str "peek", .int t, .int a, .int n]
  | .poke t a _ => [.str "poke", .int t, .int a, .ref b]
  | .copy t o => [.str "copy", .int t, .int o]
def RDeed.cel (b : Addr) : RDeed → Cells
  | .poke _ _ cs => [(b, .lst (cs.map V.int))]
  | _ => []
def RDeed.fine : RDeed → Prop
  | .poke _ _ cs => cs.length ≤ 64
  | _ => True
/-- a deed's tuple, and its list out of reach of some -/
def DAt (H : Hp) (A : List Addr) (T : Addr) (d : RDeed) (b : Addr) : Prop := H T = some (.tup (d.vs b)) ∧ ∀ e ∈ d.cel b, H e.1 = some e.2 ∧ e.1 ∉ A
/-- the word of an answer -/
def wordA : Except Rf (AWl × Option (List Int)) → Str
  | .error e => e.name
  | .ok _ => ""
def outA : Except Rf (AWl × Option (List Int)) → Option (List Int)
  | .error _ => none
  | .ok (_, o) => o
def nextA (w : AWl) : Except Rf (AWl × Option (List Int)) → AWl
  | .error _ => w
  | .ok (w', _) => w'
abbrev Tol := Option (Addr × List Int)
def Tol.v : Tol → V
  | none => .non
  | some x => .ref x.1
def Tol.cel : Tol → Cells
  | none => []
  | some x => [(x.1, .lst (x.2.map V.int))]

/-! ## plain files: nodes, what they hold, what they promise -/
open SX (S)
abbrev Nm := List Nat
abbrev Sl := Option (Nm × Int)
inductive AN where
  | dir (ss : List Sl)
  | file (l h : Int) (cs : List Int)
structure NG where
  p : Addr
  dx : Addr
  a : Addr
  vs : List V
  n : AN
def AN.val (n : AN) (vs : List V) : List V := match n with
  | .dir _ => vs
  | .file _ _ cs => cs.map V.int
def insN (K : PySem.W.Frag) (dx a : Addr) (n : AN) : HO := match n with
  | .dir _ => .ins (He.ga K "PlainDir") dx [("slots", .ref a)]
  | .file l h _ => .ins (He.ga K "PlainFile") dx [("contents", .ref a), ("links", .int l), ("holds", .int h)]
abbrev cNG (K : PySem.W.Frag) (x : NG) : Cells := [(x.p, insN K x.dx x.a x.n), (x.a, .lst (x.n.val x.vs))]
def SlV (H : Hp) (v : V) (s : Sl) : Prop := match s with
  | none => v = .non
  | some q => ∃ T, v = .ref T ∧ H T = some (.tup [.str (S q.1), .int q.2])
structure SlsV (H : Hp) (vs : List V) (ss : List Sl) : Prop where
  len : vs.length = ss.length
  at_ : ∀ (i : Nat) (v : V) (s : Sl), vs[i]? = some v → ss[i]? = some s → SlV H v s
theorem SlV.mono {H H' H0 : Hp} {A : List Addr} {cs : Cells} {v : V} {s : Sl} (h : SlV H v s) (O : Own H H' A cs) : SlV H' v s := by
  cases s with
  | none => exact h
  | some q =>
    obtain ⟨T, h1, h2⟩ := h
    exact ⟨T, h1, O.tp _ _ h2⟩
theorem SlsV.mono {H H' : Hp} {A : List Addr} {cs : Cells} {vs : List V} {ss : List Sl} (h : SlsV H vs ss) (O : Own H H' A cs) : SlsV H' vs ss := ⟨h.len, fun i v s h1 h2 => (h.at_ i v s h1 h2).mono (H0 := H) O⟩
theorem SlsV.get {H : Hp} {vs : List V} {ss : List Sl} (h : SlsV H vs ss) {i : Nat} {v : V} (hv : vs[i]? = some v) : ∃ s, ss[i]? = some s ∧ SlV H v s := by
  have hi := (List.getElem?_eq_some_iff.mp hv).1
  have hs : ss[i]? = some (ss[i]'(by have := h.len; omega)) := List.getElem?_eq_getElem _
  exact ⟨_, hs, h.at_ _ _ _ hv hs⟩
theorem SlsV.set {H : Hp} {vs : List V} {ss : List Sl} (h : SlsV H vs ss) (j : Nat) {v : V} {s : Sl} (hs : SlV H v s) : SlsV H (vs.set j v) (ss.set j s) := by
  refine ⟨by rw [List.length_set, List.length_set]; exact h.len, fun i v' s' h1 h2 => ?_⟩
  rw [List.getElem?_set] at h1 h2
  by_cases e : j = i
  · rw [if_pos e] at h1 h2
    split at h1
    · split at h2
      · cases h1; cases h2; exact hs
      · cases h2
    · cases h1
  · rw [if_neg e] at h1 h2
    exact h.at_ i v' s' h1 h2
theorem SlsV.snoc {H : Hp} {vs : List V} {ss : List Sl} (h : SlsV H vs ss) {v : V} {s : Sl} (hs : SlV H v s) : SlsV H (vs ++ [v]) (ss ++ [s]) := by
  have hl := h.len
  refine ⟨by rw [List.length_append, List.length_append, hl]; rfl, fun i v' s' h1 h2 => ?_⟩
  by_cases e : i < vs.length
  · rw [List.getElem?_append_left e] at h1
    rw [List.getElem?_append_left (by omega)] at h2
    exact h.at_ i v' s' h1 h2
  · rw [List.getElem?_append_right (by omega)] at h1
    rw [List.getElem?_append_right (by omega)] at h2
    have hi : i - vs.length = 0 := by
      have := (List.getElem?_eq_some_iff.mp h1).1
      rw [List.length_singleton] at this
      omega
    rw [hi] at h1
    rw [show i - ss.length = 0 by omega] at h2
    cases h1; cases h2; exact hs
def dpS (s : Sl) : PyData := match s with
  | none => .none
  | some q => .tuple [.str (S q.1), .int q.2]
theorem SlV.dp {K : PySem.W.Frag} {H : Hp} {v : V} {s : Sl} (h : SlV H v s) : Dp K H v (dpS s) := by
  cases s with
  | none => cases h; exact .non
  | some q =>
    obtain ⟨T, rfl, h2⟩ := h
    exact .tup (SqT.of h2) (.cons (.str _) (.cons (.int _) .nil))
theorem SlsV.dp {K : PySem.W.Frag} {H : Hp} : ∀ {vs : List V} {ss : List Sl}, SlsV H vs ss → DpAll K H vs (ss.map dpS)
  | [], [], _ => .nil
  | [], _ :: _, h => by have := h.len; simp at this
  | _ :: _, [], h => by have := h.len; simp at this
  | v :: vs, s :: ss, h => .cons (h.at_ 0 v s rfl rfl).dp (SlsV.dp ⟨by have := h.len; simpa using this, fun i v s h1 h2 => h.at_ (i + 1) v s h1 h2⟩)
/-- a slot's text is plain -/
def SlOk (s : Sl) : Prop := ∀ q, s = some q → q.1.length ≤ 6 ∧ ∀ c ∈ q.1, c < 256
theorem strOk_S {z : List Nat} (h : ∀ c ∈ z, c < 256) : PyData.strOk (S z) = true := by
  show (Array.all _ _) = true
  rw [← Array.all_toList]
  exact List.all_eq_true.mpr fun c hc => decide_eq_true (Nat.lt_trans (h c hc) (by decide))
theorem dpS_lay {s : Sl} (h : SlOk s) : (dpS s).canLay0 = true := by
  cases s with
  | none => rfl
  | some q => simp [dpS, PyData.canLay0, PyData.canLayAll0, strOk_S (h q rfl).2]
theorem dpS_deep (s : Sl) : (dpS s).depth ≤ 1 := by
  cases s with
  | none => simp [dpS, PyData.depth]
  | some q => simp [dpS, PyData.depth, PyData.depthAll]
theorem dpS_all : ∀ {ss : List Sl}, (∀ s ∈ ss, SlOk s) → PyData.canLayAll0 (ss.map dpS) = true ∧ PyData.depthAll (ss.map dpS) ≤ 2
  | [], _ => ⟨rfl, by simp [PyData.depthAll]⟩
  | s :: ss, h => by
    obtain ⟨h1, h2⟩ := dpS_all fun x hx => h x (.tail _ hx)
    have h3 := dpS_lay (h s (.head _))
    have h4 := dpS_deep s
    refine ⟨by simp [PyData.canLayAll0, h3]; simpa using h1, ?_⟩
    simp only [List.map_cons, PyData.depthAll]
    omega
def optV : Option Int → V
  | none => .non
  | some k => .int k
/-! ### what nodes tell -/
def blk (c : Int) : Int := (c + 15) / 16 + if c > 64 then 1 else 0
def nodeOf (ss : List Sl) (n : Nm) : Option Int := ss.findSome? fun s => s.bind fun q => if q.1 = n then some q.2 else none
def namesIn (ss : List Sl) : List Nm := ss.filterMap (·.map Prod.fst)
def addA (ss : List Sl) (n : Nm) (k : Int) : List Sl := if none ∈ ss then ss.set (ss.idxOf none) (some (n, k)) else ss ++ [some (n, k)]
def dropS (ss : List Sl) (n : Nm) : List Sl := ss.map fun s => s.bind fun q => if q.1 = n then none else some q
def sp_blocks_for (K : PySem.W.Frag) : Sp := sp1 fun x H Q _ => ∃ c, x = .int c ∧ Q (.int (blk c)) H
def sp_PlainFile___init__ (K : PySem.W.Frag) : Sp := sp1 fun self H Q _ => ∃ p dx, self = .ref p ∧ Own H H [p] [(p, .ins (He.ga K "PlainFile") dx [])] ∧ ∀ H' a, Own H H' [p] (cNG K ⟨p, dx, a, [], .file 1 0 []⟩) → Q .non H'
def sp_PlainFile_is_dir (K : PySem.W.Frag) : Sp := sp1 fun _ H Q _ => Q (.bl false) H
def sp_PlainFile_blocks_used (K : PySem.W.Frag) : Sp := sp1 fun self H Q _ => ∃ p dx a l h, ∃ cs : List Int, self = .ref p ∧ H p = some (insN K dx a (.file l h cs)) ∧ H a = some (.lst (cs.map V.int)) ∧ Q (.int (blk (cs.length : Nat))) H
def sp_PlainFile_told (K : PySem.W.Frag) : Sp := sp1 fun self H Q _ => ∃ p dx a l h, ∃ cs : List Int, self = .ref p ∧ H p = some (insN K dx a (.file l h cs)) ∧ H a = some (.lst (cs.map V.int)) ∧ ∀ H' T, Own H H' [] [] → H' T = some (.tup [.str "file", .int l, .int (cs.length : Nat)]) → Q (.ref T) H'
def sp_PlainDir___init__ (K : PySem.W.Frag) : Sp := sp1 fun self H Q _ => ∃ p dx, self = .ref p ∧ Own H H [p] [(p, .ins (He.ga K "PlainDir") dx [])] ∧ ∀ H' a, Own H H' [p] (cNG K ⟨p, dx, a, [], .dir []⟩) → Q .non H'
def sp_PlainDir_is_dir (K : PySem.W.Frag) : Sp := sp1 fun _ H Q _ => Q (.bl true) H
def sp_PlainDir_blocks_used (K : PySem.W.Frag) : Sp := sp1 fun self H Q _ => ∃ p dx a vs, ∃ ss : List Sl, self = .ref p ∧ H p = some (insN K dx a (.dir ss)) ∧ H a = some (.lst vs) ∧ vs.length = ss.length ∧ Q (.int (blk (8 * (ss.length : Nat)))) H
def sp_PlainDir_told (K : PySem.W.Frag) : Sp := sp1 fun self H Q _ => ∃ p dx a vs, ∃ ss : List Sl, self = .ref p ∧ H p = some (insN K dx a (.dir ss)) ∧ H a = some (.lst vs) ∧ vs.length = ss.length ∧ ∀ H' T, Own H H' [] [] → H' T = some (.tup [.str "dir", .int 1, .int (ss.length : Nat)]) → Q (.ref T) H'
def sp_PlainDir_node_of (K : PySem.W.Frag) : Sp := sp2 fun self x H Q _ => ∃ p dx a vs n, ∃ ss : List Sl, self = .ref p ∧ x = .str (S n) ∧ H p = some (insN K dx a (.dir ss)) ∧ H a = some (.lst vs) ∧ SlsV H vs ss ∧ Q (optV (nodeOf ss n)) H
def sp_PlainDir_names_in (K : PySem.W.Frag) : Sp := sp1 fun self H Q _ => ∃ p dx a vs, ∃ ss : List Sl, self = .ref p ∧ H p = some (insN K dx a (.dir ss)) ∧ H a = some (.lst vs) ∧ SlsV H vs ss ∧ ss.length ≤ 60 ∧ ∀ H' b ys, Own H H' [] [(b, .lst (ys.map V.str))] → ys.Perm ((namesIn ss).map S) → PyProof.Rows.sortedS ys = true → Q (.ref b) H'
def sp_PlainDir_add_name (K : PySem.W.Frag) : Sp := sp3 fun self x y H Q _ => ∃ p dx a vs n k, ∃ ss : List Sl, self = .ref p ∧ x = .str (S n) ∧ y = .int k ∧ Own H H (adr (cNG K ⟨p, dx, a, vs, .dir ss⟩)) (cNG K ⟨p, dx, a, vs, .dir ss⟩) ∧ SlsV H vs ss ∧ (∀ s ∈ ss, SlOk s) ∧ SlOk (some (n, k)) ∧ ss.length ≤ 60 ∧
  ∀ H' vs', Own H H' (adr (cNG K ⟨p, dx, a, vs, .dir ss⟩)) (cNG K ⟨p, dx, a, vs', .dir (addA ss n k)⟩) → SlsV H' vs' (addA ss n k) → Q .non H'
def sp_PlainDir_drop_name (K : PySem.W.Frag) : Sp := sp2 fun self x H Q _ => ∃ p dx a vs n, ∃ ss : List Sl, self = .ref p ∧ x = .str (S n) ∧ Own H H (adr (cNG K ⟨p, dx, a, vs, .dir ss⟩)) (cNG K ⟨p, dx, a, vs, .dir ss⟩) ∧ SlsV H vs ss ∧ ss.length ≤ 60 ∧
  ∀ H' a' vs', Own H H' (adr (cNG K ⟨p, dx, a, vs, .dir ss⟩)) (cNG K ⟨p, dx, a', vs', .dir (dropS ss n)⟩) → SlsV H' vs' (dropS ss n) → Q .non H'
theorem sc_blocks_for : FnScope ["cells", "used"] ["cells"] (defScope s_blocks_for) := ⟨rfl, rfl, rfl, by decide +kernel, rfl, by decide +kernel, by decide +kernel⟩
theorem ok_blocks_for {P : Program} {w : World} {K : PySem.W.Frag} {mg : Str → Option Value} {base : Heap} (T : Txt K mg) : Cee P w K mg base 1 (He.fAd K ("blocks_for", none)) ["cells"] (sp_blocks_for K) := by
  refine cee_of T.d_blocks_for sc_blocks_for (fun _ _ _ _ _ _ us hl => match us, hl with | [_], _ => rfl) (fun vs H Q E h => sp1_len h) (fun cdv A outer s H vs Q E hr h => ⟨_, (pss_cons (ps_set (i := 1) sc_blocks_for.nd rfl (Or.inl rfl) (pe_op op_fdiv (pe_op op_sub (pe_op op_add (pv 0) (pe_gc (v := .int 16) rfl (gI T.g_BLOCK_CELLS))) pe_int) (pe_gc (v := .int 16) rfl (gI T.g_BLOCK_CELLS)))) (pss_cons (PS.box (ps_if (pt_cmpR op_gt (pv 0) (pe_gc (v := .int 64) rfl (gI T.g_PLAIN_CELLS)) (nomark _)) (pss_one (ps_aug (i := 1) sc_blocks_for.nd rfl (Or.inl rfl) pe_int ip_add)) pss_nil)) (pss_one (ps_ret (pv 1))))), ?_⟩)
  obtain ⟨v0, rfl, h⟩ := h
  dsimp only [cxOf, L2.start]
  obtain ⟨c, rfl, k⟩ := h
  walk_at "s"
  walk_at "b"
  refine if_d (fun h => ?_) (fun h => ?_)
  · walk_at "s"
    have e : (c + 16 - 1) / 16 + 1 = blk c := by unfold blk; rw [if_pos h, show c + 16 - 1 = c + 15 by omega]
    rw [← e] at k
    exact k
  · walk_at "s"
    have e : (c + 16 - 1) / 16 = blk c := by unfold blk; rw [if_neg h, show c + 16 - 1 = c + 15 by omega]; omega
    rw [← e] at k
    exact k
theorem sc_PlainFile___init__ : FnScope ["self"] ["self"] (defScope s_PlainFile___init__) := ⟨rfl, rfl, rfl, by decide +kernel, rfl, by decide +kernel, by decide +kernel⟩
theorem ok_PlainFile___init__ {P : Program} {w : World} {K : PySem.W.Frag} {mg : Str → Option Value} {base : Heap} (T : Txt K mg) : Cee P w K mg base 1 (He.fAd K ("PlainFile", some "__init__")) ["self"] (sp_PlainFile___init__ K) := by
  refine cee_of T.d_PlainFile___init__ sc_PlainFile___init__ (fun _ _ _ _ _ _ us hl => match us, hl with | [_], _ => rfl) (fun vs H Q E h => sp1_len h) (fun cdv A outer s H vs Q E hr h => ⟨_, (pss_cons (ps_fld (pv 0) (pe_lst pa_nil) rfl) (pss_cons (ps_fld (pv 0) pe_int rfl) (pss_one (ps_fld (pv 0) pe_int rfl)))), ?_⟩)
  obtain ⟨v0, rfl, h⟩ := h
  dsimp only [cxOf, L2.start]
  obtain ⟨p, dx, rfl, O, k⟩ := h
  walk_at "s"
  intro a ha
  have O1 := (O.new (o := .lst []) ha).perm (List.Perm.swap _ _ _)
  generalize upd H a _ = H1 at O1 ⊢
  walk_at "s"
  exact k _ a (((O1.wr .here).wr .here).wr .here)
theorem sc_PlainFile_is_dir : FnScope ["self"] ["self"] (defScope s_PlainFile_is_dir) := ⟨rfl, rfl, rfl, by decide +kernel, rfl, by decide +kernel, by decide +kernel⟩
theorem ok_PlainFile_is_dir {P : Program} {w : World} {K : PySem.W.Frag} {mg : Str → Option Value} {base : Heap} (T : Txt K mg) : Cee P w K mg base 1 (He.fAd K ("PlainFile", some "is_dir")) ["self"] (sp_PlainFile_is_dir K) := by
  refine cee_of T.d_PlainFile_is_dir sc_PlainFile_is_dir (fun _ _ _ _ _ _ us hl => match us, hl with | [_], _ => rfl) (fun vs H Q E h => sp1_len h) (fun cdv A outer s H vs Q E hr h => ⟨_, (pss_one (ps_ret pe_bl)), ?_⟩)
  obtain ⟨v0, rfl, h⟩ := h
  dsimp only [cxOf, L2.start]
  walk_at "s"
  exact h
theorem sc_PlainFile_blocks_used : FnScope ["self"] ["self"] (defScope s_PlainFile_blocks_used) := ⟨rfl, rfl, rfl, by decide +kernel, rfl, by decide +kernel, by decide +kernel⟩
theorem ok_PlainFile_blocks_used {P : Program} {w : World} {K : PySem.W.Frag} {mg : Str → Option Value} {base : Heap} (T : Txt K mg) : Cee P w K mg base 2 (He.fAd K ("PlainFile", some "blocks_used")) ["self"] (sp_PlainFile_blocks_used K) := by
  have c_blocks_for : Cee P w K mg base 1 (He.fAd K ("blocks_for", none)) ["cells"] (sp_blocks_for K) := ok_blocks_for T
  refine cee_of T.d_PlainFile_blocks_used sc_PlainFile_blocks_used (fun _ _ _ _ _ _ us hl => match us, hl with | [_], _ => rfl) (fun vs H Q E h => sp1_len h) (fun cdv A outer s H vs Q E hr h => ⟨_, (pss_one (ps_ret (pe_f c_blocks_for (hr.mono (by decide)) (takes_of rfl rfl rfl rfl) (by rfl) T.g_blocks_for (pa_cons (pe_callB call_len_seq (by rfl) T.n_len (by decide +kernel) (pa_cons (pe_fld (pv 0) rfl) pa_nil)) pa_nil)))), ?_⟩)
  obtain ⟨v0, rfl, h⟩ := h
  dsimp only [cxOf, L2.start]
  obtain ⟨p, dx, a, l, hh, cs, rfl, hp, ha, k⟩ := h
  have hp : H p = some (.ins (He.ga K "PlainFile") dx [("contents", .ref a), ("links", .int l), ("holds", .int hh)]) := hp
  walk_at "s"
  refine ask1 ⟨_, rfl, ?_⟩
  rw [List.length_map]
  exact k
theorem sc_PlainFile_told : FnScope ["self"] ["self"] (defScope s_PlainFile_told) := ⟨rfl, rfl, rfl, by decide +kernel, rfl, by decide +kernel, by decide +kernel⟩
theorem ok_PlainFile_told {P : Program} {w : World} {K : PySem.W.Frag} {mg : Str → Option Value} {base : Heap} (T : Txt K mg) : Cee P w K mg base 1 (He.fAd K ("PlainFile", some "told")) ["self"] (sp_PlainFile_told K) := by
  refine cee_of T.d_PlainFile_told sc_PlainFile_told (fun _ _ _ _ _ _ us hl => match us, hl with | [_], _ => rfl) (fun vs H Q E h => sp1_len h) (fun cdv A outer s H vs Q E hr h => ⟨_, (pss_one (ps_ret (pe_tup (pa_cons pe_str (pa_cons (pe_fld (pv 0) rfl) (pa_cons (pe_callB call_len_seq (by rfl) T.n_len (by decide +kernel) (pa_cons (pe_fld (pv 0) rfl) pa_nil)) pa_nil)))))), ?_⟩)
  obtain ⟨v0, rfl, h⟩ := h
  dsimp only [cxOf, L2.start]
  obtain ⟨p, dx, a, l, hh, cs, rfl, hp, ha, k⟩ := h
  have hp : H p = some (.ins (He.ga K "PlainFile") dx [("contents", .ref a), ("links", .int l), ("holds", .int hh)]) := hp
  walk_at "s"
  rw [List.length_map]
  intro T hT
  exact k _ T ((Own.start.new hT).drop (List.nil_sublist _)) upd_same
theorem sc_PlainDir___init__ : FnScope ["self"] ["self"] (defScope s_PlainDir___init__) := ⟨rfl, rfl, rfl, by decide +kernel, rfl, by decide +kernel, by decide +kernel⟩
theorem ok_PlainDir___init__ {P : Program} {w : World} {K : PySem.W.Frag} {mg : Str → Option Value} {base : Heap} (T : Txt K mg) : Cee P w K mg base 1 (He.fAd K ("PlainDir", some "__init__")) ["self"] (sp_PlainDir___init__ K) := by
  refine cee_of T.d_PlainDir___init__ sc_PlainDir___init__ (fun _ _ _ _ _ _ us hl => match us, hl with | [_], _ => rfl) (fun vs H Q E h => sp1_len h) (fun cdv A outer s H vs Q E hr h => ⟨_, (pss_one (ps_fld (pv 0) (pe_lst pa_nil) rfl)), ?_⟩)
  obtain ⟨v0, rfl, h⟩ := h
  dsimp only [cxOf, L2.start]
  obtain ⟨p, dx, rfl, O, k⟩ := h
  walk_at "s"
  intro a ha
  have O1 := (O.new (o := .lst []) ha).perm (List.Perm.swap _ _ _)
  generalize upd H a _ = H1 at O1 ⊢
  walk_at "s"
  exact k _ a (O1.wr .here)
theorem sc_PlainDir_is_dir : FnScope ["self"] ["self"] (defScope s_PlainDir_is_dir) := ⟨rfl, rfl, rfl, by decide +kernel, rfl, by decide +kernel, by decide +kernel⟩
theorem ok_PlainDir_is_dir {P : Program} {w : World} {K : PySem.W.Frag} {mg : Str → Option Value} {base : Heap} (T : Txt K mg) : Cee P w K mg base 1 (He.fAd K ("PlainDir", some "is_dir")) ["self"] (sp_PlainDir_is_dir K) := by
  refine cee_of T.d_PlainDir_is_dir sc_PlainDir_is_dir (fun _ _ _ _ _ _ us hl => match us, hl with | [_], _ => rfl) (fun vs H Q E h => sp1_len h) (fun cdv A outer s H vs Q E hr h => ⟨_, (pss_one (ps_ret pe_bl)), ?_⟩)
  obtain ⟨v0, rfl, h⟩ := h
  dsimp only [cxOf, L2.start]
  walk_at "s"
  exact h
theorem sc_PlainDir_blocks_used : FnScope ["self"] ["self"] (defScope s_PlainDir_blocks_used) := ⟨rfl, rfl, rfl, by decide +kernel, rfl, by decide +kernel, by decide +kernel⟩
theorem ok_PlainDir_blocks_used {P : Program} {w : World} {K : PySem.W.Frag} {mg : Str → Option Value} {base : Heap} (T : Txt K mg) : Cee P w K mg base 2 (He.fAd K ("PlainDir", some "blocks_used")) ["self"] (sp_PlainDir_blocks_used K) := by
  have c_blocks_for : Cee P w K mg base 1 (He.fAd K ("blocks_for", none)) ["cells"] (sp_blocks_for K) := ok_blocks_for T
  refine cee_of T.d_PlainDir_blocks_used sc_PlainDir_blocks_used (fun _ _ _ _ _ _ us hl => match us, hl with | [_], _ => rfl) (fun vs H Q E h => sp1_len h) (fun cdv A outer s H vs Q E hr h => ⟨_, (pss_one (ps_ret (pe_f c_blocks_for (hr.mono (by decide)) (takes_of rfl rfl rfl rfl) (by rfl) T.g_blocks_for (pa_cons (pe_op op_mul (pe_gc (v := .int 8) rfl (gI T.g_SLOT_CELLS)) (pe_callB call_len_seq (by rfl) T.n_len (by decide +kernel) (pa_cons (pe_fld (pv 0) rfl) pa_nil))) pa_nil)))), ?_⟩)
  obtain ⟨v0, rfl, h⟩ := h
  dsimp only [cxOf, L2.start]
  obtain ⟨p, dx, a, vs, ss, rfl, hp, ha, hl, k⟩ := h
  have hp : H p = some (.ins (He.ga K "PlainDir") dx [("slots", .ref a)]) := hp
  walk_at "s"
  refine ask1 ⟨_, rfl, ?_⟩
  rw [hl]
  exact k
theorem sc_PlainDir_told : FnScope ["self"] ["self"] (defScope s_PlainDir_told) := ⟨rfl, rfl, rfl, by decide +kernel, rfl, by decide +kernel, by decide +kernel⟩
theorem ok_PlainDir_told {P : Program} {w : World} {K : PySem.W.Frag} {mg : Str → Option Value} {base : Heap} (T : Txt K mg) : Cee P w K mg base 1 (He.fAd K ("PlainDir", some "told")) ["self"] (sp_PlainDir_told K) := by
  refine cee_of T.d_PlainDir_told sc_PlainDir_told (fun _ _ _ _ _ _ us hl => match us, hl with | [_], _ => rfl) (fun vs H Q E h => sp1_len h) (fun cdv A outer s H vs Q E hr h => ⟨_, (pss_one (ps_ret (pe_tup (pa_cons pe_str (pa_cons pe_int (pa_cons (pe_callB call_len_seq (by rfl) T.n_len (by decide +kernel) (pa_cons (pe_fld (pv 0) rfl) pa_nil)) pa_nil)))))), ?_⟩)
  obtain ⟨v0, rfl, h⟩ := h
  dsimp only [cxOf, L2.start]
  obtain ⟨p, dx, a, vs, ss, rfl, hp, ha, hl, k⟩ := h
  have hp : H p = some (.ins (He.ga K "PlainDir") dx [("slots", .ref a)]) := hp
  walk_at "s"
  rw [hl]
  intro T hT
  exact k _ T ((Own.start.new hT).drop (List.nil_sublist _)) upd_same

open SX (S)
theorem nodeOf_snoc (ss : List Sl) (s : Sl) (n : Nm) : nodeOf (ss ++ [s]) n = (nodeOf ss n).or (s.bind fun q => if q.1 = n then some q.2 else none) := by
  unfold nodeOf
  rw [List.findSome?_append]
  congr 1
  cases h : s.bind fun q => if q.1 = n then some q.2 else none <;> simp [List.findSome?_cons, h]
theorem nodeOf_none {ss : List Sl} {n : Nm} : nodeOf ss n = none ↔ ∀ q, some q ∈ ss → q.1 ≠ n := by
  unfold nodeOf
  rw [List.findSome?_eq_none_iff]
  constructor
  · intro h q hq e
    have := h _ hq
    rw [Option.bind_some, if_pos e] at this
    cases this
  · intro h s hs
    cases s with
    | none => rfl
    | some q => rw [Option.bind_some, if_neg (h q hs)]
theorem sc_PlainDir_node_of : FnScope ["self", "name", "slot"] ["self", "name"] (defScope s_PlainDir_node_of) := ⟨rfl, rfl, rfl, by decide +kernel, rfl, by decide +kernel, by decide +kernel⟩
theorem ok_PlainDir_node_of {P : Program} {w : World} {K : PySem.W.Frag} {mg : Str → Option Value} {base : Heap} (T : Txt K mg) : Cee P w K mg base 1 (He.fAd K ("PlainDir", some "node_of")) ["self", "name"] (sp_PlainDir_node_of K) := by
  refine cee_of T.d_PlainDir_node_of sc_PlainDir_node_of (fun _ _ _ _ _ _ us hl => match us, hl with | [_, _], _ => rfl) (fun vs H Q E h => sp2_len h) (fun cdv A outer s H vs Q E hr h => ⟨_, (pss_cons (ps_for (passes_of rfl) rfl (PI.box (pi_list (pe_fld (pv 0) rfl))) (pg_name (i := 2) sc_PlainDir_node_of.nd rfl (Or.inl rfl)) (pss_one (ps_if (PW.pt (pw_and (pt_cmpR op_notN (pv 2) pe_non (nomark _)) (pw_and1 (pt_cmpR op_eq (pe_ix ix_tup (pv 2) pe_int (fun _ _ => rfl)) (pv 1) (nomark _))))) (pss_one (ps_ret (pe_ix ix_tup (pv 2) pe_int (fun _ _ => rfl)))) pss_nil))) (pss_one (ps_ret pe_non))), ?_⟩)
  obtain ⟨v0, v1, rfl, h⟩ := h
  dsimp only [cxOf, L2.start]
  obtain ⟨p, dx, a, vs, n, ss, rfl, rfl, hp, ha, hv, k⟩ := h
  have hp : H p = some (.ins (He.ga K "PlainDir") dx [("slots", .ref a)]) := hp
  have hs : SqL K H a vs := SqL.of ha
  walk_at "s"
  refine forL (xs := vs) (fun i σ H' => ∃ v2 : Option V, σ = [some (.ref p), some (.str (S n)), v2] ∧ H' = H ∧ nodeOf (ss.take i) n = none) ⟨_, rfl, rfl, rfl⟩ (fun i σ H' _ ⟨_, _, e, _⟩ => by rw [e]; exact hs) ?_ ?_
  · rintro i x σ H' hx ⟨v2, rfl, rfl, hno⟩
    obtain ⟨s, hsi, hsv⟩ := hv.get hx
    have hsn := nodeOf_snoc (ss.take i) s n
    rw [← take_succ hsi, hno, Option.none_or] at hsn
    cases s with
    | none =>
      have hsv : x = .non := hsv
      subst hsv
      walk_at "s"
      refine if_f rfl ?_
      walk_at "s"
      exact ⟨⟨_, rfl, rfl, hsn⟩⟩
    | some q =>
      obtain ⟨T, rfl, hT⟩ := hsv
      walk_at "s"
      refine if_ss (fun e => ?_) (fun e => ?_)
      · have e := SX.S_inj e
        walk_at "s"
        have hk : nodeOf ss n = some q.2 := by
          rw [Option.bind_some, if_pos e] at hsn
          rw [← List.take_append_drop (i + 1) ss]
          unfold nodeOf at hsn ⊢
          rw [List.findSome?_append, hsn]
          rfl
        rw [hk] at k
        exact k
      · have e : q.1 ≠ n := fun z => e (by rw [z])
        walk_at "s"
        rw [Option.bind_some, if_neg e] at hsn
        exact ⟨⟨_, rfl, rfl, hsn⟩⟩
  · rintro σ H' ⟨v2, rfl, rfl, hno⟩
    rw [hv.len, List.take_length] at hno
    rw [hno] at k
    walk_at "s"
    exact k
theorem namesIn_snoc (ss : List Sl) (s : Sl) : namesIn (ss ++ [s]) = namesIn ss ++ (s.map Prod.fst).toList := by
  unfold namesIn
  rw [List.filterMap_append]
  cases s <;> rfl
theorem namesIn_len (ss : List Sl) : (namesIn ss).length ≤ ss.length := List.length_filterMap_le _ _
theorem sc_PlainDir_names_in : FnScope ["self", "slot"] ["self"] (defScope s_PlainDir_names_in) := ⟨rfl, rfl, rfl, by decide +kernel, rfl, by decide +kernel, by decide +kernel⟩
theorem ok_PlainDir_names_in {P : Program} {w : World} {K : PySem.W.Frag} {mg : Str → Option Value} {base : Heap} (T : Txt K mg) : Cee P w K mg base 1 (He.fAd K ("PlainDir", some "names_in")) ["self"] (sp_PlainDir_names_in K) := by
  refine cee_of T.d_PlainDir_names_in sc_PlainDir_names_in (fun _ _ _ _ _ _ us hl => match us, hl with | [_], _ => rfl) (fun vs H Q E h => sp1_len h) (fun cdv A outer s H vs Q E hr h => ⟨_, (pss_one (ps_ret (pe_callB cr_sortedS (by rfl) T.n_sorted (by decide +kernel) (pa_cons (pe_lc (own := [("slot", 1)]) (by rfl) sc_PlainDir_names_in.nd (PI.box (pi_list (pe_fld (pv 0) rfl))) (blkOk_by (own := [("slot", 1)]) (N := ["self", "slot"]) (sc := defScope s_PlainDir_names_in) (by decide +kernel)) (fun _ _ _ _ _ => (pg_name (i := 1) sc_PlainDir_names_in.nd rfl (Or.inl rfl))) (fun _ _ _ _ _ => (pts_one (pt_cmpR op_notN (pv 1) pe_non (nomark _)))) (fun _ _ _ _ _ => (pe_ix (show IxR _ (rIxT K) from ix_tup) (pv 1) pe_int (fun _ _ => rfl)))) pa_nil)))), ?_⟩)
  obtain ⟨v0, rfl, h⟩ := h
  dsimp only [cxOf, L2.start]
  obtain ⟨p, dx, a, vs, ss, rfl, hp, ha, hv, hl, k⟩ := h
  have hp : H p = some (.ins (He.ga K "PlainDir") dx [("slots", .ref a)]) := hp
  have hs : SqL K H a vs := SqL.of ha
  walk_at "s"
  refine lcL (xs := vs) (fun D i H' => Own H H' [] [(D, .lst (((namesIn (ss.take i)).map S).map V.str))]) ?_ ?_ ?_ ?_
  · intro D hD
    exact Own.start.new hD
  · intro D i H' _ O
    exact SqL.of (O.fr0 ha)
  · intro D i x H' hx O
    obtain ⟨s, hsi, hsv⟩ := hv.get hx
    have hn := namesIn_snoc (ss.take i) s
    rw [← take_succ hsi] at hn
    have hD := O.get (.head _)
    cases s with
    | none =>
      have hsv : x = .non := hsv
      subst hsv
      walk_at "s"
      rw [show (!decide (V.non = V.non)) = false by simp]
      show Box _
      rw [hn]
      exact ⟨by simpa using O⟩
    | some q =>
      obtain ⟨T, rfl, hT⟩ := hsv
      walk_at "s"
      rw [hn, List.map_append, List.map_append]
      have hl2 := namesIn_len (ss.take i)
      rw [List.length_take] at hl2
      exact ⟨sz_lt (by rw [List.length_map, List.length_map]; omega), ⟨O.wr .here⟩⟩
  · intro D H' O
    rw [hv.len, List.take_length] at O
    have hl2 := namesIn_len ss
    walk_at "s"
    exact ⟨(namesIn ss).map S, rfl, SqL.of (O.get (.head _)), by rw [List.length_map]; omega, fun ys b h1 h2 h3 => k _ b ys ((O.new h3).drop (.cons₂ _ (List.nil_sublist _))) h1 h2⟩
theorem any_none (ss : List Sl) : ((ss.map dpS).any fun z => PyData.eqv z .none) = decide (none ∈ ss) := by
  induction ss with
  | nil => rfl
  | cons s r ih =>
    rw [List.map_cons, List.any_cons, ih]
    cases s with
    | none => simp [dpS, PyData.eqv]
    | some q => simp [dpS, PyData.eqv]
theorem sh_none : SeqAt.shaped .none = true := by
  show (PyData.canLay0 _ && decide (PyData.depth _ ≤ 64)) = true
  simp [PyData.canLay0, PyData.depth]
theorem sh_sls {ss : List Sl} (h : ∀ s ∈ ss, SlOk s) : SeqAt.shaped (.list (ss.map dpS)) = true := by
  obtain ⟨h1, h2⟩ := dpS_all h
  show (PyData.canLay0 _ && decide (PyData.depth _ ≤ 64)) = true
  rw [Bool.and_eq_true]
  refine ⟨by simpa [PyData.canLay0] using h1, decide_eq_true ?_⟩
  simp only [PyData.depth]
  omega
theorem in_none {K : PySem.W.Frag} {H : Hp} {a : Addr} {vs : List V} {ss : List Sl} {Q : VK} (ha : H a = some (.lst vs)) (hv : SlsV H vs ss) (hok : ∀ s ∈ ss, SlOk s) (k : Q (.bl (decide (none ∈ ss))) H) : rInD K .non (.ref a) H Q :=
  ⟨.none, ss.map dpS, .non, .lst (SqL.of ha) hv.dp, sh_none, sh_sls hok, by rw [any_none]; exact k⟩
theorem notin_none {K : PySem.W.Frag} {H : Hp} {a : Addr} {vs : List V} {ss : List Sl} {Q : VK} (ha : H a = some (.lst vs)) (hv : SlsV H vs ss) (hok : ∀ s ∈ ss, SlOk s) (k : Q (.bl (!decide (none ∈ ss))) H) : rNotInD K .non (.ref a) H Q :=
  ⟨.none, ss.map dpS, .non, .lst (SqL.of ha) hv.dp, sh_none, sh_sls hok, by rw [any_none]; exact k⟩
theorem index_none {K : PySem.W.Frag} {H : Hp} {a : Addr} {vs : List V} {ss : List Sl} (ha : H a = some (.lst vs)) (hv : SlsV H vs ss) (hok : ∀ s ∈ ss, SlOk s) (hm : none ∈ ss) :
    Dp K H (V.ref a) (.list (ss.map dpS)) ∧ Dp K H .non .none ∧ SeqAt.shaped (.list (ss.map dpS)) = true ∧ SeqAt.shaped .none = true ∧ (ss.map dpS)[ss.idxOf none]? = some .none ∧ PyData.eqv .none .none = true ∧ (∀ (m : Nat) (z' : PyData), m < ss.idxOf none → (ss.map dpS)[m]? = some z' → PyData.eqv z' .none = false) := by
  have hi := List.idxOf_lt_length_of_mem hm
  have hg : ss[ss.idxOf none]? = some none := by rw [List.getElem?_eq_getElem hi, List.getElem_idxOf hi]
  refine ⟨.lst (SqL.of ha) hv.dp, .non, sh_sls hok, sh_none, by rw [List.getElem?_map, hg]; rfl, rfl, fun m z hmj hz => ?_⟩
  rw [List.getElem?_map] at hz
  obtain ⟨s, hs, rfl⟩ := Option.map_eq_some_iff.mp hz
  cases s with
  | none =>
    exfalso
    obtain ⟨h1, h2⟩ := List.getElem?_eq_some_iff.mp hs
    have h3 : ss.idxOf none ≤ m := by
      have h4 : none ∈ ss.take (m + 1) := by rw [take_succ hs]; exact List.mem_append_right _ (.head _)
      have h5 := List.idxOf_lt_length_of_mem h4
      rw [List.length_take] at h5
      have h6 := List.idxOf_append (l₁ := ss.take (m + 1)) (l₂ := ss.drop (m + 1)) (a := none)
      rw [List.take_append_drop, if_pos h4] at h6
      omega
    omega
  | some q => rfl
theorem sc_PlainDir_add_name : FnScope ["self", "name", "node"] ["self", "name", "node"] (defScope s_PlainDir_add_name) := ⟨rfl, rfl, rfl, by decide +kernel, rfl, by decide +kernel, by decide +kernel⟩
theorem ok_PlainDir_add_name {P : Program} {w : World} {K : PySem.W.Frag} {mg : Str → Option Value} {base : Heap} (T : Txt K mg) : Cee P w K mg base 1 (He.fAd K ("PlainDir", some "add_name")) ["self", "name", "node"] (sp_PlainDir_add_name K) := by
  refine cee_of T.d_PlainDir_add_name sc_PlainDir_add_name (fun _ _ _ _ _ _ us hl => match us, hl with | [_, _, _], _ => rfl) (fun vs H Q E h => sp3_len h) (fun cdv A outer s H vs Q E hr h => ⟨_, (pss_one (ps_if (pt_cmpR (op_inD (room65 hr)) pe_non (pe_fld (pv 0) rfl) (by with_unfolding_all rfl)) (pss_one (ps_asg (pe_tup (pa_cons (pv 1) (pa_cons (pv 2) pa_nil))) (pg_sub (pe_fld (pv 0) rfl) (pe_bm PySem.F.plainAttrs_list PySem.F.slot_list_index PySem.F.type_list_index (mt_indexD (room65 hr)) (pe_fld (pv 0) rfl) (pa_cons pe_non pa_nil)) set_list))) (pss_one (ps_expr (pe_bm PySem.F.plainAttrs_list PySem.F.slot_list_append PySem.F.type_list_append mt_append (pe_fld (pv 0) rfl) (pa_cons (pe_tup (pa_cons (pv 1) (pa_cons (pv 2) pa_nil))) pa_nil)))))), ?_⟩)
  obtain ⟨v0, v1, v2, rfl, h⟩ := h
  dsimp only [cxOf, L2.start]
  obtain ⟨p, dx, a, vs, n, kk, ss, rfl, rfl, rfl, O, hv, hok, hok1, hl, k⟩ := h
  have hp := O.get (a := p) (o := .ins (He.ga K "PlainDir") dx [("slots", .ref a)]) (.head _)
  have ha := O.get (a := a) (o := .lst vs) (.tail _ (.head _))
  walk_at "s"
  refine in_none ha hv hok ⟨_, rfl, ?_⟩
  have hadd : addA ss n kk = if none ∈ ss then ss.set (ss.idxOf none) (some (n, kk)) else ss ++ [some (n, kk)] := rfl
  refine if_d (fun hm => ?_) (fun hm => ?_)
  · rw [if_pos hm] at hadd
    walk_at "s"
    intro T hT
    have O1 := O.new (o := .tup [.str (S n), .int kk]) hT
    have hT1 : upd H T (.tup [.str (S n), .int kk]) T = some (.tup [.str (S n), .int kk]) := upd_same
    generalize upd H T _ = H1 at O1 hT1 ⊢
    have hp1 := O1.get (a := p) (o := .ins (He.ga K "PlainDir") dx [("slots", .ref a)]) (.tail _ (.head _))
    have ha1 := O1.get (a := a) (o := .lst vs) (.tail _ (.tail _ (.head _)))
    have hi := List.idxOf_lt_length_of_mem hm
    walk_at "s"
    obtain ⟨x1, x2, x3, x4, x5, x6, x7⟩ := index_none (K := K) ha1 (hv.mono O1) hok hm
    refine ⟨_, _, _, _, rfl, rfl, x1, x2, x3, x4, x5, x6, x7, ?_⟩
    have hix : ixN vs.length ((ss.idxOf none : Nat) : Int) = some (ss.idxOf none) := by have := hv.len; unfold ixN; rw [if_pos (by omega), if_pos (by omega)]; rfl
    walk_at "s"
    have O2 := O1.wr (a := a) (o' := .lst (vs.set (ss.idxOf none) (.ref T))) (.there (.there .here))
    have O3 := O1.self.wr (a := a) (o' := .lst (vs.set (ss.idxOf none) (.ref T))) (.there (.there .here))
    refine k _ (vs.set (ss.idxOf none) (.ref T)) (by rw [hadd]; exact O2.drop (.cons _ (.refl _))) ?_
    rw [hadd]
    exact ((hv.mono O1).mono O3).set _ ⟨T, rfl, O3.tp _ _ hT1⟩
  · rw [if_neg hm] at hadd
    walk_at "s"
    intro T hT
    have O1 := O.new (o := .tup [.str (S n), .int kk]) hT
    have hT1 : upd H T (.tup [.str (S n), .int kk]) T = some (.tup [.str (S n), .int kk]) := upd_same
    generalize upd H T _ = H1 at O1 hT1 ⊢
    have ha1 := O1.get (a := a) (o := .lst vs) (.tail _ (.tail _ (.head _)))
    have hvl := hv.len
    walk_at "s"
    have O2 := O1.wr (a := a) (o' := .lst (vs ++ [.ref T])) (.there (.there .here))
    refine k _ (vs ++ [.ref T]) (O2.drop (.cons _ (.refl _))) ?_
    rw [hadd]
    have O3 := O1.self.wr (a := a) (o' := .lst (vs ++ [.ref T])) (.there (.there .here))
    exact ((hv.mono O1).mono O3).snoc ⟨T, rfl, O3.tp _ _ hT1⟩
theorem dropS_snoc (ss : List Sl) (s : Sl) (n : Nm) : dropS (ss ++ [s]) n = dropS ss n ++ [s.bind fun q => if q.1 = n then none else some q] := by
  unfold dropS
  rw [List.map_append]
  rfl
theorem sc_PlainDir_drop_name : FnScope ["self", "name", "slot"] ["self", "name"] (defScope s_PlainDir_drop_name) := ⟨rfl, rfl, rfl, by decide +kernel, rfl, by decide +kernel, by decide +kernel⟩
theorem ok_PlainDir_drop_name {P : Program} {w : World} {K : PySem.W.Frag} {mg : Str → Option Value} {base : Heap} (T : Txt K mg) : Cee P w K mg base 1 (He.fAd K ("PlainDir", some "drop_name")) ["self", "name"] (sp_PlainDir_drop_name K) := by
  refine cee_of T.d_PlainDir_drop_name sc_PlainDir_drop_name (fun _ _ _ _ _ _ us hl => match us, hl with | [_, _], _ => rfl) (fun vs H Q E h => sp2_len h) (fun cdv A outer s H vs Q E hr h => ⟨_, (pss_one (ps_fld (pv 0) (pe_lc (own := [("slot", 2)]) (by rfl) sc_PlainDir_drop_name.nd (PI.box (pi_list (pe_fld (pv 0) rfl))) (blkOk_by (own := [("slot", 2)]) (N := ["self", "name", "slot"]) (sc := defScope s_PlainDir_drop_name) (by decide +kernel)) (fun _ _ _ _ _ => (pg_name (i := 2) sc_PlainDir_drop_name.nd rfl (Or.inl rfl))) (fun _ _ _ _ _ => pts_nil) (fun _ _ _ _ _ => (pe_ifExp (PW.pt (pw_and (pt_cmpR op_notN (pv 2) pe_non (nomark _)) (pw_and1 (pt_cmpR op_eq (pe_ix (show IxR _ (rIxT K) from ix_tup) (pv 2) pe_int (fun _ _ => rfl)) (pv 1) (nomark _))))) pe_non (pv 2)))) rfl)), ?_⟩)
  obtain ⟨v0, v1, rfl, h⟩ := h
  dsimp only [cxOf, L2.start]
  obtain ⟨p, dx, a, vs, n, ss, rfl, rfl, O, hv, hl, k⟩ := h
  have hp := O.get (a := p) (o := .ins (He.ga K "PlainDir") dx [("slots", .ref a)]) (.head _)
  have ha := O.get (a := a) (o := .lst vs) (.tail _ (.head _))
  have hs : SqL K H a vs := SqL.of ha
  walk_at "s"
  refine lcL (xs := vs) (fun D i H' => ∃ us, Own H H' (adr (cNG K ⟨p, dx, a, vs, .dir ss⟩)) ((D, .lst us) :: cNG K ⟨p, dx, a, vs, .dir ss⟩) ∧ SlsV H' us (dropS (ss.take i) n)) ?_ ?_ ?_ ?_
  · intro D hD
    exact ⟨[], O.new hD, rfl, nofun⟩
  · rintro D i H' _ ⟨us, O1, _⟩
    exact SqL.of (O1.get (a := a) (o := .lst vs) (.tail _ (.tail _ (.head _))))
  · rintro D i x H' hx ⟨us, O1, hus⟩
    obtain ⟨s, hsi, hsv⟩ := hv.get hx
    have hsv := hsv.mono (H0 := H) O1
    have hn := dropS_snoc (ss.take i) s n
    rw [← take_succ hsi] at hn
    have hD := O1.get (.head _)
    have hul : us.length < 100000 := by
      have := hus.len
      unfold dropS at this
      rw [List.length_map, List.length_take] at this
      omega
    cases s with
    | none =>
      have hsv : x = .non := hsv
      subst hsv
      walk_at "s"
      have O2 := O1.wr (a := D) (o' := .lst (us ++ [.non])) .here
      have O3 := O1.self.wr (a := D) (o' := .lst (us ++ [.non])) .here
      rw [hn]
      exact ⟨⟨_, O2, (hus.mono O3).snoc rfl⟩⟩
    | some q =>
      obtain ⟨T, rfl, hT⟩ := hsv
      walk_at "s"
      refine if_ss (fun e => ?_) (fun e => ?_)
      · have e := SX.S_inj e
        walk_at "s"
        have O2 := O1.wr (a := D) (o' := .lst (us ++ [.non])) .here
        have O3 := O1.self.wr (a := D) (o' := .lst (us ++ [.non])) .here
        rw [hn]
        exact ⟨⟨_, O2, (hus.mono O3).snoc (by rw [Option.bind_some, if_pos e]; rfl)⟩⟩
      · have e : q.1 ≠ n := fun z => e (by rw [z])
        walk_at "s"
        have O2 := O1.wr (a := D) (o' := .lst (us ++ [.ref T])) .here
        have O3 := O1.self.wr (a := D) (o' := .lst (us ++ [.ref T])) .here
        rw [hn]
        exact ⟨⟨_, O2, (hus.mono O3).snoc (by rw [Option.bind_some, if_neg e]; exact ⟨T, rfl, O3.tp _ _ hT⟩)⟩⟩
  · rintro D H' ⟨us, O1, hus⟩
    rw [hv.len, List.take_length] at hus
    have hp1 := O1.get (a := p) (o := .ins (He.ga K "PlainDir") dx [("slots", .ref a)]) (.tail _ (.head _))
    walk_at "s"
    have O2 := (O1.wr (a := p) (o' := .ins (He.ga K "PlainDir") dx [("slots", .ref D)]) (.there .here)).perm (List.Perm.swap _ _ _)
    have O3 := O1.self.wr (a := p) (o' := .ins (He.ga K "PlainDir") dx [("slots", .ref D)]) (.there .here)
    exact k _ D us (O2.drop (.cons₂ _ (.cons₂ _ (List.nil_sublist _)))) (hus.mono O3)

/-! ## plain files: the tree of nodes -/
open SX (S)
structure PfG where
  p : Addr
  dx : Addr
  nd : Addr
  room : Int
  ns : List (Int × NG)
abbrev ndD (ns : List (Int × NG)) : List (Key × V) := ns.map fun x => (Sum.inl x.1, V.ref x.2.p)
abbrev insPf (K : PySem.W.Frag) (g : PfG) : HO := .ins (He.ga K "PlainFiles") g.dx [("blocks", .int g.room), ("nodes", .ref g.nd)]
abbrev cNs (K : PySem.W.Frag) (ns : List (Int × NG)) : Cells := ns.flatMap fun x => cNG K x.2
def cTr (K : PySem.W.Frag) (nd : Addr) (ns : List (Int × NG)) : Cells := (nd, .dK (ndD ns)) :: cNs K ns
def cPf (K : PySem.W.Frag) (g : PfG) : Cells := (g.p, insPf K g) :: cTr K g.nd g.ns
abbrev anS (ns : List (Int × NG)) : List (Int × AN) := ns.map fun x => (x.1, x.2.n)
structure AOk (ns : List (Int × AN)) : Prop where
  nd : (ns.map (·.1)).Nodup
  len : ns.length ≤ 24
  rng : ∀ x ∈ ns, 0 ≤ x.1 ∧ x.1 < 24
  root : ∃ ss, ns.lookup 0 = some (.dir ss)
  dir : ∀ k ss, ns.lookup k = some (.dir ss) → ss.length ≤ 40 ∧ (∀ s ∈ ss, SlOk s) ∧ ∀ q, some q ∈ ss → (ns.lookup q.2).isSome = true
  cel : ∀ k l h cs, ns.lookup k = some (.file l h cs) → cs.length ≤ 320
structure NsH (K : PySem.W.Frag) (H : Hp) (nd : Addr) (ns : List (Int × NG)) : Prop where
  d : H nd = some (.dK (ndD ns))
  c : ∀ x ∈ ns, H x.2.p = some (insN K x.2.dx x.2.a x.2.n) ∧ H x.2.a = some (.lst (x.2.n.val x.2.vs))
  v : ∀ x ∈ ns, ∀ ss, x.2.n = .dir ss → SlsV H x.2.vs ss
  ok : AOk (anS ns)
inductive FRf where
  | badName | noName | notDir | isDir | notEmpty | inside | noNode | noSpace | tooMany | tooBig | notHeld | notAllowed | taken
def FRf.word : FRf → Str
  | .badName => "BadName"
  | .noName => "NoName"
  | .notDir => "NotDir"
  | .isDir => "IsDir"
  | .notEmpty => "NotEmpty"
  | .inside => "Inside"
  | .noNode => "NoNode"
  | .noSpace => "NoSpace"
  | .tooMany => "TooMany"
  | .tooBig => "TooBig"
  | .notHeld => "NotHeld"
  | .notAllowed => "NotAllowed"
  | .taken => "Taken"
def FRf.cls (K : PySem.W.Frag) (e : FRf) : Value := .ref (He.ga K e.word)
def stepA (ns : List (Int × AN)) (k : Int) (n : Nm) : Except FRf Int := match ns.lookup k with
  | some (.dir ss) => match nodeOf ss n with
    | some j => .ok j
    | none => .error .noName
  | _ => .error .notDir
def walkA (ns : List (Int × AN)) (names : List Nm) : Except FRf (List Int) := names.foldl (fun r n => r.bind fun c => (stepA ns (c.getLastD 0) n).map fun k => c ++ [k]) (.ok [0])
def newA (ns : List (Int × AN)) (names : List Nm) : Except FRf (List Int) := if names = [] then .error .taken else (walkA ns names.dropLast).bind fun c => match ns.lookup (c.getLastD 0) with
  | some (.dir ss) => match nodeOf ss (names.getLastD []) with
    | some _ => .error .taken
    | none => .ok c
  | _ => .error .notDir
def usedA : AN → Int
  | .dir ss => blk (8 * (ss.length : Nat))
  | .file _ _ cs => blk (cs.length : Nat)
def freeA (room : Int) (ns : List (Int × AN)) : Int := room - (ns.map fun x => usedA x.2).sum
def fullA (ss : List Sl) : Bool := decide (ss.length = 40) && !decide (none ∈ ss)
def growA (room : Int) (ns : List (Int × AN)) (ss : List Sl) : Bool := !decide (none ∈ ss) && decide (blk (8 * ((ss.length : Nat) + 1)) - blk (8 * (ss.length : Nat)) > freeA room ns)
theorem walkA_snoc (ns : List (Int × AN)) (l : List Nm) (n : Nm) : walkA ns (l ++ [n]) = (walkA ns l).bind fun c => (stepA ns (c.getLastD 0) n).map fun k => c ++ [k] := by
  unfold walkA
  rw [List.foldl_append]
  rfl
theorem walkA_err {ns : List (Int × AN)} {l : List Nm} {e : FRf} (h : walkA ns l = .error e) : ∀ r, walkA ns (l ++ r) = .error e := by
  intro r
  unfold walkA at h ⊢
  rw [List.foldl_append, h]
  induction r with
  | nil => rfl
  | cons n r ih => rw [List.foldl_cons]; exact ih
theorem nodeOf_some {ss : List Sl} {n : Nm} {k : Int} (h : nodeOf ss n = some k) : some (n, k) ∈ ss := by
  obtain ⟨s, hs, h2⟩ := List.exists_of_findSome?_eq_some h
  cases s with
  | none => cases h2
  | some q =>
    rw [Option.bind_some] at h2
    split at h2
    · rename_i e
      cases h2
      rw [← e]
      exact hs
    · cases h2
theorem snoc_ind {α : Type} {P : List α → Prop} (h0 : P []) (h1 : ∀ l a, P l → P (l ++ [a])) (l : List α) : P l := by
  have h : ∀ r : List α, P r.reverse := fun r => by
    induction r with
    | nil => exact h0
    | cons a r ih => rw [List.reverse_cons]; exact h1 _ _ ih
  have := h l.reverse
  rwa [List.reverse_reverse] at this
theorem at_last {c : List Int} (h : c ≠ []) : atI (c.map V.int) (-1) = some (.int (c.getLastD 0)) := by
  have hl : 0 < c.length := List.length_pos_iff.mpr h
  unfold atI ixN
  rw [if_neg (by decide), if_pos (by rw [List.length_map]; omega)]
  show (c.map V.int)[(-1 + (((c.map V.int).length : Nat) : Int)).toNat]? = _
  rw [List.length_map, show (-1 + ((c.length : Nat) : Int)).toNat = c.length - 1 by omega, List.getElem?_map, List.getLastD_eq_getLast?, List.getLast?_eq_getElem?]
  rw [List.getElem?_eq_getElem (by omega)]
  rfl
structure ChOk (ns : List (Int × AN)) (c : List Int) : Prop where
  ne : c ≠ []
  in_ : ∀ k ∈ c, (ns.lookup k).isSome = true
theorem getLastD_mem {c : List Int} (h : c ≠ []) : c.getLastD 0 ∈ c := by
  rw [List.getLastD_eq_getLast?, List.getLast?_eq_some_getLast h]
  exact List.getLast_mem h
theorem walkA_ok {ns : List (Int × AN)} (A : AOk ns) : ∀ (l : List Nm) (c : List Int), walkA ns l = .ok c → ChOk ns c ∧ c.length = l.length + 1 := by
  intro l
  induction l using snoc_ind with
  | h0 =>
    intro c h
    obtain ⟨ss, hs⟩ := A.root
    cases h
    exact ⟨⟨by simp, fun k hk => by rw [List.mem_singleton.mp hk, hs]; rfl⟩, rfl⟩
  | h1 l n ih =>
    intro c h
    rw [walkA_snoc] at h
    cases hw : walkA ns l with
    | error e => rw [hw] at h; cases h
    | ok c0 =>
      rw [hw] at h
      obtain ⟨h1, h2⟩ := ih c0 hw
      have h : (stepA ns (c0.getLastD 0) n).map (fun k => c0 ++ [k]) = .ok c := h
      cases hs : stepA ns (c0.getLastD 0) n with
      | error e => rw [hs] at h; cases h
      | ok k =>
        rw [hs] at h
        cases h
        refine ⟨⟨by simp, fun j hj => ?_⟩, by rw [List.length_append, List.length_append, h2]; rfl⟩
        rcases List.mem_append.mp hj with hj | hj
        · exact h1.in_ j hj
        · rw [List.mem_singleton.mp hj]
          unfold stepA at hs
          split at hs
          · rename_i ss hl
            split at hs
            · rename_i j2 hn
              cases hs
              exact (A.dir _ _ hl).2.2 _ (nodeOf_some hn)
            · cases hs
          · cases hs
theorem anS_lk (ns : List (Int × NG)) (k : Int) : (anS ns).lookup k = (ns.lookup k).map (·.n) := lk_map (fun x : NG => x.n) ns k
theorem ndD_val (ns : List (Int × NG)) (k : Int) : valV (ndD ns) (Sum.inl k) = (ns.lookup k).map fun x => V.ref x.p := lk_val (fun x : NG => V.ref x.p) ns k
theorem NsH.get {K : PySem.W.Frag} {H : Hp} {nd : Addr} {ns : List (Int × NG)} (N : NsH K H nd ns) {k : Int} (h : ((anS ns).lookup k).isSome = true) : ∃ x, ns.lookup k = some x ∧ (k, x) ∈ ns := by
  rw [anS_lk, Option.isSome_map] at h
  obtain ⟨x, hx⟩ := Option.isSome_iff_exists.mp h
  exact ⟨x, hx, lk_mem hx⟩
theorem NsH.mono {K : PySem.W.Frag} {H H' : Hp} {nd : Addr} {ns : List (Int × NG)} {cs : Cells} (N : NsH K H nd ns) (O : Own H H' [] cs) : NsH K H' nd ns :=
  ⟨O.fr0 N.d, fun x hx => ⟨O.fr0 (N.c x hx).1, O.fr0 (N.c x hx).2⟩, fun x hx ss h => (N.v x hx ss h).mono O, N.ok⟩
def sp_walked (K : PySem.W.Frag) : Sp := sp2 fun x y H Q E => ∃ nd a ns, ∃ names : List Nm, x = .ref nd ∧ y = .ref a ∧ NsH K H nd ns ∧ SqL K H a (SV names) ∧ names.length ≤ 6000 ∧
  (∀ e, walkA (anS ns) names = .error e → ∀ H', Own H H' [] [] → E (e.cls K) none H') ∧ (∀ c, walkA (anS ns) names = .ok c → ∀ H' b, Own H H' [] [(b, .lst (c.map V.int))] → Q (.ref b) H')
theorem sc_walked : FnScope ["nodes", "names", "chain", "name", "here", "node"] ["nodes", "names"] (defScope s_walked) := ⟨rfl, rfl, rfl, by decide +kernel, rfl, by decide +kernel, by decide +kernel⟩
theorem ok_walked {P : Program} {w : World} {K : PySem.W.Frag} {mg : Str → Option Value} {base : Heap} (T : Txt K mg) : Cee P w K mg base 2 (He.fAd K ("walked", none)) ["nodes", "names"] (sp_walked K) := by
  have c_PlainDir_is_dir : Cee P w K mg base 1 (He.fAd K ("PlainDir", some "is_dir")) ["self"] (sp_PlainDir_is_dir K) := ok_PlainDir_is_dir T
  have c_PlainFile_is_dir : Cee P w K mg base 1 (He.fAd K ("PlainFile", some "is_dir")) ["self"] (sp_PlainFile_is_dir K) := ok_PlainFile_is_dir T
  have c_PlainDir_node_of : Cee P w K mg base 1 (He.fAd K ("PlainDir", some "node_of")) ["self", "name"] (sp_PlainDir_node_of K) := ok_PlainDir_node_of T
  refine cee_of T.d_walked sc_walked (fun _ _ _ _ _ _ us hl => match us, hl with | [_, _], _ => rfl) (fun vs H Q E h => sp2_len h) (fun cdv A outer s H vs Q E hr h => ⟨_, (pss_cons (ps_set (i := 2) sc_walked.nd rfl (Or.inl rfl) (pe_lst (pa_cons pe_int pa_nil))) (pss_cons (ps_for (passes_of rfl) rfl (PI.box (pi_list (pv 1))) (pg_name (i := 3) sc_walked.nd rfl (Or.inl rfl)) (pss_cons (ps_set (i := 4) sc_walked.nd rfl (Or.inl rfl) (pe_dget (hu_of hr) (pv 0) (pe_ix ix_list (pv 2) (pe_un un_neg pe_int) (fun _ _ => rfl)) (fun _ _ => rfl))) (pss_cons (ps_if (pt_not (pt_val (PE.alt (pe_m0 (pv 4) T.c_PlainDir T.m_PlainDir_is_dir c_PlainDir_is_dir (hr.mono (by decide)) (takes_of rfl rfl rfl rfl)) (pe_m0 (pv 4) T.c_PlainFile T.m_PlainFile_is_dir c_PlainFile_is_dir (hr.mono (by decide)) (takes_of rfl rfl rfl rfl))))) (pss_one (ps_raise rfl (takes_of rfl rfl rfl rfl) (pmk_own PySem.F.excBase_ValueError T.x_NotDir.1 T.g_NotDir T.x_NotDir.2.1 (raises_own T.x_NotDir.2.2.1 T.x_NotDir.2.2.2) rfl))) pss_nil) (pss_cons (ps_set (i := 5) sc_walked.nd rfl (Or.inl rfl) (pe_m (pv 4) T.c_PlainDir T.m_PlainDir_node_of c_PlainDir_node_of (hr.mono (by decide)) (takes_of rfl rfl rfl rfl) (pa_cons (pv 3) pa_nil))) (pss_cons (ps_if (pt_cmpR op_isN (pv 5) pe_non (nomark _)) (pss_one (ps_raise rfl (takes_of rfl rfl rfl rfl) (pmk_own PySem.F.excBase_ValueError T.x_NoName.1 T.g_NoName T.x_NoName.2.1 (raises_own T.x_NoName.2.2.1 T.x_NoName.2.2.2) rfl))) pss_nil) (pss_one (ps_expr (pe_bm PySem.F.plainAttrs_list PySem.F.slot_list_append PySem.F.type_list_append mt_append (pv 2) (pa_cons (pv 5) pa_nil))))))))) (pss_one (ps_ret (pv 2))))), ?_⟩)
  obtain ⟨v0, v1, rfl, h⟩ := h
  dsimp only [cxOf, L2.start]
  obtain ⟨nd, a, ns, names, rfl, rfl, N, ha, hl, ke, k⟩ := h
  walk_at "s"
  intro b hb
  have O := (Own.start (H := H)).new (o := .lst [V.int 0]) hb
  generalize upd H b _ = H1 at O ⊢
  have ha1 := O.sq ha
  walk_at "s"
  refine forL (xs := SV names) (fun i σ H' => ∃ (v3 v4 v5 : Option V) (c : List Int), σ = [some (.ref nd), some (.ref a), some (.ref b), v3, v4, v5] ∧ Own H H' [] [(b, .lst (c.map V.int))] ∧ walkA (anS ns) (names.take i) = .ok c) ⟨_, _, _, [0], rfl, O, rfl⟩ (fun i σ H' _ ⟨_, _, _, _, _, O, _⟩ => O.sq ha) ?_ ?_
  · rintro i x σ H' hx ⟨v3, v4, v5, c, rfl, O1, hc⟩
    obtain ⟨n, hn, rfl⟩ := SV_get hx
    have N1 := N.mono O1
    obtain ⟨hch, hcl⟩ := walkA_ok N.ok _ _ hc
    obtain ⟨y, hy, hym⟩ := N1.get (hch.in_ _ (getLastD_mem hch.ne))
    have hb1 := O1.get (.head _)
    have hat := at_last hch.ne
    have hd := N1.d
    have hv : valV (ndD ns) (Sum.inl (c.getLastD 0)) = some (.ref y.p) := by rw [ndD_val, hy]; rfl
    obtain ⟨hp, hpa⟩ := N1.c _ hym
    have hst : stepA (anS ns) (c.getLastD 0) n = match y.n with
      | .dir ss => match nodeOf ss n with
        | some j => .ok j
        | none => .error .noName
      | _ => .error .notDir := by
      unfold stepA
      rw [anS_lk, hy, Option.map_some]
      cases y.n <;> rfl
    have hws := walkA_snoc (anS ns) (names.take i) n
    rw [← take_succ hn, hc] at hws
    have hws : walkA (anS ns) (names.take (i + 1)) = (stepA (anS ns) (c.getLastD 0) n).map fun k => c ++ [k] := hws
    rw [hst] at hws
    have herr : ∀ e, walkA (anS ns) (names.take (i + 1)) = .error e → walkA (anS ns) names = .error e := fun e h => by
      have := walkA_err h (names.drop (i + 1))
      rwa [List.take_append_drop] at this
    have hvs := N1.v _ hym
    cases hyn : y.n with
    | file l hh cs =>
      rw [hyn] at hws hp hpa
      have hp : H' y.p = some (.ins (He.ga K "PlainFile") y.dx [("contents", .ref y.a), ("links", .int l), ("holds", .int hh)]) := hp
      walk_at "s"
      refine .inr ?_
      walk_at "s"
      refine ask1 ?_
      walk_at "s"
      exact ke .notDir (herr _ hws) _ (O1.drop (List.nil_sublist _))
    | dir ss =>
      rw [hyn] at hws hp hpa
      have hvs := hvs ss hyn
      have hp : H' y.p = some (.ins (He.ga K "PlainDir") y.dx [("slots", .ref y.a)]) := hp
      walk_at "s"
      refine .inl ?_
      walk_at "s"
      refine ask1 ?_
      walk_at "s"
      refine ask2 ⟨y.p, y.dx, y.a, y.vs, n, ss, rfl, rfl, hp, hpa, hvs, ?_⟩
      have hws : walkA (anS ns) (names.take (i + 1)) = ((match nodeOf ss n with
        | some j => .ok j
        | none => .error .noName) : Except FRf Int).map fun k => c ++ [k] := hws
      cases hno : nodeOf ss n with
      | none =>
        rw [hno] at hws
        walk_at "s"
        refine if_t (by simp [optV]) ?_
        exact ke .noName (herr _ hws) _ (O1.drop (List.nil_sublist _))
      | some j =>
        rw [hno] at hws
        rw [List.length_take] at hcl
        walk_at "s"
        refine ⟨⟨_, _, _, c ++ [j], rfl, ?_, hws⟩⟩
        rw [List.map_append]
        exact O1.wr .here
  · rintro σ H' ⟨v3, v4, v5, c, rfl, O1, hc⟩
    rw [show (SV names).length = names.length from List.length_map .., List.take_length] at hc
    walk_at "s"
    exact k c hc _ b O1
structure NsV (H : Hp) (ns : List (Int × NG)) : Prop where
  v : ∀ x ∈ ns, ∀ ss, x.2.n = .dir ss → SlsV H x.2.vs ss
  ok : AOk (anS ns)
theorem NsV.mono {H0 H H' : Hp} {A : List Addr} {cs : Cells} {ns : List (Int × NG)} (N : NsV H ns) (O : Own H H' A cs) : NsV H' ns := ⟨fun x hx ss h => (N.v x hx ss h).mono O, N.ok⟩
theorem cN_mem {K : PySem.W.Frag} {ns : List (Int × NG)} {x : Int × NG} (hx : x ∈ ns) : (x.2.p, insN K x.2.dx x.2.a x.2.n) ∈ cNs K ns ∧ (x.2.a, HO.lst (x.2.n.val x.2.vs)) ∈ cNs K ns := ⟨List.mem_flatMap.mpr ⟨x, hx, .head _⟩, List.mem_flatMap.mpr ⟨x, hx, .tail _ (.head _)⟩⟩
theorem Own.nsh {K : PySem.W.Frag} {H0 H : Hp} {A : List Addr} {cs : Cells} {nd : Addr} {ns : List (Int × NG)} (O : Own H0 H A cs) (hc : ∀ y ∈ cTr K nd ns, y ∈ cs) (N : NsV H ns) : NsH K H nd ns :=
  ⟨O.get (hc _ (.head _)), fun x hx => ⟨O.get (hc _ (.tail _ (cN_mem hx).1)), O.get (hc _ (.tail _ (cN_mem hx).2))⟩, N.v, N.ok⟩
theorem cutV_init (xs : List V) : cutV xs none (some (-1)) = xs.dropLast := by
  unfold cutV
  have e1 : HT.sIx xs.length 0 none = 0 := HT.sIx_none ..
  have e2 : HT.sIx xs.length xs.length (some (-1)) = xs.length - 1 := by
    unfold HT.sIx
    simp
    omega
  rw [e1, e2, List.drop_zero, Nat.sub_zero, List.dropLast_eq_take]
theorem newA_ok {ns : List (Int × AN)} (A : AOk ns) {names : List Nm} {c : List Int} (h : newA ns names = .ok c) : names ≠ [] ∧ walkA ns names.dropLast = .ok c ∧ ChOk ns c ∧ c.length = names.length ∧ ∃ ss, ns.lookup (c.getLastD 0) = some (.dir ss) ∧ nodeOf ss (names.getLastD []) = none := by
  unfold newA at h
  by_cases e : names = []
  · rw [if_pos e] at h; cases h
  rw [if_neg e] at h
  cases hw : walkA ns names.dropLast with
  | error x => rw [hw] at h; cases h
  | ok c0 =>
    rw [hw] at h
    have h : (match ns.lookup (c0.getLastD 0) with
      | some (.dir ss) => match nodeOf ss (names.getLastD []) with
        | some _ => .error .taken
        | none => .ok c0
      | _ => .error .notDir : Except FRf (List Int)) = .ok c := h
    split at h
    · rename_i ss hl
      split at h
      · cases h
      · rename_i hn
        cases h
        obtain ⟨h1, h2⟩ := walkA_ok A _ _ hw
        have := List.length_pos_iff.mpr e
        rw [List.length_dropLast] at h2
        exact ⟨e, rfl, h1, by omega, ss, hl, hn⟩
    · cases h
def sp_walked_to_new (K : PySem.W.Frag) : Sp := sp2 fun x y H Q E => ∃ nd a ns, ∃ names : List Nm, x = .ref nd ∧ y = .ref a ∧ NsH K H nd ns ∧ H a = some (.lst (SV names)) ∧ names.length ≤ 6000 ∧ (∀ n ∈ names, TxO n) ∧
  (∀ e, newA (anS ns) names = .error e → ∀ H', Own H H' [] [] → E (e.cls K) none H') ∧ (∀ c, newA (anS ns) names = .ok c → ∀ H' b, Own H H' [] [(b, .lst (c.map V.int))] → Q (.ref b) H')
def sp_blocks_free (K : PySem.W.Frag) : Sp := sp2 fun x y H Q _ => ∃ nd ns, ∃ room : Int, x = .ref nd ∧ y = .int room ∧ Own H H (adr (cTr K nd ns)) (cTr K nd ns) ∧ NsV H ns ∧ ∀ H', Own H H' (adr (cTr K nd ns)) (cTr K nd ns) → Q (.int (freeA room (anS ns))) H'
def sp_look_slot (K : PySem.W.Frag) : Sp := sp1 fun x H Q E => ∃ p dx a vs, ∃ ss : List Sl, x = .ref p ∧ H p = some (insN K dx a (.dir ss)) ∧ H a = some (.lst vs) ∧ SlsV H vs ss ∧ (∀ s ∈ ss, SlOk s) ∧ (fullA ss = true → E (FRf.tooMany.cls K) none H) ∧ (fullA ss = false → Q .non H)
def sp_look_growth (K : PySem.W.Frag) : Sp := sp3 fun x y z H Q E => ∃ nd ns n u, ∃ room : Int, ∃ ss : List Sl, x = .ref nd ∧ y = .int room ∧ z = .ref u.p ∧ Own H H (adr (cTr K nd ns)) (cTr K nd ns) ∧ NsV H ns ∧ (n, u) ∈ ns ∧ u.n = .dir ss ∧
  (growA room (anS ns) ss = true → ∀ H', Own H H' (adr (cTr K nd ns)) (cTr K nd ns) → E (FRf.noSpace.cls K) none H') ∧ (growA room (anS ns) ss = false → ∀ H', Own H H' (adr (cTr K nd ns)) (cTr K nd ns) → Q .non H')
theorem sc_walked_to_new : FnScope ["nodes", "names", "chain", "parent"] ["nodes", "names"] (defScope s_walked_to_new) := ⟨rfl, rfl, rfl, by decide +kernel, rfl, by decide +kernel, by decide +kernel⟩
theorem ok_walked_to_new {P : Program} {w : World} {K : PySem.W.Frag} {mg : Str → Option Value} {base : Heap} (T : Txt K mg) : Cee P w K mg base 3 (He.fAd K ("walked_to_new", none)) ["nodes", "names"] (sp_walked_to_new K) := by
  have c_walked : Cee P w K mg base 2 (He.fAd K ("walked", none)) ["nodes", "names"] (sp_walked K) := ok_walked T
  have c_PlainDir_is_dir : Cee P w K mg base 1 (He.fAd K ("PlainDir", some "is_dir")) ["self"] (sp_PlainDir_is_dir K) := ok_PlainDir_is_dir T
  have c_PlainFile_is_dir : Cee P w K mg base 1 (He.fAd K ("PlainFile", some "is_dir")) ["self"] (sp_PlainFile_is_dir K) := ok_PlainFile_is_dir T
  have c_PlainDir_node_of : Cee P w K mg base 1 (He.fAd K ("PlainDir", some "node_of")) ["self", "name"] (sp_PlainDir_node_of K) := ok_PlainDir_node_of T
  refine cee_of T.d_walked_to_new sc_walked_to_new (fun _ _ _ _ _ _ us hl => match us, hl with | [_, _], _ => rfl) (fun vs H Q E h => sp2_len h) (fun cdv A outer s H vs Q E hr h => ⟨_, (pss_cons (ps_if (pt_cmpR (op_eqD hr.units) (pv 1) (pe_lst pa_nil) (nomark _)) (pss_one (ps_raise rfl (takes_of rfl rfl rfl rfl) (pmk_own PySem.F.excBase_ValueError T.x_Taken.1 T.g_Taken T.x_Taken.2.1 (raises_own T.x_Taken.2.2.1 T.x_Taken.2.2.2) rfl))) pss_nil) (pss_cons (ps_set (i := 2) sc_walked_to_new.nd rfl (Or.inl rfl) (pe_f c_walked (hr.mono (by decide)) (takes_of rfl rfl rfl rfl) (by rfl) T.g_walked (pa_cons (pv 0) (pa_cons (pe_slice sl_list (pv 1) po_none (po_some (pe_un un_neg pe_int))) pa_nil)))) (pss_cons (ps_set (i := 3) sc_walked_to_new.nd rfl (Or.inl rfl) (pe_dget (hu_of hr) (pv 0) (pe_ix ix_list (pv 2) (pe_un un_neg pe_int) (fun _ _ => rfl)) (fun _ _ => rfl))) (pss_cons (ps_if (pt_not (pt_val (PE.alt (pe_m0 (pv 3) T.c_PlainDir T.m_PlainDir_is_dir c_PlainDir_is_dir (hr.mono (by decide)) (takes_of rfl rfl rfl rfl)) (pe_m0 (pv 3) T.c_PlainFile T.m_PlainFile_is_dir c_PlainFile_is_dir (hr.mono (by decide)) (takes_of rfl rfl rfl rfl))))) (pss_one (ps_raise rfl (takes_of rfl rfl rfl rfl) (pmk_own PySem.F.excBase_ValueError T.x_NotDir.1 T.g_NotDir T.x_NotDir.2.1 (raises_own T.x_NotDir.2.2.1 T.x_NotDir.2.2.2) rfl))) pss_nil) (pss_cons (ps_if (pt_cmpR op_notN (pe_m (pv 3) T.c_PlainDir T.m_PlainDir_node_of c_PlainDir_node_of (hr.mono (by decide)) (takes_of rfl rfl rfl rfl) (pa_cons (pe_ix ix_list (pv 1) (pe_un un_neg pe_int) (fun _ _ => rfl)) pa_nil)) pe_non (nomark _)) (pss_one (ps_raise rfl (takes_of rfl rfl rfl rfl) (pmk_own PySem.F.excBase_ValueError T.x_Taken.1 T.g_Taken T.x_Taken.2.1 (raises_own T.x_Taken.2.2.1 T.x_Taken.2.2.2) rfl))) pss_nil) (pss_one (ps_ret (pv 2)))))))), ?_⟩)
  obtain ⟨v0, v1, rfl, h⟩ := h
  dsimp only [cxOf, L2.start]
  obtain ⟨nd, a, ns, names, rfl, rfl, N, ha, hl, hx, ke, k⟩ := h
  have hlen : (SV names).length = names.length := List.length_map ..
  walk_at "s"
  intro b hb
  have O := (Own.start (H := H)).new (o := .lst []) hb
  have hb1 : upd H b (.lst []) b = some (.lst (SV [])) := upd_same
  generalize upd H b _ = H1 at O hb1 ⊢
  refine eq_SV (ms := []) hx (fun n h => absurd h (by simp)) (O.fr0 ha) hb1 ?_
  refine ⟨_, rfl, ?_⟩
  refine if_d (fun h => ?_) (fun h => ?_)
  · have h : names = [] := List.map_eq_nil_iff.mp h
    exact ke .taken (by unfold newA; rw [if_pos h]) _ (O.drop (List.nil_sublist _))
  have h : names ≠ [] := fun z => h (by rw [z])
  have hnw : newA (anS ns) names = (walkA (anS ns) names.dropLast).bind fun c => match (anS ns).lookup (c.getLastD 0) with
    | some (.dir ss) => match nodeOf ss (names.getLastD []) with
      | some _ => .error .taken
      | none => .ok c
    | _ => .error .notDir := by unfold newA; rw [if_neg h]
  have ha1 : SqL K H1 a (SV names) := SqL.of (O.fr0 ha)
  have hcut : cutV (SV names) none (some (-1)) = SV names.dropLast := by rw [cutV_init]; simp [SV, List.map_dropLast]
  walk_at "s"
  rw [hcut]
  intro d hd
  have O1 := O.new (o := .lst (SV names.dropLast)) hd
  generalize upd H1 d _ = H2 at O1 ⊢
  have N2 := N.mono O1
  refine ask2 ⟨nd, d, ns, names.dropLast, rfl, rfl, N2, SqL.of (O1.get (.head _)), by rw [List.length_dropLast]; omega, fun e he H3 O2 => ?_, fun c hc H3 b3 O2 => ?_⟩
  · exact ke e (by rw [hnw, he]; rfl) _ ((O1.callN O2).drop (List.nil_sublist _))
  have O3 := O1.callN O2
  have N3 := N2.mono O2
  obtain ⟨hch, hcl⟩ := walkA_ok N.ok _ _ hc
  obtain ⟨y, hy, hym⟩ := N3.get (hch.in_ _ (getLastD_mem hch.ne))
  have hb3 := O3.get (.head _)
  have hat := at_last hch.ne
  have hd3 := N3.d
  have hv : valV (ndD ns) (Sum.inl (c.getLastD 0)) = some (.ref y.p) := by rw [ndD_val, hy]; rfl
  obtain ⟨hp, hpa⟩ := N3.c _ hym
  have hvs := N3.v _ hym
  rw [hc] at hnw
  have hnw : newA (anS ns) names = match (anS ns).lookup (c.getLastD 0) with
    | some (.dir ss) => match nodeOf ss (names.getLastD []) with
      | some _ => .error .taken
      | none => .ok c
    | _ => .error .notDir := hnw
  rw [anS_lk, hy, Option.map_some] at hnw
  have hatn : atI (SV names) (-1) = some (.str (S (names.getLastD []))) := by
    have hl0 : 0 < names.length := List.length_pos_iff.mpr h
    unfold atI ixN
    rw [if_neg (by decide), if_pos (by rw [hlen]; omega)]
    show (SV names)[(-1 + (((SV names).length : Nat) : Int)).toNat]? = _
    rw [hlen, show (-1 + ((names.length : Nat) : Int)).toNat = names.length - 1 by omega, List.getElem?_map, List.getLastD_eq_getLast?, List.getLast?_eq_getElem?]
    rw [List.getElem?_eq_getElem (by omega)]
    rfl
  have ha3 : SqL K H3 a (SV names) := SqL.of (O2.fr0 (O1.fr0 ha))
  clear O O1 O2 N2
  cases hyn : y.n with
  | file l hh cs =>
    rw [hyn] at hnw hp hpa
    have hp : H3 y.p = some (.ins (He.ga K "PlainFile") y.dx [("contents", .ref y.a), ("links", .int l), ("holds", .int hh)]) := hp
    walk_at "s"
    refine .inr ?_
    walk_at "s"
    refine ask1 ?_
    walk_at "s"
    exact ke .notDir hnw _ (O3.drop (List.nil_sublist _))
  | dir ss =>
    rw [hyn] at hnw hp hpa
    have hvs := hvs ss hyn
    have hp : H3 y.p = some (.ins (He.ga K "PlainDir") y.dx [("slots", .ref y.a)]) := hp
    walk_at "s"
    refine .inl ?_
    walk_at "s"
    refine ask1 ?_
    walk_at "s"
    refine ask2 ⟨y.p, y.dx, y.a, y.vs, _, ss, rfl, rfl, hp, hpa, hvs, ?_⟩
    have hnw : newA (anS ns) names = match nodeOf ss (names.getLastD []) with
      | some _ => .error .taken
      | none => .ok c := hnw
    cases hno : nodeOf ss (names.getLastD []) with
    | none =>
      rw [hno] at hnw
      walk_at "s"
      exact k c hnw _ b3 (O3.drop (.cons₂ _ (List.nil_sublist _)))
    | some j =>
      rw [hno] at hnw
      walk_at "s"
      refine if_t (by simp [optV]) ?_
      exact ke .taken hnw _ (O3.drop (List.nil_sublist _))
theorem sc_blocks_free : FnScope ["nodes", "room", "here"] ["nodes", "room"] (defScope s_blocks_free) := ⟨rfl, rfl, rfl, by decide +kernel, rfl, by decide +kernel, by decide +kernel⟩
theorem ok_blocks_free {P : Program} {w : World} {K : PySem.W.Frag} {mg : Str → Option Value} {base : Heap} (T : Txt K mg) : Cee P w K mg base 3 (He.fAd K ("blocks_free", none)) ["nodes", "room"] (sp_blocks_free K) := by
  have c_PlainDir_blocks_used : Cee P w K mg base 2 (He.fAd K ("PlainDir", some "blocks_used")) ["self"] (sp_PlainDir_blocks_used K) := ok_PlainDir_blocks_used T
  have c_PlainFile_blocks_used : Cee P w K mg base 2 (He.fAd K ("PlainFile", some "blocks_used")) ["self"] (sp_PlainFile_blocks_used K) := ok_PlainFile_blocks_used T
  refine cee_of T.d_blocks_free sc_blocks_free (fun _ _ _ _ _ _ us hl => match us, hl with | [_, _], _ => rfl) (fun vs H Q E h => sp2_len h) (fun cdv A outer s H vs Q E hr h => ⟨_, (pss_one (ps_ret (pe_op op_sub (pv 1) (pe_callB (cr_sum rfl) (by rfl) T.n_sum (by decide +kernel) (pa_cons (pe_lock (pe_lc (own := [("here", 2)]) (by rfl) sc_blocks_free.nd (PI.box (pi_values (pv 0))) (blkOk_by (own := [("here", 2)]) (N := ["nodes", "room", "here"]) (sc := defScope s_blocks_free) (by decide +kernel)) (fun _ _ _ _ _ => (pg_name (i := 2) sc_blocks_free.nd rfl (Or.inl rfl))) (fun _ _ _ _ _ => pts_nil) (fun _ _ _ _ _ => (PE.alt (pe_m0 (pv 2) T.c_PlainDir T.m_PlainDir_blocks_used c_PlainDir_blocks_used (hr.mono (by decide)) takes0) (pe_m0 (pv 2) T.c_PlainFile T.m_PlainFile_blocks_used c_PlainFile_blocks_used (hr.mono (by decide)) takes0))))) pa_nil))))), ?_⟩)
  obtain ⟨v0, v1, rfl, h⟩ := h
  dsimp only [cxOf, L2.start]
  obtain ⟨nd, ns, room, rfl, rfl, O, N, k⟩ := h
  have hd := O.get (a := nd) (o := .dK (ndD ns)) (.head _)
  walk_at "s"
  refine ⟨_, hd, True.intro, fun od => ?_⟩
  have O1 := O.wr (a := nd) (o' := .frz od (.dK (ndD ns))) .here
  walk_at "s"
  refine lcW (te := fun σ H Q => tM0 (He.ga K "PlainDir") "blocks_used" (sp_PlainDir_blocks_used K) (fun _ _ _ _ => False) (tVar 2) σ H Q ∨ tM0 (He.ga K "PlainFile") "blocks_used" (sp_PlainFile_blocks_used K) (fun _ _ _ _ => False) (tVar 2) σ H Q) (walk_values (d := nd) (o := od) (kvs := ndD ns)) (fun L j H2 => Own H H2 (adr (cTr K nd ns)) ((L, .lst (((ns.take j).map fun x => usedA x.2.n).map V.int)) :: (nd, .frz od (.dK (ndD ns))) :: cNs K ns)) (fun L hL => O1.new hL) (fun L j H2 _ O => O.get (.tail _ (.head _))) ?_ ?_
  · rintro L j x H2 H3 hj O2 ⟨rfl, k2, hx⟩
    obtain ⟨y, hy⟩ : ∃ y, ns[j]? = some y := ⟨ns[j]'(by simpa using hj), List.getElem?_eq_getElem _⟩
    rw [List.getElem?_map, hy] at hx
    cases hx
    have hym := List.mem_of_getElem? hy
    have hp := O2.get (.tail _ (.tail _ (cN_mem (K := K) hym).1))
    have ha := O2.get (.tail _ (.tail _ (cN_mem (K := K) hym).2))
    have hvs := N.v _ hym
    have hlen : (((ns.take j).map fun x => usedA x.2.n).map V.int).length < 100000 := by
      rw [List.length_map, List.length_map, List.length_take]
      have := N.ok.len
      rw [List.length_map] at this
      omega
    have hL := O2.get (.head _)
    have O3 := O2.wr (o' := .lst (((ns.take (j + 1)).map fun x => usedA x.2.n).map V.int)) .here
    rw [take_succ hy, List.map_append, List.map_append] at O3
    rw [take_succ hy, List.map_append, List.map_append]
    generalize hus : ((ns.take j).map fun x => usedA x.2.n).map V.int = us at *
    obtain ⟨yk, yg⟩ := y
    cases hyn : yg.n with
    | dir ss =>
      have hvs := hvs ss hyn
      have hp : H3 yg.p = some (.ins (He.ga K "PlainDir") yg.dx [("slots", .ref yg.a)]) := by
        have hp : H3 yg.p = some (insN K yg.dx yg.a yg.n) := hp
        rw [hyn] at hp
        exact hp
      have ha : H3 yg.a = some (.lst yg.vs) := by
        have ha : H3 yg.a = some (.lst (yg.n.val yg.vs)) := ha
        rw [hyn] at ha
        exact ha
      have O3 : Own H (upd H3 L (.lst (us ++ [.int (blk (8 * (ss.length : Nat)))]))) (adr (cTr K nd ns)) ((L, .lst (us ++ [.int (blk (8 * (ss.length : Nat)))])) :: (nd, .frz od (.dK (ndD ns))) :: cNs K ns) := by
        have O3 := O3
        simp only [List.map_cons, List.map_nil, hyn, usedA] at O3
        exact O3
      refine ⟨rfl, ?_⟩
      walk_at "s"
      refine .inl ?_
      walk_at "s"
      refine ask1 ⟨yg.p, yg.dx, yg.a, yg.vs, ss, rfl, hp, ha, hvs.len, ?_⟩
      walk_at "s"
      simp only [List.map_cons, List.map_nil, hyn, usedA]
      exact ⟨O3⟩
    | file l hh cs =>
      have hp : H3 yg.p = some (.ins (He.ga K "PlainFile") yg.dx [("contents", .ref yg.a), ("links", .int l), ("holds", .int hh)]) := by
        have hp : H3 yg.p = some (insN K yg.dx yg.a yg.n) := hp
        rw [hyn] at hp
        exact hp
      have ha : H3 yg.a = some (.lst (cs.map V.int)) := by
        have ha : H3 yg.a = some (.lst (yg.n.val yg.vs)) := ha
        rw [hyn] at ha
        exact ha
      have O3 : Own H (upd H3 L (.lst (us ++ [.int (blk (cs.length : Nat))]))) (adr (cTr K nd ns)) ((L, .lst (us ++ [.int (blk (cs.length : Nat))])) :: (nd, .frz od (.dK (ndD ns))) :: cNs K ns) := by
        have O3 := O3
        simp only [List.map_cons, List.map_nil, hyn, usedA] at O3
        exact O3
      refine ⟨rfl, ?_⟩
      walk_at "s"
      refine .inr ?_
      walk_at "s"
      refine ask1 ⟨yg.p, yg.dx, yg.a, l, hh, cs, rfl, hp, ha, ?_⟩
      walk_at "s"
      simp only [List.map_cons, List.map_nil, hyn, usedA]
      exact ⟨O3⟩
  · rintro L H2 O2
    rw [show (ndD ns).length = ns.length from List.length_map _, List.take_length] at O2
    refine ⟨O2.get (.tail _ (.head _)), ?_⟩
    have O3 := O2.wr (a := nd) (o' := .dK (ndD ns)) (.there .here)
    have hs : SqL K (upd H2 nd (.dK (ndD ns))) L ((ns.map fun x => usedA x.2.n).map V.int) := SqL.of (O3.get (.head _))
    walk_at "s"
    have e : freeA room (anS ns) = room - (ns.map fun x => usedA x.2.n).sum := by
      unfold freeA anS
      rw [List.map_map]
      rfl
    rw [e] at k
    exact k _ (O3.drop (.cons _ (.refl _)))
theorem sc_look_slot : FnScope ["parent"] ["parent"] (defScope s_look_slot) := ⟨rfl, rfl, rfl, by decide +kernel, rfl, by decide +kernel, by decide +kernel⟩
theorem ok_look_slot {P : Program} {w : World} {K : PySem.W.Frag} {mg : Str → Option Value} {base : Heap} (T : Txt K mg) : Cee P w K mg base 1 (He.fAd K ("look_slot", none)) ["parent"] (sp_look_slot K) := by
  refine cee_of T.d_look_slot sc_look_slot (fun _ _ _ _ _ _ us hl => match us, hl with | [_], _ => rfl) (fun vs H Q E h => sp1_len h) (fun cdv A outer s H vs Q E hr h => ⟨_, (pss_one (ps_if (PW.pt (pw_and (pt_cmpR op_eq (pe_callB call_len_seq (by rfl) T.n_len (by decide +kernel) (pa_cons (pe_fld (pv 0) rfl) pa_nil)) (pe_gc (v := .int 40) rfl (gI T.g_MOST_SLOTS)) (nomark _)) (pw_and1 (pt_cmpR (op_notInD (room65 hr)) pe_non (pe_fld (pv 0) rfl) (by with_unfolding_all rfl))))) (pss_one (ps_raise rfl (takes_of rfl rfl rfl rfl) (pmk_own PySem.F.excBase_ValueError T.x_TooMany.1 T.g_TooMany T.x_TooMany.2.1 (raises_own T.x_TooMany.2.2.1 T.x_TooMany.2.2.2) rfl))) pss_nil)), ?_⟩)
  obtain ⟨v0, rfl, h⟩ := h
  dsimp only [cxOf, L2.start]
  obtain ⟨p, dx, a, vs, ss, rfl, hp, ha, hv, hok, ke, k⟩ := h
  have hp : H p = some (.ins (He.ga K "PlainDir") dx [("slots", .ref a)]) := hp
  have hvl := hv.len
  walk_at "s"
  refine if_ii (fun h1 => ?_) (fun h1 => ?_)
  · walk_at "s"
    refine notin_none ha hv hok ⟨_, rfl, ?_⟩
    refine if_nd (fun h2 => ?_) (fun h2 => ?_)
    · exact ke (by unfold fullA; rw [decide_eq_true (by omega), decide_eq_false h2]; rfl)
    · walk_at "s"
      exact k (by unfold fullA; rw [decide_eq_true h2]; simp)
  · walk_at "s"
    exact k (by unfold fullA; rw [decide_eq_false (by omega)]; rfl)
theorem sc_look_growth : FnScope ["nodes", "room", "parent", "more"] ["nodes", "room", "parent"] (defScope s_look_growth) := ⟨rfl, rfl, rfl, by decide +kernel, rfl, by decide +kernel, by decide +kernel⟩
theorem ok_look_growth {P : Program} {w : World} {K : PySem.W.Frag} {mg : Str → Option Value} {base : Heap} (T : Txt K mg) : Cee P w K mg base 4 (He.fAd K ("look_growth", none)) ["nodes", "room", "parent"] (sp_look_growth K) := by
  have c_blocks_for : Cee P w K mg base 1 (He.fAd K ("blocks_for", none)) ["cells"] (sp_blocks_for K) := ok_blocks_for T
  have c_PlainDir_blocks_used : Cee P w K mg base 2 (He.fAd K ("PlainDir", some "blocks_used")) ["self"] (sp_PlainDir_blocks_used K) := ok_PlainDir_blocks_used T
  have c_PlainFile_blocks_used : Cee P w K mg base 2 (He.fAd K ("PlainFile", some "blocks_used")) ["self"] (sp_PlainFile_blocks_used K) := ok_PlainFile_blocks_used T
  have c_blocks_free : Cee P w K mg base 3 (He.fAd K ("blocks_free", none)) ["nodes", "room"] (sp_blocks_free K) := ok_blocks_free T
  refine cee_of T.d_look_growth sc_look_growth (fun _ _ _ _ _ _ us hl => match us, hl with | [_, _, _], _ => rfl) (fun vs H Q E h => sp3_len h) (fun cdv A outer s H vs Q E hr h => ⟨_, (pss_one (ps_if (pt_cmpR (op_notInD (room65 hr)) pe_non (pe_fld (pv 2) rfl) (by with_unfolding_all rfl)) (pss_cons (ps_set (i := 3) sc_look_growth.nd rfl (Or.inl rfl) (pe_op op_sub (pe_f c_blocks_for (hr.mono (by decide)) (takes_of rfl rfl rfl rfl) (by rfl) T.g_blocks_for (pa_cons (pe_op op_mul (pe_gc (v := .int 8) rfl (gI T.g_SLOT_CELLS)) (pe_op op_add (pe_callB call_len_seq (by rfl) T.n_len (by decide +kernel) (pa_cons (pe_fld (pv 2) rfl) pa_nil)) pe_int)) pa_nil)) (PE.alt (pe_m0 (pv 2) T.c_PlainDir T.m_PlainDir_blocks_used c_PlainDir_blocks_used (hr.mono (by decide)) (takes_of rfl rfl rfl rfl)) (pe_m0 (pv 2) T.c_PlainFile T.m_PlainFile_blocks_used c_PlainFile_blocks_used (hr.mono (by decide)) (takes_of rfl rfl rfl rfl))))) (pss_one (ps_if (pt_cmpR op_gt (pv 3) (pe_f c_blocks_free (hr.mono (by decide)) (takes_of rfl rfl rfl rfl) (by rfl) T.g_blocks_free (pa_cons (pv 0) (pa_cons (pv 1) pa_nil))) (nomark _)) (pss_one (ps_raise rfl (takes_of rfl rfl rfl rfl) (pmk_own PySem.F.excBase_ValueError T.x_NoSpace.1 T.g_NoSpace T.x_NoSpace.2.1 (raises_own T.x_NoSpace.2.2.1 T.x_NoSpace.2.2.2) rfl))) pss_nil))) pss_nil)), ?_⟩)
  obtain ⟨v0, v1, v2, rfl, h⟩ := h
  dsimp only [cxOf, L2.start]
  obtain ⟨nd, ns, n, u, room, ss, rfl, rfl, rfl, O, N, hm, hu, ke, k⟩ := h
  obtain ⟨up, ud, ua, uv, un⟩ := u
  have hu : un = .dir ss := hu
  subst hu
  have hp : H up = some (.ins (He.ga K "PlainDir") ud [("slots", .ref ua)]) := O.get (.tail _ (cN_mem (K := K) hm).1)
  have ha : H ua = some (.lst uv) := O.get (.tail _ (cN_mem (K := K) hm).2)
  have hv := N.v _ hm ss rfl
  have hd := N.ok.dir n ss (by rw [anS_lk, lk_nd (by have := N.ok.nd; rwa [List.map_map] at this) hm]; rfl)
  have hok := hd.2.1
  walk_at "s"
  refine notin_none ha hv hok ⟨_, rfl, ?_⟩
  have hvl := hv.len
  have hg : growA room (anS ns) ss = (!decide (none ∈ ss) && decide (blk (8 * ((ss.length : Nat) + 1)) - blk (8 * (ss.length : Nat)) > freeA room (anS ns))) := rfl
  refine if_nd (fun h1 => ?_) (fun h1 => ?_)
  · rw [decide_eq_false h1] at hg
    walk_at "s"
    refine ask1 ⟨_, rfl, ?_⟩
    walk_at "s"
    refine .inl ?_
    walk_at "s"
    refine ask1 ⟨up, ud, ua, uv, ss, rfl, hp, ha, hvl, ?_⟩
    walk_at "s"
    refine ask2 ⟨nd, ns, room, rfl, rfl, O, N, fun H1 O1 => ?_⟩
    have hvl : (uv.length : Int) = (ss.length : Int) := by rw [hvl]
    walk_at "s"
    have hvl : ((({ p := up, dx := ud, a := ua, vs := uv, n := AN.dir ss } : NG).vs.length : Nat) : Int) = (ss.length : Nat) := hvl
    rw [show (uv.length : Int) = (ss.length : Int) from hvl]
    refine if_d (fun h2 => ?_) (fun h2 => ?_)
    · exact ke (by rw [hg, decide_eq_true h2]; rfl) _ O1
    · walk_at "s"
      exact k (by rw [hg, decide_eq_false h2]; rfl) _ O1
  · rw [decide_eq_true h1] at hg
    walk_at "s"
    exact k hg _ O

/-! ## plain files: what each deed does -/
open SX (S)
abbrev lastI (c : List Int) : Int := c.getLastD 0
abbrev prevI (c : List Int) : Int := c.dropLast.getLastD 0
abbrev lastN (ns : List Nm) : Nm := ns.getLastD []
abbrev Tr := List (Int × AN)
def addTo (ns : Tr) (k : Int) (n : Nm) (j : Int) : Tr := match ns.lookup k with
  | some (.dir ss) => setA ns k (.dir (addA ss n j))
  | _ => ns
def dropOf (ns : Tr) (k : Int) (n : Nm) : Tr := match ns.lookup k with
  | some (.dir ss) => setA ns k (.dir (dropS ss n))
  | _ => ns
def clearA (ns : Tr) (k : Int) : Tr := match ns.lookup k with
  | some (.file l h _) => if l = 0 ∧ h = 0 then dropA ns k else ns
  | _ => ns
def freeN (ns : Tr) : Int := ((((List.range 24).find? fun (k : Nat) => (ns.lookup (k : Int)).isNone).getD 0 : Nat) : Int)
def isDirA (ns : Tr) (k : Int) : Bool := match ns.lookup k with
  | some (.dir _) => true
  | _ => false
def makeA (room : Int) (ns : Tr) (names : List Nm) (new : AN) : Except FRf (Tr × Int) := (newA ns names).bind fun c => match ns.lookup (lastI c) with
  | some (.dir ss) => if fullA ss = true then .error .tooMany else if ns.length = 24 then .error .noNode else if growA room ns ss = true then .error .noSpace else .ok (addTo (ns ++ [(freeN ns, new)]) (lastI c) (lastN names) (freeN ns), freeN ns)
  | _ => .error .notDir
def linkA (room : Int) (ns : Tr) (names others : List Nm) : Except FRf Tr := (walkA ns names).bind fun c => match ns.lookup (lastI c) with
  | some (.file l h cs) => (newA ns others).bind fun c2 => match ns.lookup (lastI c2) with
    | some (.dir ss) => if fullA ss = true then .error .tooMany else if growA room ns ss = true then .error .noSpace else .ok (setA (addTo ns (lastI c2) (lastN others) (lastI c)) (lastI c) (.file (l + 1) h cs))
    | _ => .error .notDir
  | _ => .error .isDir
def unlinkA (ns : Tr) (names : List Nm) : Except FRf Tr := (walkA ns names).bind fun c => match ns.lookup (lastI c) with
  | some (.file l h cs) => .ok (clearA (setA (dropOf ns (prevI c) (lastN names)) (lastI c) (.file (l - 1) h cs)) (lastI c))
  | _ => .error .isDir
def removeA (ns : Tr) (names : List Nm) : Except FRf Tr := (walkA ns names).bind fun c => match ns.lookup (lastI c) with
  | some (.dir ss) => if names = [] then .error .notAllowed else if namesIn ss ≠ [] then .error .notEmpty else .ok (dropA (dropOf ns (prevI c) (lastN names)) (lastI c))
  | _ => .error .notDir
def moveA (room : Int) (ns : Tr) (names others : List Nm) : Except FRf Tr := if names = [] then .error .notAllowed else (walkA ns names).bind fun c => (newA ns others).bind fun c2 =>
  if isDirA ns (lastI c) = true ∧ lastI c ∈ c2 then .error .inside else match ns.lookup (lastI c2) with
    | some (.dir ss) => if lastI c2 ≠ prevI c ∧ fullA ss = true then .error .tooMany else if lastI c2 ≠ prevI c ∧ growA room ns ss = true then .error .noSpace else .ok (addTo (dropOf ns (prevI c) (lastN names)) (lastI c2) (lastN others) (lastI c))
    | _ => .error .notDir
def namesA (ns : Tr) (names : List Nm) : Except FRf (List Nm) := (walkA ns names).bind fun c => match ns.lookup (lastI c) with
  | some (.dir ss) => .ok (namesIn ss)
  | _ => .error .notDir
inductive FDeed where
  | find (z : List Nat) | make (z : List Nat) | mkdir (z : List Nat) | link (z y : List Nat) | unlink (z : List Nat) | rmdir (z : List Nat) | move (z y : List Nat) | names (z : List Nat) | stat (k : Int) | free
inductive FAns where
  | non | int (i : Int) | names (l : List Nm) | told (d : Str) (l s : Int) | pair (a b : Int)
def withN {α : Type} (z : List Nat) (f : List Nm → Except FRf α) : Except FRf α := match namesL z with
  | none => .error .badName
  | some ns => f ns
def toldA : AN → FAns
  | .dir ss => .told "dir" 1 (ss.length : Nat)
  | .file l _ cs => .told "file" l (cs.length : Nat)
def semF (room : Int) (ns : Tr) : FDeed → Except FRf (Tr × FAns)
  | .find z => withN z fun n => (walkA ns n).map fun c => (ns, .int (lastI c))
  | .make z => withN z fun n => (makeA room ns n (.file 1 0 [])).map fun x => (x.1, .int x.2)
  | .mkdir z => withN z fun n => (makeA room ns n (.dir [])).map fun x => (x.1, .int x.2)
  | .link z y => withN z fun n => withN y fun o => (linkA room ns n o).map fun t => (t, .non)
  | .unlink z => withN z fun n => (unlinkA ns n).map fun t => (t, .non)
  | .rmdir z => withN z fun n => (removeA ns n).map fun t => (t, .non)
  | .move z y => withN z fun n => withN y fun o => (moveA room ns n o).map fun t => (t, .non)
  | .names z => withN z fun n => (namesA ns n).map fun l => (ns, .names l)
  | .stat k => match ns.lookup k with
    | none => .error .noNode
    | some n => .ok (ns, toldA n)
  | .free => .ok (ns, .pair (24 - (ns.length : Nat)) (freeA room ns))
def NsS (H : Hp) (ns : List (Int × NG)) : Prop := ∀ x ∈ ns, ∀ ss, x.2.n = .dir ss → SlsV H x.2.vs ss
structure Gk (g g' : PfG) (ns : Tr) : Prop where
  p : g'.p = g.p
  nd : g'.nd = g.nd
  room : g'.room = g.room
  ns : anS g'.ns = ns
/-- what a deed ends in -/
def FAn (K : PySem.W.Frag) (H : Hp) (g : PfG) (r : Except FRf (Tr × FAns)) (Q : VK) (E : XK) : Prop := match r with
  | .error e => ∀ H', Own H H' (adr (cPf K g)) (cPf K g) → E (e.cls K) none H'
  | .ok (t, .non) => ∀ H' g', Own H H' (adr (cPf K g)) (cPf K g') → NsS H' g'.ns → Gk g g' t → Q .non H'
  | .ok (t, .int i) => ∀ H' g', Own H H' (adr (cPf K g)) (cPf K g') → NsS H' g'.ns → Gk g g' t → Q (.int i) H'
  | .ok (t, .names l) => ∀ H' g' b ys, Own H H' (adr (cPf K g)) ((b, .lst (ys.map V.str)) :: cPf K g') → NsS H' g'.ns → Gk g g' t → ys.Perm (l.map S) → PyProof.Rows.sortedS ys = true → Q (.ref b) H'
  | .ok (t, .told d l s) => ∀ H' g' T, Own H H' (adr (cPf K g)) (cPf K g') → NsS H' g'.ns → Gk g g' t → H' T = some (.tup [.str d, .int l, .int s]) → Q (.ref T) H'
  | .ok (t, .pair a b) => ∀ H' g' T, Own H H' (adr (cPf K g)) (cPf K g') → NsS H' g'.ns → Gk g g' t → H' T = some (.tup [.int a, .int b]) → Q (.ref T) H'
/-- the state that a deed meets -/
def FPre (K : PySem.W.Frag) (H : Hp) (g : PfG) : Prop := Own H H (adr (cPf K g)) (cPf K g) ∧ NsV H g.ns
def sp_PlainFiles___init__ (K : PySem.W.Frag) : Sp := sp2 fun self x H Q _ => ∃ p dx, ∃ room : Int, self = .ref p ∧ x = .int room ∧ Own H H [p] [(p, .ins (He.ga K "PlainFiles") dx [])] ∧ ∀ H' g, Own H H' [p] (cPf K g) → NsS H' g.ns → g.p = p → g.room = room → anS g.ns = [(0, .dir [])] → Q .non H'
def sp_PlainFiles_find (K : PySem.W.Frag) : Sp := sp2 fun self x H Q E => ∃ g z, self = .ref g.p ∧ x = .str (S z) ∧ TxO z ∧ FPre K H g ∧ (namesL z = none → ∀ H', Own H H' (adr (cPf K g)) (cPf K g) → E (FRf.badName.cls K) none H') ∧
  (∀ ns e, namesL z = some ns → walkA (anS g.ns) ns = .error e → ∀ H', Own H H' (adr (cPf K g)) (cPf K g) → E (e.cls K) none H') ∧ (∀ ns c, namesL z = some ns → walkA (anS g.ns) ns = .ok c → ∀ H', Own H H' (adr (cPf K g)) (cPf K g) → Q (.int (lastI c)) H')
def sp_PlainFiles_names (K : PySem.W.Frag) : Sp := sp2 fun self x H Q E => ∃ g z, self = .ref g.p ∧ x = .str (S z) ∧ TxO z ∧ FPre K H g ∧ FAn K H g (semF g.room (anS g.ns) (.names z)) Q E
def sp_PlainFiles_stat (K : PySem.W.Frag) : Sp := sp2 fun self x H Q E => ∃ g k, self = .ref g.p ∧ x = .int k ∧ FPre K H g ∧ FAn K H g (semF g.room (anS g.ns) (.stat k)) Q E
def sp_PlainFiles_free (K : PySem.W.Frag) : Sp := sp1 fun self H Q E => ∃ g, self = .ref g.p ∧ FPre K H g ∧ FAn K H g (semF g.room (anS g.ns) .free) Q E
def sp_node_known (K : PySem.W.Frag) : Sp := sp2 fun x y H Q E => ∃ nd ns k, x = .ref nd ∧ y = .int k ∧ H nd = some (.dK (ndD ns)) ∧ (ns.lookup k = none → E (FRf.noNode.cls K) none H) ∧ ∀ u, ns.lookup k = some u → Q (.ref u.p) H
theorem Gk.refl {g : PfG} : Gk g g (anS g.ns) := ⟨rfl, rfl, rfl, rfl⟩
theorem NsV.sl {H : Hp} {ns : List (Int × NG)} (N : NsV H ns) : NsS H ns := N.v
theorem NsS.mono {H H' : Hp} {A : List Addr} {cs : Cells} {ns : List (Int × NG)} (N : NsS H ns) (O : Own H H' A cs) : NsS H' ns := fun x hx ss h => (N x hx ss h).mono O
/-- what is there of a node -/
theorem FPre.at {K : PySem.W.Frag} {H H' : Hp} {A : List Addr} {cs : Cells} {g : PfG} (O : Own H H' A cs) (hs : ∀ y ∈ cPf K g, y ∈ cs) {k : Int} {x : NG} (hx : g.ns.lookup k = some x) : H' x.p = some (insN K x.dx x.a x.n) ∧ H' x.a = some (.lst (x.n.val x.vs)) :=
  ⟨O.get (hs _ (.tail _ (.tail _ (cN_mem (lk_mem hx)).1))), O.get (hs _ (.tail _ (.tail _ (cN_mem (lk_mem hx)).2)))⟩
theorem sc_node_known : FnScope ["nodes", "node"] ["nodes", "node"] (defScope s_node_known) := ⟨rfl, rfl, rfl, by decide +kernel, rfl, by decide +kernel, by decide +kernel⟩
theorem ok_node_known {P : Program} {w : World} {K : PySem.W.Frag} {mg : Str → Option Value} {base : Heap} (T : Txt K mg) : Cee P w K mg base 1 (He.fAd K ("node_known", none)) ["nodes", "node"] (sp_node_known K) := by
  refine cee_of T.d_node_known sc_node_known (fun _ _ _ _ _ _ us hl => match us, hl with | [_, _], _ => rfl) (fun vs H Q E h => sp2_len h) (fun cdv A outer s H vs Q E hr h => ⟨_, (pss_cons (ps_if (pt_cmp (pc_dnotin (hu_of hr) (pv 1) (pv 0)) (by with_unfolding_all rfl)) (pss_one (ps_raise rfl (takes_of rfl rfl rfl rfl) (pmk_own PySem.F.excBase_ValueError T.x_NoNode.1 T.g_NoNode T.x_NoNode.2.1 (raises_own T.x_NoNode.2.2.1 T.x_NoNode.2.2.2) rfl))) pss_nil) (pss_one (ps_ret (pe_dget (hu_of hr) (pv 0) (pv 1) (fun _ _ => rfl))))), ?_⟩)
  obtain ⟨v0, v1, rfl, h⟩ := h
  dsimp only [cxOf, L2.start]
  obtain ⟨nd, ns, k, rfl, rfl, hd, ke, kk⟩ := h
  walk_at "s"
  rw [ndD_val, Option.isSome_map]
  cases hz : ns.lookup k with
  | none =>
    refine if_t rfl ?_
    exact ke hz
  | some u =>
    refine if_f rfl ?_
    have hvt : valV (ndD ns) (Sum.inl k) = some (.ref u.p) := by rw [ndD_val, hz]; rfl
    walk_at "s"
    exact kk u hz
theorem sc_PlainFiles_find : FnScope ["self", "path"] ["self", "path"] (defScope s_PlainFiles_find) := ⟨rfl, rfl, rfl, by decide +kernel, rfl, by decide +kernel, by decide +kernel⟩
theorem ok_PlainFiles_find {P : Program} {w : World} {K : PySem.W.Frag} {mg : Str → Option Value} {base : Heap} (T : Txt K mg) : Cee P w K mg base 3 (He.fAd K ("PlainFiles", some "find")) ["self", "path"] (sp_PlainFiles_find K) := by
  have c_walked : Cee P w K mg base 2 (He.fAd K ("walked", none)) ["nodes", "names"] (sp_walked K) := ok_walked T
  have c_names_of : Cee P w K mg base 2 (He.fAd K ("names_of", none)) ["path"] (sp_names_of K) := ok_names_of T
  refine cee_of T.d_PlainFiles_find sc_PlainFiles_find (fun _ _ _ _ _ _ us hl => match us, hl with | [_, _], _ => rfl) (fun vs H Q E h => sp2_len h) (fun cdv A outer s H vs Q E hr h => ⟨_, (pss_one (ps_ret (pe_ix ix_list (pe_f c_walked (hr.mono (by decide)) (takes_of rfl rfl rfl rfl) (by rfl) T.g_walked (pa_cons (pe_fld (pv 0) rfl) (pa_cons (pe_f c_names_of (hr.mono (by decide)) (takes_of rfl rfl rfl rfl) (by rfl) T.g_names_of (pa_cons (pv 1) pa_nil)) pa_nil))) (pe_un un_neg pe_int) (fun _ _ => rfl)))), ?_⟩)
  obtain ⟨v0, v1, rfl, h⟩ := h
  dsimp only [cxOf, L2.start]
  obtain ⟨g, z, rfl, rfl, hz, ⟨O, N⟩, k0, k1, k2⟩ := h
  have hp := O.get (a := g.p) (o := insPf K g) (.head _)
  walk_at "s"
  refine ask1 ⟨z, rfl, hz, fun hn H1 O1 => k0 hn _ (O.callN O1), fun names hn H1 b O1 => ?_⟩
  have O2 := O.callN O1
  have N2 := N.mono (H0 := H) O1
  obtain ⟨hx1, hx2⟩ := namesL_low hz hn
  walk_at "s"
  refine ask2 ⟨g.nd, b, g.ns, names, rfl, rfl, O2.nsh (fun y hy => .tail _ (.tail _ hy)) N2, SqL.of (O2.get (.head _)), by omega, fun e he H3 O3 => k1 names e hn he _ ((O2.callN O3).drop (.cons _ (.refl _))), fun c hc H3 d O3 => ?_⟩
  have O4 := O2.callN O3
  have hd := O4.get (.head _)
  have hat := at_last (walkA_ok N.ok _ _ hc).1.ne
  walk_at "s"
  exact k2 names c hn hc _ (O4.drop (.cons _ (.cons _ (.refl _))))
theorem Gk.lk {g g' : PfG} {t : Tr} (G : Gk g g' t) (k : Int) : t.lookup k = (g'.ns.lookup k).map (·.n) := by rw [← G.ns, anS_lk]
theorem sc_PlainFiles_names : FnScope ["self", "path", "here"] ["self", "path"] (defScope s_PlainFiles_names) := ⟨rfl, rfl, rfl, by decide +kernel, rfl, by decide +kernel, by decide +kernel⟩
theorem ok_PlainFiles_names {P : Program} {w : World} {K : PySem.W.Frag} {mg : Str → Option Value} {base : Heap} (T : Txt K mg) : Cee P w K mg base 4 (He.fAd K ("PlainFiles", some "names")) ["self", "path"] (sp_PlainFiles_names K) := by
  have c_PlainFiles_find : Cee P w K mg base 3 (He.fAd K ("PlainFiles", some "find")) ["self", "path"] (sp_PlainFiles_find K) := ok_PlainFiles_find T
  have c_PlainDir_is_dir : Cee P w K mg base 1 (He.fAd K ("PlainDir", some "is_dir")) ["self"] (sp_PlainDir_is_dir K) := ok_PlainDir_is_dir T
  have c_PlainFile_is_dir : Cee P w K mg base 1 (He.fAd K ("PlainFile", some "is_dir")) ["self"] (sp_PlainFile_is_dir K) := ok_PlainFile_is_dir T
  have c_PlainDir_names_in : Cee P w K mg base 1 (He.fAd K ("PlainDir", some "names_in")) ["self"] (sp_PlainDir_names_in K) := ok_PlainDir_names_in T
  refine cee_of T.d_PlainFiles_names sc_PlainFiles_names (fun _ _ _ _ _ _ us hl => match us, hl with | [_, _], _ => rfl) (fun vs H Q E h => sp2_len h) (fun cdv A outer s H vs Q E hr h => ⟨_, (pss_cons (ps_set (i := 2) sc_PlainFiles_names.nd rfl (Or.inl rfl) (pe_dget (hu_of hr) (pe_fld (pv 0) rfl) (pe_m (pv 0) T.c_PlainFiles T.m_PlainFiles_find c_PlainFiles_find (hr.mono (by decide)) (takes_of rfl rfl rfl rfl) (pa_cons (pv 1) pa_nil)) (fun _ _ => rfl))) (pss_cons (ps_if (pt_not (pt_val (PE.alt (pe_m0 (pv 2) T.c_PlainDir T.m_PlainDir_is_dir c_PlainDir_is_dir (hr.mono (by decide)) (takes_of rfl rfl rfl rfl)) (pe_m0 (pv 2) T.c_PlainFile T.m_PlainFile_is_dir c_PlainFile_is_dir (hr.mono (by decide)) (takes_of rfl rfl rfl rfl))))) (pss_one (ps_raise rfl (takes_of rfl rfl rfl rfl) (pmk_own PySem.F.excBase_ValueError T.x_NotDir.1 T.g_NotDir T.x_NotDir.2.1 (raises_own T.x_NotDir.2.2.1 T.x_NotDir.2.2.2) rfl))) pss_nil) (pss_one (ps_ret (pe_m0 (pv 2) T.c_PlainDir T.m_PlainDir_names_in c_PlainDir_names_in (hr.mono (by decide)) (takes_of rfl rfl rfl rfl)))))), ?_⟩)
  obtain ⟨v0, v1, rfl, h⟩ := h
  dsimp only [cxOf, L2.start]
  obtain ⟨g, z, rfl, rfl, hz, ⟨O, N⟩, k⟩ := h
  have hp := O.get (a := g.p) (o := insPf K g) (.head _)
  have k : FAn K H g (withN z fun n => (namesA (anS g.ns) n).map fun l => (anS g.ns, .names l)) Q E := k
  unfold withN at k
  walk_at "s"
  refine ask2 ⟨g, z, rfl, rfl, hz, ⟨O, N⟩, fun hn => ?_, fun ns e hn he => ?_, fun ns c hn hc H1 O1 => ?_⟩
  · rw [hn] at k
    exact k
  · rw [hn] at k
    have k : FAn K H g ((namesA (anS g.ns) ns).map fun l => (anS g.ns, FAns.names l)) Q E := k
    unfold namesA at k
    rw [he] at k
    exact k
  rw [hn] at k
  have k : FAn K H g ((namesA (anS g.ns) ns).map fun l => (anS g.ns, FAns.names l)) Q E := k
  unfold namesA at k
  rw [hc] at k
  have k : FAn K H g ((match (anS g.ns).lookup (lastI c) with
    | some (.dir ss) => .ok (namesIn ss)
    | _ => .error .notDir : Except FRf (List Nm)).map fun l => (anS g.ns, FAns.names l)) Q E := k
  have hch := (walkA_ok N.ok _ _ hc).1
  obtain ⟨u, hu⟩ := Option.isSome_iff_exists.mp (by have := hch.in_ _ (getLastD_mem hch.ne); rwa [anS_lk, Option.isSome_map] at this : (g.ns.lookup (lastI c)).isSome = true)
  rw [anS_lk, hu, Option.map_some] at k
  have S1 := N.sl.mono (H := H) O1
  have hd := O1.get (a := g.nd) (o := .dK (ndD g.ns)) (.tail _ (.head _))
  have hp1 := O1.get (a := g.p) (o := insPf K g) (.head _)
  have hv : valV (ndD g.ns) (Sum.inl (lastI c)) = some (.ref u.p) := by rw [ndD_val, hu]; rfl
  obtain ⟨hup, hua⟩ := FPre.at O1 (fun y hy => hy) hu
  have hus := S1 _ (lk_mem hu)
  have hok := N.ok.dir (lastI c)
  rw [anS_lk, hu, Option.map_some] at hok
  obtain ⟨up, ud, ua, uv, un⟩ := u
  cases un with
  | file l hh cs =>
    have hup : H1 up = some (.ins (He.ga K "PlainFile") ud [("contents", .ref ua), ("links", .int l), ("holds", .int hh)]) := hup
    walk_at "s"
    refine .inr ?_
    walk_at "s"
    refine ask1 ?_
    walk_at "s"
    exact k _ O1
  | dir ss =>
    have hup : H1 up = some (.ins (He.ga K "PlainDir") ud [("slots", .ref ua)]) := hup
    obtain ⟨hs40, hsok, _⟩ := hok ss rfl
    walk_at "s"
    refine .inl ?_
    walk_at "s"
    refine ask1 ?_
    walk_at "s"
    refine ask1 ⟨up, ud, ua, uv, ss, rfl, hup, hua, hus ss rfl, by omega, fun H2 b ys O2 hy1 hy2 => ?_⟩
    exact k _ g b ys (O1.callN O2) (S1.mono (H := H1) O2) .refl hy1 hy2
theorem sc_PlainFiles_stat : FnScope ["self", "node"] ["self", "node"] (defScope s_PlainFiles_stat) := ⟨rfl, rfl, rfl, by decide +kernel, rfl, by decide +kernel, by decide +kernel⟩
theorem ok_PlainFiles_stat {P : Program} {w : World} {K : PySem.W.Frag} {mg : Str → Option Value} {base : Heap} (T : Txt K mg) : Cee P w K mg base 2 (He.fAd K ("PlainFiles", some "stat")) ["self", "node"] (sp_PlainFiles_stat K) := by
  have c_node_known : Cee P w K mg base 1 (He.fAd K ("node_known", none)) ["nodes", "node"] (sp_node_known K) := ok_node_known T
  have c_PlainDir_told : Cee P w K mg base 1 (He.fAd K ("PlainDir", some "told")) ["self"] (sp_PlainDir_told K) := ok_PlainDir_told T
  have c_PlainFile_told : Cee P w K mg base 1 (He.fAd K ("PlainFile", some "told")) ["self"] (sp_PlainFile_told K) := ok_PlainFile_told T
  refine cee_of T.d_PlainFiles_stat sc_PlainFiles_stat (fun _ _ _ _ _ _ us hl => match us, hl with | [_, _], _ => rfl) (fun vs H Q E h => sp2_len h) (fun cdv A outer s H vs Q E hr h => ⟨_, (pss_one (ps_ret (PE.alt (pe_m0 (pe_f c_node_known (hr.mono (by decide)) (takes_of rfl rfl rfl rfl) (by rfl) T.g_node_known (pa_cons (pe_fld (pv 0) rfl) (pa_cons (pv 1) pa_nil))) T.c_PlainDir T.m_PlainDir_told c_PlainDir_told (hr.mono (by decide)) (takes_of rfl rfl rfl rfl)) (pe_m0 (pe_f c_node_known (hr.mono (by decide)) (takes_of rfl rfl rfl rfl) (by rfl) T.g_node_known (pa_cons (pe_fld (pv 0) rfl) (pa_cons (pv 1) pa_nil))) T.c_PlainFile T.m_PlainFile_told c_PlainFile_told (hr.mono (by decide)) (takes_of rfl rfl rfl rfl))))), ?_⟩)
  obtain ⟨v0, v1, rfl, h⟩ := h
  dsimp only [cxOf, L2.start]
  obtain ⟨g, n, rfl, rfl, ⟨O, N⟩, k⟩ := h
  have hp := O.get (a := g.p) (o := insPf K g) (.head _)
  have hd := O.get (a := g.nd) (o := .dK (ndD g.ns)) (.tail _ (.head _))
  have k : FAn K H g (match (anS g.ns).lookup n with
    | none => .error .noNode
    | some n => .ok (anS g.ns, toldA n)) Q E := k
  rw [anS_lk] at k
  cases hz : g.ns.lookup n with
  | none =>
    rw [hz] at k
    refine .inl ?_
    walk_at "s"
    exact ask2 ⟨g.nd, g.ns, n, rfl, rfl, hd, fun _ => k _ O, fun u hu => absurd (hz.symm.trans hu) nofun⟩
  | some u =>
    rw [hz] at k
    have k : FAn K H g (.ok (anS g.ns, toldA u.n)) Q E := k
    obtain ⟨hup, hua⟩ := FPre.at O (fun y hy => hy) hz
    have hus := N.v _ (lk_mem hz)
    obtain ⟨up, ud, ua, uv, un⟩ := u
    cases un with
    | dir ss =>
      have hup : H up = some (.ins (He.ga K "PlainDir") ud [("slots", .ref ua)]) := hup
      refine .inl ?_
      walk_at "s"
      refine ask2 ⟨g.nd, g.ns, n, rfl, rfl, hd, fun z => absurd (hz.symm.trans z) nofun, fun u hu => ?_⟩
      cases hz.symm.trans hu
      walk_at "s"
      refine ask1 ⟨up, ud, ua, uv, ss, rfl, hup, hua, (hus ss rfl).len, fun H1 T O1 hT => ?_⟩
      have O2 := O.callN O1
      exact k _ g T O2 (N.sl.mono (H := H) O1) .refl hT
    | file l hh cs =>
      have hup : H up = some (.ins (He.ga K "PlainFile") ud [("contents", .ref ua), ("links", .int l), ("holds", .int hh)]) := hup
      refine .inr ?_
      walk_at "s"
      refine ask2 ⟨g.nd, g.ns, n, rfl, rfl, hd, fun z => absurd (hz.symm.trans z) nofun, fun u hu => ?_⟩
      cases hz.symm.trans hu
      walk_at "s"
      refine ask1 ⟨up, ud, ua, l, hh, cs, rfl, hup, hua, fun H1 T O1 hT => ?_⟩
      have O2 := O.callN O1
      exact k _ g T O2 (N.sl.mono (H := H) O1) .refl hT
theorem sc_PlainFiles_free : FnScope ["self"] ["self"] (defScope s_PlainFiles_free) := ⟨rfl, rfl, rfl, by decide +kernel, rfl, by decide +kernel, by decide +kernel⟩
theorem ok_PlainFiles_free {P : Program} {w : World} {K : PySem.W.Frag} {mg : Str → Option Value} {base : Heap} (T : Txt K mg) : Cee P w K mg base 4 (He.fAd K ("PlainFiles", some "free")) ["self"] (sp_PlainFiles_free K) := by
  have c_blocks_free : Cee P w K mg base 3 (He.fAd K ("blocks_free", none)) ["nodes", "room"] (sp_blocks_free K) := ok_blocks_free T
  refine cee_of T.d_PlainFiles_free sc_PlainFiles_free (fun _ _ _ _ _ _ us hl => match us, hl with | [_], _ => rfl) (fun vs H Q E h => sp1_len h) (fun cdv A outer s H vs Q E hr h => ⟨_, (pss_one (ps_ret (pe_tup (pa_cons (pe_op op_sub (pe_gc (v := .int 24) rfl (gI T.g_MOST_NODES)) (pe_callB call_lenD (by rfl) T.n_len (by decide +kernel) (pa_cons (pe_fld (pv 0) rfl) pa_nil))) (pa_cons (pe_f c_blocks_free (hr.mono (by decide)) (takes_of rfl rfl rfl rfl) (by rfl) T.g_blocks_free (pa_cons (pe_fld (pv 0) rfl) (pa_cons (pe_fld (pv 0) rfl) pa_nil))) pa_nil))))), ?_⟩)
  obtain ⟨v0, rfl, h⟩ := h
  dsimp only [cxOf, L2.start]
  obtain ⟨g, rfl, ⟨O, N⟩, k⟩ := h
  have hp := O.get (a := g.p) (o := insPf K g) (.head _)
  have hd := O.get (a := g.nd) (o := .dK (ndD g.ns)) (.tail _ (.head _))
  walk_at "s"
  refine ask2 ⟨g.nd, g.ns, g.room, rfl, rfl, O.blk (s' := []) (.there .all), N, fun H1 O1 => ?_⟩
  have O2 := O.call (.there .all) O1
  have hdl : (ndD g.ns).length = g.ns.length := List.length_map ..
  walk_at "s"
  rw [hdl]
  intro T hT
  have hT1 : upd H1 T (.tup [.int (24 - (g.ns.length : Nat)), .int (freeA g.room (anS g.ns))]) T = some (.tup [.int (24 - (g.ns.length : Nat)), .int (freeA g.room (anS g.ns))]) := upd_same
  have O3 := (O2.new (o := .tup [.int (24 - (g.ns.length : Nat)), .int (freeA g.room (anS g.ns))]) hT).drop (.cons _ (.refl _))
  have k : FAn K H g (.ok (anS g.ns, .pair (24 - ((anS g.ns).length : Nat)) (freeA g.room (anS g.ns)))) Q E := k
  rw [show (anS g.ns).length = g.ns.length from List.length_map _] at k
  exact k _ g T O3 (N.sl.mono (H := H) O3) .refl hT1
theorem perm4 (a b c d : Addr × HO) : List.Perm [a, b, c, d] [d, c, a, b] := by walk_at "pm"
theorem sc_PlainFiles___init__ : FnScope ["self", "blocks"] ["self", "blocks"] (defScope s_PlainFiles___init__) := ⟨rfl, rfl, rfl, by decide +kernel, rfl, by decide +kernel, by decide +kernel⟩
theorem ok_PlainFiles___init__ {P : Program} {w : World} {K : PySem.W.Frag} {mg : Str → Option Value} {base : Heap} (T : Txt K mg) : Cee P w K mg base 3 (He.fAd K ("PlainFiles", some "__init__")) ["self", "blocks"] (sp_PlainFiles___init__ K) := by
  have c_PlainDir___init__ : Cee P w K mg base 1 (He.fAd K ("PlainDir", some "__init__")) ["self"] (sp_PlainDir___init__ K) := ok_PlainDir___init__ T
  refine cee_of T.d_PlainFiles___init__ sc_PlainFiles___init__ (fun _ _ _ _ _ _ us hl => match us, hl with | [_, _], _ => rfl) (fun vs H Q E h => sp2_len h) (fun cdv A outer s H vs Q E hr h => ⟨_, (pss_cons (ps_fld (pv 0) (pv 1) rfl) (pss_one (ps_fld (pv 0) (pe_disp (pps_cons pe_int (pe_n0 T.m_PlainDir c_PlainDir___init__ (hr.mono (by decide)) (by rfl) T.g_PlainDir) pps_nil) (by rfl) (by rfl) (fun z => by cases z) (by decide)) rfl))), ?_⟩)
  obtain ⟨v0, v1, rfl, h⟩ := h
  dsimp only [cxOf, L2.start]
  obtain ⟨p, dx, room, rfl, rfl, O, k⟩ := h
  walk_at "s"
  dsimp only [sFld, tDisp]
  have O1 := O.wr (a := p) (o' := .ins (He.ga K "PlainFiles") dx [("blocks", .int room)]) .here
  generalize hg : upd H p _ = H1
  have O1 : Own H H1 [p] [(p, .ins (He.ga K "PlainFiles") dx [("blocks", .int room)])] := by rw [← hg]; exact O1
  clear hg
  have hp1 := O1.get (.head _)
  walk_at "s"
  intro N hN
  have O2 := O1.new (o := .dK []) hN
  generalize upd H1 N _ = H2 at O2 ⊢
  dsimp only [tPairs]
  walk_at "s"
  intro x dx2 h1 h2 hne
  have O3 := O2.inst (C := He.ga K "PlainDir") h1 h2 hne
  refine ask1 ⟨x, dx2, rfl, O3.blk (s' := []) .one, fun H4 a O4 => ?_⟩
  have O5 := O3.call .one O4
  clear O1 O2 O3 O4 hp1 h1 h2 hN
  have hN5 := O5.get (a := N) (o := .dK []) (.tail _ (.tail _ (.head _)))
  have hp5 := O5.get (a := p) (.tail _ (.tail _ (.tail _ (.head _))))
  walk_at "s"
  refine ⟨(rfl : _ = List.map (fun kv : Key × V => (kV kv.1, kv.2)) [(Sum.inl 0, V.ref x)]), by show 1 ≤ 15; decide, ?_⟩
  generalize hg : upd H4 N _ = H6
  have O6 : Own H H6 [p] (cNG K ⟨x, dx2, a, [], .dir []⟩ ++ [(N, .dK [(Sum.inl 0, V.ref x)]), (p, .ins (He.ga K "PlainFiles") dx [("blocks", .int room)])]) := by rw [← hg]; exact O5.wr (.there (.there .here))
  clear hg O5 hN5 hp5
  have hp6 := O6.get (a := p) (.tail _ (.tail _ (.tail _ (.head _))))
  walk_at "s"
  have O7 := O6.wr (a := p) (o' := .ins (He.ga K "PlainFiles") dx [("blocks", .int room), ("nodes", .ref N)]) (.there (.there (.there .here)))
  refine k _ ⟨p, dx, N, room, [(0, ⟨x, dx2, a, [], .dir []⟩)]⟩ (O7.perm ?_) ?_ rfl rfl rfl
  · exact perm4 _ _ _ _
  · intro y hy ss he
    rw [List.mem_singleton.mp hy] at he ⊢
    cases he
    exact ⟨rfl, nofun⟩

/-! ## plain files: nodes come and go -/
open SX (S)
section
variable {K : PySem.W.Frag}
theorem cNs_mid (l q : List (Int × NG)) (k : Int) (x : NG) : cNs K (l ++ (k, x) :: q) = cNs K l ++ (cNG K x ++ cNs K q) := by
  unfold cNs
  rw [List.flatMap_append, List.flatMap_cons]
theorem cNs_sub {l l' : List (Int × NG)} (h : List.Sublist l l') : List.Sublist (cNs K l) (cNs K l') := by
  induction h with
  | slnil => exact .refl _
  | cons a _ ih => exact ih.trans (List.sublist_append_right _ _)
  | cons_cons a _ ih => exact List.Sublist.append (.refl _) ih
theorem ndD_set {ns : List (Int × NG)} {k : Int} {x x' : NG} (h : ns.lookup k = some x) (nd : (ns.map (·.1)).Nodup) (hp : x'.p = x.p) : ndD (setA ns k x') = ndD ns := by
  obtain ⟨l, q, rfl, _⟩ := lk_split h
  rw [setA_mid nd]
  unfold ndD
  rw [List.map_append, List.map_append, List.map_cons, List.map_cons, hp]
theorem cTr_set {nd : Addr} {ns : List (Int × NG)} {k : Int} {x x' : NG} (h : ns.lookup k = some x) (hn : (ns.map (·.1)).Nodup) (hp : x'.p = x.p) : Sub (cTr K nd ns) (cNG K x) (cNG K x') (cTr K nd (setA ns k x')) := by
  unfold cTr
  rw [ndD_set h hn hp]
  obtain ⟨l, q, rfl, _⟩ := lk_split h
  rw [setA_mid hn, cNs_mid, cNs_mid]
  exact .there (.app (.appl .all))
theorem cPf_set {g : PfG} {k : Int} {x x' : NG} (h : g.ns.lookup k = some x) (hn : (g.ns.map (·.1)).Nodup) (hp : x'.p = x.p) : Sub (cPf K g) (cNG K x) (cNG K x') (cPf K { g with ns := setA g.ns k x' }) := .there (cTr_set h hn hp)
theorem anS_set (ns : List (Int × NG)) (k : Int) (x : NG) : anS (setA ns k x) = setA (anS ns) k x.n := by
  unfold anS setA
  rw [List.map_map, List.map_map]
  refine List.map_congr_left fun y _ => ?_
  show ((if y.1 = k then (y.1, x) else y).1, (if y.1 = k then (y.1, x) else y).2.n) = if y.1 = k then (y.1, x.n) else (y.1, y.2.n)
  split <;> rfl
theorem anS_drop (ns : List (Int × NG)) (k : Int) : anS (dropA ns k) = dropA (anS ns) k := (dropA_map (fun x : NG => x.n) ns k).symm
theorem anS_keys (ns : List (Int × NG)) : (anS ns).map (·.1) = ns.map (·.1) := by
  rw [List.map_map]; rfl
theorem AOk.nd' {ns : List (Int × NG)} (A : AOk (anS ns)) : (ns.map (·.1)).Nodup := by rw [← anS_keys]; exact A.nd
theorem NsS.set {H : Hp} {ns : List (Int × NG)} (N : NsS H ns) {k : Int} {x : NG} (h : ∀ ss, x.n = .dir ss → SlsV H x.vs ss) : NsS H (setA ns k x) := by
  intro y hy ss e
  obtain ⟨z, hz, rfl⟩ := List.mem_map.mp hy
  split at e
  · rename_i h1
    rw [if_pos h1]
    exact h ss e
  · rename_i h1
    rw [if_neg h1]
    exact N z hz ss e
theorem NsS.drop {H : Hp} {ns : List (Int × NG)} (N : NsS H ns) (k : Int) : NsS H (dropA ns k) := fun y hy ss e => N y (List.mem_filter.mp hy).1 ss e
theorem NsS.app {H : Hp} {ns : List (Int × NG)} (N : NsS H ns) {k : Int} {x : NG} (h : ∀ ss, x.n = .dir ss → SlsV H x.vs ss) : NsS H (ns ++ [(k, x)]) := by
  intro y hy ss e
  rcases List.mem_append.mp hy with hy | hy
  · exact N y hy ss e
  · rw [List.mem_singleton.mp hy] at e ⊢
    exact h ss e
end
/-- the numbers below i that are free -/
def freesA (ns : Tr) (i : Nat) : List Int := ((List.range i).filter fun (k : Nat) => (ns.lookup (k : Int)).isNone).map fun (k : Nat) => (k : Int)
theorem freesA_len (ns : Tr) (i : Nat) : (freesA ns i).length ≤ i := by
  unfold freesA
  rw [List.length_map]
  exact Nat.le_trans (List.length_filter_le _ _) (Nat.le_of_eq List.length_range)
theorem freesA_succ (ns : Tr) (i : Nat) : freesA ns (i + 1) = freesA ns i ++ if (ns.lookup (i : Int)).isNone = true then [(i : Int)] else [] := by
  unfold freesA
  rw [List.range_succ, List.filter_append, List.map_append]
  congr 1
  cases h : (ns.lookup (i : Int)).isNone <;> simp [List.filter_cons, h]
theorem namesL_all {z : List Nat} {ns : List (List Nat)} (h : namesL z = some ns) : ∀ n ∈ ns, nameB n = true := by
  unfold namesL at h
  split at h
  · cases h; exact nofun
  · split at h
    · cases h
    · split at h
      · rename_i hall
        cases h
        exact List.all_eq_true.mp hall
      · cases h
theorem nameB_ok {n : List Nat} (h : nameB n = true) : n.length ≤ 6 ∧ ∀ c ∈ n, c < 256 := by
  unfold nameB at h
  rw [Bool.and_eq_true, Bool.and_eq_true] at h
  refine ⟨of_decide_eq_true h.2.1, fun c hc => ?_⟩
  have h1 := List.all_eq_true.mp h.2.2 c hc
  have h2 : c ∈ smallL := by simpa using h1
  have : ∀ c ∈ smallL, c < 256 := by decide
  exact this c h2
theorem names_ok {z : List Nat} {ns : List (List Nat)} (h : namesL z = some ns) (n : List Nat) (hn : n ∈ ns) : n.length ≤ 6 ∧ ∀ c ∈ n, c < 256 := nameB_ok (namesL_all h n hn)
theorem lastN_mem {ns : List Nm} (h : ns ≠ []) : lastN ns ∈ ns := by
  unfold lastN
  rw [List.getLastD_eq_getLast?, List.getLast?_eq_some_getLast h]
  exact List.getLast_mem h
theorem frees_min {ns : Tr} {m : Int} (h : m ∈ freesA ns 24) (h2 : ∀ y, y ∈ freesA ns 24 → m ≤ y) : m = freeN ns ∧ ns.lookup m = none ∧ 0 ≤ m ∧ m < 24 := by
  unfold freesA at h h2
  obtain ⟨k, hk, rfl⟩ := List.mem_map.mp h
  obtain ⟨hk1, hk2⟩ := List.mem_filter.mp hk
  have hk24 := List.mem_range.mp hk1
  refine ⟨?_, Option.isNone_iff_eq_none.mp hk2, by omega, by omega⟩
  unfold freeN
  rw [← List.head?_filter]
  have hs : ((List.range 24).filter fun (k : Nat) => (ns.lookup (k : Int)).isNone).Pairwise (· < ·) := List.pairwise_lt_range.filter _
  cases hl : (List.range 24).filter fun (k : Nat) => (ns.lookup (k : Int)).isNone with
  | nil => rw [hl] at hk; cases hk
  | cons a r =>
    rw [hl] at hk hs h2
    have h3 := h2 (a : Int) (List.mem_map.mpr ⟨a, .head _, rfl⟩)
    show (k : Int) = (a : Nat)
    rcases List.mem_cons.mp hk with e | e
    · rw [e]
    · have := List.rel_of_pairwise_cons hs e
      omega
theorem nodup_sub {α : Type} [DecidableEq α] : ∀ {l m : List α}, l.Nodup → (∀ x ∈ l, x ∈ m) → l.length ≤ m.length
  | [], _, _, _ => Nat.zero_le _
  | a :: q, m, nd, hm => by
    obtain ⟨n1, n2⟩ := List.nodup_cons.mp nd
    have h1 := nodup_sub (m := m.erase a) n2 fun o ho => (List.mem_erase_of_ne (fun z => n1 (by rw [← z]; exact ho))).mpr (hm o (.tail _ ho))
    have h2 := hm a (.head _)
    rw [List.length_erase_of_mem h2] at h1
    have h3 := List.length_pos_of_mem h2
    rw [List.length_cons]
    omega
theorem freesA_pos {ns : Tr} (A : AOk ns) (h : ns.length ≠ 24) : 0 < (freesA ns 24).length := by
  refine Nat.pos_of_ne_zero fun z => ?_
  unfold freesA at z
  rw [List.length_map] at z
  have z := List.filter_eq_nil_iff.mp (List.length_eq_zero_iff.mp z)
  have h1 : ((List.range 24).map fun (k : Nat) => (k : Int)).length ≤ (ns.map (·.1)).length := nodup_sub (by decide) fun x hx => by
    obtain ⟨k, hk, rfl⟩ := List.mem_map.mp hx
    have := z k hk
    refine lk_some.mp ?_
    cases hl : ns.lookup (k : Int) with
    | none => rw [hl] at this; exact absurd rfl this
    | some _ => rfl
  rw [List.length_map, List.length_map, List.length_range] at h1
  have := A.len
  omega
theorem at_lastN {names : List Nm} (h : names ≠ []) : atI (SV names) (-1) = some (.str (S (lastN names))) := by
  have hlen : (SV names).length = names.length := List.length_map ..
  have hl0 : 0 < names.length := List.length_pos_iff.mpr h
  unfold atI ixN
  rw [if_neg (by decide), if_pos (by rw [hlen]; omega)]
  show (SV names)[(-1 + (((SV names).length : Nat) : Int)).toNat]? = _
  rw [hlen, show (-1 + ((names.length : Nat) : Int)).toNat = names.length - 1 by omega, List.getElem?_map]
  unfold lastN
  rw [List.getLastD_eq_getLast?, List.getLast?_eq_getElem?]
  rw [List.getElem?_eq_getElem (by omega)]
  rfl
theorem withN_map {α β : Type} (z : List Nat) (f : List Nm → Except FRf α) (h : α → β) : (withN z fun n => (f n).map h) = (withN z f).map h := by
  unfold withN
  split <;> rfl
def sp_clear_lost (K : PySem.W.Frag) : Sp := sp2 fun x y H Q _ => ∃ g k u l h, ∃ cs : List Int, x = .ref g.p ∧ y = .int k ∧ Own H H (adr (cPf K g)) (cPf K g) ∧ (g.ns.map (·.1)).Nodup ∧ g.ns.lookup k = some u ∧ u.n = .file l h cs ∧
  ∀ H' g', Own H H' (adr (cPf K g)) (cPf K g') → Gk g g' (clearA (anS g.ns) k) → (NsS H g.ns → NsS H' g'.ns) → Q .non H'
def sp_new_node (K : PySem.W.Frag) : Sp := sp3 fun x y w H Q E => ∃ g z, ∃ v : NG, x = .ref g.p ∧ y = .str (S z) ∧ w = .ref v.p ∧ TxO z ∧ Own H H (adr (cNG K v ++ cPf K g)) (cNG K v ++ cPf K g) ∧ NsV H g.ns ∧ (∀ ss, v.n = .dir ss → SlsV H v.vs ss) ∧
  (∀ e, withN z (fun n => makeA g.room (anS g.ns) n v.n) = .error e → ∀ H', Own H H' (adr (cNG K v ++ cPf K g)) (cPf K g) → E (e.cls K) none H') ∧
  (∀ t k, withN z (fun n => makeA g.room (anS g.ns) n v.n) = .ok (t, k) → ∀ H' g', Own H H' (adr (cNG K v ++ cPf K g)) (cPf K g') → NsS H' g'.ns → Gk g g' t → Q (.int k) H')
def sp_PlainFiles_make (K : PySem.W.Frag) : Sp := sp2 fun self x H Q E => ∃ g z, self = .ref g.p ∧ x = .str (S z) ∧ TxO z ∧ FPre K H g ∧ FAn K H g (semF g.room (anS g.ns) (.make z)) Q E
def sp_PlainFiles_make_dir (K : PySem.W.Frag) : Sp := sp2 fun self x H Q E => ∃ g z, self = .ref g.p ∧ x = .str (S z) ∧ TxO z ∧ FPre K H g ∧ FAn K H g (semF g.room (anS g.ns) (.mkdir z)) Q E
theorem Own_add {K : PySem.W.Frag} {g : PfG} {m : Int} {v : NG} (b : Addr × HO) : List.Perm (b :: (cNG K v ++ ((g.p, insPf K g) :: (g.nd, .dK (ndD (g.ns ++ [(m, v)]))) :: cNs K g.ns))) (b :: cPf K { g with ns := g.ns ++ [(m, v)] }) := by
  refine .cons _ ?_
  unfold cPf cTr cNs
  dsimp only
  rw [List.flatMap_append, show [(m, v)].flatMap (fun x => cNG K x.2) = cNG K v by simp]
  exact List.perm_append_comm
theorem sc_clear_lost : FnScope ["files", "node"] ["files", "node"] (defScope s_clear_lost) := ⟨rfl, rfl, rfl, by decide +kernel, rfl, by decide +kernel, by decide +kernel⟩
theorem ok_clear_lost {P : Program} {w : World} {K : PySem.W.Frag} {mg : Str → Option Value} {base : Heap} (T : Txt K mg) : Cee P w K mg base 1 (He.fAd K ("clear_lost", none)) ["files", "node"] (sp_clear_lost K) := by
  refine cee_of T.d_clear_lost sc_clear_lost (fun _ _ _ _ _ _ us hl => match us, hl with | [_, _], _ => rfl) (fun vs H Q E h => sp2_len h) (fun cdv A outer s H vs Q E hr h => ⟨_, (pss_one (ps_if (PW.pt (pw_and (pt_cmpR op_eq (pe_fld (pe_dget (hu_of hr) (pe_fld (pv 0) rfl) (pv 1) (fun _ _ => rfl)) rfl) pe_int (nomark _)) (pw_and1 (pt_cmpR op_eq (pe_fld (pe_dget (hu_of hr) (pe_fld (pv 0) rfl) (pv 1) (fun _ _ => rfl)) rfl) pe_int (nomark _))))) (pss_one (ps_expr (pe_dpop1 (pe_fld (pv 0) rfl) (pv 1) ⟨rfl, rfl, rfl, rfl⟩))) pss_nil)), ?_⟩)
  obtain ⟨v0, v1, rfl, h⟩ := h
  dsimp only [cxOf, L2.start]
  obtain ⟨g, k, u, l, h, cs, rfl, rfl, O, nd, hu, hun, kk⟩ := h
  have hp := O.get (a := g.p) (o := insPf K g) (.head _)
  have hd := O.get (a := g.nd) (o := .dK (ndD g.ns)) (.tail _ (.head _))
  have hv : valV (ndD g.ns) (Sum.inl k) = some (.ref u.p) := by rw [ndD_val, hu]; rfl
  have hup := (FPre.at O (fun y hy => hy) hu).1
  rw [hun] at hup
  have hup : H u.p = some (.ins (He.ga K "PlainFile") u.dx [("contents", .ref u.a), ("links", .int l), ("holds", .int h)]) := hup
  have hcl : clearA (anS g.ns) k = if l = 0 ∧ h = 0 then dropA (anS g.ns) k else anS g.ns := by
    unfold clearA
    rw [anS_lk, hu, Option.map_some, hun]
  walk_at "s"
  refine if_ii (fun h1 => ?_) (fun h1 => ?_)
  · walk_at "s"
    refine if_ii (fun h2 => ?_) (fun h2 => ?_)
    · rw [if_pos ⟨h1, h2⟩] at hcl
      walk_at "s"
      rw [show dropK (ndD g.ns) (Sum.inl k) = ndD (dropA g.ns k) from dropA_val (fun x : NG => V.ref x.p) g.ns k]
      have O1 := O.wr (a := g.nd) (o' := .dK (ndD (dropA g.ns k))) (.there .here)
      refine kk _ { g with ns := dropA g.ns k } (O1.drop (.cons₂ _ (.cons₂ _ (cNs_sub List.filter_sublist)))) ⟨rfl, rfl, rfl, by rw [hcl]; exact anS_drop _ _⟩ fun S => (S.mono (H := H) O1).drop k
    · rw [if_neg (fun z => h2 z.2)] at hcl
      exact kk _ g O (by rw [hcl]; exact .refl) id
  · rw [if_neg (fun z => h1 z.1)] at hcl
    exact kk _ g O (by rw [hcl]; exact .refl) id
theorem sc_new_node : FnScope ["files", "path", "here", "names", "parent", "number", "node"] ["files", "path", "here"] (defScope s_new_node) := ⟨rfl, rfl, rfl, by decide +kernel, rfl, by decide +kernel, by decide +kernel⟩
theorem ok_new_node {P : Program} {w : World} {K : PySem.W.Frag} {mg : Str → Option Value} {base : Heap} (T : Txt K mg) : Cee P w K mg base 5 (He.fAd K ("new_node", none)) ["files", "path", "here"] (sp_new_node K) := by
  have c_names_of : Cee P w K mg base 2 (He.fAd K ("names_of", none)) ["path"] (sp_names_of K) := ok_names_of T
  have c_walked_to_new : Cee P w K mg base 3 (He.fAd K ("walked_to_new", none)) ["nodes", "names"] (sp_walked_to_new K) := ok_walked_to_new T
  have c_look_slot : Cee P w K mg base 1 (He.fAd K ("look_slot", none)) ["parent"] (sp_look_slot K) := ok_look_slot T
  have c_look_growth : Cee P w K mg base 4 (He.fAd K ("look_growth", none)) ["nodes", "room", "parent"] (sp_look_growth K) := ok_look_growth T
  have c_PlainDir_add_name : Cee P w K mg base 1 (He.fAd K ("PlainDir", some "add_name")) ["self", "name", "node"] (sp_PlainDir_add_name K) := ok_PlainDir_add_name T
  refine cee_of T.d_new_node sc_new_node (fun _ _ _ _ _ _ us hl => match us, hl with | [_, _, _], _ => rfl) (fun vs H Q E h => sp3_len h) (fun cdv A outer s H vs Q E hr h => ⟨_, (pss_cons (ps_set (i := 3) sc_new_node.nd rfl (Or.inl rfl) (pe_f c_names_of (hr.mono (by decide)) (takes_of rfl rfl rfl rfl) (by rfl) T.g_names_of (pa_cons (pv 1) pa_nil))) (pss_cons (ps_set (i := 4) sc_new_node.nd rfl (Or.inl rfl) (pe_dget (hu_of hr) (pe_fld (pv 0) rfl) (pe_ix ix_list (pe_f c_walked_to_new (hr.mono (by decide)) (takes_of rfl rfl rfl rfl) (by rfl) T.g_walked_to_new (pa_cons (pe_fld (pv 0) rfl) (pa_cons (pv 3) pa_nil))) (pe_un un_neg pe_int) (fun _ _ => rfl)) (fun _ _ => rfl))) (pss_cons (ps_expr (pe_f c_look_slot (hr.mono (by decide)) (takes_of rfl rfl rfl rfl) (by rfl) T.g_look_slot (pa_cons (pv 4) pa_nil))) (pss_cons (ps_if (pt_cmpR op_eq (pe_callB call_lenD (by rfl) T.n_len (by decide +kernel) (pa_cons (pe_fld (pv 0) rfl) pa_nil)) (pe_gc (v := .int 24) rfl (gI T.g_MOST_NODES)) (nomark _)) (pss_one (ps_raise rfl (takes_of rfl rfl rfl rfl) (pmk_own PySem.F.excBase_ValueError T.x_NoNode.1 T.g_NoNode T.x_NoNode.2.1 (raises_own T.x_NoNode.2.2.1 T.x_NoNode.2.2.2) rfl))) pss_nil) (pss_cons (ps_expr (pe_f c_look_growth (hr.mono (by decide)) (takes_of rfl rfl rfl rfl) (by rfl) T.g_look_growth (pa_cons (pe_fld (pv 0) rfl) (pa_cons (pe_fld (pv 0) rfl) (pa_cons (pv 4) pa_nil))))) (pss_cons (ps_set (i := 5) sc_new_node.nd rfl (Or.inl rfl) (pe_callB (cr_min rfl) (by rfl) T.n_min (by decide +kernel) (pa_cons (pe_lc (own := [("node", 6)]) (by rfl) sc_new_node.nd (PI.box (pi_range1 (by rfl) T.n_range (pa_cons (pe_gc (v := .int 24) rfl (gI T.g_MOST_NODES)) pa_nil))) (blkOk_by (own := [("node", 6)]) (N := ["files", "path", "here", "names", "parent", "number", "node"]) (sc := defScope s_new_node) (by decide +kernel)) (fun _ _ _ _ _ => (pg_name (i := 6) sc_new_node.nd rfl (Or.inl rfl))) (fun _ _ _ _ _ => (pts_one (pt_cmp (pc_dnotin (hu_of hr) (pv 6) (show PE _ _ (tFld K _ _) from pe_fld (pv 0) rfl)) (by with_unfolding_all rfl)))) (fun _ _ _ _ _ => (pv 6))) pa_nil))) (pss_cons (ps_dput (hu_of hr) (pe_fld (pv 0) rfl) (pv 5) (pv 2) rfl) (pss_cons (ps_expr (pe_m (pv 4) T.c_PlainDir T.m_PlainDir_add_name c_PlainDir_add_name (hr.mono (by decide)) (takes_of rfl rfl rfl rfl) (pa_cons (pe_ix ix_list (pv 3) (pe_un un_neg pe_int) (fun _ _ => rfl)) (pa_cons (pv 5) pa_nil)))) (pss_one (ps_ret (pv 5))))))))))), ?_⟩)
  obtain ⟨v0, v1, v2, rfl, h⟩ := h
  dsimp only [cxOf, L2.start]
  obtain ⟨g, z, v, rfl, rfl, rfl, hz, O, N, hvs, ke, k⟩ := h
  have hp := O.get (a := g.p) (o := insPf K g) (.tail _ (.tail _ (.head _)))
  unfold withN at ke k
  walk_at "s"
  refine ask1 ⟨z, rfl, hz, fun hn H1 O1 => ?_, fun names hn H1 b O1 => ?_⟩
  · rw [hn] at ke
    exact ke _ rfl _ ((O.callN O1).drop (List.sublist_append_right _ _))
  rw [hn] at ke k
  have O2 := O.callN O1
  have N2 := N.mono (H0 := H) O1
  obtain ⟨hx1, hx2⟩ := namesL_low hz hn
  walk_at "s"
  refine ask2 ⟨g.nd, b, g.ns, names, rfl, rfl, O2.nsh (fun y hy => .tail _ (.tail _ (.tail _ (.tail _ hy)))) N2, O2.get (.head _), by omega, hx1, fun e he H3 O3 => ?_, fun c hc H3 d O3 => ?_⟩
  · exact ke e (by show makeA _ _ _ _ = _; unfold makeA; rw [he]; rfl) _ ((O2.callN O3).drop (.cons _ (.cons _ (.cons _ (.refl _)))))
  obtain ⟨hne, hwk, hch, hcl, ss, hls, hno⟩ := newA_ok N.ok hc
  have O4 := O2.callN O3
  have N4 := N2.mono (H0 := H) O3
  have hd := O4.get (.head _)
  have hat := at_last hch.ne
  obtain ⟨u, hu, hun⟩ : ∃ u, g.ns.lookup (lastI c) = some u ∧ u.n = .dir ss := by
    rw [anS_lk] at hls
    exact Option.map_eq_some_iff.mp hls
  have hmk : makeA g.room (anS g.ns) names v.n = if fullA ss = true then .error .tooMany else if (anS g.ns).length = 24 then .error .noNode else if growA g.room (anS g.ns) ss = true then .error .noSpace else .ok (addTo (anS g.ns ++ [(freeN (anS g.ns), v.n)]) (lastI c) (lastN names) (freeN (anS g.ns)), freeN (anS g.ns)) := by
    unfold makeA
    rw [hc]
    show (match (anS g.ns).lookup (lastI c) with
      | some (.dir ss) => _
      | _ => _ : Except FRf (Tr × Int)) = _
    rw [hls]
  have O4 := O4.drop (cs' := (b, .lst (SV names)) :: (cNG K v ++ cPf K g)) (.cons _ (.refl _))
  have hp4 := O4.get (a := g.p) (o := insPf K g) (.tail _ (.tail _ (.tail _ (.head _))))
  have hd4 := O4.get (a := g.nd) (o := .dK (ndD g.ns)) (.tail _ (.tail _ (.tail _ (.tail _ (.head _)))))
  have hv : valV (ndD g.ns) (Sum.inl (lastI c)) = some (.ref u.p) := by rw [ndD_val, hu]; rfl
  obtain ⟨hup, hua⟩ := FPre.at O4 (fun y hy => .tail _ (.tail _ (.tail _ hy))) hu
  have hus := N4.v _ (lk_mem hu)
  have hok := N.ok.dir (lastI c) ss hls
  clear O O1 O2 O3 N2
  obtain ⟨up, ud, ua, uv, un⟩ := u
  have hun : un = .dir ss := hun
  subst hun
  have hgl : (ndD g.ns).length = g.ns.length := List.length_map ..
  have hal : (anS g.ns).length = g.ns.length := List.length_map ..
  rw [hal] at hmk
  have BO := Box.mk O4
  walk_at "clo"
  walk_at "s"
  refine ask1 ⟨up, ud, ua, uv, ss, rfl, hup, hua, hus ss rfl, hok.2.1, fun hf => ?_, fun hf => ?_⟩
  · rw [if_pos hf] at hmk
    exact ke _ hmk _ (BO.out.drop (.cons _ (.cons _ (.cons _ (.refl _)))))
  rw [if_neg (by rw [hf]; simp)] at hmk
  walk_at "s"
  refine if_ii (fun h1 => ?_) (fun h1 => ?_)
  · rw [if_pos (by omega)] at hmk
    exact ke _ hmk _ (BO.out.drop (.cons _ (.cons _ (.cons _ (.refl _)))))
  rw [if_neg (by omega)] at hmk
  walk_at "s"
  refine ask3 ⟨g.nd, g.ns, lastI c, _, g.room, ss, rfl, rfl, rfl, BO.out.blk (s' := []) (.there (.there (.there (.there .all)))), N4, lk_mem hu, rfl, fun hg H4 O5 => ?_, fun hg H4 O5 => ?_⟩
  · rw [if_pos hg] at hmk
    exact ke _ hmk _ ((BO.out.call (.there (.there (.there (.there .all)))) O5).drop (.cons _ (.cons _ (.cons _ (.refl _)))))
  rw [if_neg (by rw [hg]; simp)] at hmk
  have O6 := BO.out.call (.there (.there (.there (.there .all)))) O5
  have N6 := N4.mono (H0 := H) O5
  clear hp4 hd4 hup hua hd BO O5 N4 hp
  have hp4 := O6.get (a := g.p) (o := insPf K g) (.tail _ (.tail _ (.tail _ (.head _))))
  have hd4 := O6.get (a := g.nd) (o := .dK (ndD g.ns)) (.tail _ (.tail _ (.tail _ (.tail _ (.head _)))))
  have BO := Box.mk O6
  walk_at "clo"
  walk_at "s"
  refine lcR (lo := 0) (n := 24) (fun D i H' => Own H H' (adr (cNG K v ++ cPf K g)) ((D, .lst ((freesA (anS g.ns) i).map V.int)) :: (b, .lst (SV names)) :: (cNG K v ++ cPf K g)) ∧ NsV H' g.ns) ?_ ?_ ?_
  · intro D hD
    exact ⟨BO.out.new hD, N6.mono (H0 := H) (BO.out.self.new hD)⟩
  · rintro D i H' hi ⟨O7, N7⟩
    have hp7 := O7.get (a := g.p) (o := insPf K g) (.tail _ (.tail _ (.tail _ (.tail _ (.head _)))))
    have hd7 := O7.get (a := g.nd) (o := .dK (ndD g.ns)) (.tail _ (.tail _ (.tail _ (.tail _ (.tail _ (.head _))))))
    have hD7 := O7.get (.head _)
    have hfl := freesA_len (anS g.ns) i
    have hfs := freesA_succ (anS g.ns) i
    have BO := Box.mk O7
    walk_at "clo"
    walk_at "s"
    rw [Int.zero_add, ndD_val, Option.isSome_map]
    rw [anS_lk, Option.isNone_map] at hfs
    cases hlk : g.ns.lookup (i : Int) with
    | some y =>
      rw [hlk, if_neg (by simp), List.append_nil] at hfs
      rw [hfs]
      exact ⟨BO.out, N7⟩
    | none =>
      rw [hlk] at hfs
      have hfs : freesA (anS g.ns) (i + 1) = freesA (anS g.ns) i ++ [(i : Int)] := hfs.trans (congrArg _ (if_pos rfl))
      rw [hfs, List.map_append]
      refine if_t rfl ?_
      walk_at "s"
      exact ⟨⟨BO.out.wr .here, N7.mono (H0 := H) (BO.out.self.wr (a := D) (o' := .lst ((freesA (anS g.ns) i).map V.int ++ [V.int (i : Int)])) .here)⟩⟩
  · rintro D H' ⟨O7, N7⟩
    have hD7 := O7.get (.head _)
    have BO := Box.mk O7
    walk_at "clo"
    walk_at "s"
    refine ⟨freesA_pos N.ok (by rw [hal]; omega), fun m hm1 hm2 => ?_⟩
    obtain ⟨hmf, hmn, hm0, hm24⟩ := frees_min hm1 hm2
    rw [← hmf] at hmk
    rw [anS_lk] at hmn
    have hmn : g.ns.lookup m = none := Option.map_eq_none_iff.mp hmn
    have O8 := BO.out.drop (cs' := (b, .lst (SV names)) :: (cNG K v ++ cPf K g)) (.cons _ (.refl _))
    have hp8 := O8.get (a := g.p) (o := insPf K g) (.tail _ (.tail _ (.tail _ (.head _))))
    have hd8 := O8.get (a := g.nd) (o := .dK (ndD g.ns)) (.tail _ (.tail _ (.tail _ (.tail _ (.head _)))))
    have hlen := N.ok.len
    rw [hal] at hlen
    have hput : putK (ndD g.ns) (Sum.inl m) (.ref v.p) = ndD (g.ns ++ [(m, v)]) := by
      rw [putK_new fun z => by
        obtain ⟨y, hy, e⟩ := List.mem_map.mp z
        obtain ⟨y2, hy2, rfl⟩ := List.mem_map.mp hy
        have := lk_some.mpr (List.mem_map.mpr ⟨y2, hy2, Sum.inl.inj e⟩)
        rw [hmn] at this
        cases this]
      unfold ndD
      rw [List.map_append]
      rfl
    have BO := Box.mk O8
    clear O8
    have hatn := at_lastN hne
    walk_at "s"
    rw [hput]
    have O9 := BO.out.wr (a := g.nd) (o' := .dK (ndD (g.ns ++ [(m, v)]))) (.there (.there (.there (.there .here))))
    have N9 := N7.mono (H0 := H) (BO.out.self.wr (a := g.nd) (o' := .dK (ndD (g.ns ++ [(m, v)]))) (.there (.there (.there (.there .here)))))
    generalize upd H' g.nd _ = H9 at O9 N9 ⊢
    have O9 := O9.perm (Own_add (K := K) (g := g) (m := m) (v := v) (b, .lst (SV names)))
    have hu2 : (g.ns ++ [(m, v)]).lookup (lastI c) = some ⟨up, ud, ua, uv, .dir ss⟩ := by rw [lk_app, hu]; rfl
    have hn2 : ((g.ns ++ [(m, v)]).map (·.1)).Nodup := by
      rw [List.map_append]
      refine List.nodup_append.mpr ⟨N.ok.nd', by simp, fun x hx y hy e => ?_⟩
      rw [List.mem_singleton.mp hy] at e
      have := lk_some.mpr (e ▸ hx)
      rw [hmn] at this
      cases this
    have hb9 : SqL K H9 b (SV names) := SqL.of (O9.get (.head _))
    have hup : H9 up = some (.ins (He.ga K "PlainDir") ud [("slots", .ref ua)]) := (FPre.at O9 (g := { g with ns := g.ns ++ [(m, v)] }) (fun y hy => .tail _ hy) hu2).1
    have hus9 := N9.v _ (lk_mem hu) ss rfl
    have hsb := cPf_set (K := K) (g := { g with ns := g.ns ++ [(m, v)] }) (x' := ⟨up, ud, ua, uv, .dir ss⟩) hu2 hn2 rfl
    have hvs9 : ∀ ss', v.n = .dir ss' → SlsV H9 v.vs ss' := fun ss' e => (hvs ss' e).mono O9
    have hlow : SlOk (some (lastN names, m)) := fun q hq => by cases hq; exact names_ok hn _ (lastN_mem hne)
    have BO9 := Box.mk O9
    clear O9
    walk_at "s"
    refine ask3 ⟨up, ud, ua, uv, lastN names, m, ss, rfl, rfl, rfl, BO9.out.blk (s' := cNG K ⟨up, ud, ua, uv, .dir ss⟩) (.there hsb), hus9, hok.2.1, hlow, by omega, fun H10 vs' O10 S10 => ?_⟩
    have hsb2 := cPf_set (K := K) (g := { g with ns := g.ns ++ [(m, v)] }) (x' := ⟨up, ud, ua, vs', .dir (addA ss (lastN names) m)⟩) hu2 hn2 rfl
    have O11 := BO9.out.call (.there hsb2) O10
    walk_at "s"
    refine k _ m hmk _ _ (O11.drop (.cons _ (.refl _))) ?_ ⟨rfl, rfl, rfl, ?_⟩
    · exact ((N9.sl.app (k := m) hvs9).mono (H := H9) O10).set fun ss' e => by cases e; exact S10
    · rw [anS_set]
      unfold addTo
      rw [lk_app, hls]
      show setA (anS (g.ns ++ [(m, v)])) _ _ = setA (anS g.ns ++ [(m, v.n)]) _ _
      unfold anS
      rw [List.map_append]
      rfl
theorem sc_PlainFiles_make : FnScope ["self", "path"] ["self", "path"] (defScope s_PlainFiles_make) := ⟨rfl, rfl, rfl, by decide +kernel, rfl, by decide +kernel, by decide +kernel⟩
theorem ok_PlainFiles_make {P : Program} {w : World} {K : PySem.W.Frag} {mg : Str → Option Value} {base : Heap} (T : Txt K mg) : Cee P w K mg base 6 (He.fAd K ("PlainFiles", some "make")) ["self", "path"] (sp_PlainFiles_make K) := by
  have c_new_node : Cee P w K mg base 5 (He.fAd K ("new_node", none)) ["files", "path", "here"] (sp_new_node K) := ok_new_node T
  have c_PlainFile___init__ : Cee P w K mg base 1 (He.fAd K ("PlainFile", some "__init__")) ["self"] (sp_PlainFile___init__ K) := ok_PlainFile___init__ T
  refine cee_of T.d_PlainFiles_make sc_PlainFiles_make (fun _ _ _ _ _ _ us hl => match us, hl with | [_, _], _ => rfl) (fun vs H Q E h => sp2_len h) (fun cdv A outer s H vs Q E hr h => ⟨_, (pss_one (ps_ret (pe_f c_new_node (hr.mono (by decide)) (takes_of rfl rfl rfl rfl) (by rfl) T.g_new_node (pa_cons (pv 0) (pa_cons (pv 1) (pa_cons (pe_n0 T.m_PlainFile c_PlainFile___init__ (hr.mono (by decide)) (by rfl) T.g_PlainFile) pa_nil)))))), ?_⟩)
  obtain ⟨v0, v1, rfl, h⟩ := h
  dsimp only [cxOf, L2.start]
  obtain ⟨g, z, rfl, rfl, hz, ⟨O, N⟩, k⟩ := h
  have k : FAn K H g (withN z fun n => (makeA g.room (anS g.ns) n (.file 1 0 [])).map fun x => (x.1, .int x.2)) Q E := k
  walk_at "s"
  intro x dx h1 h2 hne
  have O1 := O.inst (C := He.ga K "PlainFile") h1 h2 hne
  refine ask1 ⟨x, dx, rfl, O1.blk (s' := []) .one, fun H2 a O2 => ?_⟩
  have O3 := O1.call .one O2
  have N3 : NsV H2 g.ns := N.mono (H0 := H) O3
  walk_at "s"
  refine ask3 ⟨g, z, ⟨x, dx, a, [], .file 1 0 []⟩, rfl, rfl, rfl, hz, O3.self, N3, nofun, fun e he H4 O4 => ?_, fun t j ht H4 g' O4 S4 G4 => ?_⟩
  · rw [withN_map, he] at k
    exact k _ (O3.call .all O4)
  · rw [withN_map, ht] at k
    exact k _ g' (O3.call .all O4) S4 G4
theorem sc_PlainFiles_make_dir : FnScope ["self", "path"] ["self", "path"] (defScope s_PlainFiles_make_dir) := ⟨rfl, rfl, rfl, by decide +kernel, rfl, by decide +kernel, by decide +kernel⟩
theorem ok_PlainFiles_make_dir {P : Program} {w : World} {K : PySem.W.Frag} {mg : Str → Option Value} {base : Heap} (T : Txt K mg) : Cee P w K mg base 6 (He.fAd K ("PlainFiles", some "make_dir")) ["self", "path"] (sp_PlainFiles_make_dir K) := by
  have c_new_node : Cee P w K mg base 5 (He.fAd K ("new_node", none)) ["files", "path", "here"] (sp_new_node K) := ok_new_node T
  have c_PlainDir___init__ : Cee P w K mg base 1 (He.fAd K ("PlainDir", some "__init__")) ["self"] (sp_PlainDir___init__ K) := ok_PlainDir___init__ T
  refine cee_of T.d_PlainFiles_make_dir sc_PlainFiles_make_dir (fun _ _ _ _ _ _ us hl => match us, hl with | [_, _], _ => rfl) (fun vs H Q E h => sp2_len h) (fun cdv A outer s H vs Q E hr h => ⟨_, (pss_one (ps_ret (pe_f c_new_node (hr.mono (by decide)) (takes_of rfl rfl rfl rfl) (by rfl) T.g_new_node (pa_cons (pv 0) (pa_cons (pv 1) (pa_cons (pe_n0 T.m_PlainDir c_PlainDir___init__ (hr.mono (by decide)) (by rfl) T.g_PlainDir) pa_nil)))))), ?_⟩)
  obtain ⟨v0, v1, rfl, h⟩ := h
  dsimp only [cxOf, L2.start]
  obtain ⟨g, z, rfl, rfl, hz, ⟨O, N⟩, k⟩ := h
  have k : FAn K H g (withN z fun n => (makeA g.room (anS g.ns) n (.dir [])).map fun x => (x.1, .int x.2)) Q E := k
  walk_at "s"
  intro x dx h1 h2 hne
  have O1 := O.inst (C := He.ga K "PlainDir") h1 h2 hne
  refine ask1 ⟨x, dx, rfl, O1.blk (s' := []) .one, fun H2 a O2 => ?_⟩
  have O3 := O1.call .one O2
  have N3 : NsV H2 g.ns := N.mono (H0 := H) O3
  walk_at "s"
  refine ask3 ⟨g, z, ⟨x, dx, a, [], .dir []⟩, rfl, rfl, rfl, hz, O3.self, N3, fun ss e => by cases e; exact ⟨rfl, nofun⟩, fun e he H4 O4 => ?_, fun t j ht H4 g' O4 S4 G4 => ?_⟩
  · rw [withN_map, he] at k
    exact k _ (O3.call .all O4)
  · rw [withN_map, ht] at k
    exact k _ g' (O3.call .all O4) S4 G4

/-! ## plain files: names put, dropped, moved -/
open SX (S)
def sp_PlainFiles_link (K : PySem.W.Frag) : Sp := sp3 fun self x y H Q E => ∃ g z z2, self = .ref g.p ∧ x = .str (S z) ∧ y = .str (S z2) ∧ TxO z ∧ TxO z2 ∧ FPre K H g ∧ FAn K H g (semF g.room (anS g.ns) (.link z z2)) Q E
def sp_PlainFiles_unlink (K : PySem.W.Frag) : Sp := sp2 fun self x H Q E => ∃ g z, self = .ref g.p ∧ x = .str (S z) ∧ TxO z ∧ FPre K H g ∧ FAn K H g (semF g.room (anS g.ns) (.unlink z)) Q E
def sp_PlainFiles_remove_dir (K : PySem.W.Frag) : Sp := sp2 fun self x H Q E => ∃ g z, self = .ref g.p ∧ x = .str (S z) ∧ TxO z ∧ FPre K H g ∧ FAn K H g (semF g.room (anS g.ns) (.rmdir z)) Q E
def sp_PlainFiles_move (K : PySem.W.Frag) : Sp := sp3 fun self x y H Q E => ∃ g z z2, self = .ref g.p ∧ x = .str (S z) ∧ y = .str (S z2) ∧ TxO z ∧ TxO z2 ∧ FPre K H g ∧ FAn K H g (semF g.room (anS g.ns) (.move z z2)) Q E
theorem bind_err {α β : Type} {r : Except FRf α} {e : FRf} (h : r = .error e) (f : α → Except FRf β) : r.bind f = .error e := by rw [h]; rfl
theorem bind_ok {α β : Type} {r : Except FRf α} {a : α} (h : r = .ok a) (f : α → Except FRf β) : r.bind f = f a := by rw [h]; rfl
theorem node_of_lk {g : PfG} {k : Int} (h : ((anS g.ns).lookup k).isSome = true) : ∃ u, g.ns.lookup k = some u ∧ (anS g.ns).lookup k = some u.n := by
  rw [anS_lk, Option.isSome_map] at h
  obtain ⟨u, hu⟩ := Option.isSome_iff_exists.mp h
  exact ⟨u, hu, by rw [anS_lk, hu]; rfl⟩
theorem dir_of_lk {g : PfG} {k : Int} {ss : List Sl} (h : (anS g.ns).lookup k = some (.dir ss)) : ∃ p dx a vs, g.ns.lookup k = some ⟨p, dx, a, vs, .dir ss⟩ := by
  rw [anS_lk] at h
  obtain ⟨u, hu, e⟩ := Option.map_eq_some_iff.mp h
  obtain ⟨p, dx, a, vs, n⟩ := u
  have e : n = .dir ss := e
  subst e
  exact ⟨p, dx, a, vs, hu⟩
theorem names_ne {ns : Tr} {names : List Nm} {c : List Int} {l h : Int} {cs : List Int} (A : AOk ns) (hc : walkA ns names = .ok c) (hl : ns.lookup (lastI c) = some (.file l h cs)) : names ≠ [] := by
  rintro rfl
  cases hc
  obtain ⟨ss, hs⟩ := A.root
  have hl : ns.lookup 0 = some (.file l h cs) := hl
  rw [hs] at hl
  cases hl
theorem prev_dir {ns : Tr} {names : List Nm} {c : List Int} (A : AOk ns) (hc : walkA ns names = .ok c) (hne : names ≠ []) : ∃ ss, ns.lookup (prevI c) = some (.dir ss) := by
  have e := List.dropLast_concat_getLast hne
  rw [← e, walkA_snoc] at hc
  cases hw : walkA ns names.dropLast with
  | error x => rw [hw] at hc; cases hc
  | ok c0 =>
    rw [hw] at hc
    have hc : (stepA ns (c0.getLastD 0) (names.getLast hne)).map (fun k => c0 ++ [k]) = .ok c := hc
    cases hs : stepA ns (c0.getLastD 0) (names.getLast hne) with
    | error x => rw [hs] at hc; cases hc
    | ok j =>
      rw [hs] at hc
      cases hc
      unfold stepA at hs
      show ∃ ss, ns.lookup ((c0 ++ [j]).dropLast.getLastD 0) = _
      rw [List.dropLast_concat]
      split at hs
      · rename_i ss hl
        exact ⟨ss, hl⟩
      · cases hs
theorem at_prev {c : List Int} (h : c ≠ []) (h2 : 2 ≤ c.length) : atI (c.map V.int) (-2) = some (.int (prevI c)) := by
  unfold atI ixN
  rw [if_neg (by decide), if_pos (by rw [List.length_map]; omega)]
  show (c.map V.int)[(-2 + (((c.map V.int).length : Nat) : Int)).toNat]? = _
  rw [List.length_map, show (-2 + ((c.length : Nat) : Int)).toNat = c.length - 2 by omega, List.getElem?_map]
  unfold prevI
  rw [List.getLastD_eq_getLast?, List.getLast?_eq_getElem?, List.length_dropLast, List.getElem?_dropLast, if_pos (by omega), show c.length - 1 - 1 = c.length - 2 by omega, List.getElem?_eq_getElem (by omega)]
  rfl
theorem ne_strs {K : PySem.W.Frag} {H : Hp} {a b : Addr} {Q : VK} {xs ys : List Str} (h1 : xs.all PyData.strOk = true) (h2 : ys.all PyData.strOk = true) (ha : H a = some (.lst (xs.map V.str))) (hb : H b = some (.lst (ys.map V.str))) (k : Q (.bl (!decide (xs = ys))) H) : rNeD K (.ref a) (.ref b) H Q :=
  ⟨_, _, .lst (SqL.of ha) (dpa_strs _), .lst (SqL.of hb) (dpa_strs _), sh_strs _ h1, sh_strs _ h2, by rw [show PyData.eqv (.list (xs.map PyData.str)) (.list (ys.map PyData.str)) = decide (xs = ys) from dist_strs _ _]; exact k⟩
theorem namesIn_mem {ss : List Sl} {n : Nm} (h : n ∈ namesIn ss) : ∃ k, some (n, k) ∈ ss := by
  unfold namesIn at h
  obtain ⟨s, hs, e⟩ := List.mem_filterMap.mp h
  obtain ⟨q, rfl, rfl⟩ := Option.map_eq_some_iff.mp e
  exact ⟨q.2, hs⟩
theorem names_strOk {ss : List Sl} {ys : List Str} (h : ∀ s ∈ ss, SlOk s) (hp : ys.Perm ((namesIn ss).map S)) : ys.all PyData.strOk = true := by
  rw [List.all_eq_true]
  intro y hy
  obtain ⟨n, hn, rfl⟩ := List.mem_map.mp (hp.mem_iff.mp hy)
  obtain ⟨k, hk⟩ := namesIn_mem hn
  exact strOk_S (h _ hk (n, k) rfl).2
theorem sc_PlainFiles_link : FnScope ["self", "path", "new", "names", "others", "node", "parent"] ["self", "path", "new"] (defScope s_PlainFiles_link) := ⟨rfl, rfl, rfl, by decide +kernel, rfl, by decide +kernel, by decide +kernel⟩
theorem ok_PlainFiles_link {P : Program} {w : World} {K : PySem.W.Frag} {mg : Str → Option Value} {base : Heap} (T : Txt K mg) : Cee P w K mg base 5 (He.fAd K ("PlainFiles", some "link")) ["self", "path", "new"] (sp_PlainFiles_link K) := by
  have c_names_of : Cee P w K mg base 2 (He.fAd K ("names_of", none)) ["path"] (sp_names_of K) := ok_names_of T
  have c_walked : Cee P w K mg base 2 (He.fAd K ("walked", none)) ["nodes", "names"] (sp_walked K) := ok_walked T
  have c_PlainDir_is_dir : Cee P w K mg base 1 (He.fAd K ("PlainDir", some "is_dir")) ["self"] (sp_PlainDir_is_dir K) := ok_PlainDir_is_dir T
  have c_PlainFile_is_dir : Cee P w K mg base 1 (He.fAd K ("PlainFile", some "is_dir")) ["self"] (sp_PlainFile_is_dir K) := ok_PlainFile_is_dir T
  have c_walked_to_new : Cee P w K mg base 3 (He.fAd K ("walked_to_new", none)) ["nodes", "names"] (sp_walked_to_new K) := ok_walked_to_new T
  have c_look_slot : Cee P w K mg base 1 (He.fAd K ("look_slot", none)) ["parent"] (sp_look_slot K) := ok_look_slot T
  have c_look_growth : Cee P w K mg base 4 (He.fAd K ("look_growth", none)) ["nodes", "room", "parent"] (sp_look_growth K) := ok_look_growth T
  have c_PlainDir_add_name : Cee P w K mg base 1 (He.fAd K ("PlainDir", some "add_name")) ["self", "name", "node"] (sp_PlainDir_add_name K) := ok_PlainDir_add_name T
  refine cee_of T.d_PlainFiles_link sc_PlainFiles_link (fun _ _ _ _ _ _ us hl => match us, hl with | [_, _, _], _ => rfl) (fun vs H Q E h => sp3_len h) (fun cdv A outer s H vs Q E hr h => ⟨_, (pss_cons (ps_set (i := 3) sc_PlainFiles_link.nd rfl (Or.inl rfl) (pe_f c_names_of (hr.mono (by decide)) (takes_of rfl rfl rfl rfl) (by rfl) T.g_names_of (pa_cons (pv 1) pa_nil))) (pss_cons (ps_set (i := 4) sc_PlainFiles_link.nd rfl (Or.inl rfl) (pe_f c_names_of (hr.mono (by decide)) (takes_of rfl rfl rfl rfl) (by rfl) T.g_names_of (pa_cons (pv 2) pa_nil))) (pss_cons (ps_set (i := 5) sc_PlainFiles_link.nd rfl (Or.inl rfl) (pe_ix ix_list (pe_f c_walked (hr.mono (by decide)) (takes_of rfl rfl rfl rfl) (by rfl) T.g_walked (pa_cons (pe_fld (pv 0) rfl) (pa_cons (pv 3) pa_nil))) (pe_un un_neg pe_int) (fun _ _ => rfl))) (pss_cons (ps_if (pt_val (PE.alt (pe_m0 (pe_dget (hu_of hr) (pe_fld (pv 0) rfl) (pv 5) (fun _ _ => rfl)) T.c_PlainDir T.m_PlainDir_is_dir c_PlainDir_is_dir (hr.mono (by decide)) (takes_of rfl rfl rfl rfl)) (pe_m0 (pe_dget (hu_of hr) (pe_fld (pv 0) rfl) (pv 5) (fun _ _ => rfl)) T.c_PlainFile T.m_PlainFile_is_dir c_PlainFile_is_dir (hr.mono (by decide)) (takes_of rfl rfl rfl rfl)))) (pss_one (ps_raise rfl (takes_of rfl rfl rfl rfl) (pmk_own PySem.F.excBase_ValueError T.x_IsDir.1 T.g_IsDir T.x_IsDir.2.1 (raises_own T.x_IsDir.2.2.1 T.x_IsDir.2.2.2) rfl))) pss_nil) (pss_cons (ps_set (i := 6) sc_PlainFiles_link.nd rfl (Or.inl rfl) (pe_dget (hu_of hr) (pe_fld (pv 0) rfl) (pe_ix ix_list (pe_f c_walked_to_new (hr.mono (by decide)) (takes_of rfl rfl rfl rfl) (by rfl) T.g_walked_to_new (pa_cons (pe_fld (pv 0) rfl) (pa_cons (pv 4) pa_nil))) (pe_un un_neg pe_int) (fun _ _ => rfl)) (fun _ _ => rfl))) (pss_cons (ps_expr (pe_f c_look_slot (hr.mono (by decide)) (takes_of rfl rfl rfl rfl) (by rfl) T.g_look_slot (pa_cons (pv 6) pa_nil))) (pss_cons (ps_expr (pe_f c_look_growth (hr.mono (by decide)) (takes_of rfl rfl rfl rfl) (by rfl) T.g_look_growth (pa_cons (pe_fld (pv 0) rfl) (pa_cons (pe_fld (pv 0) rfl) (pa_cons (pv 6) pa_nil))))) (pss_cons (ps_expr (pe_m (pv 6) T.c_PlainDir T.m_PlainDir_add_name c_PlainDir_add_name (hr.mono (by decide)) (takes_of rfl rfl rfl rfl) (pa_cons (pe_ix ix_list (pv 4) (pe_un un_neg pe_int) (fun _ _ => rfl)) (pa_cons (pv 5) pa_nil)))) (pss_one (ps_fldaug (pe_dget (hu_of hr) (pe_fld (pv 0) rfl) (pv 5) (fun _ _ => rfl)) pe_int in_add)))))))))), ?_⟩)
  obtain ⟨v0, v1, v2, rfl, h⟩ := h
  dsimp only [cxOf, L2.start]
  obtain ⟨g, z, z2, rfl, rfl, rfl, hz, hz2, ⟨O, N⟩, k⟩ := h
  have k : FAn K H g (withN z fun n => withN z2 fun o => (linkA g.room (anS g.ns) n o).map fun t => (t, FAns.non)) Q E := k
  unfold withN at k
  walk_at "s"
  refine ask1 ⟨z, rfl, hz, fun hn H1 O1 => ?_, fun names hn H1 b O1 => ?_⟩
  · rw [hn] at k
    exact k _ (O.callN O1)
  rw [hn] at k
  walk_at "s"
  refine ask1 ⟨z2, rfl, hz2, fun hn2 H2 O2 => ?_, fun others hn2 H2 b2 O2 => ?_⟩
  · rw [hn2] at k
    exact k _ (((O.callN O1).callN O2).drop (.cons _ (.refl _)))
  rw [hn2] at k
  have k : FAn K H g ((linkA g.room (anS g.ns) names others).map fun t => (t, FAns.non)) Q E := k
  have O3 := (O.callN O1).callN O2
  have O3 : Own H H2 (adr (cPf K g)) ((b2, .lst (SV others)) :: (b, .lst (SV names)) :: cPf K g) := O3
  have N3 := N.mono (H0 := H) O3
  obtain ⟨hx1, hx2⟩ := namesL_low hz hn
  obtain ⟨hy1, hy2⟩ := namesL_low hz2 hn2
  have hp3 := O3.get (a := g.p) (o := insPf K g) (.tail _ (.tail _ (.head _)))
  unfold linkA at k
  clear O1 O2
  have BO := Box.mk O3
  walk_at "clo"
  walk_at "s"
  refine ask2 ⟨g.nd, b, g.ns, names, rfl, rfl, BO.out.nsh (fun y hy => .tail _ (.tail _ (.tail _ hy))) N3, SqL.of (BO.out.get (.tail _ (.head _))), by omega, fun e he H4 O4 => ?_, fun c hc H4 d O4 => ?_⟩
  · rw [bind_err he] at k
    exact k _ ((BO.out.callN O4).drop (.cons _ (.cons _ (.refl _))))
  rw [bind_ok hc] at k
  have O5 : Own H H4 (adr (cPf K g)) ((d, .lst (c.map V.int)) :: (b2, .lst (SV others)) :: (b, .lst (SV names)) :: cPf K g) := BO.out.callN O4
  have N5 := N.mono (H0 := H) O5
  have hch := (walkA_ok N.ok _ _ hc).1
  have hat := at_last hch.ne
  obtain ⟨u, hu, hul⟩ := node_of_lk (hch.in_ _ (getLastD_mem hch.ne))
  have hd5 := O5.get (.head _)
  have hp5 := O5.get (a := g.p) (o := insPf K g) (.tail _ (.tail _ (.tail _ (.head _))))
  have hn5 := O5.get (a := g.nd) (o := .dK (ndD g.ns)) (.tail _ (.tail _ (.tail _ (.tail _ (.head _)))))
  have hv : valV (ndD g.ns) (Sum.inl (lastI c)) = some (.ref u.p) := by rw [ndD_val, hu]; rfl
  have hup := (FPre.at O5 (fun y hy => .tail _ (.tail _ (.tail _ hy))) hu).1
  rw [hul] at k
  clear BO O4 hp3 N3
  have BO := Box.mk O5
  walk_at "clo"
  obtain ⟨up, ud, ua, uv, un⟩ := u
  cases un with
  | dir ss =>
    have hup : H4 up = some (.ins (He.ga K "PlainDir") ud [("slots", .ref ua)]) := hup
    walk_at "s"
    refine .inl ?_
    walk_at "s"
    refine ask1 ?_
    walk_at "s"
    exact k _ (BO.out.drop (.cons _ (.cons _ (.cons _ (.refl _)))))
  | file l hh cs =>
    dsimp only at k
    have hup : H4 up = some (.ins (He.ga K "PlainFile") ud [("contents", .ref ua), ("links", .int l), ("holds", .int hh)]) := hup
    walk_at "s"
    refine .inr ?_
    walk_at "s"
    refine ask1 ?_
    walk_at "s"
    refine ask2 ⟨g.nd, b2, g.ns, others, rfl, rfl, BO.out.nsh (fun y hy => .tail _ (.tail _ (.tail _ (.tail _ hy)))) N5, BO.out.get (.tail _ (.head _)), by omega, hy1, fun e he H6 O6 => ?_, fun c2 hc2 H6 d2 O6 => ?_⟩
    · rw [bind_err he] at k
      exact k _ ((BO.out.callN O6).drop (.cons _ (.cons _ (.cons _ (.refl _)))))
    rw [bind_ok hc2] at k
    obtain ⟨hne, hwk, hch2, hcl2, ss, hls, hno⟩ := newA_ok N.ok hc2
    rw [hls] at k
    obtain ⟨wp, wd, wa, wv, hw⟩ := dir_of_lk hls
    have O7 : Own H H6 (adr (cPf K g)) ((d2, .lst (c2.map V.int)) :: (d, .lst (c.map V.int)) :: (b2, .lst (SV others)) :: (b, .lst (SV names)) :: cPf K g) := BO.out.callN O6
    have N7 := N.mono (H0 := H) O7
    have hat2 := at_last hch2.ne
    have hd7 := O7.get (.head _)
    have hp7 := O7.get (a := g.p) (o := insPf K g) (.tail _ (.tail _ (.tail _ (.tail _ (.head _)))))
    have hn7 := O7.get (a := g.nd) (o := .dK (ndD g.ns)) (.tail _ (.tail _ (.tail _ (.tail _ (.tail _ (.head _))))))
    have hv2 : valV (ndD g.ns) (Sum.inl (lastI c2)) = some (.ref wp) := by rw [ndD_val, hw]; rfl
    obtain ⟨hwp, hwa⟩ := FPre.at O7 (fun y hy => .tail _ (.tail _ (.tail _ (.tail _ hy)))) hw
    have hok := N.ok.dir (lastI c2) ss hls
    clear BO O6 hup hp5 hn5 hd5 N5
    have BO := Box.mk O7
    walk_at "clo"
    walk_at "s"
    refine ask1 ⟨wp, wd, wa, wv, ss, rfl, hwp, hwa, N7.v _ (lk_mem hw) ss rfl, hok.2.1, fun hf => ?_, fun hf => ?_⟩
    · have k : FAn K H g (((if fullA ss = true then .error .tooMany else _) : Except FRf Tr).map fun t => (t, FAns.non)) Q E := k
      rw [if_pos hf] at k
      exact k _ (BO.out.drop (.cons _ (.cons _ (.cons _ (.cons _ (.refl _))))))
    have k : FAn K H g (((if fullA ss = true then .error .tooMany else _) : Except FRf Tr).map fun t => (t, FAns.non)) Q E := k
    rw [if_neg (by rw [hf]; simp)] at k
    walk_at "s"
    refine ask3 ⟨g.nd, g.ns, lastI c2, _, g.room, ss, rfl, rfl, rfl, BO.out.blk (s' := []) (.there (.there (.there (.there (.there .all))))), N7, lk_mem hw, rfl, fun hg H8 O8 => ?_, fun hg H8 O8 => ?_⟩
    · rw [if_pos hg] at k
      exact k _ ((BO.out.call (.there (.there (.there (.there (.there .all))))) O8).drop (.cons _ (.cons _ (.cons _ (.cons _ (.refl _))))))
    rw [if_neg (by rw [hg]; simp)] at k
    have O9 := BO.out.call (.there (.there (.there (.there (.there .all))))) O8
    have N9 := N.mono (H0 := H) O9
    have hb9 : SqL K H8 b2 (SV others) := SqL.of (O9.get (.tail _ (.tail _ (.head _))))
    have hwp : H8 wp = some (.ins (He.ga K "PlainDir") wd [("slots", .ref wa)]) := (FPre.at O9 (fun y hy => .tail _ (.tail _ (.tail _ (.tail _ hy)))) hw).1
    have hatn := at_lastN hne
    have hsb := cPf_set (K := K) (x' := ⟨wp, wd, wa, wv, .dir ss⟩) hw N.ok.nd' rfl
    have hlow : SlOk (some (lastN others, lastI c)) := fun q hq => by cases hq; exact names_ok hn2 _ (lastN_mem hne)
    clear BO O8 hwa hp7 hn7 hd7 N7
    have BO := Box.mk O9
    walk_at "clo"
    walk_at "s"
    refine ask3 ⟨wp, wd, wa, wv, lastN others, lastI c, ss, rfl, rfl, rfl, BO.out.blk (s' := cNG K ⟨wp, wd, wa, wv, .dir ss⟩) (.there (.there (.there (.there hsb)))), N9.v _ (lk_mem hw) ss rfl, hok.2.1, hlow, by omega, fun H10 vs' O10 S10 => ?_⟩
    have hww := cPf_set (K := K) (x' := ⟨wp, wd, wa, vs', .dir (addA ss (lastN others) (lastI c))⟩) hw N.ok.nd' rfl
    have O11 := BO.out.call (.there (.there (.there (.there hww)))) O10
    have hkk : lastI c ≠ lastI c2 := fun e => by
      have h := hw.symm.trans ((congrArg (fun k => g.ns.lookup k) e.symm).trans hu)
      cases h
    have hu2 : (setA g.ns (lastI c2) ⟨wp, wd, wa, vs', .dir (addA ss (lastN others) (lastI c))⟩).lookup (lastI c) = some ⟨up, ud, ua, uv, .file l hh cs⟩ := by rw [lk_setA, if_neg hkk, hu]
    have hnd2 : ((setA g.ns (lastI c2) ⟨wp, wd, wa, vs', .dir (addA ss (lastN others) (lastI c))⟩).map (·.1)).Nodup := by rw [setA_keys]; exact N.ok.nd'
    have S11 : NsS H10 (setA g.ns (lastI c2) ⟨wp, wd, wa, vs', .dir (addA ss (lastN others) (lastI c))⟩) := (N.sl.mono (H := H) O11).set fun ss' e => by cases e; exact S10
    generalize hg2 : setA g.ns (lastI c2) ⟨wp, wd, wa, vs', .dir (addA ss (lastN others) (lastI c))⟩ = ns2 at O11 hu2 hnd2 S11
    have hn11 := O11.get (a := g.nd) (o := .dK (ndD ns2)) (.tail _ (.tail _ (.tail _ (.tail _ (.tail _ (.head _))))))
    have hv2 : valV (ndD ns2) (Sum.inl (lastI c)) = some (.ref up) := by rw [ndD_val, hu2]; rfl
    have hup : H10 up = some (.ins (He.ga K "PlainFile") ud [("contents", .ref ua), ("links", .int l), ("holds", .int hh)]) := (FPre.at O11 (g := { g with ns := ns2 }) (fun y hy => .tail _ (.tail _ (.tail _ (.tail _ hy)))) hu2).1
    have hs3 := cPf_set (K := K) (g := { g with ns := ns2 }) (x' := ⟨up, ud, ua, uv, .file (l + 1) hh cs⟩) hu2 hnd2 rfl
    have C := (O11.blk (.there (.there (.there (.there hs3))))).wr (a := up) (o' := insN K ud ua (.file (l + 1) hh cs)) .here
    have O12 := O11.call (.there (.there (.there (.there hs3)))) C
    have hp11 := O11.get (a := g.p) (.tail _ (.tail _ (.tail _ (.tail _ (.head _)))))
    clear O10 BO
    have BO := Box.mk O11
    have BC := Box.mk C
    have BD := Box.mk O12
    walk_at "clo"
    walk_at "s"
    refine k _ { g with ns := setA ns2 (lastI c) ⟨up, ud, ua, uv, .file (l + 1) hh cs⟩ } (BD.out.drop (.cons _ (.cons _ (.cons _ (.cons _ (.refl _)))))) ?_ ⟨rfl, rfl, rfl, ?_⟩
    · exact (S11.mono (H := H10) BC.out).set nofun
    · rw [anS_set, ← hg2, anS_set]
      unfold addTo
      rw [hls]
theorem sc_PlainFiles_unlink : FnScope ["self", "path", "names", "chain", "here"] ["self", "path"] (defScope s_PlainFiles_unlink) := ⟨rfl, rfl, rfl, by decide +kernel, rfl, by decide +kernel, by decide +kernel⟩
theorem ok_PlainFiles_unlink {P : Program} {w : World} {K : PySem.W.Frag} {mg : Str → Option Value} {base : Heap} (T : Txt K mg) : Cee P w K mg base 3 (He.fAd K ("PlainFiles", some "unlink")) ["self", "path"] (sp_PlainFiles_unlink K) := by
  have c_names_of : Cee P w K mg base 2 (He.fAd K ("names_of", none)) ["path"] (sp_names_of K) := ok_names_of T
  have c_walked : Cee P w K mg base 2 (He.fAd K ("walked", none)) ["nodes", "names"] (sp_walked K) := ok_walked T
  have c_PlainDir_is_dir : Cee P w K mg base 1 (He.fAd K ("PlainDir", some "is_dir")) ["self"] (sp_PlainDir_is_dir K) := ok_PlainDir_is_dir T
  have c_PlainFile_is_dir : Cee P w K mg base 1 (He.fAd K ("PlainFile", some "is_dir")) ["self"] (sp_PlainFile_is_dir K) := ok_PlainFile_is_dir T
  have c_PlainDir_drop_name : Cee P w K mg base 1 (He.fAd K ("PlainDir", some "drop_name")) ["self", "name"] (sp_PlainDir_drop_name K) := ok_PlainDir_drop_name T
  have c_clear_lost : Cee P w K mg base 1 (He.fAd K ("clear_lost", none)) ["files", "node"] (sp_clear_lost K) := ok_clear_lost T
  refine cee_of T.d_PlainFiles_unlink sc_PlainFiles_unlink (fun _ _ _ _ _ _ us hl => match us, hl with | [_, _], _ => rfl) (fun vs H Q E h => sp2_len h) (fun cdv A outer s H vs Q E hr h => ⟨_, (pss_cons (ps_set (i := 2) sc_PlainFiles_unlink.nd rfl (Or.inl rfl) (pe_f c_names_of (hr.mono (by decide)) (takes_of rfl rfl rfl rfl) (by rfl) T.g_names_of (pa_cons (pv 1) pa_nil))) (pss_cons (ps_set (i := 3) sc_PlainFiles_unlink.nd rfl (Or.inl rfl) (pe_f c_walked (hr.mono (by decide)) (takes_of rfl rfl rfl rfl) (by rfl) T.g_walked (pa_cons (pe_fld (pv 0) rfl) (pa_cons (pv 2) pa_nil)))) (pss_cons (ps_set (i := 4) sc_PlainFiles_unlink.nd rfl (Or.inl rfl) (pe_dget (hu_of hr) (pe_fld (pv 0) rfl) (pe_ix ix_list (pv 3) (pe_un un_neg pe_int) (fun _ _ => rfl)) (fun _ _ => rfl))) (pss_cons (ps_if (pt_val (PE.alt (pe_m0 (pv 4) T.c_PlainDir T.m_PlainDir_is_dir c_PlainDir_is_dir (hr.mono (by decide)) (takes_of rfl rfl rfl rfl)) (pe_m0 (pv 4) T.c_PlainFile T.m_PlainFile_is_dir c_PlainFile_is_dir (hr.mono (by decide)) (takes_of rfl rfl rfl rfl)))) (pss_one (ps_raise rfl (takes_of rfl rfl rfl rfl) (pmk_own PySem.F.excBase_ValueError T.x_IsDir.1 T.g_IsDir T.x_IsDir.2.1 (raises_own T.x_IsDir.2.2.1 T.x_IsDir.2.2.2) rfl))) pss_nil) (pss_cons (ps_expr (pe_m (pe_dget (hu_of hr) (pe_fld (pv 0) rfl) (pe_ix ix_list (pv 3) (pe_un un_neg pe_int) (fun _ _ => rfl)) (fun _ _ => rfl)) T.c_PlainDir T.m_PlainDir_drop_name c_PlainDir_drop_name (hr.mono (by decide)) (takes_of rfl rfl rfl rfl) (pa_cons (pe_ix ix_list (pv 2) (pe_un un_neg pe_int) (fun _ _ => rfl)) pa_nil))) (pss_cons (ps_fldaug (pv 4) pe_int in_sub) (pss_one (ps_expr (pe_f c_clear_lost (hr.mono (by decide)) (takes_of rfl rfl rfl rfl) (by rfl) T.g_clear_lost (pa_cons (pv 0) (pa_cons (pe_ix ix_list (pv 3) (pe_un un_neg pe_int) (fun _ _ => rfl)) pa_nil))))))))))), ?_⟩)
  obtain ⟨v0, v1, rfl, h⟩ := h
  dsimp only [cxOf, L2.start]
  obtain ⟨g, z, rfl, rfl, hz, ⟨O, N⟩, k⟩ := h
  have k : FAn K H g (withN z fun n => (unlinkA (anS g.ns) n).map fun t => (t, FAns.non)) Q E := k
  unfold withN at k
  walk_at "s"
  refine ask1 ⟨z, rfl, hz, fun hn H1 O1 => ?_, fun names hn H1 b O1 => ?_⟩
  · rw [hn] at k
    exact k _ (O.callN O1)
  rw [hn] at k
  have k : FAn K H g ((unlinkA (anS g.ns) names).map fun t => (t, FAns.non)) Q E := k
  have O3 : Own H H1 (adr (cPf K g)) ((b, .lst (SV names)) :: cPf K g) := O.callN O1
  have N3 := N.mono (H0 := H) O3
  obtain ⟨hx1, hx2⟩ := namesL_low hz hn
  have hp3 := O3.get (a := g.p) (o := insPf K g) (.tail _ (.head _))
  unfold unlinkA at k
  clear O1
  have BO := Box.mk O3
  walk_at "clo"
  walk_at "s"
  refine ask2 ⟨g.nd, b, g.ns, names, rfl, rfl, BO.out.nsh (fun y hy => .tail _ (.tail _ hy)) N3, SqL.of (BO.out.get (.head _)), by omega, fun e he H4 O4 => ?_, fun c hc H4 d O4 => ?_⟩
  · rw [bind_err he] at k
    exact k _ ((BO.out.callN O4).drop (.cons _ (.refl _)))
  rw [bind_ok hc] at k
  have O5 : Own H H4 (adr (cPf K g)) ((d, .lst (c.map V.int)) :: (b, .lst (SV names)) :: cPf K g) := BO.out.callN O4
  have N5 := N.mono (H0 := H) O5
  obtain ⟨hch, hcl⟩ := walkA_ok N.ok _ _ hc
  have hat := at_last hch.ne
  obtain ⟨u, hu, hul⟩ := node_of_lk (hch.in_ _ (getLastD_mem hch.ne))
  have hd5 := O5.get (.head _)
  have hp5 := O5.get (a := g.p) (o := insPf K g) (.tail _ (.tail _ (.head _)))
  have hn5 := O5.get (a := g.nd) (o := .dK (ndD g.ns)) (.tail _ (.tail _ (.tail _ (.head _))))
  have hv : valV (ndD g.ns) (Sum.inl (lastI c)) = some (.ref u.p) := by rw [ndD_val, hu]; rfl
  have hup := (FPre.at O5 (fun y hy => .tail _ (.tail _ hy)) hu).1
  rw [hul] at k
  clear BO O4 hp3 N3
  have BO := Box.mk O5
  walk_at "clo"
  obtain ⟨up, ud, ua, uv, un⟩ := u
  cases un with
  | dir ss =>
    have hup : H4 up = some (.ins (He.ga K "PlainDir") ud [("slots", .ref ua)]) := hup
    walk_at "s"
    refine .inl ?_
    walk_at "s"
    refine ask1 ?_
    walk_at "s"
    exact k _ (BO.out.drop (.cons _ (.cons _ (.refl _))))
  | file l hh cs =>
    dsimp only at k
    have hup : H4 up = some (.ins (He.ga K "PlainFile") ud [("contents", .ref ua), ("links", .int l), ("holds", .int hh)]) := hup
    walk_at "s"
    refine .inr ?_
    walk_at "s"
    refine ask1 ?_
    have hne := names_ne N.ok hc hul
    obtain ⟨ss, hls⟩ := prev_dir N.ok hc hne
    have hat2 := at_prev hch.ne (by have := List.length_pos_iff.mpr hne; omega)
    have hatn := at_lastN hne
    obtain ⟨wp, wd, wa, wv, hw⟩ := dir_of_lk hls
    have hv2 : valV (ndD g.ns) (Sum.inl (prevI c)) = some (.ref wp) := by rw [ndD_val, hw]; rfl
    obtain ⟨hwp, hwa⟩ := FPre.at BO.out (fun y hy => .tail _ (.tail _ hy)) hw
    have hwp : H4 wp = some (.ins (He.ga K "PlainDir") wd [("slots", .ref wa)]) := hwp
    have hb5 : SqL K H4 b (SV names) := SqL.of (BO.out.get (.tail _ (.head _)))
    have hsb := cPf_set (K := K) (x' := ⟨wp, wd, wa, wv, .dir ss⟩) hw N.ok.nd' rfl
    have hok := N.ok.dir (prevI c) ss hls
    walk_at "s"
    refine ask2 ⟨wp, wd, wa, wv, lastN names, ss, rfl, rfl, BO.out.blk (s' := cNG K ⟨wp, wd, wa, wv, .dir ss⟩) (.there (.there hsb)), N5.v _ (lk_mem hw) ss rfl, by omega, fun H10 wa' vs' O10 S10 => ?_⟩
    have hww := cPf_set (K := K) (x' := ⟨wp, wd, wa', vs', .dir (dropS ss (lastN names))⟩) hw N.ok.nd' rfl
    have O11 := BO.out.call (.there (.there hww)) O10
    have hkk : lastI c ≠ prevI c := fun e => by
      have h := hw.symm.trans ((congrArg (fun k => g.ns.lookup k) e.symm).trans hu)
      cases h
    have hu2 : (setA g.ns (prevI c) ⟨wp, wd, wa', vs', .dir (dropS ss (lastN names))⟩).lookup (lastI c) = some ⟨up, ud, ua, uv, .file l hh cs⟩ := by rw [lk_setA, if_neg hkk, hu]
    have hnd2 : ((setA g.ns (prevI c) ⟨wp, wd, wa', vs', .dir (dropS ss (lastN names))⟩).map (·.1)).Nodup := by rw [setA_keys]; exact N.ok.nd'
    have S11 : NsS H10 (setA g.ns (prevI c) ⟨wp, wd, wa', vs', .dir (dropS ss (lastN names))⟩) := (N.sl.mono (H := H) O11).set fun ss' e => by cases e; exact S10
    generalize hg2 : setA g.ns (prevI c) ⟨wp, wd, wa', vs', .dir (dropS ss (lastN names))⟩ = ns2 at O11 hu2 hnd2 S11
    have hup : H10 up = some (.ins (He.ga K "PlainFile") ud [("contents", .ref ua), ("links", .int l), ("holds", .int hh)]) := (FPre.at O11 (g := { g with ns := ns2 }) (fun y hy => .tail _ (.tail _ hy)) hu2).1
    have hs3 := cPf_set (K := K) (g := { g with ns := ns2 }) (x' := ⟨up, ud, ua, uv, .file (l - 1) hh cs⟩) hu2 hnd2 rfl
    have C := (O11.blk (.there (.there hs3))).wr (a := up) (o' := insN K ud ua (.file (l - 1) hh cs)) .here
    have O12 := O11.call (.there (.there hs3)) C
    have hd12 := O12.get (a := d) (o := .lst (c.map V.int)) (.head _)
    have hu3 : (setA ns2 (lastI c) ⟨up, ud, ua, uv, .file (l - 1) hh cs⟩).lookup (lastI c) = some ⟨up, ud, ua, uv, .file (l - 1) hh cs⟩ := by rw [lk_setA, if_pos rfl, hu2]; rfl
    clear O10 BO
    have BO := Box.mk O11
    have BC := Box.mk C
    have BD := Box.mk O12
    walk_at "clo"
    walk_at "s"
    refine ask2 ⟨{ g with ns := setA ns2 (lastI c) ⟨up, ud, ua, uv, .file (l - 1) hh cs⟩ }, lastI c, _, l - 1, hh, cs, rfl, rfl, BD.out.blk (s' := []) (.there (.there .all)), by rw [setA_keys]; exact hnd2, hu3, rfl, fun H13 g' O13 G13 S13 => ?_⟩
    have O14 := BD.out.call (.there (.there .all)) O13
    walk_at "s"
    refine k _ g' (O14.drop (.cons _ (.cons _ (.refl _)))) (S13 ((S11.mono (H := H10) BC.out).set nofun)) ⟨G13.p, G13.nd, G13.room, ?_⟩
    rw [G13.ns]
    dsimp only
    rw [anS_set, ← hg2, anS_set]
    unfold dropOf
    rw [hls]
theorem sc_PlainFiles_remove_dir : FnScope ["self", "path", "names", "chain", "here"] ["self", "path"] (defScope s_PlainFiles_remove_dir) := ⟨rfl, rfl, rfl, by decide +kernel, rfl, by decide +kernel, by decide +kernel⟩
theorem ok_PlainFiles_remove_dir {P : Program} {w : World} {K : PySem.W.Frag} {mg : Str → Option Value} {base : Heap} (T : Txt K mg) : Cee P w K mg base 3 (He.fAd K ("PlainFiles", some "remove_dir")) ["self", "path"] (sp_PlainFiles_remove_dir K) := by
  have c_names_of : Cee P w K mg base 2 (He.fAd K ("names_of", none)) ["path"] (sp_names_of K) := ok_names_of T
  have c_walked : Cee P w K mg base 2 (He.fAd K ("walked", none)) ["nodes", "names"] (sp_walked K) := ok_walked T
  have c_PlainDir_is_dir : Cee P w K mg base 1 (He.fAd K ("PlainDir", some "is_dir")) ["self"] (sp_PlainDir_is_dir K) := ok_PlainDir_is_dir T
  have c_PlainFile_is_dir : Cee P w K mg base 1 (He.fAd K ("PlainFile", some "is_dir")) ["self"] (sp_PlainFile_is_dir K) := ok_PlainFile_is_dir T
  have c_PlainDir_names_in : Cee P w K mg base 1 (He.fAd K ("PlainDir", some "names_in")) ["self"] (sp_PlainDir_names_in K) := ok_PlainDir_names_in T
  have c_PlainDir_drop_name : Cee P w K mg base 1 (He.fAd K ("PlainDir", some "drop_name")) ["self", "name"] (sp_PlainDir_drop_name K) := ok_PlainDir_drop_name T
  refine cee_of T.d_PlainFiles_remove_dir sc_PlainFiles_remove_dir (fun _ _ _ _ _ _ us hl => match us, hl with | [_, _], _ => rfl) (fun vs H Q E h => sp2_len h) (fun cdv A outer s H vs Q E hr h => ⟨_, (pss_cons (ps_set (i := 2) sc_PlainFiles_remove_dir.nd rfl (Or.inl rfl) (pe_f c_names_of (hr.mono (by decide)) (takes_of rfl rfl rfl rfl) (by rfl) T.g_names_of (pa_cons (pv 1) pa_nil))) (pss_cons (ps_set (i := 3) sc_PlainFiles_remove_dir.nd rfl (Or.inl rfl) (pe_f c_walked (hr.mono (by decide)) (takes_of rfl rfl rfl rfl) (by rfl) T.g_walked (pa_cons (pe_fld (pv 0) rfl) (pa_cons (pv 2) pa_nil)))) (pss_cons (ps_set (i := 4) sc_PlainFiles_remove_dir.nd rfl (Or.inl rfl) (pe_dget (hu_of hr) (pe_fld (pv 0) rfl) (pe_ix ix_list (pv 3) (pe_un un_neg pe_int) (fun _ _ => rfl)) (fun _ _ => rfl))) (pss_cons (ps_if (pt_not (pt_val (PE.alt (pe_m0 (pv 4) T.c_PlainDir T.m_PlainDir_is_dir c_PlainDir_is_dir (hr.mono (by decide)) (takes_of rfl rfl rfl rfl)) (pe_m0 (pv 4) T.c_PlainFile T.m_PlainFile_is_dir c_PlainFile_is_dir (hr.mono (by decide)) (takes_of rfl rfl rfl rfl))))) (pss_one (ps_raise rfl (takes_of rfl rfl rfl rfl) (pmk_own PySem.F.excBase_ValueError T.x_NotDir.1 T.g_NotDir T.x_NotDir.2.1 (raises_own T.x_NotDir.2.2.1 T.x_NotDir.2.2.2) rfl))) pss_nil) (pss_cons (ps_if (pt_cmpR (op_eqD hr.units) (pv 2) (pe_lst pa_nil) (nomark _)) (pss_one (ps_raise rfl (takes_of rfl rfl rfl rfl) (pmk_own PySem.F.excBase_ValueError T.x_NotAllowed.1 T.g_NotAllowed T.x_NotAllowed.2.1 (raises_own T.x_NotAllowed.2.2.1 T.x_NotAllowed.2.2.2) rfl))) pss_nil) (pss_cons (ps_if (pt_cmpR (op_neD hr.units) (pe_m0 (pv 4) T.c_PlainDir T.m_PlainDir_names_in c_PlainDir_names_in (hr.mono (by decide)) (takes_of rfl rfl rfl rfl)) (pe_lst pa_nil) (nomark _)) (pss_one (ps_raise rfl (takes_of rfl rfl rfl rfl) (pmk_own PySem.F.excBase_ValueError T.x_NotEmpty.1 T.g_NotEmpty T.x_NotEmpty.2.1 (raises_own T.x_NotEmpty.2.2.1 T.x_NotEmpty.2.2.2) rfl))) pss_nil) (pss_cons (ps_expr (pe_m (pe_dget (hu_of hr) (pe_fld (pv 0) rfl) (pe_ix ix_list (pv 3) (pe_un un_neg pe_int) (fun _ _ => rfl)) (fun _ _ => rfl)) T.c_PlainDir T.m_PlainDir_drop_name c_PlainDir_drop_name (hr.mono (by decide)) (takes_of rfl rfl rfl rfl) (pa_cons (pe_ix ix_list (pv 2) (pe_un un_neg pe_int) (fun _ _ => rfl)) pa_nil))) (pss_one (ps_expr (pe_dpop1 (pe_fld (pv 0) rfl) (pe_ix ix_list (pv 3) (pe_un un_neg pe_int) (fun _ _ => rfl)) ⟨rfl, rfl, rfl, rfl⟩)))))))))), ?_⟩)
  obtain ⟨v0, v1, rfl, h⟩ := h
  dsimp only [cxOf, L2.start]
  obtain ⟨g, z, rfl, rfl, hz, ⟨O, N⟩, k⟩ := h
  have k : FAn K H g (withN z fun n => (removeA (anS g.ns) n).map fun t => (t, FAns.non)) Q E := k
  unfold withN at k
  walk_at "s"
  refine ask1 ⟨z, rfl, hz, fun hn H1 O1 => ?_, fun names hn H1 b O1 => ?_⟩
  · rw [hn] at k
    exact k _ (O.callN O1)
  rw [hn] at k
  have k : FAn K H g ((removeA (anS g.ns) names).map fun t => (t, FAns.non)) Q E := k
  have O3 : Own H H1 (adr (cPf K g)) ((b, .lst (SV names)) :: cPf K g) := O.callN O1
  have N3 := N.mono (H0 := H) O3
  obtain ⟨hx1, hx2⟩ := namesL_low hz hn
  have hp3 := O3.get (a := g.p) (o := insPf K g) (.tail _ (.head _))
  unfold removeA at k
  clear O1
  have BO := Box.mk O3
  walk_at "clo"
  walk_at "s"
  refine ask2 ⟨g.nd, b, g.ns, names, rfl, rfl, BO.out.nsh (fun y hy => .tail _ (.tail _ hy)) N3, SqL.of (BO.out.get (.head _)), by omega, fun e he H4 O4 => ?_, fun c hc H4 d O4 => ?_⟩
  · rw [bind_err he] at k
    exact k _ ((BO.out.callN O4).drop (.cons _ (.refl _)))
  rw [bind_ok hc] at k
  have O5 : Own H H4 (adr (cPf K g)) ((d, .lst (c.map V.int)) :: (b, .lst (SV names)) :: cPf K g) := BO.out.callN O4
  have N5 := N.mono (H0 := H) O5
  obtain ⟨hch, hcl⟩ := walkA_ok N.ok _ _ hc
  have hat := at_last hch.ne
  obtain ⟨u, hu, hul⟩ := node_of_lk (hch.in_ _ (getLastD_mem hch.ne))
  have hd5 := O5.get (.head _)
  have hp5 := O5.get (a := g.p) (o := insPf K g) (.tail _ (.tail _ (.head _)))
  have hn5 := O5.get (a := g.nd) (o := .dK (ndD g.ns)) (.tail _ (.tail _ (.tail _ (.head _))))
  have hv : valV (ndD g.ns) (Sum.inl (lastI c)) = some (.ref u.p) := by rw [ndD_val, hu]; rfl
  obtain ⟨hup, hua⟩ := FPre.at O5 (fun y hy => .tail _ (.tail _ hy)) hu
  have hus := N5.v _ (lk_mem hu)
  rw [hul] at k
  clear BO O4 hp3 N3
  have BO := Box.mk O5
  walk_at "clo"
  obtain ⟨up, ud, ua, uv, un⟩ := u
  cases un with
  | file l hh cs =>
    have hup : H4 up = some (.ins (He.ga K "PlainFile") ud [("contents", .ref ua), ("links", .int l), ("holds", .int hh)]) := hup
    walk_at "s"
    refine .inr ?_
    walk_at "s"
    refine ask1 ?_
    walk_at "s"
    exact k _ (BO.out.drop (.cons _ (.cons _ (.refl _))))
  | dir ss =>
    dsimp only at k
    have hup : H4 up = some (.ins (He.ga K "PlainDir") ud [("slots", .ref ua)]) := hup
    have hus := hus ss rfl
    obtain ⟨hs40, hsok, _⟩ := N.ok.dir (lastI c) ss hul
    walk_at "s"
    refine .inl ?_
    walk_at "s"
    refine ask1 ?_
    walk_at "s"
    intro e1 he1
    have O6 := BO.out.new (o := .lst (SV [])) he1
    have he6 : upd H4 e1 (.lst (SV [])) e1 = some (.lst (SV [])) := upd_same
    have O6 : Own H (upd H4 e1 (.lst (SV []))) (adr (cPf K g)) ((d, .lst (c.map V.int)) :: (b, .lst (SV names)) :: cPf K g) := O6.drop (.cons _ (.refl _))
    show rEqD K (.ref b) (.ref e1) (upd H4 e1 (.lst (SV []))) _
    generalize upd H4 e1 (.lst (SV [])) = H5 at O6 he6 ⊢
    refine eq_SV (ms := []) hx1 (fun n h => absurd h (by simp)) (O6.get (.tail _ (.head _))) he6 ?_
    refine ⟨_, rfl, ?_⟩
    clear BO hd5 hp5 hn5 hup hua
    have BO := Box.mk O6
    have hus := (N.mono (H0 := H) O6).v _ (lk_mem hu) ss rfl
    obtain ⟨hup, hua⟩ := FPre.at O6 (fun y hy => .tail _ (.tail _ hy)) hu
    have hup : H5 up = some (.ins (He.ga K "PlainDir") ud [("slots", .ref ua)]) := hup
    clear O6
    refine if_d (fun h => ?_) (fun h => ?_)
    · have h : names = [] := List.map_eq_nil_iff.mp h
      rw [if_pos h] at k
      exact k _ (BO.out.drop (.cons _ (.cons _ (.refl _))))
    have hne : names ≠ [] := fun z => h (by rw [z])
    rw [if_neg hne] at k
    walk_at "s"
    refine ask1 ⟨up, ud, ua, uv, ss, rfl, hup, hua, hus, by omega, fun H6 ly ys O7 hy1 hy2 => ?_⟩
    have O8 : Own H H6 (adr (cPf K g)) ((ly, .lst (ys.map V.str)) :: (d, .lst (c.map V.int)) :: (b, .lst (SV names)) :: cPf K g) := BO.out.callN O7
    clear BO O7 hup hua hus
    have BO := Box.mk O8
    clear O8
    walk_at "s"
    intro e2 he2
    have O9 := BO.out.new (o := .lst (([] : List Str).map V.str)) he2
    have he7 : upd H6 e2 (.lst (([] : List Str).map V.str)) e2 = some (.lst (([] : List Str).map V.str)) := upd_same
    show rNeD K (.ref ly) (.ref e2) (upd H6 e2 (.lst (([] : List Str).map V.str))) _
    generalize upd H6 e2 (.lst (([] : List Str).map V.str)) = H7 at O9 he7 ⊢
    have O9 : Own H H7 (adr (cPf K g)) ((ly, .lst (ys.map V.str)) :: (d, .lst (c.map V.int)) :: (b, .lst (SV names)) :: cPf K g) := O9.drop (.cons _ (.refl _))
    refine ne_strs (ys := []) (names_strOk hsok hy1) rfl (O9.get (.head _)) he7 ?_
    refine ⟨_, rfl, ?_⟩
    have O10 : Own H H7 (adr (cPf K g)) ((d, .lst (c.map V.int)) :: (b, .lst (SV names)) :: cPf K g) := O9.drop (.cons _ (.refl _))
    clear BO O9
    have BO := Box.mk O10
    have hyn : ys = [] ↔ namesIn ss = [] := by
      constructor
      · rintro rfl
        exact List.map_eq_nil_iff.mp (List.nil_perm.mp hy1)
      · intro h
        rw [h] at hy1
        exact List.perm_nil.mp hy1
    refine if_nd (fun h2 => ?_) (fun h2 => ?_)
    · rw [if_pos (fun z => h2 (hyn.mpr z))] at k
      exact k _ (BO.out.drop (.cons _ (.cons _ (.refl _))))
    rw [if_neg (fun z => z (hyn.mp h2))] at k
    obtain ⟨ps, hls⟩ := prev_dir N.ok hc hne
    have hat2 := at_prev hch.ne (by have := List.length_pos_iff.mpr hne; omega)
    have hatn := at_lastN hne
    obtain ⟨wp, wd, wa, wv, hw⟩ := dir_of_lk hls
    have hv2 : valV (ndD g.ns) (Sum.inl (prevI c)) = some (.ref wp) := by rw [ndD_val, hw]; rfl
    obtain ⟨hwp, hwa⟩ := FPre.at O10 (fun y hy => .tail _ (.tail _ hy)) hw
    have hwp : H7 wp = some (.ins (He.ga K "PlainDir") wd [("slots", .ref wa)]) := hwp
    have N10 := N.mono (H0 := H) O10
    have hb5 : SqL K H7 b (SV names) := SqL.of (O10.get (.tail _ (.head _)))
    have hd5 := O10.get (.head _)
    have hp5 := O10.get (a := g.p) (o := insPf K g) (.tail _ (.tail _ (.head _)))
    have hn5 := O10.get (a := g.nd) (o := .dK (ndD g.ns)) (.tail _ (.tail _ (.tail _ (.head _))))
    have hsb := cPf_set (K := K) (x' := ⟨wp, wd, wa, wv, .dir ps⟩) hw N.ok.nd' rfl
    have hok := N.ok.dir (prevI c) ps hls
    clear O10
    walk_at "s"
    refine ask2 ⟨wp, wd, wa, wv, lastN names, ps, rfl, rfl, BO.out.blk (s' := cNG K ⟨wp, wd, wa, wv, .dir ps⟩) (.there (.there hsb)), N10.v _ (lk_mem hw) ps rfl, by omega, fun H10 wa' vs' O10 S10 => ?_⟩
    have hww := cPf_set (K := K) (x' := ⟨wp, wd, wa', vs', .dir (dropS ps (lastN names))⟩) hw N.ok.nd' rfl
    have O11 := BO.out.call (.there (.there hww)) O10
    have S11 : NsS H10 (setA g.ns (prevI c) ⟨wp, wd, wa', vs', .dir (dropS ps (lastN names))⟩) := (N.sl.mono (H := H) O11).set fun ss' e => by cases e; exact S10
    have hin : (setA g.ns (prevI c) ⟨wp, wd, wa', vs', .dir (dropS ps (lastN names))⟩).lookup (lastI c) ≠ none := by
      rw [lk_setA]
      split
      · rw [hw]; exact nofun
      · rw [hu]; exact nofun
    generalize hg2 : setA g.ns (prevI c) ⟨wp, wd, wa', vs', .dir (dropS ps (lastN names))⟩ = ns2 at O11 S11 hin
    obtain ⟨v2, hv2⟩ := Option.ne_none_iff_exists'.mp hin
    have hn11 := O11.get (a := g.nd) (o := .dK (ndD ns2)) (.tail _ (.tail _ (.tail _ (.head _))))
    have hp11 := O11.get (a := g.p) (.tail _ (.tail _ (.head _)))
    have hd11 := O11.get (a := d) (o := .lst (c.map V.int)) (.head _)
    have hv3 : valV (ndD ns2) (Sum.inl (lastI c)) = some (.ref v2.p) := by rw [ndD_val, hv2]; rfl
    clear O10 BO
    have BO := Box.mk O11
    walk_at "clo"
    walk_at "s"
    rw [show dropK (ndD ns2) (Sum.inl (lastI c)) = ndD (dropA ns2 (lastI c)) from dropA_val (fun x : NG => V.ref x.p) ns2 (lastI c)]
    have O12 := BO.out.wr (a := g.nd) (o' := .dK (ndD (dropA ns2 (lastI c)))) (.there (.there (.there .here)))
    have O13 := BO.out.self.wr (a := g.nd) (o' := .dK (ndD (dropA ns2 (lastI c)))) (.there (.there (.there .here)))
    refine k _ { g with ns := dropA ns2 (lastI c) } (O12.drop (.cons _ (.cons _ (.cons₂ _ (.cons₂ _ (cNs_sub List.filter_sublist)))))) ((S11.mono (H := H10) O13).drop _) ⟨rfl, rfl, rfl, ?_⟩
    rw [anS_drop, ← hg2, anS_set]
    unfold dropOf
    rw [hls]

/-! ## plain files: move -/
open SX (S)
theorem dropS_len (ss : List Sl) (n : Nm) : (dropS ss n).length = ss.length := List.length_map ..
theorem dropS_ok {ss : List Sl} {n : Nm} (h : ∀ s ∈ ss, SlOk s) : ∀ s ∈ dropS ss n, SlOk s := by
  intro s hs q e
  obtain ⟨s0, h0, rfl⟩ := List.mem_map.mp hs
  cases s0 with
  | none => cases e
  | some q0 =>
    rw [Option.bind_some] at e
    split at e
    · cases e
    · cases e
      exact h _ h0 _ rfl
theorem sc_PlainFiles_move : FnScope ["self", "path", "new", "names", "others", "chain", "ahead", "parent"] ["self", "path", "new"] (defScope s_PlainFiles_move) := ⟨rfl, rfl, rfl, by decide +kernel, rfl, by decide +kernel, by decide +kernel⟩
theorem ok_PlainFiles_move {P : Program} {w : World} {K : PySem.W.Frag} {mg : Str → Option Value} {base : Heap} (T : Txt K mg) : Cee P w K mg base 5 (He.fAd K ("PlainFiles", some "move")) ["self", "path", "new"] (sp_PlainFiles_move K) := by
  have c_names_of : Cee P w K mg base 2 (He.fAd K ("names_of", none)) ["path"] (sp_names_of K) := ok_names_of T
  have c_walked : Cee P w K mg base 2 (He.fAd K ("walked", none)) ["nodes", "names"] (sp_walked K) := ok_walked T
  have c_walked_to_new : Cee P w K mg base 3 (He.fAd K ("walked_to_new", none)) ["nodes", "names"] (sp_walked_to_new K) := ok_walked_to_new T
  have c_PlainDir_is_dir : Cee P w K mg base 1 (He.fAd K ("PlainDir", some "is_dir")) ["self"] (sp_PlainDir_is_dir K) := ok_PlainDir_is_dir T
  have c_PlainFile_is_dir : Cee P w K mg base 1 (He.fAd K ("PlainFile", some "is_dir")) ["self"] (sp_PlainFile_is_dir K) := ok_PlainFile_is_dir T
  have c_look_slot : Cee P w K mg base 1 (He.fAd K ("look_slot", none)) ["parent"] (sp_look_slot K) := ok_look_slot T
  have c_look_growth : Cee P w K mg base 4 (He.fAd K ("look_growth", none)) ["nodes", "room", "parent"] (sp_look_growth K) := ok_look_growth T
  have c_PlainDir_drop_name : Cee P w K mg base 1 (He.fAd K ("PlainDir", some "drop_name")) ["self", "name"] (sp_PlainDir_drop_name K) := ok_PlainDir_drop_name T
  have c_PlainDir_add_name : Cee P w K mg base 1 (He.fAd K ("PlainDir", some "add_name")) ["self", "name", "node"] (sp_PlainDir_add_name K) := ok_PlainDir_add_name T
  refine cee_of T.d_PlainFiles_move sc_PlainFiles_move (fun _ _ _ _ _ _ us hl => match us, hl with | [_, _, _], _ => rfl) (fun vs H Q E h => sp3_len h) (fun cdv A outer s H vs Q E hr h => ⟨_, (pss_cons (ps_set (i := 3) sc_PlainFiles_move.nd rfl (Or.inl rfl) (pe_f c_names_of (hr.mono (by decide)) (takes_of rfl rfl rfl rfl) (by rfl) T.g_names_of (pa_cons (pv 1) pa_nil))) (pss_cons (ps_set (i := 4) sc_PlainFiles_move.nd rfl (Or.inl rfl) (pe_f c_names_of (hr.mono (by decide)) (takes_of rfl rfl rfl rfl) (by rfl) T.g_names_of (pa_cons (pv 2) pa_nil))) (pss_cons (ps_if (pt_cmpR (op_eqD hr.units) (pv 3) (pe_lst pa_nil) (nomark _)) (pss_one (ps_raise rfl (takes_of rfl rfl rfl rfl) (pmk_own PySem.F.excBase_ValueError T.x_NotAllowed.1 T.g_NotAllowed T.x_NotAllowed.2.1 (raises_own T.x_NotAllowed.2.2.1 T.x_NotAllowed.2.2.2) rfl))) pss_nil) (pss_cons (ps_set (i := 5) sc_PlainFiles_move.nd rfl (Or.inl rfl) (pe_f c_walked (hr.mono (by decide)) (takes_of rfl rfl rfl rfl) (by rfl) T.g_walked (pa_cons (pe_fld (pv 0) rfl) (pa_cons (pv 3) pa_nil)))) (pss_cons (ps_set (i := 6) sc_PlainFiles_move.nd rfl (Or.inl rfl) (pe_f c_walked_to_new (hr.mono (by decide)) (takes_of rfl rfl rfl rfl) (by rfl) T.g_walked_to_new (pa_cons (pe_fld (pv 0) rfl) (pa_cons (pv 4) pa_nil)))) (pss_cons (PS.box (ps_if (PW.pt (pw_and (pt_val (PE.alt (pe_m0 (pe_dget (hu_of hr) (pe_fld (pv 0) rfl) (pe_ix ix_list (pv 5) (pe_un un_neg pe_int) (fun _ _ => rfl)) (fun _ _ => rfl)) T.c_PlainDir T.m_PlainDir_is_dir c_PlainDir_is_dir (hr.mono (by decide)) (takes_of rfl rfl rfl rfl)) (pe_m0 (pe_dget (hu_of hr) (pe_fld (pv 0) rfl) (pe_ix ix_list (pv 5) (pe_un un_neg pe_int) (fun _ _ => rfl)) (fun _ _ => rfl)) T.c_PlainFile T.m_PlainFile_is_dir c_PlainFile_is_dir (hr.mono (by decide)) (takes_of rfl rfl rfl rfl)))) (pw_and1 (pt_cmpR op_in_seq (pe_ix ix_list (pv 5) (pe_un un_neg pe_int) (fun _ _ => rfl)) (pv 6) (by with_unfolding_all rfl))))) (pss_one (ps_raise rfl (takes_of rfl rfl rfl rfl) (pmk_own PySem.F.excBase_ValueError T.x_Inside.1 T.g_Inside T.x_Inside.2.1 (raises_own T.x_Inside.2.2.1 T.x_Inside.2.2.2) rfl))) pss_nil)) (pss_cons (ps_set (i := 7) sc_PlainFiles_move.nd rfl (Or.inl rfl) (pe_dget (hu_of hr) (pe_fld (pv 0) rfl) (pe_ix ix_list (pv 6) (pe_un un_neg pe_int) (fun _ _ => rfl)) (fun _ _ => rfl))) (pss_cons (PS.box (ps_if (pt_cmpR op_ne (pe_ix ix_list (pv 6) (pe_un un_neg pe_int) (fun _ _ => rfl)) (pe_ix ix_list (pv 5) (pe_un un_neg pe_int) (fun _ _ => rfl)) (nomark _)) (pss_cons (ps_expr (pe_f c_look_slot (hr.mono (by decide)) (takes_of rfl rfl rfl rfl) (by rfl) T.g_look_slot (pa_cons (pv 7) pa_nil))) (pss_one (ps_expr (pe_f c_look_growth (hr.mono (by decide)) (takes_of rfl rfl rfl rfl) (by rfl) T.g_look_growth (pa_cons (pe_fld (pv 0) rfl) (pa_cons (pe_fld (pv 0) rfl) (pa_cons (pv 7) pa_nil))))))) pss_nil)) (pss_cons (ps_expr (pe_m (pe_dget (hu_of hr) (pe_fld (pv 0) rfl) (pe_ix ix_list (pv 5) (pe_un un_neg pe_int) (fun _ _ => rfl)) (fun _ _ => rfl)) T.c_PlainDir T.m_PlainDir_drop_name c_PlainDir_drop_name (hr.mono (by decide)) (takes_of rfl rfl rfl rfl) (pa_cons (pe_ix ix_list (pv 3) (pe_un un_neg pe_int) (fun _ _ => rfl)) pa_nil))) (pss_one (ps_expr (pe_m (pv 7) T.c_PlainDir T.m_PlainDir_add_name c_PlainDir_add_name (hr.mono (by decide)) (takes_of rfl rfl rfl rfl) (pa_cons (pe_ix ix_list (pv 4) (pe_un un_neg pe_int) (fun _ _ => rfl)) (pa_cons (pe_ix ix_list (pv 5) (pe_un un_neg pe_int) (fun _ _ => rfl)) pa_nil)))))))))))))), ?_⟩)
  obtain ⟨v0, v1, v2, rfl, h⟩ := h
  dsimp only [cxOf, L2.start]
  obtain ⟨g, z, z2, rfl, rfl, rfl, hz, hz2, ⟨O, N⟩, k⟩ := h
  have k : FAn K H g (withN z fun n => withN z2 fun o => (moveA g.room (anS g.ns) n o).map fun t => (t, FAns.non)) Q E := k
  unfold withN at k
  walk_at "s"
  refine ask1 ⟨z, rfl, hz, fun hn H1 O1 => ?_, fun names hn H1 b O1 => ?_⟩
  · rw [hn] at k
    exact k _ (O.callN O1)
  rw [hn] at k
  walk_at "s"
  refine ask1 ⟨z2, rfl, hz2, fun hn2 H2 O2 => ?_, fun others hn2 H2 b2 O2 => ?_⟩
  · rw [hn2] at k
    exact k _ (((O.callN O1).callN O2).drop (.cons _ (.refl _)))
  rw [hn2] at k
  have k : FAn K H g ((moveA g.room (anS g.ns) names others).map fun t => (t, FAns.non)) Q E := k
  have O3 : Own H H2 (adr (cPf K g)) ((b2, .lst (SV others)) :: (b, .lst (SV names)) :: cPf K g) := (O.callN O1).callN O2
  obtain ⟨hx1, hx2⟩ := namesL_low hz hn
  obtain ⟨hy1, hy2⟩ := namesL_low hz2 hn2
  unfold moveA at k
  clear O1 O2
  have BO := Box.mk O3
  clear O3
  walk_at "s"
  intro e1 he1
  have O6 := BO.out.new (o := .lst (SV [])) he1
  have he6 : upd H2 e1 (.lst (SV [])) e1 = some (.lst (SV [])) := upd_same
  have O6 : Own H (upd H2 e1 (.lst (SV []))) (adr (cPf K g)) ((b2, .lst (SV others)) :: (b, .lst (SV names)) :: cPf K g) := O6.drop (.cons _ (.refl _))
  show rEqD K (.ref b) (.ref e1) (upd H2 e1 (.lst (SV []))) _
  generalize upd H2 e1 (.lst (SV [])) = H3 at O6 he6 ⊢
  refine eq_SV (ms := []) hx1 (fun n h => absurd h (by simp)) (O6.get (.tail _ (.head _))) he6 ?_
  refine ⟨_, rfl, ?_⟩
  clear BO
  have BO := Box.mk O6
  have N3 := N.mono (H0 := H) O6
  have hp3 := O6.get (a := g.p) (o := insPf K g) (.tail _ (.tail _ (.head _)))
  clear O6 O
  refine if_d (fun h => ?_) (fun h => ?_)
  · have h : names = [] := List.map_eq_nil_iff.mp h
    rw [if_pos h] at k
    exact k _ (BO.out.drop (.cons _ (.cons _ (.refl _))))
  have hne1 : names ≠ [] := fun z => h (by rw [z])
  rw [if_neg hne1] at k
  walk_at "s"
  refine ask2 ⟨g.nd, b, g.ns, names, rfl, rfl, BO.out.nsh (fun y hy => .tail _ (.tail _ (.tail _ hy))) N3, SqL.of (BO.out.get (.tail _ (.head _))), by omega, fun e he H4 O4 => ?_, fun c hc H4 d O4 => ?_⟩
  · rw [bind_err he] at k
    exact k _ ((BO.out.callN O4).drop (.cons _ (.cons _ (.refl _))))
  rw [bind_ok hc] at k
  have O5 : Own H H4 (adr (cPf K g)) ((d, .lst (c.map V.int)) :: (b2, .lst (SV others)) :: (b, .lst (SV names)) :: cPf K g) := BO.out.callN O4
  have N5 := N.mono (H0 := H) O5
  obtain ⟨hch, hcl⟩ := walkA_ok N.ok _ _ hc
  have hp5 := O5.get (a := g.p) (o := insPf K g) (.tail _ (.tail _ (.tail _ (.head _))))
  clear BO O4 hp3 N3 he6
  have BO := Box.mk O5
  clear O5
  walk_at "s"
  refine ask2 ⟨g.nd, b2, g.ns, others, rfl, rfl, BO.out.nsh (fun y hy => .tail _ (.tail _ (.tail _ (.tail _ hy)))) N5, BO.out.get (.tail _ (.head _)), by omega, hy1, fun e he H6 O6 => ?_, fun c2 hc2 H6 d2 O6 => ?_⟩
  · rw [bind_err he] at k
    exact k _ ((BO.out.callN O6).drop (.cons _ (.cons _ (.cons _ (.refl _)))))
  rw [bind_ok hc2] at k
  obtain ⟨hne, hwk, hch2, hcl2, ss, hls, hno⟩ := newA_ok N.ok hc2
  rw [hls] at k
  obtain ⟨wp, wd, wa, wv, hw⟩ := dir_of_lk hls
  have O7 : Own H H6 (adr (cPf K g)) ((d2, .lst (c2.map V.int)) :: (d, .lst (c.map V.int)) :: (b2, .lst (SV others)) :: (b, .lst (SV names)) :: cPf K g) := BO.out.callN O6
  have N7 := N.mono (H0 := H) O7
  obtain ⟨u, hu, hul⟩ := node_of_lk (hch.in_ _ (getLastD_mem hch.ne))
  have hat := at_last hch.ne
  have hat2 := at_last hch2.ne
  have hatp := at_prev hch.ne (by have := List.length_pos_iff.mpr hne1; omega)
  have hdd := O7.get (a := d) (o := .lst (c.map V.int)) (.tail _ (.head _))
  have hd7 := O7.get (a := d2) (o := .lst (c2.map V.int)) (.head _)
  have hp7 := O7.get (a := g.p) (o := insPf K g) (.tail _ (.tail _ (.tail _ (.tail _ (.head _)))))
  have hn7 := O7.get (a := g.nd) (o := .dK (ndD g.ns)) (.tail _ (.tail _ (.tail _ (.tail _ (.tail _ (.head _))))))
  have hv : valV (ndD g.ns) (Sum.inl (lastI c)) = some (.ref u.p) := by rw [ndD_val, hu]; rfl
  have hv2 : valV (ndD g.ns) (Sum.inl (lastI c2)) = some (.ref wp) := by rw [ndD_val, hw]; rfl
  obtain ⟨hwp, hwa⟩ := FPre.at O7 (fun y hy => .tail _ (.tail _ (.tail _ (.tail _ hy)))) hw
  have hup := (FPre.at O7 (fun y hy => .tail _ (.tail _ (.tail _ (.tail _ hy)))) hu).1
  have hok := N.ok.dir (lastI c2) ss hls
  have hws := N7.v _ (lk_mem hw) ss rfl
  clear BO O6 hp5 N5
  have BO := Box.mk O7
  clear O7
  walk_at "s"
  refine cutS (fun σ' H' => σ' = [some (.ref g.p), some (.str (S z)), some (.str (S z2)), some (.ref b), some (.ref b2), some (.ref d), some (.ref d2), none] ∧ H' = H6 ∧ ¬ (isDirA (anS g.ns) (lastI c) = true ∧ lastI c ∈ c2)) (fun nx hn => ?_) ?_
  · have hid : isDirA (anS g.ns) (lastI c) = match u.n with
      | .dir _ => true
      | _ => false := by
      unfold isDirA
      rw [hul]
      cases u.n <;> rfl
    obtain ⟨up, ud, ua, uv, un⟩ := u
    cases un with
    | file l hh cs =>
      have hup : H6 up = some (.ins (He.ga K "PlainFile") ud [("contents", .ref ua), ("links", .int l), ("holds", .int hh)]) := hup
      refine .inr ?_
      walk_at "s"
      refine ask1 ?_
      walk_at "s"
      exact hn _ _ ⟨rfl, rfl, fun q => by rw [hid] at q; cases q.1⟩
    | dir us =>
      have hup : H6 up = some (.ins (He.ga K "PlainDir") ud [("slots", .ref ua)]) := hup
      refine .inl ?_
      walk_at "s"
      refine ask1 ?_
      walk_at "s"
      rw [inV_ints]
      refine if_d (fun hm => ?_) (fun hm => ?_)
      · rw [if_pos ⟨hid, hm⟩] at k
        exact k _ (BO.out.drop (.cons _ (.cons _ (.cons _ (.cons _ (.refl _))))))
      · exact hn _ _ ⟨rfl, rfl, fun q => hm q.2⟩
  rintro σ' H' ⟨rfl, rfl, hin⟩
  rw [if_neg hin] at k
  have k : FAn K H g (((if lastI c2 ≠ prevI c ∧ fullA ss = true then .error .tooMany else if lastI c2 ≠ prevI c ∧ growA g.room (anS g.ns) ss = true then .error .noSpace else .ok (addTo (dropOf (anS g.ns) (prevI c) (lastN names)) (lastI c2) (lastN others) (lastI c))) : Except FRf Tr).map fun t => (t, FAns.non)) Q E := k
  walk_at "s"
  refine cutS (fun σ' H9 => σ' = [some (.ref g.p), some (.str (S z)), some (.str (S z2)), some (.ref b), some (.ref b2), some (.ref d), some (.ref d2), some (.ref wp)] ∧ Own H H9 (adr (cPf K g)) ((d2, .lst (c2.map V.int)) :: (d, .lst (c.map V.int)) :: (b2, .lst (SV others)) :: (b, .lst (SV names)) :: cPf K g) ∧ ¬ (lastI c2 ≠ prevI c ∧ fullA ss = true) ∧ ¬ (lastI c2 ≠ prevI c ∧ growA g.room (anS g.ns) ss = true)) (fun nx hn => ?_) ?_
  · walk_at "s"
    refine if_nii (fun hnk => ?_) (fun hnk => ?_)
    · walk_at "s"
      refine ask1 ⟨wp, wd, wa, wv, ss, rfl, hwp, hwa, hws, hok.2.1, fun hf => ?_, fun hf => ?_⟩
      · rw [if_pos ⟨hnk, hf⟩] at k
        exact k _ (BO.out.drop (.cons _ (.cons _ (.cons _ (.cons _ (.refl _))))))
      have hf1 : ¬ (lastI c2 ≠ prevI c ∧ fullA ss = true) := fun q => by rw [hf] at q; cases q.2
      rw [if_neg hf1] at k
      walk_at "s"
      refine ask3 ⟨g.nd, g.ns, lastI c2, _, g.room, ss, rfl, rfl, rfl, BO.out.blk (s' := []) (.there (.there (.there (.there (.there .all))))), N7, lk_mem hw, rfl, fun hg H8 O8 => ?_, fun hg H8 O8 => ?_⟩
      · rw [if_pos ⟨hnk, hg⟩] at k
        exact k _ ((BO.out.call (.there (.there (.there (.there (.there .all))))) O8).drop (.cons _ (.cons _ (.cons _ (.cons _ (.refl _))))))
      exact hn _ _ ⟨rfl, BO.out.call (.there (.there (.there (.there (.there .all))))) O8, hf1, fun q => by rw [hg] at q; cases q.2⟩
    · exact hn _ _ ⟨rfl, BO.out, fun q => q.1 hnk, fun q => q.1 hnk⟩
  clear hup hp7 hn7 hd7 hdd hwp hwa hws N7 BO
  rintro σ' H9 ⟨rfl, O9, h1, h2⟩
  rw [if_neg h1, if_neg h2] at k
  obtain ⟨ps, hlp⟩ := prev_dir N.ok hc hne1
  obtain ⟨pp, pd, pa, pv, hpw⟩ := dir_of_lk hlp
  have hvp : valV (ndD g.ns) (Sum.inl (prevI c)) = some (.ref pp) := by rw [ndD_val, hpw]; rfl
  have N9 := N.mono (H0 := H) O9
  have hpp : H9 pp = some (.ins (He.ga K "PlainDir") pd [("slots", .ref pa)]) := (FPre.at O9 (fun y hy => .tail _ (.tail _ (.tail _ (.tail _ hy)))) hpw).1
  have hp9 := O9.get (a := g.p) (o := insPf K g) (.tail _ (.tail _ (.tail _ (.tail _ (.head _)))))
  have hn9 := O9.get (a := g.nd) (o := .dK (ndD g.ns)) (.tail _ (.tail _ (.tail _ (.tail _ (.tail _ (.head _))))))
  have hd9 := O9.get (a := d) (o := .lst (c.map V.int)) (.tail _ (.head _))
  have hb9 : SqL K H9 b (SV names) := SqL.of (O9.get (.tail _ (.tail _ (.tail _ (.head _)))))
  have hatn := at_lastN hne1
  have hatn2 := at_lastN hne
  have hsb := cPf_set (K := K) (x' := ⟨pp, pd, pa, pv, .dir ps⟩) hpw N.ok.nd' rfl
  have hokp := N.ok.dir (prevI c) ps hlp
  have BO := Box.mk O9
  clear O9
  walk_at "s"
  refine ask2 ⟨pp, pd, pa, pv, lastN names, ps, rfl, rfl, BO.out.blk (s' := cNG K ⟨pp, pd, pa, pv, .dir ps⟩) (.there (.there (.there (.there hsb)))), N9.v _ (lk_mem hpw) ps rfl, by omega, fun H10 pa' vs' O10 S10 => ?_⟩
  have hww := cPf_set (K := K) (x' := ⟨pp, pd, pa', vs', .dir (dropS ps (lastN names))⟩) hpw N.ok.nd' rfl
  have O11 := BO.out.call (.there (.there (.there (.there hww)))) O10
  have S11 : NsS H10 (setA g.ns (prevI c) ⟨pp, pd, pa', vs', .dir (dropS ps (lastN names))⟩) := (N.sl.mono (H := H) O11).set fun ss' e => by cases e; exact S10
  have hnd2 : ((setA g.ns (prevI c) ⟨pp, pd, pa', vs', .dir (dropS ps (lastN names))⟩).map (·.1)).Nodup := by rw [setA_keys]; exact N.ok.nd'
  have hu2 : ∃ xd xa xv xs, (setA g.ns (prevI c) ⟨pp, pd, pa', vs', .dir (dropS ps (lastN names))⟩).lookup (lastI c2) = some ⟨wp, xd, xa, xv, .dir xs⟩ ∧ (∀ s ∈ xs, SlOk s) ∧ xs.length ≤ 40 ∧ (dropOf (anS g.ns) (prevI c) (lastN names)).lookup (lastI c2) = some (.dir xs) := by
    unfold dropOf
    rw [hlp]
    dsimp only
    rw [lk_setA, lk_setA]
    by_cases e : lastI c2 = prevI c
    · rw [if_pos e, if_pos e, hpw, hlp]
      have h := hpw.symm.trans ((congrArg (fun k => g.ns.lookup k) e.symm).trans hw)
      cases h
      exact ⟨_, _, _, _, rfl, dropS_ok hokp.2.1, by rw [dropS_len]; exact hokp.1, rfl⟩
    · rw [if_neg e, if_neg e, hw, hls]
      exact ⟨_, _, _, _, rfl, hok.2.1, hok.1, rfl⟩
  obtain ⟨xd, xa, xv, xs, hx, hxok, hxl, hxA⟩ := hu2
  have hdo : dropOf (anS g.ns) (prevI c) (lastN names) = anS (setA g.ns (prevI c) ⟨pp, pd, pa', vs', .dir (dropS ps (lastN names))⟩) := by
    rw [anS_set]
    unfold dropOf
    rw [hlp]
  generalize hg2 : setA g.ns (prevI c) ⟨pp, pd, pa', vs', .dir (dropS ps (lastN names))⟩ = ns2 at O11 S11 hnd2 hx hdo
  have hd11 := O11.get (a := d) (o := .lst (c.map V.int)) (.tail _ (.head _))
  have hb11 : SqL K H10 b2 (SV others) := SqL.of (O11.get (.tail _ (.tail _ (.head _))))
  have hwp : H10 wp = some (.ins (He.ga K "PlainDir") xd [("slots", .ref xa)]) := (FPre.at O11 (g := { g with ns := ns2 }) (fun y hy => .tail _ (.tail _ (.tail _ (.tail _ hy)))) hx).1
  have hs3 := cPf_set (K := K) (g := { g with ns := ns2 }) (x' := ⟨wp, xd, xa, xv, .dir xs⟩) hx hnd2 rfl
  have hlow : SlOk (some (lastN others, lastI c)) := fun q hq => by cases hq; exact names_ok hn2 _ (lastN_mem hne)
  clear O10 BO hp9 hn9 hd9
  have BO := Box.mk O11
  clear O11
  walk_at "s"
  refine ask3 ⟨wp, xd, xa, xv, lastN others, lastI c, xs, rfl, rfl, rfl, BO.out.blk (s' := cNG K ⟨wp, xd, xa, xv, .dir xs⟩) (.there (.there (.there (.there hs3)))), S11 _ (lk_mem hx) xs rfl, hxok, hlow, by omega, fun H12 vs2 O12 S12 => ?_⟩
  have hs4 := cPf_set (K := K) (g := { g with ns := ns2 }) (x' := ⟨wp, xd, xa, vs2, .dir (addA xs (lastN others) (lastI c))⟩) hx hnd2 rfl
  have O13 := BO.out.call (.there (.there (.there (.there hs4)))) O12
  walk_at "s"
  refine k _ { g with ns := setA ns2 (lastI c2) ⟨wp, xd, xa, vs2, .dir (addA xs (lastN others) (lastI c))⟩ } (O13.drop (.cons _ (.cons _ (.cons _ (.cons _ (.refl _)))))) ?_ ⟨rfl, rfl, rfl, ?_⟩
  · exact (S11.mono (H := H10) O12).set fun ss' e => by cases e; exact S12
  · rw [anS_set]
    unfold addTo
    rw [hxA, hdo]

/-! ## texts of paths -/
open SX (S)
def upL : List Nat := [65, 66, 67, 68, 69, 70, 71, 72, 73, 74, 75, 76, 77, 78, 79, 80, 81, 82, 83, 84, 85, 86, 87, 88, 89, 90]
theorem ascii_all : ((List.range 128).all fun c => (Unicode.isAlpha c == (smallL.contains c || upL.contains c)) && ((Unicode.isLower c == smallL.contains c) && ((Unicode.isUpper c || Unicode.isTitle c) == upL.contains c))) = true := by decide +kernel
theorem ascii_at {c : Nat} (h : c < 128) : Unicode.isAlpha c = (smallL.contains c || upL.contains c) ∧ Unicode.isLower c = smallL.contains c ∧ (Unicode.isUpper c || Unicode.isTitle c) = upL.contains c := by
  have h1 := List.all_eq_true.mp ascii_all c (List.mem_range.mpr h)
  rw [Bool.and_eq_true, Bool.and_eq_true] at h1
  exact ⟨beq_iff_eq.mp h1.1, beq_iff_eq.mp h1.2.1, beq_iff_eq.mp h1.2.2⟩
theorem small_up {c : Nat} (h : smallL.contains c = true) : upL.contains c = false := by
  have h : c ∈ smallL := by simpa using h
  have : ∀ c ∈ smallL, upL.contains c = false := by decide
  exact this c h
theorem alpha_lower {z : List Nat} (h : ∀ c ∈ z, c < 128) (h1 : 1 ≤ z.length) : (Txt.isalpha (S z) && Txt.islower (S z)) = z.all fun c => smallL.contains c := by
  have e1 : Txt.isalpha (S z) = z.all Unicode.isAlpha := by
    unfold Txt.isalpha
    rw [SX.S_len, decide_eq_true (by omega), Bool.true_and]
    show Array.all _ _ = _
    rw [← Array.all_toList]
  have e2 : Txt.islower (S z) = (z.any Unicode.isLower && !z.any fun c => Unicode.isUpper c || Unicode.isTitle c) := by
    unfold Txt.islower
    show (Array.any _ _ && !Array.any _ _) = _
    rw [← Array.any_toList, ← Array.any_toList]
  rw [e1, e2]
  cases ha : z.all fun c => smallL.contains c with
  | true =>
    rw [List.all_eq_true] at ha
    rw [Bool.and_eq_true, Bool.and_eq_true]
    refine ⟨List.all_eq_true.mpr fun c hc => ?_, ?_, ?_⟩
    · rw [(ascii_at (h c hc)).1, ha c hc]; rfl
    · cases z with
      | nil => simp at h1
      | cons c r => rw [List.any_cons, (ascii_at (h c (.head _))).2.1, ha c (.head _)]; rfl
    · rw [Bool.not_eq_true']
      rw [List.any_eq_false]
      intro c hc
      rw [(ascii_at (h c hc)).2.2, small_up (ha c hc)]
      simp
  | false =>
    rw [Bool.and_eq_false_iff]
    obtain ⟨c, hc, hs⟩ := List.all_eq_false.mp ha
    have hs : smallL.contains c = false := by simpa using hs
    by_cases hu : upL.contains c = true
    · refine .inr ?_
      rw [Bool.and_eq_false_iff]
      refine .inr ?_
      rw [Bool.not_eq_false', List.any_eq_true]
      exact ⟨c, hc, by rw [(ascii_at (h c hc)).2.2]; exact hu⟩
    · refine .inl (List.all_eq_false.mpr ⟨c, hc, ?_⟩)
      rw [(ascii_at (h c hc)).1, hs]
      simpa using hu
def pathT (ns : List Nm) : List Nat := ns.flatMap fun n => 47 :: n
theorem pathT_snoc (ns : List Nm) (n : Nm) : pathT (ns ++ [n]) = pathT ns ++ 47 :: n := by
  unfold pathT
  rw [List.flatMap_append]
  simp
theorem pathT_app (a b : List Nm) : pathT (a ++ b) = pathT a ++ pathT b := List.flatMap_append ..
theorem pathT_cons (n : Nm) (b : List Nm) : pathT (n :: b) = 47 :: (n ++ pathT b) := rfl
theorem stroke_eq : ("/" : Str) = S [47] := by decide +kernel
theorem at_iff (z : List Nat) (i : Nat) : PySem.StrLaws.At (S z) "/" (S z).length i ↔ z[i]? = some 47 := by
  unfold PySem.StrLaws.At
  rw [PySem.StrLaws.subAt_eq, stroke_eq, SX.S_len, SX.S_len]
  show i + 1 ≤ z.length ∧ ((z.drop i).take 1 == [47]) = true ↔ _
  rw [beq_iff_eq]
  constructor
  · rintro ⟨h1, h2⟩
    rw [List.drop_eq_getElem_cons (by omega)] at h2
    have h2 : [z[i]] = [47] := h2
    rw [List.getElem?_eq_getElem (by omega)]
    exact congrArg some (List.cons.inj h2).1
  · intro h
    obtain ⟨h1, h2⟩ := List.getElem?_eq_some_iff.mp h
    refine ⟨by omega, ?_⟩
    rw [List.drop_eq_getElem_cons h1]
    show [z[i]] = [47]
    rw [h2]
theorem rfind_last {a n : List Nat} (h : 47 ∉ n) : Txt.rfind (S (a ++ 47 :: n)) "/" = (a.length : Nat) := by
  have h0 : PySem.StrLaws.At (S (a ++ 47 :: n)) "/" (S (a ++ 47 :: n)).length a.length := (at_iff _ _).mpr (by simp)
  rcases PyProof.Rows.rfind_whole (S (a ++ 47 :: n)) "/" with ⟨_, h2⟩ | ⟨i, e, h1, h2⟩
  · exact absurd h0 (h2 _)
  · rw [e]
    have h3 := (at_iff _ _).mp h1
    have h4 : ¬ i < a.length := fun hl => h2 _ hl h0
    have h5 : i = a.length := by
      refine Nat.le_antisymm (Nat.not_lt.mp fun hl => h ?_) (Nat.not_lt.mp h4)
      rw [List.getElem?_append_right (by omega)] at h3
      obtain ⟨j, hj⟩ : ∃ j, i - a.length = j + 1 := ⟨i - a.length - 1, by omega⟩
      rw [hj, List.getElem?_cons_succ] at h3
      exact List.mem_of_getElem? h3
    rw [h5]
theorem cutS_to (z : List Nat) (r : Nat) : L2.cutS (S z) none (some (r : Int)) = S (z.take r) := by
  unfold L2.cutS
  rw [HT.sIx_nat, HT.sIx_none, SX.S_len, List.drop_zero, Nat.sub_zero]
  show S (z.take _) = _
  by_cases h : r ≤ z.length
  · rw [Nat.min_eq_left h]
  · rw [Nat.min_eq_right (by omega), List.take_of_length_le (Nat.le_refl _), List.take_of_length_le (by omega)]
theorem cutS_from (z : List Nat) (r : Nat) : L2.cutS (S z) (some (r : Int)) none = S (z.drop r) := by
  unfold L2.cutS
  rw [HT.sIx_nat, HT.sIx_none, SX.S_len]
  show S ((z.drop _).take _) = _
  by_cases h : r ≤ z.length
  · rw [Nat.min_eq_left h, List.take_of_length_le (by rw [List.length_drop]; omega)]
  · rw [Nat.min_eq_right (by omega), List.drop_length, List.take_nil, List.drop_eq_nil_of_le (by omega)]
theorem starts_iff (a b : List Nat) : Txt.startswith (S a) (S b) = decide (b <+: a) := by
  unfold Txt.startswith
  rw [PySem.StrLaws.subAt_eq, SX.S_len, SX.S_len]
  show (decide _ && ((a.drop 0).take b.length == b)) = _
  rw [List.drop_zero, Nat.zero_add]
  rw [Bool.eq_iff_iff, Bool.and_eq_true, decide_eq_true_iff, beq_iff_eq, decide_eq_true_iff]
  constructor
  · rintro ⟨_, h⟩
    exact ⟨a.drop b.length, by conv => lhs; lhs; rw [← h]
                               exact List.take_append_drop _ _⟩
  · rintro ⟨r, rfl⟩
    refine ⟨by rw [List.length_append]; omega, by rw [List.take_append_of_le_length (Nat.le_refl _), List.take_of_length_le (Nat.le_refl _)]⟩
/-- no stroke in a name -/
def NoS (ns : List Nm) : Prop := ∀ n ∈ ns, 47 ∉ n
theorem key_pre {n m x y : List Nat} (hn : 47 ∉ n) (hm : 47 ∉ m) : n ++ 47 :: x <+: m ++ 47 :: y ↔ n = m ∧ x <+: y := by
  induction n generalizing m with
  | nil =>
    cases m with
    | nil => simp [List.cons_prefix_cons]
    | cons c m =>
      simp only [List.nil_append, List.cons_append, List.cons_prefix_cons]
      constructor
      · rintro ⟨rfl, _⟩
        exact absurd (.head _) hm
      · rintro ⟨h, _⟩
        cases h
  | cons c n ih =>
    cases m with
    | nil =>
      simp only [List.nil_append, List.cons_append, List.cons_prefix_cons]
      constructor
      · rintro ⟨rfl, _⟩
        exact absurd (.head _) hn
      · rintro ⟨h, _⟩
        cases h
    | cons d m =>
      simp only [List.cons_append, List.cons_prefix_cons]
      rw [ih (fun h => hn (.tail _ h)) (fun h => hm (.tail _ h))]
      constructor
      · rintro ⟨rfl, rfl, h⟩
        exact ⟨rfl, h⟩
      · rintro ⟨h, h2⟩
        cases h
        exact ⟨rfl, rfl, h2⟩
def pathX : List Nm → List Nat
  | [] => []
  | n :: r => n ++ 47 :: pathX r
theorem pathX_eq : ∀ ns : List Nm, pathT ns ++ [47] = 47 :: pathX ns
  | [] => rfl
  | n :: r => by
    rw [pathT_cons]
    show 47 :: (n ++ pathT r) ++ [47] = 47 :: (n ++ 47 :: pathX r)
    rw [← pathX_eq r]
    simp
theorem pathX_pre : ∀ {q p : List Nm}, NoS q → NoS p → (pathX q <+: pathX p ↔ q <+: p)
  | [], p, _, _ => by simp [pathX]
  | n :: q, [], _, _ => by simp [pathX]
  | n :: q, m :: p, hq, hp => by
    show n ++ 47 :: pathX q <+: m ++ 47 :: pathX p ↔ _
    rw [key_pre (hq n (.head _)) (hp m (.head _)), List.cons_prefix_cons, pathX_pre (fun x hx => hq x (.tail _ hx)) (fun x hx => hp x (.tail _ hx))]
theorem pre_in {q p : List Nm} (hq : NoS q) (hp : NoS p) : (pathT q ++ [47] <+: pathT p ++ [47]) ↔ q <+: p := by
  rw [pathX_eq, pathX_eq, List.cons_prefix_cons, pathX_pre hq hp]
  simp
theorem pre_below : ∀ {q p : List Nm}, NoS q → NoS p → (pathT q ++ [47] <+: pathT p ↔ ∃ n r, p = q ++ n :: r)
  | [], [], _, _ => by
    constructor
    · intro h
      have := h.length_le
      simp [pathT] at this
    · rintro ⟨n, r, h⟩
      cases h
  | [], m :: p, _, _ => by
    rw [pathT_cons]
    constructor
    · intro _
      exact ⟨m, p, rfl⟩
    · intro _
      exact ⟨m ++ pathT p, rfl⟩
  | n :: q, [], _, _ => by
    constructor
    · intro h
      have := h.length_le
      simp [pathT] at this
    · rintro ⟨n, r, h⟩
      cases h
  | n :: q, m :: p, hq, hp => by
    have hn := hq n (.head _)
    have hm := hp m (.head _)
    rw [pathX_eq, pathT_cons, List.cons_prefix_cons]
    show 47 = 47 ∧ n ++ 47 :: pathX q <+: m ++ pathT p ↔ _
    cases p with
    | nil =>
      constructor
      · rintro ⟨_, x, hx⟩
        have : 47 ∈ m := by
          have h1 : 47 ∈ n ++ 47 :: pathX q ++ x := List.mem_append_left _ (List.mem_append_right _ (.head _))
          rw [hx] at h1
          simpa [pathT] using h1
        exact absurd this hm
      · rintro ⟨a, r, h⟩
        have h1 := (List.cons.inj h).2
        cases q <;> cases h1
    | cons a p =>
      rw [pathT_cons, key_pre hn hm]
      have ih := pre_below (q := q) (p := a :: p) (fun x hx => hq x (.tail _ hx)) (fun x hx => hp x (.tail _ hx))
      rw [pathX_eq, pathT_cons, List.cons_prefix_cons] at ih
      constructor
      · rintro ⟨_, rfl, h⟩
        obtain ⟨b, r, e⟩ := ih.mp ⟨rfl, h⟩
        exact ⟨b, r, by rw [e]; rfl⟩
      · rintro ⟨b, r, e⟩
        have e1 := (List.cons.inj e).1
        have e2 := (List.cons.inj e).2
        exact ⟨rfl, e1.symm, (ih.mpr ⟨b, r, e2⟩).2⟩
theorem pathT_inj {q p : List Nm} (hq : NoS q) (hp : NoS p) (h : pathT q = pathT p) : q = p := by
  have h1 := (pre_in hq hp).mp (by rw [h]; exact ⟨[], List.append_nil _⟩)
  have h2 := (pre_in hp hq).mp (by rw [h]; exact ⟨[], List.append_nil _⟩)
  exact h1.eq_of_length (Nat.le_antisymm h1.length_le h2.length_le)

/-! ## the law's names of a path -/
open SX (S)
theorem spl_join : ∀ (z acc : List Nat), ∃ q r, TL.spl [47] 0 acc z = q :: r ∧ q ++ pathT r = acc ++ z
  | [], acc => ⟨acc, [], rfl, by simp [pathT]⟩
  | c :: z, acc => by
    show ∃ q r, (if TL.pre [47] (c :: z) = true then acc :: TL.spl [47] 0 [] z else TL.spl [47] 0 (acc ++ [c]) z) = q :: r ∧ _
    by_cases h : TL.pre [47] (c :: z) = true
    · rw [if_pos h]
      obtain ⟨q, r, e1, e2⟩ := spl_join z []
      refine ⟨acc, TL.spl [47] 0 [] z, rfl, ?_⟩
      have hc : c = 47 := by
        have h1 : (c == 47 && true) = true := h
        simpa using h1
      rw [e1, pathT_cons, e2, hc]
      rfl
    · rw [if_neg h]
      obtain ⟨q, r, e1, e2⟩ := spl_join z (acc ++ [c])
      exact ⟨q, r, e1, by rw [e2]; simp⟩
theorem namesL_text {z : List Nat} {ns : List Nm} (h : namesL z = some ns) : (ns = [] ∧ z = [47]) ∨ (ns ≠ [] ∧ z = pathT ns) := by
  unfold namesL at h
  split at h
  · rename_i e
    cases h
    exact .inl ⟨rfl, e⟩
  · split at h
    · cases h
    · rename_i h1 h2
      split at h
      · cases h
        refine .inr ?_
        obtain ⟨q, r, e1, e2⟩ := spl_join z []
        have e1 : pieces z = q :: r := e1
        rw [e1] at h2 ⊢
        have hq : q = [] := by
          refine Decidable.by_contra fun hq => h2 (.inr ?_)
          rw [List.head?_cons]
          exact fun z => hq (Option.some.inj z)
        rw [hq] at e2
        have e2 : pathT r = z := e2
        refine ⟨?_, e2.symm⟩
        rintro h3
        have h3 : r = [] := h3
        exact h2 (.inl (by rw [h3]; simp))
      · cases h
theorem noS_of {z : List Nat} {ns : List Nm} (h : namesL z = some ns) : NoS ns := by
  intro n hn h2
  have h3 := namesL_all h n hn
  unfold nameB at h3
  rw [Bool.and_eq_true, Bool.and_eq_true] at h3
  have h4 := List.all_eq_true.mp h3.2.2 47 h2
  exact absurd h4 (by decide)
theorem inV_false (bs : List Bool) : inV (.bl false) (bs.map V.bl) = !(bs.all id) := by
  induction bs with
  | nil => rfl
  | cons b r ih =>
    have e : inV (.bl false) ((b :: r).map V.bl) = (eqV (.bl b) (.bl false) || inV (.bl false) (r.map V.bl)) := by
      unfold inV
      rw [List.map_cons, List.any_cons]
    rw [e, ih, List.all_cons]
    cases b <;> rfl
def sp__law_names (K : PySem.W.Frag) : Sp := sp1 fun x H Q _ => ∃ z, x = .str (S z) ∧ TxO z ∧ (∀ c ∈ z, c < 128) ∧ (namesL z = none → ∀ H', Own H H' [] [] → Q .non H') ∧ (∀ ns, namesL z = some ns → ∀ H' b, Own H H' [] [(b, .lst (SV ns))] → Q (.ref b) H')
def fitB (q : List Nat) : Bool := nameB q
theorem pieces_asc {z : List Nat} (h : ∀ c ∈ z, c < 128) {p : List Nat} (hp : p ∈ pieces z) : ∀ c ∈ p, c < 128 := fun c hc => by
  obtain ⟨_, h2⟩ := (spl1 47 z []).2.2 p hp
  rcases h2 c hc with q | q
  · cases q
  · exact h c q
theorem sc__law_names : FnScope ["_law_path_here", "_law_pieces", "_law_fits", "_law_piece"] ["_law_path_here"] (defScope s__law_names) := ⟨rfl, rfl, rfl, by decide +kernel, rfl, by decide +kernel, by decide +kernel⟩
theorem ok__law_names {P : Program} {w : World} {K : PySem.W.Frag} {mg : Str → Option Value} {base : Heap} (T : Txt K mg) : Cee P w K mg base 1 (He.fAd K ("_law_names", none)) ["_law_path_here"] (sp__law_names K) := by
  refine cee_of T.d__law_names sc__law_names (fun _ _ _ _ _ _ us hl => match us, hl with | [_], _ => rfl) (fun vs H Q E h => sp1_len h) (fun cdv A outer s H vs Q E hr h => ⟨_, (pss_cons (ps_if (pt_cmpR op_eq (pv 0) pe_str (nomark _)) (pss_one (ps_ret (pe_lst pa_nil))) pss_nil) (pss_cons (ps_set (i := 1) sc__law_names.nd rfl (Or.inl rfl) (pe_split (pv 0) pe_str)) (pss_cons (ps_setLc (i := 2) (own := [("_law_piece", 3)]) (by rfl) sc__law_names.nd rfl rfl (sw_true rfl rfl rfl (by decide +kernel)) (PI.box (pi_list (pe_slice sl_list (pv 1) (po_some pe_int) po_none))) (blkOk_by (own := [("_law_piece", 3)]) (N := ["_law_path_here", "_law_pieces", "_law_fits", "_law_piece"]) (sc := defScope s__law_names) (by decide +kernel)) (fun _ _ _ _ _ => (pg_name (i := 3) sc__law_names.nd rfl (Or.inl rfl))) (fun _ _ _ _ _ => pts_nil) (fun _ _ _ _ _ => (pe_and (pe_chain op_le op_le pe_int (pe_callB call_len_str (by rfl) T.n_len (by decide +kernel) (pa_cons (pv 3) pa_nil)) pe_int) (pe_and (show PE _ _ (tBM0 K _ _ _) from (pe_bm0 PySem.F.plainAttrs_str PySem.F.slot_str_isalpha PySem.F.type_str_isalpha mt_isalpha (pv 3))) (pe_one (show PE _ _ (tBM0 K _ _ _) from (pe_bm0 PySem.F.plainAttrs_str PySem.F.slot_str_islower PySem.F.type_str_islower mt_islower (pv 3)))))))) (pss_cons (PS.box (ps_if (PW.pt (pw_or (pt_cmpR op_lt (pe_callB call_len_seq (by rfl) T.n_len (by decide +kernel) (pa_cons (pv 1) pa_nil)) pe_int (nomark _)) (pw_or (pt_cmpR op_ne (pe_ix ix_list (pv 1) pe_int (fun _ _ => rfl)) pe_str (nomark _)) (pw_or1 (pt_cmpR op_in_seq pe_bl (pv 2) (by with_unfolding_all rfl)))))) (pss_one (ps_ret pe_non)) pss_nil)) (pss_one (ps_ret (pe_slice sl_list (pv 1) (po_some pe_int) po_none))))))), ?_⟩)
  obtain ⟨v0, rfl, h⟩ := h
  dsimp only [cxOf, L2.start]
  obtain ⟨z, rfl, hz, hasc, ke, k⟩ := h
  have hl := S_len5 hz.len
  walk_at "s"
  refine if_ss (fun e => ?_) (fun e => ?_)
  · have ez : z = [47] := SX.S_inj (e.trans (by decide +kernel))
    walk_at "s"
    intro b hb
    exact k [] (by unfold namesL; rw [if_pos ez]) _ b (Own.start.new hb)
  · have ez : z ≠ [47] := fun h => e (by rw [h]; decide +kernel)
    walk_at "s"
    refine ⟨by decide +kernel, hl, fun b hb => ?_⟩
    rw [split_pieces, List.map_map]
    have hpf := pieces_few (z := z)
    have hzl := hz.len
    refine (Own.start (H := H)).sG hb fun H1 O1 _ => ?_
    have O1 : Own H H1 [] [(b, .lst (SV (pieces z)))] := O1
    have hb1 : H1 b = some (.lst (SV (pieces z))) := O1.get (.head _)
    have hbl : (SV (pieces z)).length = (pieces z).length := List.length_map ..
    obtain ⟨p0, hp0⟩ : ∃ p0, (pieces z)[0]? = some p0 := ⟨(pieces z)[0]'(by omega), List.getElem?_eq_getElem _⟩
    have hat : atI (SV (pieces z)) 0 = some (.str (S p0)) := atI_nat (j := 0) (by rw [List.getElem?_map, hp0]; rfl)
    have hhd : (pieces z).head? = some p0 := by rw [List.head?_eq_getElem?]; exact hp0
    have hns : namesL z = if (pieces z).length < 2 ∨ (pieces z).head? ≠ some [] then none else if (pieces z).tail.all nameB then some (pieces z).tail else none := by unfold namesL; rw [if_neg ez]
    have hcut : cutV (SV (pieces z)) (some 1) none = SV (pieces z).tail := (cutV_from _ 1).trans (by rw [← List.map_drop, List.drop_one])
    have htl : ∀ q ∈ (pieces z).tail, q.length ≤ 5000 := fun q hq => (pieces_low hz (List.mem_of_mem_tail hq)).len
    have hb1s : SqL K H1 b (SV (pieces z)) := SqL.of hb1
    walk_at "s"
    rw [hcut]
    intro c hc
    have O3 := O1.new (o := .lst (SV (pieces z).tail)) hc
    generalize upd H1 c _ = H3 at O3 ⊢
    have hc3 : SqL K H3 c (SV (pieces z).tail) := SqL.of (O3.get (.head _))
    walk_at "s"
    refine lcL (xs := SV (pieces z).tail) (fun D i H' => Own H H' [] [(D, .lst ((((pieces z).tail.take i).map nameB).map V.bl)), (c, .lst (SV (pieces z).tail)), (b, .lst (SV (pieces z)))]) ?_ ?_ ?_ ?_
    · intro D hD
      exact O3.new hD
    · intro D i H' _ O
      exact SqL.of (O.get (.tail _ (.head _)))
    · intro D i x H' hx O
      obtain ⟨q, hq, rfl⟩ := SV_get hx
      have hql := htl q (List.mem_of_getElem? hq)
      have hqlen := SX.S_len q
      have hqa := alpha_lower (pieces_asc hasc (List.mem_of_mem_tail (List.mem_of_getElem? hq)))
      have hD := O.get (.head _)
      have hll : ((((pieces z).tail.take i).map nameB).map V.bl).length < 100000 := by
        rw [List.length_map, List.length_map, List.length_take, List.length_tail]
        omega
      have hN : nameB q = (decide (1 ≤ q.length) && (decide (q.length ≤ 6) && q.all fun c => smallL.contains c)) := rfl
      rw [take_succ hq, List.map_append, List.map_append, show List.map V.bl (List.map nameB [q]) = [V.bl (nameB q)] from rfl]
      walk_at "s"
      refine if_d (fun h1 => ?_) (fun h1 => ?_)
      · rw [decide_eq_true (show 1 ≤ q.length by omega), Bool.true_and, ← hqa (by omega)] at hN
        walk_at "s"
        refine if_d (fun h2 => ?_) (fun h2 => ?_)
        · rw [decide_eq_true (show q.length ≤ 6 by omega), Bool.true_and] at hN
          walk_at "s"
          refine ⟨True.intro, _, rfl, ?_⟩
          refine if_b (fun h3 => ?_) (fun h3 => ?_)
          · rw [h3, Bool.true_and] at hN
            walk_at "s"
            refine ⟨True.intro, ?_⟩
            rw [← hN]
            walk_at "s"
            exact ⟨O.wr .here⟩
          · rw [h3, Bool.false_and] at hN
            walk_at "s"
            rw [hN]
            exact ⟨O.wr .here⟩
        · rw [decide_eq_false (show ¬ q.length ≤ 6 by omega), Bool.false_and] at hN
          walk_at "s"
          rw [hN]
          exact ⟨O.wr .here⟩
      · rw [decide_eq_false (show ¬ 1 ≤ q.length by omega), Bool.false_and] at hN
        walk_at "s"
        rw [hN]
        exact ⟨O.wr .here⟩
    · intro D H' O
      rw [show (SV (pieces z).tail).length = (pieces z).tail.length from List.length_map .., List.take_length] at O
      have hb4 : SqL K H' b (SV (pieces z)) := SqL.of (O.get (.tail _ (.tail _ (.head _))))
      have hD := O.get (.head _)
      have hDs : SqL K H' D ((((pieces z).tail).map nameB).map V.bl) := SqL.of hD
      walk_at "s"
      refine cutS (fun σ' H2 => ∃ v3 : Option V, σ' = [some (.str (S z)), some (.ref b), some (.ref D), v3] ∧ Own H H2 [] [(D, .lst ((((pieces z).tail).map nameB).map V.bl)), (c, .lst (SV (pieces z).tail)), (b, .lst (SV (pieces z)))] ∧ 2 ≤ (pieces z).length ∧ p0 = [] ∧ (pieces z).tail.all nameB = true) (fun nx hn => ?_) ?_
      · walk_at "s"
        refine if_d (fun h1 => ?_) (fun h1 => ?_)
        · exact ke (by rw [hns, if_pos (.inl (by omega))]) _ (O.drop (List.nil_sublist _))
        walk_at "s"
        refine if_nss (fun h3 => ?_) (fun h3 => ?_)
        · exact ke (by rw [hns, if_pos (.inr (by rw [hhd]; exact fun z => h3 (by rw [Option.some.inj z]; decide +kernel)))]) _ (O.drop (List.nil_sublist _))
        have hp00 : p0 = [] := SX.S_inj (h3.trans (by decide +kernel))
        walk_at "s"
        rw [inV_false]
        refine ⟨by rw [List.all_map]; exact List.all_eq_true.mpr fun _ _ => rfl, _, rfl, ?_⟩
        rw [if_neg Bool.false_ne_true]
        cases hall : (pieces z).tail.all nameB with
        | true =>
          have hb : (!((pieces z).tail.map nameB).all id) = false := by rw [List.all_map, show (id ∘ nameB) = nameB from rfl, hall]; rfl
          refine if_f hb ?_
          exact hn _ _ ⟨_, rfl, O, by omega, hp00, hall⟩
        | false =>
          have hb : (!((pieces z).tail.map nameB).all id) = true := by rw [List.all_map, show (id ∘ nameB) = nameB from rfl, hall]; rfl
          refine if_t hb ?_
          refine ke ?_ _ (O.drop (List.nil_sublist _))
          rw [hns, if_neg (by rw [hhd, hp00]; intro q; rcases q with q | q; (· omega); exact q rfl), hall]
          rfl
      rintro σ' H2 ⟨v3, rfl, O5, h2, rfl, hall⟩
      have hb5 : SqL K H2 b (SV (pieces z)) := SqL.of (O5.get (.tail _ (.tail _ (.head _))))
      rw [if_neg (by rw [hhd]; intro q; rcases q with q | q; (· omega); exact q rfl), if_pos hall] at hns
      walk_at "s"
      rw [hcut]
      intro d hd
      exact k _ hns _ d ((O5.new hd).drop (.cons₂ _ (List.nil_sublist _)))

/-! ## the law's own world of files -/
open SX (S)
structure MW where
  at_ : List (List Nm × Int)
  sl : List (Int × List (Option Nm))
  ce : List (Int × List Int)
  ho : List (Int × Int)
  room : Int
structure MG where
  D : Addr
  AD : Addr
  SD : Addr
  CD : Addr
  HD : Addr
  at_ : List (List Nm × Int)
  sl : List (Int × Addr × List (Option Nm))
  ce : List (Int × Addr × List Int)
  ho : List (Int × Int)
  room : Int
def MG.abs (g : MG) : MW := ⟨g.at_, g.sl.map fun x => (x.1, x.2.2), g.ce.map fun x => (x.1, x.2.2), g.ho, g.room⟩
def onV : Option Nm → V
  | none => .non
  | some n => .str (S n)
abbrev wD (g : MG) : List (Key × V) := [(Sum.inr "at", .ref g.AD), (Sum.inr "slots", .ref g.SD), (Sum.inr "cells", .ref g.CD), (Sum.inr "holds", .ref g.HD), (Sum.inr "room", .int g.room)]
abbrev atD (l : List (List Nm × Int)) : List (Key × V) := l.map fun x => (Sum.inr (S (pathT x.1)), V.int x.2)
abbrev slD (l : List (Int × Addr × List (Option Nm))) : List (Key × V) := l.map fun x => (Sum.inl x.1, V.ref x.2.1)
abbrev ceD (l : List (Int × Addr × List Int)) : List (Key × V) := l.map fun x => (Sum.inl x.1, V.ref x.2.1)
abbrev hoD (l : List (Int × Int)) : List (Key × V) := l.map fun x => (Sum.inl x.1, V.int x.2)
abbrev cSl (l : List (Int × Addr × List (Option Nm))) : Cells := l.map fun x => (x.2.1, HO.lst (x.2.2.map onV))
abbrev cCe (l : List (Int × Addr × List Int)) : Cells := l.map fun x => (x.2.1, HO.lst (x.2.2.map V.int))
def cMW (g : MG) : Cells := (g.D, .dK (wD g)) :: (g.AD, .dK (atD g.at_)) :: (g.SD, .dK (slD g.sl)) :: (g.CD, .dK (ceD g.ce)) :: (g.HD, .dK (hoD g.ho)) :: (cSl g.sl ++ cCe g.ce)
/-- the sense of a world: what the walks need -/
structure MOk (m : MW) : Prop where
  names : ∀ x ∈ m.at_, NoS x.1 ∧ (∀ n ∈ x.1, n.length ≤ 6 ∧ ∀ c ∈ n, c < 128) ∧ x.1.length ≤ 30
  ndk : (m.at_.map (·.1)).Nodup
  few : m.at_.length ≤ 1000
  root : m.at_.lookup [] = some 0
  ends : ∀ x ∈ m.at_, (m.sl.lookup x.2).isSome = true ∨ (m.ce.lookup x.2).isSome = true
  nds : (m.sl.map (·.1)).Nodup
  ndc : (m.ce.map (·.1)).Nodup
  apart : ∀ k, (m.sl.lookup k).isSome = true → m.ce.lookup k = none
  fews : m.sl.length + m.ce.length ≤ 24
  slen : ∀ x ∈ m.sl, x.2.length ≤ 40
  clen : ∀ x ∈ m.ce, x.2.length ≤ 320
theorem at_val {l : List (List Nm × Int)} (h : ∀ x ∈ l, NoS x.1) {p : List Nm} (hp : NoS p) : valV (atD l) (Sum.inr (S (pathT p))) = (l.lookup p).map V.int := by
  induction l with
  | nil => rfl
  | cons x r ih =>
    obtain ⟨q, k⟩ := x
    have ih := ih fun x hx => h x (.tail _ hx)
    show valV ((Sum.inr (S (pathT q)), V.int k) :: atD r) _ = _
    rw [List.lookup_cons]
    by_cases e : p = q
    · subst e
      rw [valV_pos rfl]
      simp
    · rw [valV_neg (fun z => e (pathT_inj hp (h _ (.head _)) (SX.S_inj (Sum.inr.inj z)).symm)), show (p == q) = false by simpa using e]
      exact ih
theorem sl_val (l : List (Int × Addr × List (Option Nm))) (k : Int) : valV (slD l) (Sum.inl k) = (l.lookup k).map fun x => V.ref x.1 := lk_val (fun x : Addr × List (Option Nm) => V.ref x.1) l k
theorem ce_val (l : List (Int × Addr × List Int)) (k : Int) : valV (ceD l) (Sum.inl k) = (l.lookup k).map fun x => V.ref x.1 := lk_val (fun x : Addr × List Int => V.ref x.1) l k
/-- a walk along names in the law's world -/
def seekM (m : MW) : List Nm → List Nm → Option FRf
  | _, [] => none
  | p, n :: r => if (m.at_.lookup p).any (fun k => (m.ce.lookup k).isSome) = true then some .notDir else if m.at_.lookup (p ++ [n]) = none then some .noName else seekM m (p ++ [n]) r
theorem pathT_len {p : List Nm} (h : ∀ n ∈ p, n.length ≤ 6) : (pathT p).length ≤ 7 * p.length := by
  induction p with
  | nil => simp [pathT]
  | cons n r ih =>
    have h1 := ih fun x hx => h x (.tail _ hx)
    have h2 := h n (.head _)
    rw [pathT_cons, List.length_cons, List.length_append, List.length_cons]
    omega
theorem txt_snoc (p : List Nm) (n : Nm) : S (pathT p) ++ ("/" : Str) ++ S n = S (pathT (p ++ [n])) := by
  rw [pathT_snoc, stroke_eq]
  apply congrArg Str.mk
  show (pathT p).toArray ++ [47].toArray ++ n.toArray = _
  simp
theorem lkL_mem {l : List (List Nm × Int)} {p : List Nm} {k : Int} (h : l.lookup p = some k) : (p, k) ∈ l := by
  induction l with
  | nil => cases h
  | cons x r ih =>
    obtain ⟨q, j⟩ := x
    rw [List.lookup_cons] at h
    by_cases e : p = q
    · subst e
      simp at h
      rw [h]
      exact .head _
    · rw [show (p == q) = false by simpa using e] at h
      exact .tail _ (ih h)
theorem abs_ce (g : MG) (k : Int) : g.abs.ce.lookup k = (g.ce.lookup k).map (·.2) := lk_map (fun x : Addr × List Int => x.2) g.ce k
theorem abs_sl (g : MG) (k : Int) : g.abs.sl.lookup k = (g.sl.lookup k).map (·.2) := lk_map (fun x : Addr × List (Option Nm) => x.2) g.sl k
def pairV (H : Hp) (T : Addr) (w t : Str) : Prop := H T = some (.tup [.str w, .str t])
/-- a pair of a refusal's word and a place -/
def Pr2 (H : Hp) (A : List Addr) (cs : Cells) (w t : Str) (Q : VK) : Prop := ∀ H' T, Own H H' A cs → H' T = some (.tup [.str w, .str t]) → Q (.ref T) H'
def sp__law_blocks (K : PySem.W.Frag) : Sp := sp1 fun x H Q _ => ∃ c, x = .int c ∧ Q (.int (blk c)) H
def sp__law_begun (K : PySem.W.Frag) : Sp := sp1 fun x H Q _ => ∃ room, x = .int room ∧ ∀ H' g, Own H H' [] (cMW g) → g.abs = ⟨[([], 0)], [(0, [])], [], [], room⟩ → Q (.ref g.D) H'
def sp__law_seek (K : PySem.W.Frag) : Sp := sp2 fun x y H Q _ => ∃ g a, ∃ names : List Nm, x = .ref g.D ∧ y = .ref a ∧ Own H H (adr (cMW g)) (cMW g) ∧ MOk g.abs ∧ H a = some (.lst (SV names)) ∧ a ∉ adr (cMW g) ∧ (∀ n ∈ names, n.length ≤ 6 ∧ 47 ∉ n) ∧ names.length ≤ 5001 ∧
  (∀ e, seekM g.abs [] names = some e → Pr2 H (adr (cMW g)) (cMW g) e.word "" Q) ∧ (seekM g.abs [] names = none → Pr2 H (adr (cMW g)) (cMW g) "" (S (pathT names)) Q)
theorem perm6 (a b c d e f : Addr × HO) : List.Perm [a, b, c, d, e, f] [f, e, d, b, a, c] := by walk_at "pm"
theorem sc__law_blocks : FnScope ["_law_many"] ["_law_many"] (defScope s__law_blocks) := ⟨rfl, rfl, rfl, by decide +kernel, rfl, by decide +kernel, by decide +kernel⟩
theorem ok__law_blocks {P : Program} {w : World} {K : PySem.W.Frag} {mg : Str → Option Value} {base : Heap} (T : Txt K mg) : Cee P w K mg base 1 (He.fAd K ("_law_blocks", none)) ["_law_many"] (sp__law_blocks K) := by
  refine cee_of T.d__law_blocks sc__law_blocks (fun _ _ _ _ _ _ us hl => match us, hl with | [_], _ => rfl) (fun vs H Q E h => sp1_len h) (fun cdv A outer s H vs Q E hr h => ⟨_, (pss_one (ps_ret (pe_op op_add (pe_op op_fdiv (pe_op op_add (pv 0) pe_int) pe_int) (pe_callTy call_intB (by rfl) T.n_int (by decide +kernel) (pa_cons (pe_cmpR op_gt (pv 0) pe_int (nomark _)) pa_nil))))), ?_⟩)
  obtain ⟨v0, rfl, h⟩ := h
  dsimp only [cxOf, L2.start]
  obtain ⟨c, rfl, k⟩ := h
  walk_at "s"
  have e : blk c = (c + 15) / 16 + (if decide (64 < c) = true then 1 else 0) := by
    unfold blk
    by_cases h : c > 64
    · rw [if_pos h, if_pos (by simpa using h)]
    · rw [if_neg h, if_neg (by simpa using h)]
  rw [e] at k
  exact k
theorem sc__law_begun : FnScope ["_law_room"] ["_law_room"] (defScope s__law_begun) := ⟨rfl, rfl, rfl, by decide +kernel, rfl, by decide +kernel, by decide +kernel⟩
theorem ok__law_begun {P : Program} {w : World} {K : PySem.W.Frag} {mg : Str → Option Value} {base : Heap} (T : Txt K mg) : Cee P w K mg base 1 (He.fAd K ("_law_begun", none)) ["_law_room"] (sp__law_begun K) := by
  refine cee_of T.d__law_begun sc__law_begun (fun _ _ _ _ _ _ us hl => match us, hl with | [_], _ => rfl) (fun vs H Q E h => sp1_len h) (fun cdv A outer s H vs Q E hr h => ⟨_, (pss_one (ps_ret (pe_disp (pps_cons pe_str (pe_disp (pps_cons pe_str pe_int pps_nil) (by rfl) (by rfl) (fun z => by cases z) (by decide)) (pps_cons pe_str (pe_disp (pps_cons pe_int (pe_lst pa_nil) pps_nil) (by rfl) (by rfl) (fun z => by cases z) (by decide)) (pps_cons pe_str pe_dnewK (pps_cons pe_str pe_dnewK (pps_cons pe_str (pv 0) pps_nil))))) (by rfl) (by rfl) (fun z => by cases z) (by decide)))), ?_⟩)
  obtain ⟨v0, rfl, h⟩ := h
  dsimp only [cxOf, L2.start]
  obtain ⟨room, rfl, k⟩ := h
  dsimp only [tRet, tDisp]
  walk_at "s"
  intro D hD
  have O1 := (Own.start (H := H)).new (o := .dK []) hD
  generalize hg1 : upd H D _ = H1 at O1 ⊢
  dsimp only [tPairs]
  walk_at "s"
  dsimp only [tDisp]
  intro AD hAD
  have O2 := O1.new (o := .dK []) hAD
  generalize hg2 : upd H1 AD _ = H2 at O2 ⊢
  dsimp only [tPairs]
  walk_at "s"
  refine ⟨(rfl : _ = List.map (fun kv : Key × V => (kV kv.1, kv.2)) [(Sum.inr "", V.int 0)]), by show 1 ≤ 15; decide, ?_⟩
  have O3 := O2.wr (a := AD) (o' := .dK [(Sum.inr "", V.int 0)]) .here
  intro SD hSD
  have O4 := O3.new (o := .dK []) hSD
  walk_at "s"
  intro s0 hs0
  have O5 := O4.new (o := .lst []) hs0
  have hS5 := O5.get (a := SD) (o := .dK []) (.tail _ (.head _))
  refine ⟨hS5, _, (rfl : _ = List.map (fun kv : Key × V => (kV kv.1, kv.2)) [(Sum.inl 0, V.ref s0)]), by show 1 ≤ 15; decide, ?_⟩
  have O6 := O5.wr (a := SD) (o' := .dK [(Sum.inl 0, V.ref s0)]) (.there .here)
  intro CD hCD
  have O7 := O6.new (o := .dK []) hCD
  intro HD hHD
  have O8 := O7.new (o := .dK []) hHD
  walk_at "s"
  refine ⟨(rfl : _ = List.map (fun kv : Key × V => (kV kv.1, kv.2)) (wD ⟨D, AD, SD, CD, HD, [([], 0)], [(0, s0, [])], [], [], room⟩)), by show 5 ≤ 15; decide, ?_⟩
  have O9 := O8.wr (a := D) (o' := .dK (wD ⟨D, AD, SD, CD, HD, [([], 0)], [(0, s0, [])], [], [], room⟩)) (.there (.there (.there (.there (.there .here)))))
  have e0 : ([((Sum.inr "" : Key), V.int 0)] : List (Key × V)) = atD [([], 0)] := by
    show [((Sum.inr "" : Key), V.int 0)] = [(Sum.inr (S []), V.int 0)]
    rw [show ("" : Str) = S [] from by decide +kernel]
  rw [e0] at O9
  exact k _ ⟨D, AD, SD, CD, HD, [([], 0)], [(0, s0, [])], [], [], room⟩ (O9.perm (perm6 _ _ _ _ _ _)) rfl
theorem sc__law_seek : FnScope ["_law_world", "_law_pieces", "_law_text", "_law_piece"] ["_law_world", "_law_pieces"] (defScope s__law_seek) := ⟨rfl, rfl, rfl, by decide +kernel, rfl, by decide +kernel, by decide +kernel⟩
theorem ok__law_seek {P : Program} {w : World} {K : PySem.W.Frag} {mg : Str → Option Value} {base : Heap} (T : Txt K mg) : Cee P w K mg base 1 (He.fAd K ("_law_seek", none)) ["_law_world", "_law_pieces"] (sp__law_seek K) := by
  refine cee_of T.d__law_seek sc__law_seek (fun _ _ _ _ _ _ us hl => match us, hl with | [_, _], _ => rfl) (fun vs H Q E h => sp2_len h) (fun cdv A outer s H vs Q E hr h => ⟨_, (pss_cons (ps_set (i := 2) sc__law_seek.nd rfl (Or.inl rfl) pe_str) (pss_cons (ps_for (passes_of rfl) rfl (PI.box (pi_list (pv 1))) (pg_name (i := 3) sc__law_seek.nd rfl (Or.inl rfl)) (pss_cons (ps_if (pt_cmp (pc_din (hu_of hr) (pe_dget (hu_of hr) (pe_dget (hu_of hr) (pv 0) pe_str (fun _ _ => rfl)) (pv 2) (fun _ _ => rfl)) (pe_dget (hu_of hr) (pv 0) pe_str (fun _ _ => rfl))) (by with_unfolding_all rfl)) (pss_one (ps_ret (pe_tup (pa_cons pe_str (pa_cons pe_str pa_nil))))) pss_nil) (pss_cons (ps_set (i := 2) sc__law_seek.nd rfl (Or.inl rfl) (pe_op op_add_str (pe_op op_add_str (pv 2) pe_str) (pv 3))) (pss_one (ps_if (pt_cmp (pc_dnotin (hu_of hr) (pv 2) (pe_dget (hu_of hr) (pv 0) pe_str (fun _ _ => rfl))) (by with_unfolding_all rfl)) (pss_one (ps_ret (pe_tup (pa_cons pe_str (pa_cons pe_str pa_nil))))) pss_nil))))) (pss_one (ps_ret (pe_tup (pa_cons pe_str (pa_cons (pv 2) pa_nil))))))), ?_⟩)
  obtain ⟨v0, v1, rfl, h⟩ := h
  dsimp only [cxOf, L2.start]
  obtain ⟨g, a, names, rfl, rfl, O, M, ha, han, hnm, hl, ke, k⟩ := h
  have hD := O.get (a := g.D) (o := .dK (wD g)) (.head _)
  have hA := O.get (a := g.AD) (o := .dK (atD g.at_)) (.tail _ (.head _))
  have hC := O.get (a := g.CD) (o := .dK (ceD g.ce)) (.tail _ (.tail _ (.tail _ (.head _))))
  have hvA : valV (wD g) (Sum.inr "at") = some (.ref g.AD) := rfl
  have hvC : valV (wD g) (Sum.inr "cells") = some (.ref g.CD) := rfl
  have hns : NoS names := fun n hn => (hnm n hn).2
  have hkeys : ∀ x ∈ g.at_, NoS x.1 := fun x hx => (M.names x hx).1
  have has : SqL K H a (SV names) := SqL.of ha
  have BO := Box.mk O
  walk_at "clo"
  walk_at "s"
  refine forL (xs := SV names) (fun i σ H' => ∃ v3 : Option V, σ = [some (.ref g.D), some (.ref a), some (.str (S (pathT (names.take i)))), v3] ∧ H' = H ∧ (g.at_.lookup (names.take i)).isSome = true ∧ seekM g.abs [] names = seekM g.abs (names.take i) (names.drop i)) ⟨_, rfl, rfl, by rw [show (g.at_.lookup (names.take 0)) = some 0 from M.root]; rfl, rfl⟩ (fun i σ H' _ ⟨_, _, e, _⟩ => by rw [e]; exact has) ?_ ?_
  · rintro i x σ H' hx ⟨v3, rfl, rfl, hin, hsk⟩
    obtain ⟨n, hn, rfl⟩ := SV_get hx
    obtain ⟨j, hj⟩ := Option.isSome_iff_exists.mp hin
    have hts : NoS (names.take i) := fun n hn => hns n (List.mem_of_mem_take hn)
    have hva : valV (atD g.at_) (Sum.inr (S (pathT (names.take i)))) = some (.int j) := by rw [at_val hkeys hts, hj]; rfl
    have hdrop : names.drop i = n :: names.drop (i + 1) := by
      have hi := (List.getElem?_eq_some_iff.mp hn).1
      rw [List.drop_eq_getElem_cons hi]
      congr 1
      rw [List.getElem?_eq_getElem hi] at hn
      exact Option.some.inj hn
    have hpt := (M.names _ (lkL_mem hj)).2
    have hpl := pathT_len fun n hn => (hpt.1 n hn).1
    have hnl := (hnm n (List.mem_of_getElem? hn)).1
    have hs1 := SX.S_len (pathT (names.take i))
    have hs2 := SX.S_len n
    have hs3 : ("/" : Str).length = 1 := by decide +kernel
    have hs4 : (S (pathT (names.take i)) ++ ("/" : Str)).length = (pathT (names.take i)).length + 1 := by rw [Str.length_append, hs1, hs3]
    have hsk2 : seekM g.abs (names.take i) (names.drop i) = if ((g.ce.lookup j).isSome) = true then some .notDir else if g.at_.lookup (names.take (i + 1)) = none then some .noName else seekM g.abs (names.take (i + 1)) (names.drop (i + 1)) := by
      rw [hdrop, take_succ hn]
      show (if (g.at_.lookup (names.take i)).any (fun k => (g.abs.ce.lookup k).isSome) = true then _ else _) = _
      rw [hj]
      show (if (g.abs.ce.lookup j).isSome = true then _ else _) = _
      rw [abs_ce, Option.isSome_map]
      rfl
    have hcat := txt_snoc (names.take i) n
    rw [← take_succ hn] at hcat
    have hts2 : NoS (names.take (i + 1)) := fun n hn => hns n (List.mem_of_mem_take hn)
    walk_at "s"
    rw [ce_val, Option.isSome_map]
    refine if_b (fun h1 => ?_) (fun h1 => ?_)
    · rw [if_pos h1] at hsk2
      walk_at "s"
      intro T hT
      exact ke .notDir (hsk.trans hsk2) _ T ((BO.out.new hT).drop (.cons _ (.refl _))) upd_same
    rw [if_neg (by rw [h1]; simp)] at hsk2
    have hpl1 : (pathT (names.take i)).length ≤ 7 * (names.take i).length := hpl
    have hpl3 : (names.take i).length ≤ 30 := hpt.2
    have hpl2 : (pathT (names.take i)).length ≤ 210 := by omega
    have hz1 : (S (pathT (names.take i))).length + ("/" : Str).length ≤ sizeLine := sz_le (by omega)
    have hz2 : (S (pathT (names.take i)) ++ ("/" : Str)).length + (S n).length ≤ sizeLine := by
      have h1 : (S (pathT (names.take i)) ++ ("/" : Str)).length ≤ 211 := by rw [hs4]; omega
      have h2 : (S n).length ≤ 6 := by rw [hs2]; exact hnl
      refine sz_le ?_
      generalize (S (pathT (names.take i)) ++ ("/" : Str)).length = u at h1 ⊢
      generalize (S n).length = v at h2 ⊢
      omega
    walk_at "s"
    rw [hcat]
    rw [at_val hkeys hts2, Option.isSome_map]
    cases hnx : g.at_.lookup (names.take (i + 1)) with
    | none =>
      rw [if_pos hnx] at hsk2
      refine if_t rfl ?_
      walk_at "s"
      intro T hT
      exact ke .noName (hsk.trans hsk2) _ T ((BO.out.new hT).drop (.cons _ (.refl _))) upd_same
    | some q =>
      rw [if_neg (by rw [hnx]; exact nofun)] at hsk2
      refine if_f rfl ?_
      exact ⟨⟨_, rfl, rfl, rfl, hsk.trans hsk2⟩⟩
  · rintro σ H' ⟨v3, rfl, rfl, hin, hsk⟩
    rw [show (SV names).length = names.length from List.length_map .., List.take_length] at hin hsk ⊢
    rw [List.drop_length] at hsk
    walk_at "s"
    intro T hT
    exact k hsk _ T (BO.out.new hT |>.drop (.cons _ (.refl _))) upd_same

/-! ## the law's world: places of paths -/
open SX (S)
def foundM (m : MW) (z : List Nat) : Except FRf (List Nm) := match namesL z with
  | none => .error .badName
  | some ns => match seekM m [] ns with
    | some e => .error e
    | none => .ok ns
def spotM (m : MW) (z : List Nat) : Except FRf (List Nm) := match namesL z with
  | none => .error .badName
  | some ns => if ns = [] then .error .taken else match seekM m [] ns.dropLast with
    | some e => .error e
    | none => if (m.at_.lookup ns.dropLast).any (fun k => (m.ce.lookup k).isSome) = true then .error .notDir else if (m.at_.lookup ns).isSome = true then .error .taken else .ok ns.dropLast
structure AsT (z : List Nat) : Prop where
  tx : TxO z
  asc : ∀ c ∈ z, c < 128
def sp__law_found (K : PySem.W.Frag) : Sp := sp2 fun x y H Q _ => ∃ g z, x = .ref g.D ∧ y = .str (S z) ∧ AsT z ∧ Own H H (adr (cMW g)) (cMW g) ∧ MOk g.abs ∧ (∀ e, foundM g.abs z = .error e → Pr2 H (adr (cMW g)) (cMW g) e.word "" Q) ∧ (∀ ns, foundM g.abs z = .ok ns → Pr2 H (adr (cMW g)) (cMW g) "" (S (pathT ns)) Q)
def sp__law_spot (K : PySem.W.Frag) : Sp := sp2 fun x y H Q _ => ∃ g z, x = .ref g.D ∧ y = .str (S z) ∧ AsT z ∧ Own H H (adr (cMW g)) (cMW g) ∧ MOk g.abs ∧ (∀ e, spotM g.abs z = .error e → Pr2 H (adr (cMW g)) (cMW g) e.word "" Q) ∧ (∀ ns, spotM g.abs z = .ok ns → Pr2 H (adr (cMW g)) (cMW g) "" (S (pathT ns)) Q)
theorem names_nos {z : List Nat} {ns : List Nm} (h : namesL z = some ns) : ∀ n ∈ ns, n.length ≤ 6 ∧ 47 ∉ n := fun n hn => ⟨(names_ok h n hn).1, noS_of h n hn⟩
theorem fresh_notin {H0 H : Hp} {A : List Addr} {b : Addr} {o : HO} {cs : Cells} (O : Own H0 H A ((b, o) :: cs)) : b ∉ adr cs := by
  have h := O.nd
  exact (List.nodup_cons.mp h).1
theorem eq_non_nil {K : PySem.W.Frag} {H : Hp} {e : Addr} {Q : VK} (he : H e = some (.lst [])) (k : Q (.bl false) H) : rEqD K .non (.ref e) H Q :=
  ⟨.none, .list [], .non, .lst (SqL.of he) .nil, by show (PyData.canLay0 _ && decide (PyData.depth _ ≤ 64)) = true; simp [PyData.canLay0, PyData.depth], by show (PyData.canLay0 _ && decide (PyData.depth _ ≤ 64)) = true; simp [PyData.canLay0, PyData.canLayAll0, PyData.depth, PyData.depthAll], k⟩
theorem word_ne (e : FRf) : ¬ e.word = "" := by
  cases e <;> decide +kernel
theorem seekM_in (m : MW) : ∀ (p r : List Nm), (m.at_.lookup p).isSome = true → seekM m p r = none → (m.at_.lookup (p ++ r)).isSome = true
  | p, [], h, _ => by rw [List.append_nil]; exact h
  | p, n :: r, h, hs => by
    unfold seekM at hs
    split at hs
    · cases hs
    · split at hs
      · cases hs
      · rename_i h2
        have := seekM_in m (p ++ [n]) r (Option.isSome_iff_ne_none.mpr h2) hs
        rwa [List.append_assoc] at this
theorem sc__law_found : FnScope ["_law_world", "_law_path_here", "_law_pieces"] ["_law_world", "_law_path_here"] (defScope s__law_found) := ⟨rfl, rfl, rfl, by decide +kernel, rfl, by decide +kernel, by decide +kernel⟩
theorem ok__law_found {P : Program} {w : World} {K : PySem.W.Frag} {mg : Str → Option Value} {base : Heap} (T : Txt K mg) : Cee P w K mg base 2 (He.fAd K ("_law_found", none)) ["_law_world", "_law_path_here"] (sp__law_found K) := by
  have c__law_names : Cee P w K mg base 1 (He.fAd K ("_law_names", none)) ["_law_path_here"] (sp__law_names K) := ok__law_names T
  have c__law_seek : Cee P w K mg base 1 (He.fAd K ("_law_seek", none)) ["_law_world", "_law_pieces"] (sp__law_seek K) := ok__law_seek T
  refine cee_of T.d__law_found sc__law_found (fun _ _ _ _ _ _ us hl => match us, hl with | [_, _], _ => rfl) (fun vs H Q E h => sp2_len h) (fun cdv A outer s H vs Q E hr h => ⟨_, (pss_cons (ps_set (i := 2) sc__law_found.nd rfl (Or.inl rfl) (pe_f c__law_names (hr.mono (by decide)) (takes_of rfl rfl rfl rfl) (by rfl) T.g__law_names (pa_cons (pv 1) pa_nil))) (pss_cons (ps_if (pt_cmpR op_isN (pv 2) pe_non (nomark _)) (pss_one (ps_ret (pe_tup (pa_cons pe_str (pa_cons pe_str pa_nil))))) pss_nil) (pss_one (ps_ret (pe_f c__law_seek (hr.mono (by decide)) (takes_of rfl rfl rfl rfl) (by rfl) T.g__law_seek (pa_cons (pv 0) (pa_cons (pv 2) pa_nil))))))), ?_⟩)
  obtain ⟨v0, v1, rfl, h⟩ := h
  dsimp only [cxOf, L2.start]
  obtain ⟨g, z, rfl, rfl, hz, O, M, ke, k⟩ := h
  walk_at "s"
  refine ask1 ⟨z, rfl, hz.tx, hz.asc, fun hn H1 O1 => ?_, fun ns hn H1 b O1 => ?_⟩
  · walk_at "s"
    have O2 := O.callN O1
    walk_at "s"
    intro T hT
    exact ke .badName (by unfold foundM; rw [hn]) _ T ((O2.new hT).drop (.cons _ (.refl _))) upd_same
  have O2 : Own H H1 (adr (cMW g)) ((b, .lst (SV ns)) :: cMW g) := O.callN O1
  walk_at "s"
  refine ask2 ⟨g, b, ns, rfl, rfl, O2.blk (s' := []) (.there .all), M, O2.get (.head _), fresh_notin O2, names_nos hn, (namesL_low hz.tx hn).2, fun e he H3 T O3 hT => ?_, fun he H3 T O3 hT => ?_⟩
  · exact ke e (by unfold foundM; rw [hn]; show (match seekM g.abs [] ns with | some e => _ | none => _) = _; rw [he]) _ T ((O2.call (.there .all) O3).drop (.cons _ (.refl _))) hT
  · exact k ns (by unfold foundM; rw [hn]; show (match seekM g.abs [] ns with | some e => _ | none => _) = _; rw [he]) _ T ((O2.call (.there .all) O3).drop (.cons _ (.refl _))) hT
theorem sc__law_spot : FnScope ["_law_world", "_law_path_here", "_law_pieces", "_law_word", "_law_text"] ["_law_world", "_law_path_here"] (defScope s__law_spot) := ⟨rfl, rfl, rfl, by decide +kernel, rfl, by decide +kernel, by decide +kernel⟩
theorem ok__law_spot {P : Program} {w : World} {K : PySem.W.Frag} {mg : Str → Option Value} {base : Heap} (T : Txt K mg) : Cee P w K mg base 2 (He.fAd K ("_law_spot", none)) ["_law_world", "_law_path_here"] (sp__law_spot K) := by
  have c__law_names : Cee P w K mg base 1 (He.fAd K ("_law_names", none)) ["_law_path_here"] (sp__law_names K) := ok__law_names T
  have c__law_seek : Cee P w K mg base 1 (He.fAd K ("_law_seek", none)) ["_law_world", "_law_pieces"] (sp__law_seek K) := ok__law_seek T
  refine cee_of T.d__law_spot sc__law_spot (fun _ _ _ _ _ _ us hl => match us, hl with | [_, _], _ => rfl) (fun vs H Q E h => sp2_len h) (fun cdv A outer s H vs Q E hr h => ⟨_, (pss_cons (ps_set (i := 2) sc__law_spot.nd rfl (Or.inl rfl) (pe_f c__law_names (hr.mono (by decide)) (takes_of rfl rfl rfl rfl) (by rfl) T.g__law_names (pa_cons (pv 1) pa_nil))) (pss_cons (PS.box (ps_if (PW.pt (pw_or (pt_cmpR op_isN (pv 2) pe_non (nomark _)) (pw_or1 (pt_cmpR (op_eqD hr.units) (pv 2) (pe_lst pa_nil) (nomark _))))) (pss_one (ps_ret (pe_tup (pa_cons (pe_ix ix_list (pe_lst (pa_cons pe_str (pa_cons pe_str pa_nil))) (pe_callTy call_intB (by rfl) T.n_int (by decide +kernel) (pa_cons (pe_cmpR (op_eqD hr.units) (pv 2) (pe_lst pa_nil) (nomark _)) pa_nil)) (fun _ _ => rfl)) (pa_cons pe_str pa_nil))))) pss_nil)) (pss_cons (ps_asg (pe_f c__law_seek (hr.mono (by decide)) (takes_of rfl rfl rfl rfl) (by rfl) T.g__law_seek (pa_cons (pv 0) (pa_cons (pe_slice sl_list (pv 2) po_none (po_some (pe_un un_neg pe_int))) pa_nil))) (pg_tup rfl (pgs_cons (pg_name (i := 3) sc__law_spot.nd rfl (Or.inl rfl)) (pgs_cons (pg_name (i := 4) sc__law_spot.nd rfl (Or.inl rfl)) pgs_nil)))) (pss_cons (PS.box (ps_if (PW.pt (pw_and (pt_cmpR op_eq (pv 3) pe_str (nomark _)) (pw_and1 (pt_cmp (pc_din (hu_of hr) (pe_dget (hu_of hr) (pe_dget (hu_of hr) (pv 0) pe_str (fun _ _ => rfl)) (pv 4) (fun _ _ => rfl)) (pe_dget (hu_of hr) (pv 0) pe_str (fun _ _ => rfl))) (by with_unfolding_all rfl))))) (pss_one (ps_ret (pe_tup (pa_cons pe_str (pa_cons pe_str pa_nil))))) pss_nil)) (pss_cons (PS.box (ps_if (PW.pt (pw_and (pt_cmpR op_eq (pv 3) pe_str (nomark _)) (pw_and1 (pt_cmp (pc_din (hu_of hr) (pe_op op_add_str (pe_op op_add_str (pv 4) pe_str) (pe_ix ix_list (pv 2) (pe_un un_neg pe_int) (fun _ _ => rfl))) (pe_dget (hu_of hr) (pv 0) pe_str (fun _ _ => rfl))) (by with_unfolding_all rfl))))) (pss_one (ps_ret (pe_tup (pa_cons pe_str (pa_cons pe_str pa_nil))))) pss_nil)) (pss_one (ps_ret (pe_tup (pa_cons (pv 3) (pa_cons (pv 4) pa_nil)))))))))), ?_⟩)
  obtain ⟨v0, v1, rfl, h⟩ := h
  dsimp only [cxOf, L2.start]
  obtain ⟨g, z, rfl, rfl, hz, O, M, ke, k⟩ := h
  walk_at "s"
  refine ask1 ⟨z, rfl, hz.tx, hz.asc, fun hn H1 O1 => ?_, fun ns hn H1 b O1 => ?_⟩
  · have hsp : spotM g.abs z = .error .badName := by unfold spotM; rw [hn]
    have O2 := O.callN O1
    walk_at "s"
    walk_at "b"
    intro p1 hp1
    have O3 := O2.new (o := .lst [V.str "BadName", V.str "Taken"]) hp1
    generalize upd H1 p1 _ = H2 at O3 ⊢
    walk_at "s"
    intro e1 he1
    have O4 := O3.new (o := .lst []) he1
    have he2 : upd H2 e1 (.lst []) e1 = some (.lst []) := upd_same
    generalize upd H2 e1 _ = H3 at O4 he2 ⊢
    refine eq_non_nil he2 ?_
    have hat : atI [V.str "BadName", V.str "Taken"] 0 = some (.str "BadName") := rfl
    have hp4 : SqL K H3 p1 [V.str "BadName", V.str "Taken"] := SqL.of (O4.get (.tail _ (.head _)))
    walk_at "s"
    intro T hT
    exact ke .badName hsp _ T (((O4.new hT).drop (.cons _ (.cons _ (.cons _ (.refl _)))))) upd_same
  have O2 : Own H H1 (adr (cMW g)) ((b, .lst (SV ns)) :: cMW g) := O.callN O1
  walk_at "s"
  walk_at "b"
  obtain ⟨hx1, hx2⟩ := namesL_low hz.tx hn
  intro e1 he1
  have O3 := O2.new (o := .lst (SV [])) he1
  have he2 : upd H1 e1 (.lst (SV [])) e1 = some (.lst (SV [])) := upd_same
  show rEqD K (.ref b) (.ref e1) (upd H1 e1 (.lst (SV []))) _
  generalize upd H1 e1 (.lst (SV [])) = H2 at O3 he2 ⊢
  have O3 : Own H H2 (adr (cMW g)) ((b, .lst (SV ns)) :: cMW g) := O3.drop (.cons _ (.refl _))
  refine eq_SV (ms := []) hx1 (fun n h => absurd h (by simp)) (O3.get (.head _)) he2 ?_
  refine ⟨_, rfl, ?_⟩
  refine if_d (fun h => ?_) (fun h => ?_)
  · have h : ns = [] := List.map_eq_nil_iff.mp h
    subst h
    have hsp : spotM g.abs z = .error .taken := by unfold spotM; rw [hn]; rfl
    walk_at "s"
    intro p1 hp1
    have O4 := O3.new (o := .lst [V.str "BadName", V.str "Taken"]) hp1
    generalize upd H2 p1 _ = H3 at O4 ⊢
    walk_at "s"
    intro e3 he3
    have O5 := O4.new (o := .lst (SV [])) he3
    have he4 : upd H3 e3 (.lst (SV [])) e3 = some (.lst (SV [])) := upd_same
    show rEqD K (.ref b) (.ref e3) (upd H3 e3 (.lst (SV []))) _
    generalize upd H3 e3 (.lst (SV [])) = H4 at O5 he4 ⊢
    refine eq_SV (ns := []) (ms := []) hx1 (fun n h => absurd h (by simp)) (O5.get (.tail _ (.tail _ (.head _)))) he4 ?_
    have hat : atI [V.str "BadName", V.str "Taken"] 1 = some (.str "Taken") := rfl
    have hp4 : SqL K H4 p1 [V.str "BadName", V.str "Taken"] := SqL.of (O5.get (.tail _ (.head _)))
    walk_at "s"
    intro T hT
    exact ke .taken hsp _ T (((O5.new hT).drop (.cons _ (.cons _ (.cons _ (.cons _ (.refl _))))))) upd_same
  have hne : ns ≠ [] := fun z => h (by rw [z])
  have hb3 : SqL K H2 b (SV ns) := SqL.of (O3.get (.head _))
  have hcut : cutV (SV ns) none (some (-1)) = SV ns.dropLast := by rw [cutV_init]; simp [SV, List.map_dropLast]
  walk_at "s"
  rw [hcut]
  intro d hd
  have O4 := O3.new (o := .lst (SV ns.dropLast)) hd
  generalize upd H2 d _ = H3 at O4 ⊢
  refine ask2 ⟨g, d, ns.dropLast, rfl, rfl, O4.blk (s' := []) (.there (.there .all)), M, O4.get (.head _), fun z => fresh_notin O4 (.tail _ z), fun n hn2 => names_nos hn n (List.dropLast_subset _ hn2), by rw [List.length_dropLast]; have := (namesL_low hz.tx hn).2; omega, fun e he H4 T O5 hT => ?_, fun he H4 T O5 hT => ?_⟩
  · have hsp : spotM g.abs z = .error e := by
      unfold spotM
      rw [hn]
      show (if ns = [] then _ else _) = _
      rw [if_neg hne, he]
    have hw : ¬ e.word = "" := word_ne e
    have O6 := O4.call (.there (.there .all)) O5
    walk_at "s"
    walk_at "b"
    refine if_ss (fun q => absurd q hw) (fun _ => ?_)
    walk_at "s"
    walk_at "b"
    refine if_ss (fun q => absurd q hw) (fun _ => ?_)
    walk_at "s"
    intro T2 hT2
    exact ke e hsp _ T2 (((O6.new hT2).drop (.cons _ (.cons _ (.cons _ (.refl _)))))) upd_same
  · have hsp : spotM g.abs z = if (g.abs.at_.lookup ns.dropLast).any (fun k => (g.abs.ce.lookup k).isSome) = true then .error .notDir else if (g.abs.at_.lookup ns).isSome = true then .error .taken else .ok ns.dropLast := by
      unfold spotM
      rw [hn]
      show (if ns = [] then _ else _) = _
      rw [if_neg hne, he]
    have O6 : Own H H4 (adr (cMW g)) ((d, .lst (SV ns.dropLast)) :: (b, .lst (SV ns)) :: cMW g) := O4.call (.there (.there .all)) O5
    have hin := seekM_in g.abs [] ns.dropLast (by rw [M.root]; rfl) he
    rw [List.nil_append] at hin
    obtain ⟨j, hj⟩ := Option.isSome_iff_exists.mp hin
    have hj : g.at_.lookup ns.dropLast = some j := hj
    have hnd : NoS ns.dropLast := fun n h => noS_of hn n (List.dropLast_subset _ h)
    have hkeys : ∀ x ∈ g.at_, NoS x.1 := fun x hx => (M.names x hx).1
    have hva : valV (atD g.at_) (Sum.inr (S (pathT ns.dropLast))) = some (.int j) := by rw [at_val hkeys hnd, hj]; rfl
    have hD := O6.get (a := g.D) (o := .dK (wD g)) (.tail _ (.tail _ (.head _)))
    have hA := O6.get (a := g.AD) (o := .dK (atD g.at_)) (.tail _ (.tail _ (.tail _ (.head _))))
    have hC := O6.get (a := g.CD) (o := .dK (ceD g.ce)) (.tail _ (.tail _ (.tail _ (.tail _ (.tail _ (.head _))))))
    have hvA : valV (wD g) (Sum.inr "at") = some (.ref g.AD) := rfl
    have hvC : valV (wD g) (Sum.inr "cells") = some (.ref g.CD) := rfl
    rw [show g.abs.at_.lookup ns.dropLast = some j from hj] at hsp
    have hsp : spotM g.abs z = if (g.ce.lookup j).isSome = true then .error .notDir else if (g.at_.lookup ns).isSome = true then .error .taken else .ok ns.dropLast := by
      rw [hsp]
      show (if (g.abs.ce.lookup j).isSome = true then _ else _) = _
      rw [abs_ce, Option.isSome_map]
      rfl
    have hb4 : SqL K H4 b (SV ns) := SqL.of (O6.get (.tail _ (.head _)))
    have hatn := at_lastN hne
    have hpt := (M.names _ (lkL_mem hj)).2
    have hpl1 : (pathT ns.dropLast).length ≤ 7 * ns.dropLast.length := pathT_len fun n hn => (hpt.1 n hn).1
    have hpl3 : ns.dropLast.length ≤ 30 := hpt.2
    have hs1 := SX.S_len (pathT ns.dropLast)
    have hs2 := SX.S_len (lastN ns)
    have hnl := (names_nos hn _ (lastN_mem hne)).1
    have hs3 : ("/" : Str).length = 1 := by decide +kernel
    have hz1 : (S (pathT ns.dropLast)).length + ("/" : Str).length ≤ sizeLine := sz_le (by omega)
    have hz2 : (S (pathT ns.dropLast) ++ ("/" : Str)).length + (S (lastN ns)).length ≤ sizeLine := by
      have h1 : (S (pathT ns.dropLast) ++ ("/" : Str)).length ≤ 211 := by rw [Str.length_append, hs1, hs3]; omega
      have h2 : (S (lastN ns)).length ≤ 6 := by rw [hs2]; exact hnl
      refine sz_le ?_
      generalize (S (pathT ns.dropLast) ++ ("/" : Str)).length = u at h1 ⊢
      generalize (S (lastN ns)).length = v at h2 ⊢
      omega
    have hcat := txt_snoc ns.dropLast (lastN ns)
    have hnl2 : ns.dropLast ++ [lastN ns] = ns := by
      have h1 := List.dropLast_concat_getLast hne
      have h2 : lastN ns = ns.getLast hne := by unfold lastN; rw [List.getLastD_eq_getLast?, List.getLast?_eq_some_getLast hne]; rfl
      rw [h2]
      exact h1
    rw [hnl2] at hcat
    have BO := Box.mk O6
    clear O6 O4 O5 O3 O2 O
    walk_at "s"
    walk_at "b"
    rw [ce_val, Option.isSome_map]
    refine if_b (fun h1 => ?_) (fun h1 => ?_)
    · rw [if_pos h1] at hsp
      walk_at "s"
      intro T2 hT2
      exact ke .notDir hsp _ T2 (((BO.out.new hT2).drop (.cons _ (.cons _ (.cons _ (.refl _)))))) upd_same
    rw [if_neg (by rw [h1]; simp)] at hsp
    walk_at "s"
    walk_at "b"
    rw [hcat, at_val hkeys (noS_of hn), Option.isSome_map]
    refine if_b (fun h2 => ?_) (fun h2 => ?_)
    · rw [if_pos h2] at hsp
      walk_at "s"
      intro T2 hT2
      exact ke .taken hsp _ T2 (((BO.out.new hT2).drop (.cons _ (.cons _ (.cons _ (.refl _)))))) upd_same
    rw [if_neg (by rw [h2]; simp)] at hsp
    walk_at "s"
    intro T2 hT2
    exact k _ hsp _ T2 (((BO.out.new hT2).drop (.cons _ (.cons _ (.cons _ (.refl _)))))) upd_same

/-! ## the law's world: counts and slots -/
open SX (S)
def linksM (m : MW) (k : Int) : Int := ((m.at_.map (·.2)).count k : Nat)
def fullO (os : List (Option Nm)) : Bool := decide (os.length = 40) && !decide (none ∈ os)
def spareM (m : MW) : Int := m.room - ((m.sl.map fun x => blk (8 * (x.2.length : Nat))) ++ (m.ce.map fun x => blk (x.2.length : Nat))).sum
def growM (m : MW) (os : List (Option Nm)) : Bool := !decide (none ∈ os) && decide (blk (8 * (os.length : Nat) + 8) - blk (8 * (os.length : Nat)) > spareM m)
def sp__law_links (K : PySem.W.Frag) : Sp := sp2 fun x y H Q _ => ∃ g k, x = .ref g.D ∧ y = .int k ∧ Own H H (adr (cMW g)) (cMW g) ∧ MOk g.abs ∧ ∀ H', Own H H' (adr (cMW g)) (cMW g) → Q (.int (linksM g.abs k)) H'
def sp__law_full (K : PySem.W.Frag) : Sp := sp2 fun x y H Q _ => ∃ g p k sa, ∃ os : List (Option Nm), x = .ref g.D ∧ y = .str (S (pathT p)) ∧ NoS p ∧ Own H H (adr (cMW g)) (cMW g) ∧ MOk g.abs ∧ g.at_.lookup p = some k ∧ g.sl.lookup k = some (sa, os) ∧ Q (.bl (fullO os)) H
theorem flat_on (os : List (Option Nm)) : (os.map onV).all flatV = true := by
  rw [List.all_map, List.all_eq_true]
  intro o _
  cases o <;> rfl
theorem inV_on (os : List (Option Nm)) : inV .non (os.map onV) = decide (none ∈ os) := by
  induction os with
  | nil => rfl
  | cons o r ih =>
    have e : inV .non ((o :: r).map onV) = (eqV (onV o) .non || inV .non (r.map onV)) := by
      unfold inV
      rw [List.map_cons, List.any_cons]
    rw [e, ih]
    cases o with
    | none => simp [onV, eqV]
    | some n => simp [onV, eqV]
theorem sc__law_links : FnScope ["_law_world", "_law_node_here"] ["_law_world", "_law_node_here"] (defScope s__law_links) := ⟨rfl, rfl, rfl, by decide +kernel, rfl, by decide +kernel, by decide +kernel⟩
theorem ok__law_links {P : Program} {w : World} {K : PySem.W.Frag} {mg : Str → Option Value} {base : Heap} (T : Txt K mg) : Cee P w K mg base 1 (He.fAd K ("_law_links", none)) ["_law_world", "_law_node_here"] (sp__law_links K) := by
  refine cee_of T.d__law_links sc__law_links (fun _ _ _ _ _ _ us hl => match us, hl with | [_, _], _ => rfl) (fun vs H Q E h => sp2_len h) (fun cdv A outer s H vs Q E hr h => ⟨_, (pss_one (ps_ret (pe_bm PySem.F.plainAttrs_list PySem.F.slot_list_count PySem.F.type_list_count mt_lcount (pe_callTy (call_listVs rfl) (by rfl) T.n_list (by decide +kernel) (pa_cons (pe_bm0 PySem.F.plainAttrs_dict PySem.F.slot_dict_values PySem.F.type_dict_values mt_values (pe_dget (hu_of hr) (pv 0) pe_str (fun _ _ => rfl))) pa_nil)) (pa_cons (pv 1) pa_nil)))), ?_⟩)
  obtain ⟨v0, v1, rfl, h⟩ := h
  dsimp only [cxOf, L2.start]
  obtain ⟨g, k, rfl, rfl, O, M, kk⟩ := h
  have hD := O.get (a := g.D) (o := .dK (wD g)) (.head _)
  have hvA : valV (wD g) (Sum.inr "at") = some (.ref g.AD) := rfl
  walk_at "s"
  intro r hr
  have O1 := O.new (o := VO r g.AD) hr
  generalize upd H r _ = H1 at O1 ⊢
  refine ⟨r, g.AD, atD g.at_, rfl, O1.get (.head _), .inl (O1.get (.tail _ (.tail _ (.head _)))), fun q hq => ?_⟩
  have O2 := (O1.new (o := .lst ((atD g.at_).map (·.2))) hq).drop (cs' := (q, .lst ((atD g.at_).map (·.2))) :: cMW g) (.cons₂ _ (.cons _ (.refl _)))
  generalize upd H1 q _ = H2 at O2 ⊢
  have hvals : (atD g.at_).map (·.2) = (g.at_.map (·.2)).map V.int := by rw [List.map_map, List.map_map]; rfl
  rw [hvals] at O2
  have hq2 : SqL K H2 q ((g.at_.map (·.2)).map V.int) := SqL.of (O2.get (.head _))
  walk_at "s"
  exact kk _ (O2.drop (.cons _ (.refl _)))
theorem sc__law_full : FnScope ["_law_world", "_law_text", "_law_slots"] ["_law_world", "_law_text"] (defScope s__law_full) := ⟨rfl, rfl, rfl, by decide +kernel, rfl, by decide +kernel, by decide +kernel⟩
theorem ok__law_full {P : Program} {w : World} {K : PySem.W.Frag} {mg : Str → Option Value} {base : Heap} (T : Txt K mg) : Cee P w K mg base 1 (He.fAd K ("_law_full", none)) ["_law_world", "_law_text"] (sp__law_full K) := by
  refine cee_of T.d__law_full sc__law_full (fun _ _ _ _ _ _ us hl => match us, hl with | [_, _], _ => rfl) (fun vs H Q E h => sp2_len h) (fun cdv A outer s H vs Q E hr h => ⟨_, (pss_cons (ps_set (i := 2) sc__law_full.nd rfl (Or.inl rfl) (pe_dget (hu_of hr) (pe_dget (hu_of hr) (pv 0) pe_str (fun _ _ => rfl)) (pe_dget (hu_of hr) (pe_dget (hu_of hr) (pv 0) pe_str (fun _ _ => rfl)) (pv 1) (fun _ _ => rfl)) (fun _ _ => rfl))) (pss_one (ps_ret (pe_and (pe_cmpR op_eq (pe_callB call_len_seq (by rfl) T.n_len (by decide +kernel) (pa_cons (pv 2) pa_nil)) pe_int (nomark _)) (pe_one (pe_cmpR op_notIn_seq pe_non (pv 2) (by with_unfolding_all rfl))))))), ?_⟩)
  obtain ⟨v0, v1, rfl, h⟩ := h
  dsimp only [cxOf, L2.start]
  obtain ⟨g, p, k, sa, os, rfl, rfl, hp, O, M, hk, hs, kk⟩ := h
  have hD := O.get (a := g.D) (o := .dK (wD g)) (.head _)
  have hA := O.get (a := g.AD) (o := .dK (atD g.at_)) (.tail _ (.head _))
  have hS := O.get (a := g.SD) (o := .dK (slD g.sl)) (.tail _ (.tail _ (.head _)))
  have hsa := O.get (a := sa) (o := .lst (os.map onV)) (.tail _ (.tail _ (.tail _ (.tail _ (.tail _ (List.mem_append_left _ (List.mem_map.mpr ⟨_, lk_mem hs, rfl⟩)))))))
  have hvA : valV (wD g) (Sum.inr "at") = some (.ref g.AD) := rfl
  have hvS : valV (wD g) (Sum.inr "slots") = some (.ref g.SD) := rfl
  have hkeys : ∀ x ∈ g.at_, NoS x.1 := fun x hx => (M.names x hx).1
  have hva : valV (atD g.at_) (Sum.inr (S (pathT p))) = some (.int k) := by rw [at_val hkeys hp, hk]; rfl
  have hvs : valV (slD g.sl) (Sum.inl k) = some (.ref sa) := by rw [sl_val, hs]; rfl
  have hol : (os.map onV).length = os.length := List.length_map ..
  have hsas : SqL K H sa (os.map onV) := SqL.of hsa
  have BO := Box.mk O
  walk_at "clo"
  walk_at "s"
  refine if_ii (fun h1 => ?_) (fun h1 => ?_)
  · walk_at "s"
    refine ⟨flat_on os, ?_⟩
    rw [if_pos rfl, inV_on]
    have e : fullO os = !decide (none ∈ os) := by unfold fullO; rw [decide_eq_true (by omega)]; rfl
    rw [e] at kk
    exact kk
  · have e : fullO os = false := by unfold fullO; rw [decide_eq_false (by omega)]; rfl
    rw [e] at kk
    exact kk

open SX (S)
def sp__law_spare (K : PySem.W.Frag) : Sp := sp1 fun x H Q _ => ∃ g, x = .ref g.D ∧ Own H H (adr (cMW g)) (cMW g) ∧ MOk g.abs ∧ ∀ H', Own H H' (adr (cMW g)) (cMW g) → Q (.int (spareM g.abs)) H'
theorem cMW_sl {g : MG} {x : Int × Addr × List (Option Nm)} (h : x ∈ g.sl) : (x.2.1, HO.lst (x.2.2.map onV)) ∈ cSl g.sl ++ cCe g.ce := List.mem_append_left _ (List.mem_map.mpr ⟨x, h, rfl⟩)
theorem cMW_ce {g : MG} {x : Int × Addr × List Int} (h : x ∈ g.ce) : (x.2.1, HO.lst (x.2.2.map V.int)) ∈ cSl g.sl ++ cCe g.ce := List.mem_append_right _ (List.mem_map.mpr ⟨x, h, rfl⟩)
theorem sc__law_spare : FnScope ["_law_world", "_law_sizes", "_law_slots", "_law_cells", "_law_size"] ["_law_world"] (defScope s__law_spare) := ⟨rfl, rfl, rfl, by decide +kernel, rfl, by decide +kernel, by decide +kernel⟩
theorem ok__law_spare {P : Program} {w : World} {K : PySem.W.Frag} {mg : Str → Option Value} {base : Heap} (T : Txt K mg) : Cee P w K mg base 2 (He.fAd K ("_law_spare", none)) ["_law_world"] (sp__law_spare K) := by
  have c__law_blocks : Cee P w K mg base 1 (He.fAd K ("_law_blocks", none)) ["_law_many"] (sp__law_blocks K) := ok__law_blocks T
  refine cee_of T.d__law_spare sc__law_spare (fun _ _ _ _ _ _ us hl => match us, hl with | [_], _ => rfl) (fun vs H Q E h => sp1_len h) (fun cdv A outer s H vs Q E hr h => ⟨_, (pss_cons (ps_set (i := 1) sc__law_spare.nd rfl (Or.inl rfl) (pe_op op_cat (pe_lock (pe_lc (own := [("_law_slots", 2)]) (by rfl) sc__law_spare.nd (PI.box (pi_values (pe_dget (hu_of hr) (pv 0) pe_str (fun _ _ => rfl)))) (blkOk_by (own := [("_law_slots", 2)]) (N := ["_law_world", "_law_sizes", "_law_slots", "_law_cells", "_law_size"]) (sc := defScope s__law_spare) (by decide +kernel)) (fun _ _ _ _ _ => (pg_name (i := 2) sc__law_spare.nd rfl (Or.inl rfl))) (fun _ _ _ _ _ => pts_nil) (fun _ _ _ _ _ => (pe_op op_mul pe_int (pe_callB (show CallR _ (.builtin "len") (rLenSq K) from call_len_seq) (by rfl) T.n_len (by decide +kernel) (pa_cons (pv 2) pa_nil)))))) (pe_lock (pe_lc (own := [("_law_cells", 3)]) (by rfl) sc__law_spare.nd (PI.box (pi_values (pe_dget (hu_of hr) (pv 0) pe_str (fun _ _ => rfl)))) (blkOk_by (own := [("_law_cells", 3)]) (N := ["_law_world", "_law_sizes", "_law_slots", "_law_cells", "_law_size"]) (sc := defScope s__law_spare) (by decide +kernel)) (fun _ _ _ _ _ => (pg_name (i := 3) sc__law_spare.nd rfl (Or.inl rfl))) (fun _ _ _ _ _ => pts_nil) (fun _ _ _ _ _ => (pe_callB (show CallR _ (.builtin "len") (rLenSq K) from call_len_seq) (by rfl) T.n_len (by decide +kernel) (pa_cons (pv 3) pa_nil))))))) (pss_one (ps_ret (pe_op op_sub (pe_dget (hu_of hr) (pv 0) pe_str (fun _ _ => rfl)) (pe_callB (cr_sum rfl) (by rfl) T.n_sum (by decide +kernel) (pa_cons (pe_lc (own := [("_law_size", 4)]) (by rfl) sc__law_spare.nd (PI.box (pi_list (pv 1))) (blkOk_by (own := [("_law_size", 4)]) (N := ["_law_world", "_law_sizes", "_law_slots", "_law_cells", "_law_size"]) (sc := defScope s__law_spare) (by decide +kernel)) (fun _ _ _ _ _ => (pg_name (i := 4) sc__law_spare.nd rfl (Or.inl rfl))) (fun _ _ _ _ _ => pts_nil) (fun _ _ _ _ _ => (pe_f c__law_blocks (hr.mono (by decide)) takes0 (by rfl) T.g__law_blocks (pa_cons (pv 4) pa_nil)))) pa_nil)))))), ?_⟩)
  obtain ⟨v0, rfl, h⟩ := h
  dsimp only [cxOf, L2.start]
  obtain ⟨g, rfl, O, M, k⟩ := h
  have hD := O.get (a := g.D) (o := .dK (wD g)) (.head _)
  have hS := O.get (a := g.SD) (o := .dK (slD g.sl)) (.tail _ (.tail _ (.head _)))
  have hvS : valV (wD g) (Sum.inr "slots") = some (.ref g.SD) := rfl
  have hvC : valV (wD g) (Sum.inr "cells") = some (.ref g.CD) := rfl
  have hvR : valV (wD g) (Sum.inr "room") = some (.int g.room) := rfl
  have hfew := M.fews
  have hfs : g.abs.sl.length = g.sl.length := List.length_map ..
  have hfc : g.abs.ce.length = g.ce.length := List.length_map ..
  walk_at "s"
  refine ⟨_, hS, True.intro, fun od => ?_⟩
  have O1 := O.wr (a := g.SD) (o' := .frz od (.dK (slD g.sl))) (.there (.there .here))
  have hD1 := O1.get (a := g.D) (o := .dK (wD g)) (.head _)
  walk_at "s"
  refine lcW (walk_values (d := g.SD) (o := od) (kvs := slD g.sl)) (fun L j H2 => Own H H2 (adr (cMW g)) ((L, .lst (((g.sl.take j).map fun x => (8 * (x.2.2.length : Nat) : Int)).map V.int)) :: (g.D, .dK (wD g)) :: (g.AD, .dK (atD g.at_)) :: (g.SD, .frz od (.dK (slD g.sl))) :: (g.CD, .dK (ceD g.ce)) :: (g.HD, .dK (hoD g.ho)) :: (cSl g.sl ++ cCe g.ce))) (fun L hL => O1.new hL) (fun L j H2 _ O => O.get (.tail _ (.tail _ (.tail _ (.head _))))) ?_ ?_
  · rintro L j x H2 H3 hj O2 ⟨rfl, k2, hx⟩
    obtain ⟨y, hy⟩ : ∃ y, g.sl[j]? = some y := ⟨g.sl[j]'(by simpa using hj), List.getElem?_eq_getElem _⟩
    rw [List.getElem?_map, hy] at hx
    cases hx
    have hr := O2.get (a := y.2.1) (o := .lst (y.2.2.map onV)) (.tail _ (.tail _ (.tail _ (.tail _ (.tail _ (.tail _ (cMW_sl (List.mem_of_getElem? hy))))))))
    have hlen : (((g.sl.take j).map fun x => (8 * (x.2.2.length : Nat) : Int)).map V.int).length < 100000 := by
      rw [List.length_map, List.length_map, List.length_take]
      omega
    walk_at "s"
    rw [take_succ hy, List.map_append, List.map_append, List.length_map]
    exact ⟨O2.wr .here⟩
  · rintro L H2 O2
    rw [show (slD g.sl).length = g.sl.length from List.length_map _, List.take_length] at O2
    refine ⟨O2.get (.tail _ (.tail _ (.tail _ (.head _)))), ?_⟩
    have O3 := O2.wr (a := g.SD) (o' := .dK (slD g.sl)) (.there (.there (.there .here)))
    generalize upd H2 g.SD _ = H3 at O3 ⊢
    have hD3 := O3.get (a := g.D) (o := .dK (wD g)) (.tail _ (.head _))
    have hC3 := O3.get (a := g.CD) (o := .dK (ceD g.ce)) (.tail _ (.tail _ (.tail _ (.tail _ (.head _)))))
    clear hD hS hD1 O O1 O2
    walk_at "s"
    refine ⟨_, hC3, True.intro, fun od2 => ?_⟩
    have O4 := O3.wr (a := g.CD) (o' := .frz od2 (.dK (ceD g.ce))) (.there (.there (.there (.there .here))))
    walk_at "s"
    refine lcW (walk_values (d := g.CD) (o := od2) (kvs := ceD g.ce)) (fun L2 j H2 => Own H H2 (adr (cMW g)) ((L2, .lst (((g.ce.take j).map fun x => ((x.2.2.length : Nat) : Int)).map V.int)) :: (L, .lst (((g.sl).map fun x => (8 * (x.2.2.length : Nat) : Int)).map V.int)) :: (g.D, .dK (wD g)) :: (g.AD, .dK (atD g.at_)) :: (g.SD, .dK (slD g.sl)) :: (g.CD, .frz od2 (.dK (ceD g.ce))) :: (g.HD, .dK (hoD g.ho)) :: (cSl g.sl ++ cCe g.ce))) (fun L hL => O4.new hL) (fun L j H2 _ O => O.get (.tail _ (.tail _ (.tail _ (.tail _ (.tail _ (.head _))))))) ?_ ?_
    · rintro L2 j x H2 H4 hj O5 ⟨rfl, k2, hx⟩
      obtain ⟨y, hy⟩ : ∃ y, g.ce[j]? = some y := ⟨g.ce[j]'(by simpa using hj), List.getElem?_eq_getElem _⟩
      rw [List.getElem?_map, hy] at hx
      cases hx
      have hr := O5.get (a := y.2.1) (o := .lst (y.2.2.map V.int)) (.tail _ (.tail _ (.tail _ (.tail _ (.tail _ (.tail _ (.tail _ (cMW_ce (List.mem_of_getElem? hy)))))))))
      have hlen : (((g.ce.take j).map fun x => ((x.2.2.length : Nat) : Int)).map V.int).length < 100000 := by
        rw [List.length_map, List.length_map, List.length_take]
        omega
      walk_at "s"
      rw [take_succ hy, List.map_append, List.map_append, List.length_map]
      exact ⟨O5.wr .here⟩
    · rintro L2 H5 O5
      rw [show (ceD g.ce).length = g.ce.length from List.length_map _, List.take_length] at O5
      refine ⟨O5.get (.tail _ (.tail _ (.tail _ (.tail _ (.tail _ (.head _)))))), ?_⟩
      have O6 := O5.wr (a := g.CD) (o' := .dK (ceD g.ce)) (.there (.there (.there (.there (.there .here)))))
      generalize upd H5 g.CD _ = H6 at O6 ⊢
      have hL6 : SqL K H6 L (((g.sl).map fun x => (8 * (x.2.2.length : Nat) : Int)).map V.int) := SqL.of (O6.get (.tail _ (.head _)))
      have hL26 : SqL K H6 L2 ((g.ce.map fun x => ((x.2.2.length : Nat) : Int)).map V.int) := SqL.of (O6.get (.head _))
      have hD6 := O6.get (a := g.D) (o := .dK (wD g)) (.tail _ (.tail _ (.head _)))
      clear O3 O4 O5 hD3 hC3
      walk_at "s"
      intro ls hls
      have O7 := O6.new (o := .lst (((g.sl.map fun x => (8 * (x.2.2.length : Nat) : Int)) ++ g.ce.map fun x => ((x.2.2.length : Nat) : Int)).map V.int)) hls
      rw [List.map_append] at O7
      generalize upd H6 ls _ = H7 at O7 ⊢
      rw [← List.map_append] at O7
      generalize hzs : ((g.sl.map fun x => (8 * (x.2.2.length : Nat) : Int)) ++ g.ce.map fun x => ((x.2.2.length : Nat) : Int)) = zs at O7
      have hzl : zs.length ≤ 24 := by
        rw [← hzs, List.length_append, List.length_map, List.length_map]
        omega
      have hls7 : SqL K H7 ls (zs.map V.int) := SqL.of (O7.get (.head _))
      have hD7 := O7.get (a := g.D) (o := .dK (wD g)) (.tail _ (.tail _ (.tail _ (.head _))))
      clear O6 hL6 hL26 hD6
      have BO := Box.mk O7
      clear O7
      walk_at "s"
      refine lcL (xs := zs.map V.int) (fun B j H8 => Own H7 H8 [] [(B, .lst (((zs.take j).map blk).map V.int))]) ?_ ?_ ?_ ?_
      · intro B hB
        exact Own.start.new hB
      · intro B j H8 _ O8
        exact O8.sq hls7
      · intro B j x H8 hx O8
        rw [List.getElem?_map] at hx
        obtain ⟨c, hc, rfl⟩ := Option.map_eq_some_iff.mp hx
        have hB := O8.get (.head _)
        have hlen : (((zs.take j).map blk).map V.int).length < 100000 := by
          rw [List.length_map, List.length_map, List.length_take]
          omega
        walk_at "s"
        refine ask1 ⟨c, rfl, ?_⟩
        walk_at "s"
        rw [take_succ hc, List.map_append, List.map_append]
        exact ⟨O8.wr .here⟩
      · intro B H8 O8
        rw [List.length_map, List.take_length] at O8
        have hB : SqL K H8 B ((zs.map blk).map V.int) := SqL.of (O8.get (.head _))
        have O9 := BO.out.callN O8
        walk_at "s"
        have e : spareM g.abs = g.room - (zs.map blk).sum := by
          unfold spareM MG.abs
          rw [← hzs, List.map_append, List.map_map, List.map_map, List.map_map, List.map_map]
          rfl
        rw [e] at k
        exact k _ (O9.drop (.cons _ (.cons _ (.cons _ (.cons _ (.refl _))))))

open SX (S)
def sp__law_lacks (K : PySem.W.Frag) : Sp := sp2 fun x y H Q _ => ∃ g p k sa, ∃ os : List (Option Nm), x = .ref g.D ∧ y = .str (S (pathT p)) ∧ NoS p ∧ Own H H (adr (cMW g)) (cMW g) ∧ MOk g.abs ∧ g.at_.lookup p = some k ∧ g.sl.lookup k = some (sa, os) ∧ ∀ H', Own H H' (adr (cMW g)) (cMW g) → Q (.bl (growM g.abs os)) H'
theorem sc__law_lacks : FnScope ["_law_world", "_law_text", "_law_slots", "_law_more"] ["_law_world", "_law_text"] (defScope s__law_lacks) := ⟨rfl, rfl, rfl, by decide +kernel, rfl, by decide +kernel, by decide +kernel⟩
theorem ok__law_lacks {P : Program} {w : World} {K : PySem.W.Frag} {mg : Str → Option Value} {base : Heap} (T : Txt K mg) : Cee P w K mg base 3 (He.fAd K ("_law_lacks", none)) ["_law_world", "_law_text"] (sp__law_lacks K) := by
  have c__law_blocks : Cee P w K mg base 1 (He.fAd K ("_law_blocks", none)) ["_law_many"] (sp__law_blocks K) := ok__law_blocks T
  have c__law_spare : Cee P w K mg base 2 (He.fAd K ("_law_spare", none)) ["_law_world"] (sp__law_spare K) := ok__law_spare T
  refine cee_of T.d__law_lacks sc__law_lacks (fun _ _ _ _ _ _ us hl => match us, hl with | [_, _], _ => rfl) (fun vs H Q E h => sp2_len h) (fun cdv A outer s H vs Q E hr h => ⟨_, (pss_cons (ps_set (i := 2) sc__law_lacks.nd rfl (Or.inl rfl) (pe_dget (hu_of hr) (pe_dget (hu_of hr) (pv 0) pe_str (fun _ _ => rfl)) (pe_dget (hu_of hr) (pe_dget (hu_of hr) (pv 0) pe_str (fun _ _ => rfl)) (pv 1) (fun _ _ => rfl)) (fun _ _ => rfl))) (pss_cons (ps_set (i := 3) sc__law_lacks.nd rfl (Or.inl rfl) (pe_op op_sub (pe_f c__law_blocks (hr.mono (by decide)) (takes_of rfl rfl rfl rfl) (by rfl) T.g__law_blocks (pa_cons (pe_op op_add (pe_op op_mul pe_int (pe_callB call_len_seq (by rfl) T.n_len (by decide +kernel) (pa_cons (pv 2) pa_nil))) pe_int) pa_nil)) (pe_f c__law_blocks (hr.mono (by decide)) (takes_of rfl rfl rfl rfl) (by rfl) T.g__law_blocks (pa_cons (pe_op op_mul pe_int (pe_callB call_len_seq (by rfl) T.n_len (by decide +kernel) (pa_cons (pv 2) pa_nil))) pa_nil)))) (pss_one (ps_ret (pe_and (pe_cmpR op_notIn_seq pe_non (pv 2) (by with_unfolding_all rfl)) (pe_one (pe_cmpR op_gt (pv 3) (pe_f c__law_spare (hr.mono (by decide)) (takes_of rfl rfl rfl rfl) (by rfl) T.g__law_spare (pa_cons (pv 0) pa_nil)) (nomark _)))))))), ?_⟩)
  obtain ⟨v0, v1, rfl, h⟩ := h
  dsimp only [cxOf, L2.start]
  obtain ⟨g, p, k, sa, os, rfl, rfl, hp, O, M, hk, hs, kk⟩ := h
  have hD := O.get (a := g.D) (o := .dK (wD g)) (.head _)
  have hA := O.get (a := g.AD) (o := .dK (atD g.at_)) (.tail _ (.head _))
  have hS := O.get (a := g.SD) (o := .dK (slD g.sl)) (.tail _ (.tail _ (.head _)))
  have hsa := O.get (a := sa) (o := .lst (os.map onV)) (.tail _ (.tail _ (.tail _ (.tail _ (.tail _ (cMW_sl (lk_mem hs)))))))
  have hvA : valV (wD g) (Sum.inr "at") = some (.ref g.AD) := rfl
  have hvS : valV (wD g) (Sum.inr "slots") = some (.ref g.SD) := rfl
  have hkeys : ∀ x ∈ g.at_, NoS x.1 := fun x hx => (M.names x hx).1
  have hva : valV (atD g.at_) (Sum.inr (S (pathT p))) = some (.int k) := by rw [at_val hkeys hp, hk]; rfl
  have hvs : valV (slD g.sl) (Sum.inl k) = some (.ref sa) := by rw [sl_val, hs]; rfl
  have hol : (os.map onV).length = os.length := List.length_map ..
  have hsas : SqL K H sa (os.map onV) := SqL.of hsa
  have hg : growM g.abs os = (!decide (none ∈ os) && decide (blk (8 * (os.length : Nat) + 8) - blk (8 * (os.length : Nat)) > spareM g.abs)) := rfl
  have BO := Box.mk O
  walk_at "clo"
  walk_at "s"
  refine ask1 ⟨_, rfl, ?_⟩
  walk_at "s"
  refine ask1 ⟨_, rfl, ?_⟩
  walk_at "s"
  refine ⟨flat_on os, ?_⟩
  rw [if_pos rfl, inV_on]
  walk_at "s"
  rw [hol]
  refine if_nd (fun h1 => ?_) (fun h1 => ?_)
  · rw [decide_eq_false h1] at hg
    walk_at "s"
    refine ask1 ⟨g, rfl, BO.out, M, fun H1 O1 => ?_⟩
    have kk := kk _ O1
    rw [hg] at kk
    walk_at "s"
    exact kk
  · rw [decide_eq_true h1] at hg
    have kk := kk _ BO.out
    rw [hg] at kk
    exact kk

open SX (S)
def clearM (m : MW) (k : Int) : MW := if linksM m k = 0 ∧ (m.ho.lookup k).getD 0 = 0 then { m with ce := dropA m.ce k } else m
def sp__law_cleared (K : PySem.W.Frag) : Sp := sp2 fun x y H Q _ => ∃ g k, x = .ref g.D ∧ y = .int k ∧ Own H H (adr (cMW g)) (cMW g) ∧ MOk g.abs ∧ (g.ce.lookup k).isSome = true ∧ ∀ H' g', Own H H' (adr (cMW g)) (cMW g') → g'.abs = clearM g.abs k → g'.D = g.D → Q .non H'
theorem ho_val (l : List (Int × Int)) (k : Int) : valV (hoD l) (Sum.inl k) = (l.lookup k).map V.int := lk_val V.int l k
theorem sc__law_cleared : FnScope ["_law_world", "_law_node_here"] ["_law_world", "_law_node_here"] (defScope s__law_cleared) := ⟨rfl, rfl, rfl, by decide +kernel, rfl, by decide +kernel, by decide +kernel⟩
theorem ok__law_cleared {P : Program} {w : World} {K : PySem.W.Frag} {mg : Str → Option Value} {base : Heap} (T : Txt K mg) : Cee P w K mg base 2 (He.fAd K ("_law_cleared", none)) ["_law_world", "_law_node_here"] (sp__law_cleared K) := by
  have c__law_links : Cee P w K mg base 1 (He.fAd K ("_law_links", none)) ["_law_world", "_law_node_here"] (sp__law_links K) := ok__law_links T
  refine cee_of T.d__law_cleared sc__law_cleared (fun _ _ _ _ _ _ us hl => match us, hl with | [_, _], _ => rfl) (fun vs H Q E h => sp2_len h) (fun cdv A outer s H vs Q E hr h => ⟨_, (pss_one (ps_if (PW.pt (pw_and (pt_cmpR op_eq (pe_f c__law_links (hr.mono (by decide)) (takes_of rfl rfl rfl rfl) (by rfl) T.g__law_links (pa_cons (pv 0) (pa_cons (pv 1) pa_nil))) pe_int (nomark _)) (pw_and1 (pt_cmpR op_eq (pe_dget2 (hu_of hr) (pe_dget (hu_of hr) (pv 0) pe_str (fun _ _ => rfl)) (pv 1) pe_int ⟨rfl, rfl, rfl, rfl⟩) pe_int (nomark _))))) (pss_one (ps_expr (pe_dpop1 (pe_dget (hu_of hr) (pv 0) pe_str (fun _ _ => rfl)) (pv 1) ⟨rfl, rfl, rfl, rfl⟩))) pss_nil)), ?_⟩)
  obtain ⟨v0, v1, rfl, h⟩ := h
  dsimp only [cxOf, L2.start]
  obtain ⟨g, k, rfl, rfl, O, M, hc, kk⟩ := h
  obtain ⟨⟨ca, cs⟩, hcs⟩ := Option.isSome_iff_exists.mp hc
  walk_at "s"
  refine ask2 ⟨g, k, rfl, rfl, O, M, fun H1 O1 => ?_⟩
  have hD := O1.get (a := g.D) (o := .dK (wD g)) (.head _)
  have hC := O1.get (a := g.CD) (o := .dK (ceD g.ce)) (.tail _ (.tail _ (.tail _ (.head _))))
  have hH := O1.get (a := g.HD) (o := .dK (hoD g.ho)) (.tail _ (.tail _ (.tail _ (.tail _ (.head _)))))
  have hvC : valV (wD g) (Sum.inr "cells") = some (.ref g.CD) := rfl
  have hvH : valV (wD g) (Sum.inr "holds") = some (.ref g.HD) := rfl
  have hvc : valV (ceD g.ce) (Sum.inl k) = some (.ref ca) := by rw [ce_val, hcs]; rfl
  have hcl : clearM g.abs k = if linksM g.abs k = 0 ∧ (g.ho.lookup k).getD 0 = 0 then { g.abs with ce := dropA g.abs.ce k } else g.abs := rfl
  walk_at "s"
  refine if_ii (fun h1 => ?_) (fun h1 => ?_)
  · walk_at "s"
    have e : (valV (hoD g.ho) (Sum.inl k)).getD (V.int 0) = V.int ((g.ho.lookup k).getD 0) := by
      rw [ho_val]
      cases g.ho.lookup k <;> rfl
    rw [e]
    walk_at "s"
    refine if_ii (fun h2 => ?_) (fun h2 => ?_)
    · rw [if_pos ⟨h1, h2⟩] at hcl
      walk_at "s"
      rw [show dropK (ceD g.ce) (Sum.inl k) = ceD (dropA g.ce k) from dropA_val (fun x : Addr × List Int => V.ref x.1) g.ce k]
      have O2 := O1.wr (a := g.CD) (o' := .dK (ceD (dropA g.ce k))) (.there (.there (.there .here)))
      refine kk _ { g with ce := dropA g.ce k } (O2.drop (.cons₂ _ (.cons₂ _ (.cons₂ _ (.cons₂ _ (.cons₂ _ (.append (.refl _) (List.filter_sublist.map _)))))))) ?_ rfl
      rw [hcl]
      unfold MG.abs
      dsimp only
      rw [dropA_map (fun x : Addr × List Int => x.2)]
    · rw [if_neg (fun z => h2 z.2)] at hcl
      exact kk _ g O1 hcl.symm rfl
  · rw [if_neg (fun z => h1 z.1)] at hcl
    exact kk _ g O1 hcl.symm rfl

/-! ## files: the plain law, tree of nodes and world of paths tell the same (built alone, with plain Lean, in a second: see NOTES) -/
def addO (os : List (Option Nm)) (n : Nm) : List (Option Nm) := if none ∈ os then os.set (os.idxOf none) (some n) else os ++ [some n]
theorem last_split {q : List Nm} (h : q ≠ []) : q.dropLast ++ [lastN q] = q := by
  have h1 := List.dropLast_concat_getLast h
  have h2 : lastN q = q.getLast h := by unfold lastN; rw [List.getLastD_eq_getLast?, List.getLast?_eq_some_getLast h]; rfl
  rw [h2]
  exact h1
/-! ## tree and world: the graph of nodes -/
def childA (ns : Tr) (k : Int) (n : Nm) : Option Int := match ns.lookup k with
  | some (.dir ss) => nodeOf ss n
  | _ => none
def goA (ns : Tr) (p : List Nm) : Option Int := p.foldl (fun r n => r.bind fun k => childA ns k n) (some 0)
theorem goA_snoc (ns : Tr) (p : List Nm) (n : Nm) : goA ns (p ++ [n]) = (goA ns p).bind fun k => childA ns k n := by
  unfold goA
  rw [List.foldl_append]
  rfl
theorem childA_dir {ns : Tr} {k : Int} {ss : List Sl} (h : ns.lookup k = some (.dir ss)) (n : Nm) : childA ns k n = nodeOf ss n := by
  unfold childA
  rw [h]
theorem childA_file {ns : Tr} {k l h : Int} {cs : List Int} (hf : ns.lookup k = some (.file l h cs)) (n : Nm) : childA ns k n = none := by
  unfold childA
  rw [hf]
theorem childA_no {ns : Tr} {k : Int} (h : ns.lookup k = none) (n : Nm) : childA ns k n = none := by
  unfold childA
  rw [h]
theorem childA_same {ns ns' : Tr} {k : Int} (h : ns'.lookup k = ns.lookup k) (n : Nm) : childA ns' k n = childA ns k n := by
  unfold childA
  rw [h]
theorem childA_some {ns : Tr} {k j : Int} {n : Nm} (h : childA ns k n = some j) : ∃ ss, ns.lookup k = some (.dir ss) ∧ nodeOf ss n = some j := by
  unfold childA at h
  split at h
  · rename_i ss hl
    exact ⟨ss, hl, h⟩
  · cases h
theorem nodeOf_app (a b : List Sl) (n : Nm) : nodeOf (a ++ b) n = (nodeOf a n).or (nodeOf b n) := by
  unfold nodeOf
  rw [List.findSome?_append]
theorem nodeOf_cons (s : Sl) (b : List Sl) (n : Nm) : nodeOf (s :: b) n = (s.bind fun q => if q.1 = n then some q.2 else none).or (nodeOf b n) := by
  unfold nodeOf
  rw [List.findSome?_cons]
  cases s.bind fun q => if q.1 = n then some q.2 else none <;> rfl
theorem idx_split {α : Type} [BEq α] [LawfulBEq α] {x : α} : ∀ {l : List α}, x ∈ l → ∃ a b, l = a ++ x :: b ∧ x ∉ a ∧ l.idxOf x = a.length
  | y :: r, h => by
    by_cases e : y = x
    · subst e
      exact ⟨[], r, rfl, List.not_mem_nil, by simp⟩
    · have h2 : x ∈ r := by
        rcases List.mem_cons.mp h with z | z
        · exact absurd z.symm e
        · exact z
      obtain ⟨a, b, rfl, h3, h4⟩ := idx_split h2
      refine ⟨y :: a, b, rfl, fun z => ?_, ?_⟩
      · rcases List.mem_cons.mp z with z | z
        · exact e z.symm
        · exact h3 z
      · rw [List.idxOf_cons, h4, show (y == x) = false from beq_false_of_ne e]
        rfl
theorem set_mid {α : Type} (a b : List α) (x y : α) : (a ++ x :: b).set a.length y = a ++ y :: b := by
  rw [List.set_append_right _ _ (Nat.le_refl _), Nat.sub_self]
  rfl
theorem addA_split {ss : List Sl} (n : Nm) (k : Int) (h : none ∈ ss) : ∃ a b, ss = a ++ none :: b ∧ none ∉ a ∧ addA ss n k = a ++ some (n, k) :: b := by
  obtain ⟨a, b, e, h3, h4⟩ := idx_split h
  refine ⟨a, b, e, h3, ?_⟩
  unfold addA
  rw [if_pos h, h4]
  conv => lhs; rw [e]
  exact set_mid _ _ _ _
theorem addA_new {ss : List Sl} (n : Nm) (k : Int) (h : none ∉ ss) : addA ss n k = ss ++ [some (n, k)] := by
  unfold addA
  rw [if_neg h]
theorem nodeOf_add {ss : List Sl} {n0 : Nm} (j : Int) (h : nodeOf ss n0 = none) (n : Nm) : nodeOf (addA ss n0 j) n = if n = n0 then some j else nodeOf ss n := by
  by_cases hm : none ∈ ss
  · obtain ⟨a, b, rfl, _, e⟩ := addA_split n0 j hm
    rw [e]
    rw [nodeOf_app, nodeOf_cons] at h ⊢
    rw [nodeOf_app, nodeOf_cons]
    have h1 : nodeOf a n0 = none := by
      cases hz : nodeOf a n0 with
      | none => rfl
      | some z => rw [hz] at h; cases h
    by_cases hn : n = n0
    · subst hn
      rw [if_pos rfl, h1]
      simp
    · have hn2 : ¬ n0 = n := fun z => hn z.symm
      rw [if_neg hn]
      simp [hn2]
  · rw [addA_new _ _ hm, nodeOf_app, nodeOf_cons]
    by_cases hn : n = n0
    · subst hn
      rw [if_pos rfl, h]
      simp
    · have hn2 : ¬ n0 = n := fun z => hn z.symm
      rw [if_neg hn]
      simp [hn2]
      simp [nodeOf]
theorem nodeOf_dropS (ss : List Sl) (n0 n : Nm) : nodeOf (dropS ss n0) n = if n = n0 then none else nodeOf ss n := by
  induction ss with
  | nil => simp [dropS, nodeOf]
  | cons s r ih =>
    have e : dropS (s :: r) n0 = (s.bind fun q => if q.1 = n0 then none else some q) :: dropS r n0 := rfl
    rw [e, nodeOf_cons, ih, nodeOf_cons]
    cases s with
    | none => rfl
    | some q =>
      by_cases h1 : q.1 = n0
      · by_cases h2 : n = n0
        · simp [h1, h2]
        · have h3 : ¬ n0 = n := fun z => h2 z.symm
          simp [h1, h2, h3]
      · by_cases h2 : n = n0
        · subst h2
          simp [h1]
        · simp [h1, h2]
/-! ### names of slots -/
def namesO (ss : List Sl) : List (Option Nm) := ss.map (Option.map Prod.fst)
def freeO (os : List (Option Nm)) (n : Nm) : List (Option Nm) := os.set (os.idxOf (some n)) none
theorem none_namesO (ss : List Sl) : none ∈ namesO ss ↔ none ∈ ss := by
  unfold namesO
  rw [List.mem_map]
  constructor
  · rintro ⟨s, hs, e⟩
    cases s with
    | none => exact hs
    | some q => cases e
  · exact fun h => ⟨none, h, rfl⟩
theorem namesO_len (ss : List Sl) : (namesO ss).length = ss.length := List.length_map ..
theorem namesO_app (a b : List Sl) : namesO (a ++ b) = namesO a ++ namesO b := List.map_append
theorem addO_names (ss : List Sl) (n : Nm) (k : Int) : addO (namesO ss) n = namesO (addA ss n k) := by
  by_cases h : none ∈ ss
  · have h2 := (none_namesO ss).mpr h
    obtain ⟨a, b, e1, h3, e2⟩ := addA_split n k h
    rw [e2]
    unfold addO
    rw [if_pos h2]
    have h4 : none ∉ namesO a := fun z => h3 ((none_namesO a).mp z)
    have e3 : namesO ss = namesO a ++ none :: namesO b := by rw [e1, namesO_app]; rfl
    have e4 : (namesO ss).idxOf none = (namesO a).length := by
      rw [e3, List.idxOf_append, if_neg h4]
      simp
    rw [e4, e3, set_mid, namesO_app]
    rfl
  · rw [addA_new _ _ h]
    unfold addO
    rw [if_neg fun z => h ((none_namesO ss).mp z), namesO_app]
    rfl
theorem namesIn_app (a b : List Sl) : namesIn (a ++ b) = namesIn a ++ namesIn b := List.filterMap_append
theorem mem_namesIn {ss : List Sl} {q : Nm × Int} (h : some q ∈ ss) : q.1 ∈ namesIn ss := List.mem_filterMap.mpr ⟨some q, h, rfl⟩
theorem dropS_id {ss : List Sl} {n : Nm} (h : n ∉ namesIn ss) : dropS ss n = ss := by
  unfold dropS
  conv => rhs; rw [← List.map_id ss]
  refine List.map_congr_left fun s hs => ?_
  cases s with
  | none => rfl
  | some q => rw [Option.bind_some, if_neg fun e : q.1 = n => h (e ▸ mem_namesIn hs)]; rfl
theorem drop_split {ss : List Sl} {n : Nm} {k : Int} (nd : (namesIn ss).Nodup) (h : nodeOf ss n = some k) : ∃ a b, ss = a ++ some (n, k) :: b ∧ n ∉ namesIn a ∧ n ∉ namesIn b ∧ dropS ss n = a ++ none :: b ∧ freeO (namesO ss) n = namesO (dropS ss n) := by
  obtain ⟨a, b, rfl⟩ := List.append_of_mem (nodeOf_some h)
  have nd1 := nd
  rw [namesIn_app, show namesIn (some (n, k) :: b) = n :: namesIn b from rfl] at nd1
  obtain ⟨n1, n2, n3⟩ := List.nodup_append.mp nd1
  have ha : n ∉ namesIn a := fun z => n3 n z n (.head _) rfl
  have hb : n ∉ namesIn b := (List.nodup_cons.mp n2).1
  have e : dropS (a ++ some (n, k) :: b) n = a ++ none :: b := by
    have e1 : dropS (a ++ some (n, k) :: b) n = dropS a n ++ dropS (some (n, k) :: b) n := List.map_append
    have e2 : dropS (some (n, k) :: b) n = none :: dropS b n := by
      show (some (n, k) : Sl).bind _ :: _ = _
      rw [Option.bind_some, if_pos rfl]
      rfl
    rw [e1, e2, dropS_id ha, dropS_id hb]
  refine ⟨a, b, rfl, ha, hb, e, ?_⟩
  rw [e, namesO_app, namesO_app]
  unfold freeO
  have hna : some n ∉ namesO a := by
    intro z
    obtain ⟨s, hs, hz⟩ := List.mem_map.mp z
    cases s with
    | none => cases hz
    | some q =>
      have hz : q.1 = n := Option.some.inj hz
      exact ha (hz ▸ mem_namesIn hs)
  rw [show namesO (some (n, k) :: b) = some n :: namesO b from rfl]
  rw [List.idxOf_append, if_neg hna, show (some n :: namesO b).idxOf (some n) = 0 by simp, Nat.zero_add, set_mid]
  rfl
theorem nodeOf_mem {ss : List Sl} {q : Nm × Int} (nd : (namesIn ss).Nodup) (h : some q ∈ ss) : nodeOf ss q.1 = some q.2 := by
  obtain ⟨a, b, rfl⟩ := List.append_of_mem h
  rw [namesIn_app, show namesIn (some q :: b) = q.1 :: namesIn b from rfl] at nd
  obtain ⟨n1, n2, n3⟩ := List.nodup_append.mp nd
  have ha : q.1 ∉ namesIn a := fun z => n3 _ z _ (.head _) rfl
  have h0 : nodeOf a q.1 = none := nodeOf_none.mpr fun u hu e => ha (by rw [← e]; exact mem_namesIn hu)
  rw [nodeOf_app, h0, nodeOf_cons]
  simp
theorem namesIn_nodeOf {ss : List Sl} {n : Nm} (h : nodeOf ss n = none) : n ∉ namesIn ss := fun z => by
  obtain ⟨k, hk⟩ := namesIn_mem z
  exact nodeOf_none.mp h _ hk rfl
theorem namesIn_add {ss : List Sl} (n : Nm) (k : Int) : (namesIn (addA ss n k)).Perm (n :: namesIn ss) := by
  by_cases h : none ∈ ss
  · obtain ⟨a, b, rfl, _, e⟩ := addA_split n k h
    rw [e, namesIn_app, namesIn_app]
    exact List.perm_middle
  · rw [addA_new _ _ h, namesIn_app]
    exact List.perm_append_comm
theorem namesIn_drop {ss : List Sl} {n : Nm} {k : Int} (nd : (namesIn ss).Nodup) (h : nodeOf ss n = some k) : (n :: namesIn (dropS ss n)).Perm (namesIn ss) ∧ List.Sublist (namesIn (dropS ss n)) (namesIn ss) := by
  obtain ⟨a, b, rfl, _, _, e, _⟩ := drop_split nd h
  rw [e, namesIn_app, namesIn_app]
  refine ⟨List.perm_middle.symm, ?_⟩
  exact .append (.refl _) (.cons _ (.refl _))
theorem mem_addA {ss : List Sl} {n : Nm} {k : Int} {s : Sl} (h : s ∈ addA ss n k) : s ∈ ss ∨ s = some (n, k) := by
  by_cases hm : none ∈ ss
  · obtain ⟨a, b, rfl, _, e⟩ := addA_split n k hm
    rw [e] at h
    rcases List.mem_append.mp h with z | z
    · exact .inl (List.mem_append_left _ z)
    · rcases List.mem_cons.mp z with z | z
      · exact .inr z
      · exact .inl (List.mem_append_right _ (.tail _ z))
  · rw [addA_new _ _ hm] at h
    rcases List.mem_append.mp h with z | z
    · exact .inl z
    · exact .inr (List.mem_singleton.mp z)
theorem addA_len (ss : List Sl) (n : Nm) (k : Int) : (addA ss n k).length = if none ∈ ss then ss.length else ss.length + 1 := by
  unfold addA
  split
  · rw [List.length_set]
  · rw [List.length_append]; rfl
theorem mem_dropS {ss : List Sl} {n : Nm} {q : Nm × Int} (h : some q ∈ dropS ss n) : some q ∈ ss ∧ q.1 ≠ n := by
  obtain ⟨s, hs, e⟩ := List.mem_map.mp h
  cases s with
  | none => cases e
  | some u =>
    rw [Option.bind_some] at e
    split at e
    · cases e
    · cases e
      exact ⟨hs, by assumption⟩
/-! ### walks along paths -/
theorem walkA_go {ns : Tr} : ∀ p : List Nm, (∀ c, walkA ns p = .ok c → goA ns p = some (lastI c)) ∧ (∀ e, walkA ns p = .error e → goA ns p = none) := by
  intro p
  induction p using snoc_ind with
  | h0 => exact ⟨fun c h => by (cases h; rfl), nofun⟩
  | h1 p n ih =>
    rw [walkA_snoc, goA_snoc]
    cases hw : walkA ns p with
    | error x => rw [ih.2 x hw]; exact ⟨nofun, fun _ _ => rfl⟩
    | ok c0 =>
      rw [ih.1 c0 hw, Option.bind_some]
      have e0 : (Except.ok c0 : Except FRf (List Int)).bind (fun c => (stepA ns (c.getLastD 0) n).map fun k => c ++ [k]) = (stepA ns (lastI c0) n).map fun k => c0 ++ [k] := rfl
      rw [e0]
      unfold stepA childA
      cases hl : ns.lookup (lastI c0) with
      | none => exact ⟨nofun, fun _ _ => rfl⟩
      | some x =>
        cases x with
        | file l h cs => exact ⟨nofun, fun _ _ => rfl⟩
        | dir ss =>
          cases hn : nodeOf ss n with
          | none => simp only [hn]; exact ⟨nofun, fun _ _ => trivial⟩
          | some j =>
            simp only [hn]
            refine ⟨fun c h => ?_, nofun⟩
            cases h
            simp [lastI]
theorem goA_ok {ns : Tr} {p : List Nm} {k : Int} (h : goA ns p = some k) : ∃ c, walkA ns p = .ok c ∧ lastI c = k := by
  cases hw : walkA ns p with
  | error e => rw [(walkA_go p).2 e hw] at h; cases h
  | ok c => rw [(walkA_go p).1 c hw] at h; cases h; exact ⟨c, rfl, rfl⟩
theorem goA_in {ns : Tr} (A : AOk ns) {p : List Nm} {k : Int} (h : goA ns p = some k) : (ns.lookup k).isSome = true := by
  obtain ⟨c, hc, rfl⟩ := goA_ok h
  have hch := (walkA_ok A _ _ hc).1
  exact hch.in_ _ (getLastD_mem hch.ne)
theorem goA_none_app {ns : Tr} {p : List Nm} (h : goA ns p = none) (r : List Nm) : goA ns (p ++ r) = none := by
  induction r using snoc_ind with
  | h0 => rw [List.append_nil]; exact h
  | h1 r n ih => rw [← List.append_assoc, goA_snoc, ih]; rfl
theorem goA_end {ns : Tr} {p : List Nm} {j : Int} (h : goA ns p = some j) (hj : ∀ n, childA ns j n = none) {r : List Nm} (hr : r ≠ []) : goA ns (p ++ r) = none := by
  cases r with
  | nil => exact absurd rfl hr
  | cons n r =>
    rw [show p ++ n :: r = (p ++ [n]) ++ r by simp]
    exact goA_none_app (by rw [goA_snoc, h, Option.bind_some, hj]) r
theorem goA_pre {ns : Tr} {p r : List Nm} {k : Int} (h : goA ns (p ++ r) = some k) : ∃ j, goA ns p = some j := by
  cases hp : goA ns p with
  | some j => exact ⟨j, rfl⟩
  | none => rw [goA_none_app hp] at h; cases h
theorem snoc_ne {p : List Nm} {n : Nm} : p ++ [n] ≠ p := fun h => by
  have := congrArg List.length h
  simp at this
theorem snoc_inj {p q : List Nm} {n m : Nm} (h : p ++ [n] = q ++ [m]) : p = q ∧ n = m := by
  have := List.append_inj' h rfl
  exact ⟨this.1, (List.cons.inj this.2).1⟩
/-- one edge more -/
theorem goA_add {ns ns' : Tr} {p0 : List Nm} {n0 : Nm} {k0 j : Int} (hc : ∀ k n, childA ns' k n = if k = k0 ∧ n = n0 then some j else childA ns k n) (h0 : goA ns p0 = some k0) (hu : ∀ p, goA ns p = some k0 → p = p0)
    (hn : childA ns k0 n0 = none) (hj : ∀ n, childA ns j n = none) (hjk : j ≠ k0) (p : List Nm) : goA ns' p = if p = p0 ++ [n0] then some j else goA ns p := by
  induction p using snoc_ind with
  | h0 => rw [if_neg (by simp)]; rfl
  | h1 p n ih =>
    have hq : goA ns (p0 ++ [n0]) = none := by rw [goA_snoc, h0, Option.bind_some, hn]
    rw [goA_snoc, ih]
    by_cases hp : p = p0 ++ [n0]
    · rw [if_pos hp, Option.bind_some, hc, if_neg (fun z => hjk z.1), hj, if_neg, hp, goA_none_app hq]
      rw [hp]
      exact snoc_ne
    · rw [if_neg hp, goA_snoc]
      cases hg : goA ns p with
      | none =>
        rw [Option.bind_none, Option.bind_none, if_neg]
        intro e
        rw [(snoc_inj e).1, h0] at hg
        cases hg
      | some k =>
        rw [Option.bind_some, Option.bind_some, hc]
        by_cases h2 : k = k0 ∧ n = n0
        · rw [if_pos h2, if_pos]
          rw [hu p (by rw [hg, h2.1]), h2.2]
        · rw [if_neg h2, if_neg]
          intro e
          obtain ⟨e1, e2⟩ := snoc_inj e
          rw [e1, h0] at hg
          exact h2 ⟨(Option.some.inj hg).symm, e2⟩
/-- one edge less -/
theorem goA_del {ns ns' : Tr} {p0 : List Nm} {n0 : Nm} {k0 j : Int} (hc : ∀ k n, childA ns' k n = if k = k0 ∧ n = n0 then none else childA ns k n) (h0 : goA ns p0 = some k0) (hu : ∀ p, goA ns p = some k0 → p = p0)
    (hn : childA ns k0 n0 = some j) (hj : ∀ n, childA ns j n = none) (p : List Nm) : goA ns' p = if p = p0 ++ [n0] then none else goA ns p := by
  induction p using snoc_ind with
  | h0 => rw [if_neg (by simp)]; rfl
  | h1 p n ih =>
    have hq : goA ns (p0 ++ [n0]) = some j := by rw [goA_snoc, h0, Option.bind_some, hn]
    rw [goA_snoc, ih]
    by_cases hp : p = p0 ++ [n0]
    · rw [if_pos hp, Option.bind_none, goA_snoc, hp, hq, Option.bind_some, hj]
      split <;> rfl
    · rw [if_neg hp, goA_snoc]
      cases hg : goA ns p with
      | none => rw [Option.bind_none]; split <;> rfl
      | some k =>
        rw [Option.bind_some, Option.bind_some, hc]
        by_cases h2 : k = k0 ∧ n = n0
        · rw [if_pos h2, if_pos]
          rw [hu p (by rw [hg, h2.1]), h2.2]
        · rw [if_neg h2, if_neg]
          intro e
          obtain ⟨e1, e2⟩ := snoc_inj e
          rw [e1, h0] at hg
          exact h2 ⟨(Option.some.inj hg).symm, e2⟩
theorem drop_pre {q r : List Nm} : (q ++ r).drop q.length = r := by simp
theorem pre_snoc {q p : List Nm} {n : Nm} : q <+: p ++ [n] ↔ q = p ++ [n] ∨ q <+: p := by
  constructor
  · rintro ⟨r, h⟩
    by_cases hr : r = []
    · subst hr
      exact .inl (by rw [← h, List.append_nil])
    · refine .inr ⟨r.dropLast, ?_⟩
      have h1 := List.dropLast_concat_getLast hr
      rw [← h1, ← List.append_assoc] at h
      exact (snoc_inj h).1
  · rintro (h | ⟨r, h⟩)
    · exact ⟨[], by rw [h, List.append_nil]⟩
    · exact ⟨r ++ [n], by rw [← List.append_assoc, h]⟩
/-- an edge goes to another place -/
theorem goA_move {ns ns' : Tr} {p0 p1 : List Nm} {n0 n1 : Nm} {k0 k1 j : Int} (hc : ∀ k n, childA ns' k n = if k = k1 ∧ n = n1 then some j else if k = k0 ∧ n = n0 then none else childA ns k n)
    (h0 : goA ns p0 = some k0) (hu0 : ∀ p, goA ns p = some k0 → p = p0) (h1 : goA ns p1 = some k1) (hu1 : ∀ p, goA ns p = some k1 → p = p1) (hn : childA ns k0 n0 = some j) (hn1 : childA ns k1 n1 = none)
    (hin : ¬ (p0 ++ [n0]) <+: p1) (p : List Nm) : goA ns' p = if p1 ++ [n1] <+: p then goA ns ((p0 ++ [n0]) ++ p.drop (p1 ++ [n1]).length) else if p0 ++ [n0] <+: p then none else goA ns p := by
  have hq0 : goA ns (p0 ++ [n0]) = some j := by rw [goA_snoc, h0, Option.bind_some, hn]
  have hq1 : goA ns (p1 ++ [n1]) = none := by rw [goA_snoc, h1, Option.bind_some, hn1]
  have hl : ∀ {q : List Nm} {n : Nm}, ¬ (q ++ [n] <+: q) := fun h => by
    have := h.length_le
    simp at this
    omega
  induction p using snoc_ind with
  | h0 =>
    have z : ∀ (q : List Nm) (n : Nm), ¬ (q ++ [n] <+: []) := fun q n h => by
      have := h.length_le
      simp at this
    rw [if_neg (z _ _), if_neg (z _ _)]
    rfl
  | h1 p n ih =>
    rw [goA_snoc, ih]
    by_cases a1 : p1 ++ [n1] <+: p
    · rw [if_pos a1, if_pos (pre_snoc.mpr (.inr a1))]
      obtain ⟨r, rfl⟩ := a1
      rw [drop_pre, List.append_assoc (p1 ++ [n1]), drop_pre, ← List.append_assoc (p0 ++ [n0]), goA_snoc]
      cases hg : goA ns (p0 ++ [n0] ++ r) with
      | none => rfl
      | some k =>
        rw [Option.bind_some, Option.bind_some, hc, if_neg, if_neg]
        · rintro ⟨rfl, _⟩
          have := congrArg List.length (hu0 _ hg)
          simp at this
        · rintro ⟨rfl, _⟩
          exact hin ⟨r, hu1 _ hg⟩
    · rw [if_neg a1]
      by_cases a2 : p0 ++ [n0] <+: p
      · rw [if_pos a2, Option.bind_none]
        rw [if_neg, if_pos (pre_snoc.mpr (.inr a2))]
        intro z
        rcases pre_snoc.mp z with z | z
        · rw [(snoc_inj z).1] at hin
          exact hin a2
        · exact a1 z
      · rw [if_neg a2]
        by_cases a3 : p1 ++ [n1] = p ++ [n]
        · obtain ⟨rfl, rfl⟩ := snoc_inj a3
          rw [if_pos (List.prefix_refl _), h1, Option.bind_some, hc, if_pos ⟨rfl, rfl⟩, List.drop_length, List.append_nil, hq0]
        · rw [if_neg (fun z => (pre_snoc.mp z).elim a3 a1)]
          cases hg : goA ns p with
          | none =>
            rw [Option.bind_none]
            split
            · rfl
            · rw [goA_snoc, hg]; rfl
          | some k =>
            rw [Option.bind_some, hc, if_neg (fun z => a3 (by rw [hu1 p (by rw [hg, z.1]), z.2]))]
            by_cases a4 : k = k0 ∧ n = n0
            · rw [if_pos a4, if_pos]
              rw [hu0 p (by rw [hg, a4.1]), a4.2]
              exact List.prefix_refl _
            · rw [if_neg a4, if_neg, goA_snoc, hg, Option.bind_some]
              intro z
              rcases pre_snoc.mp z with z | z
              · obtain ⟨rfl, rfl⟩ := snoc_inj z
                rw [h0] at hg
                exact a4 ⟨(Option.some.inj hg).symm, rfl⟩
              · exact a2 z
/-! ### rows told by a part -/
def fmA {α β : Type} (f : α → Option β) (l : List (Int × α)) : List (Int × β) := l.filterMap fun x => (f x.2).map fun y => (x.1, y)
theorem fmA_app {α β : Type} (f : α → Option β) (a b : List (Int × α)) : fmA f (a ++ b) = fmA f a ++ fmA f b := List.filterMap_append
theorem fmA_key {α β : Type} {f : α → Option β} {l : List (Int × α)} {k : Int} (h : k ∈ (fmA f l).map (·.1)) : k ∈ l.map (·.1) := by
  obtain ⟨x, hx, rfl⟩ := List.mem_map.mp h
  obtain ⟨y, hy, e⟩ := List.mem_filterMap.mp hx
  obtain ⟨z, hz, rfl⟩ := Option.map_eq_some_iff.mp e
  exact List.mem_map.mpr ⟨y, hy, rfl⟩
theorem fmA_lk {α β : Type} (f : α → Option β) {l : List (Int × α)} (nd : (l.map (·.1)).Nodup) (k : Int) : (fmA f l).lookup k = (l.lookup k).bind f := by
  induction l with
  | nil => rfl
  | cons x r ih =>
    obtain ⟨j, u⟩ := x
    obtain ⟨n1, n2⟩ := List.nodup_cons.mp nd
    have ih := ih n2
    rw [List.lookup_cons]
    unfold fmA at ih ⊢
    rw [List.filterMap_cons]
    by_cases e : k = j
    · subst e
      simp only [beq_self_eq_true, Option.bind_some]
      cases hf : f u with
      | none =>
        simp only [Option.map_none]
        rw [ih, lk_none.mpr n1]
        rfl
      | some y => simp only [Option.map_some, List.lookup_cons, beq_self_eq_true]
    · have e2 : (k == j) = false := by simpa using e
      rw [e2]
      cases hf : f u with
      | none => simp only [Option.map_none]; exact ih
      | some y => simp only [Option.map_some, List.lookup_cons, e2]; exact ih
theorem fmA_nd {α β : Type} (f : α → Option β) {l : List (Int × α)} (nd : (l.map (·.1)).Nodup) : ((fmA f l).map (·.1)).Nodup := by
  have h : List.Sublist ((fmA f l).map (·.1)) (l.map (·.1)) := by
    clear nd
    induction l with
    | nil => exact .refl _
    | cons x r ih =>
      unfold fmA at ih ⊢
      rw [List.filterMap_cons, List.map_cons]
      cases hf : f x.2 with
      | none => simp only [Option.map_none]; exact .cons _ ih
      | some y => simp only [Option.map_some, List.map_cons]; exact .cons₂ _ ih
  exact h.nodup nd
theorem fmA_set {α β : Type} (f : α → Option β) {l : List (Int × α)} (nd : (l.map (·.1)).Nodup) {k : Int} {u v : α} {z y : β} (h : l.lookup k = some u) (hu : f u = some z) (hv : f v = some y) : fmA f (setA l k v) = setA (fmA f l) k y := by
  obtain ⟨a, b, rfl, _⟩ := lk_split h
  rw [setA_mid nd]
  have h1 : ∀ w : α, fmA f (a ++ (k, w) :: b) = fmA f a ++ (((f w).map fun y => (k, y)).toList ++ fmA f b) := fun w => by
    rw [fmA_app]
    unfold fmA
    rw [List.filterMap_cons]
    cases f w <;> rfl
  have nd2 := fmA_nd f nd
  rw [h1, hu] at nd2
  rw [h1, h1, hu, hv]
  exact (setA_mid nd2).symm
theorem fmA_keep {α β : Type} (f : α → Option β) {l : List (Int × α)} (nd : (l.map (·.1)).Nodup) {k : Int} {u v : α} (h : l.lookup k = some u) (hu : f u = f v) : fmA f (setA l k v) = fmA f l := by
  obtain ⟨a, b, rfl, _⟩ := lk_split h
  rw [setA_mid nd, fmA_app, fmA_app]
  unfold fmA
  rw [List.filterMap_cons, List.filterMap_cons, hu]
theorem fmA_drop {α β : Type} (f : α → Option β) (l : List (Int × α)) (k : Int) : fmA f (dropA l k) = dropA (fmA f l) k := by
  induction l with
  | nil => rfl
  | cons x r ih =>
    unfold fmA dropA at ih ⊢
    by_cases e : x.1 = k
    · rw [List.filter_cons, if_neg (by simpa using e), ih, List.filterMap_cons]
      cases f x.2 with
      | none => rfl
      | some y => simp only [Option.map_some]; rw [List.filter_cons, if_neg (by simpa using e)]
    · rw [List.filter_cons, if_pos (by simpa using e), List.filterMap_cons, List.filterMap_cons, ih]
      cases f x.2 with
      | none => rfl
      | some y => simp only [Option.map_some]; rw [List.filter_cons, if_pos (by simpa using e)]
theorem fmA_new {α β : Type} (f : α → Option β) (l : List (Int × α)) (k : Int) (v : α) : fmA f (l ++ [(k, v)]) = fmA f l ++ ((f v).map fun y => (k, y)).toList := by
  rw [fmA_app]
  congr 1
def dirO : AN → Option (List (Option Nm))
  | .dir ss => some (namesO ss)
  | .file _ _ _ => none
def fileO : AN → Option (List Int)
  | .dir _ => none
  | .file _ _ cs => some cs
def slotsN : AN → Nat
  | .dir ss => (namesIn ss).length
  | .file _ _ _ => 0
theorem sum_app (a b : List Int) : (a ++ b).sum = a.sum + b.sum := by
  induction a with
  | nil => simp
  | cons x r ih => rw [List.cons_append, List.sum_cons, List.sum_cons, ih]; omega
theorem fm_sum (ns : Tr) : (ns.map fun x => usedA x.2).sum = (((fmA dirO ns).map fun x => blk (8 * (x.2.length : Nat))) ++ (fmA fileO ns).map fun x => blk (x.2.length : Nat)).sum := by
  induction ns with
  | nil => rfl
  | cons x r ih =>
    obtain ⟨k, u⟩ := x
    rw [sum_app] at ih ⊢
    rw [List.map_cons, List.sum_cons, ih]
    cases u with
    | dir ss =>
      have e1 : fmA dirO ((k, AN.dir ss) :: r) = (k, namesO ss) :: fmA dirO r := rfl
      have e2 : fmA fileO ((k, AN.dir ss) :: r) = fmA fileO r := rfl
      rw [e1, e2, List.map_cons, List.sum_cons, namesO_len]
      show blk _ + _ = _
      omega
    | file l h cs =>
      have e1 : fmA dirO ((k, AN.file l h cs) :: r) = fmA dirO r := rfl
      have e2 : fmA fileO ((k, AN.file l h cs) :: r) = (k, cs) :: fmA fileO r := rfl
      rw [e1, e2, List.map_cons, List.sum_cons]
      show blk (cs.length : Nat) + _ = _
      dsimp only
      omega
theorem fm_len (ns : Tr) : (fmA dirO ns).length + (fmA fileO ns).length = ns.length := by
  induction ns with
  | nil => rfl
  | cons x r ih =>
    obtain ⟨k, u⟩ := x
    cases u with
    | dir ss =>
      have e1 : fmA dirO ((k, AN.dir ss) :: r) = (k, namesO ss) :: fmA dirO r := rfl
      have e2 : fmA fileO ((k, AN.dir ss) :: r) = fmA fileO r := rfl
      rw [e1, e2, List.length_cons, List.length_cons]
      omega
    | file l h cs =>
      have e1 : fmA dirO ((k, AN.file l h cs) :: r) = fmA dirO r := rfl
      have e2 : fmA fileO ((k, AN.file l h cs) :: r) = (k, cs) :: fmA fileO r := rfl
      rw [e1, e2, List.length_cons, List.length_cons]
      omega
/-- a sum over a row of which one thing is put anew -/
theorem sum_set {α : Type} (f : α → Nat) {l : List (Int × α)} (nd : (l.map (·.1)).Nodup) {k : Int} {u v : α} (h : l.lookup k = some u) : ((setA l k v).map fun x => f x.2).sum + f u = (l.map fun x => f x.2).sum + f v := by
  obtain ⟨a, b, rfl, _⟩ := lk_split h
  rw [setA_mid nd, List.map_append, List.map_append, List.map_cons, List.map_cons, List.sum_append, List.sum_append, List.sum_cons, List.sum_cons]
  show _ + (f v + _) + f u = _ + (f u + _) + f v
  omega
theorem sum_drop {α : Type} (f : α → Nat) {l : List (Int × α)} (nd : (l.map (·.1)).Nodup) {k : Int} {u : α} (h : l.lookup k = some u) : ((dropA l k).map fun x => f x.2).sum + f u = (l.map fun x => f x.2).sum := by
  obtain ⟨a, b, rfl, _⟩ := lk_split h
  rw [dropA_mid nd, List.map_append, List.map_append, List.map_cons, List.sum_append, List.sum_append, List.sum_cons]
  show _ + f u = _ + (f u + _)
  omega
/-! ### rows by path -/
abbrev Pt := List (List Nm × Int)
theorem pk_split {m : Pt} {k : List Nm} {v : Int} (h : m.lookup k = some v) : ∃ l q, m = l ++ (k, v) :: q ∧ k ∉ l.map (·.1) := by
  induction m with
  | nil => cases h
  | cons x r ih =>
    obtain ⟨j, u⟩ := x
    rw [List.lookup_cons] at h
    cases e : k == j with
    | true =>
      rw [e] at h
      cases h
      cases eq_of_beq e
      exact ⟨[], r, rfl, List.not_mem_nil⟩
    | false =>
      rw [e] at h
      obtain ⟨l, q, rfl, hl⟩ := ih h
      refine ⟨(j, u) :: l, q, rfl, fun z => ?_⟩
      rcases List.mem_cons.mp z with z | z
      · rw [z] at e; simp at e
      · exact hl z
theorem pk_none {m : Pt} {k : List Nm} : m.lookup k = none ↔ k ∉ m.map (·.1) := by
  induction m with
  | nil => exact ⟨fun _ => List.not_mem_nil, fun _ => rfl⟩
  | cons x r ih =>
    obtain ⟨j, u⟩ := x
    rw [List.lookup_cons, List.map_cons, List.mem_cons]
    cases e : k == j with
    | true => exact ⟨nofun, fun z => absurd (.inl (eq_of_beq e)) z⟩
    | false =>
      have hne : k ≠ j := fun z => by rw [z] at e; simp at e
      refine ih.trans ⟨fun h z => z.elim hne h, fun h z => h (.inr z)⟩
theorem pk_nd {m : Pt} {k : List Nm} {v : Int} (nd : (m.map (·.1)).Nodup) (h : (k, v) ∈ m) : m.lookup k = some v := by
  induction m with
  | nil => cases h
  | cons x q ih =>
    obtain ⟨j, u⟩ := x
    rw [List.map_cons] at nd
    obtain ⟨n1, n2⟩ := List.nodup_cons.mp nd
    rw [List.lookup_cons]
    rcases List.mem_cons.mp h with z | z
    · cases z; simp
    · have hne : k ≠ j := fun e => n1 (e ▸ List.mem_map.mpr ⟨_, z, rfl⟩)
      rw [show (k == j) = false by simpa using hne]
      exact ih n2 z
theorem pk_app (l q : Pt) (j : List Nm) : (l ++ q).lookup j = (l.lookup j).or (q.lookup j) := by
  induction l with
  | nil => rfl
  | cons x r ih =>
    obtain ⟨i, u⟩ := x
    rw [List.cons_append, List.lookup_cons, List.lookup_cons]
    cases j == i with
    | true => rfl
    | false => exact ih
theorem pk_filter (g : List Nm → Bool) (m : Pt) (k : List Nm) : (m.filter fun x => g x.1).lookup k = if g k = true then m.lookup k else none := by
  induction m with
  | nil => split <;> rfl
  | cons x r ih =>
    obtain ⟨j, u⟩ := x
    rw [List.filter_cons, List.lookup_cons]
    by_cases e : k = j
    · subst e
      rw [show (k == k) = true by simp]
      cases hg : g k with
      | true => rw [if_pos rfl, List.lookup_cons, show (k == k) = true by simp]; rfl
      | false =>
        rw [if_neg (by simp)]
        rw [ih, hg]
        rfl
    · have e2 : (k == j) = false := by simpa using e
      rw [e2]
      cases hg : g j with
      | true => rw [if_pos rfl, List.lookup_cons, e2]; exact ih
      | false => rw [if_neg (by simp)]; exact ih
def dropP (m : Pt) (q : List Nm) : Pt := m.filter fun x => decide (x.1 ≠ q)
theorem pk_dropP (m : Pt) (q k : List Nm) : (dropP m q).lookup k = if k = q then none else m.lookup k := by
  unfold dropP
  rw [pk_filter (fun p => decide (p ≠ q))]
  by_cases h : k = q
  · rw [if_pos h, if_neg (by simp [h])]
  · rw [if_neg h, if_pos (by simp [h])]
theorem dropP_no {m : Pt} {q : List Nm} (h : q ∉ m.map (·.1)) : dropP m q = m :=
  List.filter_eq_self.mpr fun x hx => decide_eq_true fun e => h (List.mem_map.mpr ⟨x, hx, e⟩)
theorem dropP_mid {l r : Pt} {q : List Nm} {v : Int} (nd : ((l ++ (q, v) :: r).map (·.1)).Nodup) : dropP (l ++ (q, v) :: r) q = l ++ r := by
  rw [List.map_append, List.map_cons] at nd
  obtain ⟨n1, n2, n3⟩ := List.nodup_append.mp nd
  have h1 : q ∉ l.map (·.1) := fun z => n3 q z q (.head _) rfl
  have h2 : q ∉ r.map (·.1) := (List.nodup_cons.mp n2).1
  unfold dropP
  rw [List.filter_append, List.filter_cons, if_neg (by simp)]
  exact congr (congrArg _ (dropP_no h1)) (dropP_no h2)
theorem count_two {l : Pt} {p q : List Nm} {k : Int} (hp : (p, k) ∈ l) (hq : (q, k) ∈ l) (h : p ≠ q) : 2 ≤ (l.map (·.2)).count k := by
  induction l with
  | nil => cases hp
  | cons x r ih =>
    rw [List.map_cons, List.count_cons]
    have one : ∀ {p}, (p, k) ∈ r → 1 ≤ (r.map (·.2)).count k := fun h => List.count_pos_iff.mpr (List.mem_map.mpr ⟨_, h, rfl⟩)
    rcases List.mem_cons.mp hp with z | z
    · subst z
      rcases List.mem_cons.mp hq with z2 | z2
      · cases z2; exact absurd rfl h
      · have := one z2
        rw [if_pos (by simp)]
        omega
    · rcases List.mem_cons.mp hq with z2 | z2
      · subst z2
        have := one z
        rw [if_pos (by simp)]
        omega
      · have := ih z z2
        omega
/-! ### the world tells the tree -/
structure RX (x : Int) (room : Int) (ns : Tr) (m : MW) : Prop where
  ok : AOk ns
  room : m.room = room
  ho : m.ho = []
  hol : ∀ k l h cs, ns.lookup k = some (.file l h cs) → h = 0
  sl : m.sl = fmA dirO ns
  ce : m.ce = fmA fileO ns
  at_ : ∀ p, m.at_.lookup p = goA ns p
  ndk : (m.at_.map (·.1)).Nodup
  lkf : ∀ k l h cs, k ≠ x → ns.lookup k = some (.file l h cs) → linksM m k = l
  lkd : ∀ k ss, k ≠ x → ns.lookup k = some (.dir ss) → linksM m k = 1
  nm : ∀ k ss, ns.lookup k = some (.dir ss) → (namesIn ss).Nodup ∧ ∀ n ∈ namesIn ss, nameB n = true
  cnt : m.at_.length = 1 + (ns.map fun x => slotsN x.2).sum
section
variable {x room : Int} {ns : Tr} {m : MW}
theorem RX.weak (R : RX x room ns m) (hx : x = -1) (j : Int) : RX j room ns m :=
  ⟨R.ok, R.room, R.ho, R.hol, R.sl, R.ce, R.at_, R.ndk, fun k l h cs _ e => R.lkf k l h cs (fun z => by
    have := (R.ok.rng _ (lk_mem e)).1
    omega) e, fun k ss _ e => R.lkd k ss (fun z => by
    have := (R.ok.rng _ (lk_mem e)).1
    omega) e, R.nm, R.cnt⟩
theorem RX.sl_lk (R : RX x room ns m) (k : Int) : m.sl.lookup k = (ns.lookup k).bind dirO := by rw [R.sl]; exact fmA_lk _ R.ok.nd k
theorem RX.ce_lk (R : RX x room ns m) (k : Int) : m.ce.lookup k = (ns.lookup k).bind fileO := by rw [R.ce]; exact fmA_lk _ R.ok.nd k
theorem RX.sl_dir (R : RX x room ns m) {k : Int} {ss : List Sl} (h : ns.lookup k = some (.dir ss)) : m.sl.lookup k = some (namesO ss) ∧ m.ce.lookup k = none := by
  rw [R.sl_lk, R.ce_lk, h]
  exact ⟨rfl, rfl⟩
theorem RX.ce_file (R : RX x room ns m) {k l h : Int} {cs : List Int} (e : ns.lookup k = some (.file l h cs)) : m.sl.lookup k = none ∧ m.ce.lookup k = some cs := by
  rw [R.sl_lk, R.ce_lk, e]
  exact ⟨rfl, rfl⟩
theorem RX.lk_no (R : RX x room ns m) {k : Int} (e : ns.lookup k = none) : m.sl.lookup k = none ∧ m.ce.lookup k = none := by
  rw [R.sl_lk, R.ce_lk, e]
  exact ⟨rfl, rfl⟩
theorem links_pos {m : MW} {p : List Nm} {k : Int} (h : (p, k) ∈ m.at_) : 1 ≤ linksM m k := by
  have : 1 ≤ (m.at_.map (·.2)).count k := List.count_pos_iff.mpr (List.mem_map.mpr ⟨_, h, rfl⟩)
  unfold linksM
  omega
theorem RX.mem (R : RX x room ns m) {p : List Nm} {k : Int} : goA ns p = some k ↔ (p, k) ∈ m.at_ := by
  rw [← R.at_ p]
  exact ⟨fun h => lkL_mem h, fun h => pk_nd R.ndk h⟩
theorem RX.uniq (R : RX x room ns m) {k : Int} {ss : List Sl} (hk : ns.lookup k = some (.dir ss)) (hx : k ≠ x) {p q : List Nm} (hp : goA ns p = some k) (hq : goA ns q = some k) : p = q := by
  by_cases h : p = q
  · exact h
  · have h1 := count_two (R.mem.mp hp) (R.mem.mp hq) h
    have h2 := R.lkd k ss hx hk
    unfold linksM at h2
    omega
theorem RX.reach (R : RX x room ns m) {k : Int} {ss : List Sl} (hk : ns.lookup k = some (.dir ss)) (hx : k ≠ x) : ∃ p, goA ns p = some k := by
  have h2 := R.lkd k ss hx hk
  unfold linksM at h2
  have h3 : 0 < (m.at_.map (·.2)).count k := by omega
  obtain ⟨⟨p, j⟩, hp, rfl⟩ := List.mem_map.mp (List.count_pos_iff.mp h3)
  exact ⟨p, R.mem.mpr hp⟩
theorem RX.slot (R : RX x room ns m) {k j : Int} {n : Nm} {ss : List Sl} (hk : ns.lookup k = some (.dir ss)) (hx : k ≠ x) (h : some (n, j) ∈ ss) : 1 ≤ linksM m j := by
  obtain ⟨p, hp⟩ := R.reach hk hx
  have h1 : goA ns (p ++ [n]) = some j := by
    rw [goA_snoc, hp, Option.bind_some, childA_dir hk]
    exact nodeOf_mem (R.nm k ss hk).1 h
  exact links_pos (R.mem.mp h1)
theorem RX.spare (R : RX x room ns m) : spareM m = freeA room ns := by
  unfold spareM freeA
  rw [R.room, R.sl, R.ce, fm_sum]
theorem RX.grow (R : RX x room ns m) (ss : List Sl) : growM m (namesO ss) = growA room ns ss := by
  unfold growM growA
  rw [R.spare, namesO_len]
  have e : decide (none ∈ namesO ss) = decide (none ∈ ss) := decide_eq_decide.mpr (none_namesO ss)
  rw [e, show (8 : Int) * ((ss.length : Nat) + 1) = 8 * (ss.length : Nat) + 8 by omega]
theorem full_names (ss : List Sl) : fullO (namesO ss) = fullA ss := by
  unfold fullO fullA
  rw [namesO_len]
  have e : decide (none ∈ namesO ss) = decide (none ∈ ss) := decide_eq_decide.mpr (none_namesO ss)
  rw [e]
theorem RX.few (R : RX x room ns m) : m.sl.length + m.ce.length = ns.length := by rw [R.sl, R.ce]; exact fm_len ns
theorem childA_in {ns : Tr} (A : AOk ns) {k j : Int} {n : Nm} (h : childA ns k n = some j) : (ns.lookup j).isSome = true := by
  obtain ⟨ss, h1, h2⟩ := childA_some h
  exact (A.dir k ss h1).2.2 _ (nodeOf_some h2)
theorem links_zero {m : MW} {k : Int} (h : ∀ p, (p, k) ∉ m.at_) : linksM m k = 0 := by
  unfold linksM
  rw [List.count_eq_zero_of_not_mem]
  · rfl
  · intro z
    obtain ⟨⟨p, j⟩, hp, rfl⟩ := List.mem_map.mp z
    exact h p hp
/-- a node more, without a name yet -/
theorem RX.node (R : RX (-1) room ns m) {j : Int} {new : AN} (hj : ns.lookup j = none) (h0 : 0 ≤ j) (h24 : j < 24) (hl : ns.length ≠ 24) (hn : new = .dir [] ∨ ∃ l, new = .file l 0 []) :
    RX j room (ns ++ [(j, new)]) { m with sl := m.sl ++ ((dirO new).map fun y => (j, y)).toList, ce := m.ce ++ ((fileO new).map fun y => (j, y)).toList } ∧ linksM m j = 0 ∧ (∀ n, childA (ns ++ [(j, new)]) j n = none) ∧ (ns ++ [(j, new)]).lookup j = some new ∧ (∀ k u, ns.lookup k = some u → (ns ++ [(j, new)]).lookup k = some u) ∧ ∀ p, goA (ns ++ [(j, new)]) p = goA ns p := by
  have A := R.ok
  have hlk : ∀ k, (ns ++ [(j, new)]).lookup k = (ns.lookup k).or (if k = j then some new else none) := fun k => by
    rw [lk_app]
    congr 1
    rw [List.lookup_cons]
    by_cases e : k = j
    · subst e; simp
    · rw [show (k == j) = false by simpa using e, if_neg e]; rfl
  have hj' : (ns ++ [(j, new)]).lookup j = some new := by rw [hlk, hj, if_pos rfl]; rfl
  have hold : ∀ k u, ns.lookup k = some u → (ns ++ [(j, new)]).lookup k = some u := fun k u h => by rw [hlk, h]; rfl
  have hcj : ∀ n, childA (ns ++ [(j, new)]) j n = none := fun n => by
    rcases hn with rfl | ⟨l, rfl⟩
    · rw [childA_dir hj']; rfl
    · exact childA_file hj' n
  have hc : ∀ k n, childA (ns ++ [(j, new)]) k n = childA ns k n := fun k n => by
    by_cases e : k = j
    · subst e
      rw [hcj, childA_no hj]
    · exact childA_same (by rw [hlk, if_neg e, Option.or_none]) n
  have hgo : ∀ p, goA (ns ++ [(j, new)]) p = goA ns p := fun p => by
    induction p using snoc_ind with
    | h0 => rfl
    | h1 p n ih => rw [goA_snoc, goA_snoc, ih]; cases goA ns p with
      | none => rfl
      | some k => exact hc k n
  have hcase : ∀ k u, (ns ++ [(j, new)]).lookup k = some u → ns.lookup k = some u ∨ (k = j ∧ u = new) := fun k u h => by
    rw [hlk] at h
    cases e : ns.lookup k with
    | some v => rw [e] at h; exact .inl h
    | none =>
      rw [e, Option.none_or] at h
      split at h
      · rename_i e2
        exact .inr ⟨e2, (Option.some.inj h).symm⟩
      · cases h
  have hl0 : linksM m j = 0 := links_zero fun p hp => by
    have := goA_in A (R.mem.mpr hp)
    rw [hj] at this
    cases this
  refine ⟨⟨⟨?_, ?_, ?_, ?_, ?_, ?_⟩, R.room, R.ho, ?_, ?_, ?_, ?_, R.ndk, ?_, ?_, ?_, ?_⟩, hl0, hcj, hj', hold, hgo⟩
  · rw [List.map_append]
    refine List.nodup_append.mpr ⟨A.nd, by simp, fun a ha b hb e => ?_⟩
    subst e
    rw [List.map_cons, List.map_nil, List.mem_singleton] at hb
    subst hb
    exact lk_none.mp hj ha
  · rw [List.length_append]
    have := A.len
    show ns.length + 1 ≤ 24
    omega
  · intro y hy
    rcases List.mem_append.mp hy with z | z
    · exact A.rng y z
    · rw [List.mem_singleton.mp z]; exact ⟨h0, h24⟩
  · obtain ⟨ss, hs⟩ := A.root
    exact ⟨ss, hold _ _ hs⟩
  · intro k ss h
    rcases hcase k _ h with h | ⟨rfl, e⟩
    · obtain ⟨a, b, c⟩ := A.dir k ss h
      refine ⟨a, b, fun q hq => ?_⟩
      obtain ⟨u, hu⟩ := Option.isSome_iff_exists.mp (c q hq)
      rw [hold _ _ hu]; rfl
    · rcases hn with rfl | ⟨l, rfl⟩
      · cases e
        exact ⟨by simp, nofun, nofun⟩
      · cases e
  · intro k l h cs e
    rcases hcase k _ e with e | ⟨rfl, e2⟩
    · exact A.cel k l h cs e
    · rcases hn with rfl | ⟨l, rfl⟩
      · cases e2
      · cases e2; simp
  · intro k l h cs e
    rcases hcase k _ e with e | ⟨rfl, e2⟩
    · exact R.hol k l h cs e
    · rcases hn with rfl | ⟨l, rfl⟩
      · cases e2
      · cases e2; rfl
  · show m.sl ++ _ = _
    rw [fmA_new, R.sl]
  · show m.ce ++ _ = _
    rw [fmA_new, R.ce]
  · intro p
    rw [hgo]
    exact R.at_ p
  · intro k l h cs hk e
    rcases hcase k _ e with e | ⟨rfl, e2⟩
    · exact R.lkf k l h cs (fun z => by have := (A.rng _ (lk_mem e)).1; omega) e
    · exact absurd rfl hk
  · intro k ss hk e
    rcases hcase k _ e with e | ⟨rfl, e2⟩
    · exact R.lkd k ss (fun z => by have := (A.rng _ (lk_mem e)).1; omega) e
    · exact absurd rfl hk
  · intro k ss e
    rcases hcase k _ e with e | ⟨rfl, e2⟩
    · exact R.nm k ss e
    · rcases hn with rfl | ⟨l, rfl⟩
      · cases e2
        exact ⟨List.nodup_nil, nofun⟩
      · cases e2
  · rw [List.map_append, List.sum_append]
    have e : ([(j, new)].map fun x => slotsN x.2).sum = 0 := by
      rcases hn with rfl | ⟨l, rfl⟩
      · rfl
      · rfl
    rw [e]
    exact R.cnt
end
section
variable {room : Int} {ns : Tr} {m : MW} {j : Int}
theorem lk_addTo {k0 : Int} {ss : List Sl} (hk : ns.lookup k0 = some (.dir ss)) (n0 : Nm) (j k : Int) : (addTo ns k0 n0 j).lookup k = if k = k0 then some (.dir (addA ss n0 j)) else ns.lookup k := by
  unfold addTo
  rw [hk]
  show (setA ns k0 (.dir (addA ss n0 j))).lookup k = _
  rw [lk_setA, hk]
  rfl
theorem lk_dropOf {k0 : Int} {ss : List Sl} (hk : ns.lookup k0 = some (.dir ss)) (n0 : Nm) (k : Int) : (dropOf ns k0 n0).lookup k = if k = k0 then some (.dir (dropS ss n0)) else ns.lookup k := by
  unfold dropOf
  rw [hk]
  show (setA ns k0 (.dir (dropS ss n0))).lookup k = _
  rw [lk_setA, hk]
  rfl
theorem count_snoc (l : Pt) (q : List Nm) (j k : Int) : ((l ++ [(q, j)]).map (·.2)).count k = (l.map (·.2)).count k + if j = k then 1 else 0 := by
  rw [List.map_append, List.count_append, List.map_cons, List.map_nil, List.count_cons, List.count_nil, Nat.zero_add]
  by_cases h : j = k
  · rw [if_pos h, if_pos (by simpa using h)]
  · rw [if_neg h, if_neg (by simpa using h)]
theorem slok {n : Nm} (j : Int) (h : nameB n = true) : SlOk (some (n, j)) := fun q e => by
  cases e
  exact nameB_ok h
/-- a name more -/
theorem RX.edge (R : RX j room ns m) {k0 : Int} {ss : List Sl} {p0 : List Nm} {n0 : Nm} (hk : ns.lookup k0 = some (.dir ss)) (hkj : k0 ≠ j) (hp : goA ns p0 = some k0) (hn : nodeOf ss n0 = none) (hN : nameB n0 = true) (hf : fullA ss = false)
    (hj : (ns.lookup j).isSome = true) (hcj : ∀ n, childA ns j n = none) :
    RX j room (addTo ns k0 n0 j) { m with at_ := m.at_ ++ [(p0 ++ [n0], j)], sl := setA m.sl k0 (addO (namesO ss) n0) } ∧ linksM { m with at_ := m.at_ ++ [(p0 ++ [n0], j)], sl := setA m.sl k0 (addO (namesO ss) n0) } j = linksM m j + 1 ∧ (addTo ns k0 n0 j).lookup j = ns.lookup j := by
  have A := R.ok
  have hlk := lk_addTo hk n0 j
  have hset : addTo ns k0 n0 j = setA ns k0 (.dir (addA ss n0 j)) := by
    unfold addTo
    rw [hk]
  have hc : ∀ k n, childA (addTo ns k0 n0 j) k n = if k = k0 ∧ n = n0 then some j else childA ns k n := fun k n => by
    by_cases e : k = k0
    · subst e
      rw [childA_dir (by rw [hlk, if_pos rfl]), nodeOf_add j hn, childA_dir hk]
      by_cases e2 : n = n0
      · rw [if_pos e2, if_pos ⟨rfl, e2⟩]
      · rw [if_neg e2, if_neg (fun z => e2 z.2)]
    · rw [if_neg (fun z => e z.1)]
      exact childA_same (by rw [hlk, if_neg e]) n
  have hgo := goA_add hc hp (fun p h => R.uniq hk hkj h hp) (by rw [childA_dir hk]; exact hn) hcj (fun z => hkj z.symm)
  have hq0 : goA ns (p0 ++ [n0]) = none := by rw [goA_snoc, hp, Option.bind_some, childA_dir hk, hn]
  have hqk : p0 ++ [n0] ∉ m.at_.map (·.1) := pk_none.mp (by rw [R.at_]; exact hq0)
  have hls : ∀ k, linksM { m with at_ := m.at_ ++ [(p0 ++ [n0], j)], sl := setA m.sl k0 (addO (namesO ss) n0) } k = linksM m k + if j = k then 1 else 0 := fun k => by
    unfold linksM
    show (((m.at_ ++ [(p0 ++ [n0], j)]).map (·.2)).count k : Int) = _
    rw [count_snoc]
    split <;> simp
  have hcase : ∀ k u, (addTo ns k0 n0 j).lookup k = some u → (k ≠ k0 ∧ ns.lookup k = some u) ∨ (k = k0 ∧ u = .dir (addA ss n0 j)) := fun k u h => by
    rw [hlk] at h
    split at h
    · exact .inr ⟨by assumption, (Option.some.inj h).symm⟩
    · exact .inl ⟨by assumption, h⟩
  obtain ⟨d1, d2, d3⟩ := A.dir k0 ss hk
  have hsm : ∀ k, (ns.lookup k).isSome = true → ((addTo ns k0 n0 j).lookup k).isSome = true := fun k h => by
    rw [hlk]
    split
    · rfl
    · exact h
  have hnm := R.nm k0 ss hk
  have hnin := namesIn_nodeOf hn
  have hperm := namesIn_add (ss := ss) n0 j
  refine ⟨⟨⟨?_, ?_, ?_, ?_, ?_, ?_⟩, R.room, R.ho, ?_, ?_, ?_, ?_, ?_, ?_, ?_, ?_, ?_⟩, by rw [hls, if_pos rfl], by rw [hlk, if_neg (fun z => hkj z.symm)]⟩
  · rw [hset, setA_keys]; exact A.nd
  · rw [hset]; unfold setA; rw [List.length_map]; exact A.len
  · intro y hy
    have : y.1 ∈ ns.map (·.1) := by
      rw [← setA_keys ns k0 (.dir (addA ss n0 j)), ← hset]
      exact List.mem_map.mpr ⟨y, hy, rfl⟩
    obtain ⟨z, hz, e⟩ := List.mem_map.mp this
    rw [← e]
    exact A.rng z hz
  · obtain ⟨s0, hs⟩ := A.root
    by_cases e : (0 : Int) = k0
    · exact ⟨_, by rw [hlk, if_pos e]⟩
    · exact ⟨s0, by rw [hlk, if_neg e]; exact hs⟩
  · intro k s h
    rcases hcase k _ h with ⟨_, h⟩ | ⟨rfl, e2⟩
    · obtain ⟨a, b, c⟩ := A.dir k s h
      exact ⟨a, b, fun q hq => hsm _ (c q hq)⟩
    · cases e2
      refine ⟨?_, fun s hs => ?_, fun q hq => ?_⟩
      · rw [addA_len]
        split
        · exact d1
        · rename_i h2
          unfold fullA at hf
          rw [decide_eq_false h2, Bool.not_false, Bool.and_true] at hf
          have := of_decide_eq_false hf
          omega
      · rcases mem_addA hs with z | z
        · exact d2 s z
        · rw [z]; exact slok j hN
      · rcases mem_addA hq with z | z
        · exact hsm _ (d3 q z)
        · cases z
          exact hsm _ hj
  · intro k l h cs e
    rcases hcase k _ e with ⟨_, e⟩ | ⟨rfl, e2⟩
    · exact A.cel k l h cs e
    · cases e2
  · intro k l h cs e
    rcases hcase k _ e with ⟨_, e⟩ | ⟨rfl, e2⟩
    · exact R.hol k l h cs e
    · cases e2
  · show setA m.sl k0 _ = _
    rw [R.sl, hset, fmA_set dirO A.nd hk (z := namesO ss) rfl (y := namesO (addA ss n0 j)) rfl, addO_names ss n0 j]
  · show m.ce = _
    rw [R.ce, hset, fmA_keep fileO A.nd hk (v := .dir (addA ss n0 j)) rfl]
  · intro p
    show (m.at_ ++ [(p0 ++ [n0], j)]).lookup p = _
    rw [hgo, pk_app, R.at_, List.lookup_cons]
    by_cases e : p = p0 ++ [n0]
    · rw [if_pos e, e, hq0]
      simp
    · rw [if_neg e, show (p == p0 ++ [n0]) = false by simpa using e]
      exact Option.or_none
  · show ((m.at_ ++ [(p0 ++ [n0], j)]).map (·.1)).Nodup
    rw [List.map_append]
    refine List.nodup_append.mpr ⟨R.ndk, by simp, fun a ha b hb e => ?_⟩
    subst e
    rw [List.map_cons, List.map_nil, List.mem_singleton] at hb
    rw [hb] at ha
    exact hqk ha
  · intro k l h cs hkx e
    rw [hls, if_neg (fun z => hkx z.symm), Int.add_zero]
    rcases hcase k _ e with ⟨_, e⟩ | ⟨rfl, e2⟩
    · exact R.lkf k l h cs hkx e
    · cases e2
  · intro k s hkx e
    rw [hls, if_neg (fun z => hkx z.symm), Int.add_zero]
    rcases hcase k _ e with ⟨_, e⟩ | ⟨rfl, e2⟩
    · exact R.lkd k s hkx e
    · exact R.lkd k ss hkx hk
  · intro k s e
    rcases hcase k _ e with ⟨_, e⟩ | ⟨rfl, e2⟩
    · exact R.nm k s e
    · cases e2
      refine ⟨hperm.nodup_iff.mpr (List.nodup_cons.mpr ⟨hnin, hnm.1⟩), fun n hn2 => ?_⟩
      rcases List.mem_cons.mp (hperm.mem_iff.mp hn2) with z | z
      · rw [z]; exact hN
      · exact hnm.2 n z
  · show (m.at_ ++ [(p0 ++ [n0], j)]).length = _
    have h1 := sum_set slotsN A.nd hk (v := .dir (addA ss n0 j))
    have h2 : slotsN (.dir (addA ss n0 j)) = slotsN (.dir ss) + 1 := by
      show (namesIn (addA ss n0 j)).length = (namesIn ss).length + 1
      rw [hperm.length_eq, List.length_cons]
    rw [List.length_append, R.cnt, hset]
    show _ + 1 = _
    omega
/-- a name less -/
theorem RX.unedge (R : RX j room ns m) {k0 : Int} {ss : List Sl} {p0 : List Nm} {n0 : Nm} (hk : ns.lookup k0 = some (.dir ss)) (hkj : k0 ≠ j) (hp : goA ns p0 = some k0) (hn : nodeOf ss n0 = some j) (hcj : ∀ n, childA ns j n = none) :
    RX j room (dropOf ns k0 n0) { m with at_ := dropP m.at_ (p0 ++ [n0]), sl := setA m.sl k0 (freeO (namesO ss) n0) } ∧ linksM { m with at_ := dropP m.at_ (p0 ++ [n0]), sl := setA m.sl k0 (freeO (namesO ss) n0) } j = linksM m j - 1 ∧ (dropOf ns k0 n0).lookup j = ns.lookup j ∧ (∀ n, childA (dropOf ns k0 n0) j n = none) := by
  have A := R.ok
  have hlk := lk_dropOf hk n0
  have hset : dropOf ns k0 n0 = setA ns k0 (.dir (dropS ss n0)) := by
    unfold dropOf
    rw [hk]
  have hc : ∀ k n, childA (dropOf ns k0 n0) k n = if k = k0 ∧ n = n0 then none else childA ns k n := fun k n => by
    by_cases e : k = k0
    · subst e
      rw [childA_dir (by rw [hlk, if_pos rfl]), nodeOf_dropS, childA_dir hk]
      by_cases e2 : n = n0
      · rw [if_pos e2, if_pos ⟨rfl, e2⟩]
      · rw [if_neg e2, if_neg (fun z => e2 z.2)]
    · rw [if_neg (fun z => e z.1)]
      exact childA_same (by rw [hlk, if_neg e]) n
  have hgo := goA_del hc hp (fun p h => R.uniq hk hkj h hp) (by rw [childA_dir hk]; exact hn) hcj
  have hq0 : goA ns (p0 ++ [n0]) = some j := by rw [goA_snoc, hp, Option.bind_some, childA_dir hk, hn]
  obtain ⟨l1, l2, hat, _⟩ := pk_split (by rw [R.at_]; exact hq0 : m.at_.lookup (p0 ++ [n0]) = some j)
  have hat2 : dropP m.at_ (p0 ++ [n0]) = l1 ++ l2 := by
    have := R.ndk
    rw [hat] at this ⊢
    exact dropP_mid this
  have hls : ∀ k, linksM { m with at_ := dropP m.at_ (p0 ++ [n0]), sl := setA m.sl k0 (freeO (namesO ss) n0) } k = linksM m k - if j = k then 1 else 0 := fun k => by
    unfold linksM
    show (((dropP m.at_ (p0 ++ [n0])).map (·.2)).count k : Int) = _
    rw [hat2, hat, List.map_append, List.map_append, List.count_append, List.count_append, List.map_cons, List.count_cons]
    by_cases h : j = k
    · rw [if_pos h, if_pos (by simpa using h)]
      omega
    · rw [if_neg h, if_neg (by simpa using h)]
      omega
  have hcase : ∀ k u, (dropOf ns k0 n0).lookup k = some u → (k ≠ k0 ∧ ns.lookup k = some u) ∨ (k = k0 ∧ u = .dir (dropS ss n0)) := fun k u h => by
    rw [hlk] at h
    split at h
    · exact .inr ⟨by assumption, (Option.some.inj h).symm⟩
    · exact .inl ⟨by assumption, h⟩
  obtain ⟨d1, d2, d3⟩ := A.dir k0 ss hk
  have hsm : ∀ k, (ns.lookup k).isSome = true → ((dropOf ns k0 n0).lookup k).isSome = true := fun k h => by
    rw [hlk]
    split
    · rfl
    · exact h
  have hnm := R.nm k0 ss hk
  obtain ⟨hperm, hsub⟩ := namesIn_drop hnm.1 hn
  obtain ⟨_, _, _, _, _, _, hfree⟩ := drop_split hnm.1 hn
  refine ⟨⟨⟨?_, ?_, ?_, ?_, ?_, ?_⟩, R.room, R.ho, ?_, ?_, ?_, ?_, ?_, ?_, ?_, ?_, ?_⟩, by rw [hls, if_pos rfl], by rw [hlk, if_neg (fun z => hkj z.symm)], fun n => ?_⟩
  · rw [hset, setA_keys]; exact A.nd
  · rw [hset]; unfold setA; rw [List.length_map]; exact A.len
  · intro y hy
    have : y.1 ∈ ns.map (·.1) := by
      rw [← setA_keys ns k0 (.dir (dropS ss n0)), ← hset]
      exact List.mem_map.mpr ⟨y, hy, rfl⟩
    obtain ⟨z, hz, e⟩ := List.mem_map.mp this
    rw [← e]
    exact A.rng z hz
  · obtain ⟨s0, hs⟩ := A.root
    by_cases e : (0 : Int) = k0
    · exact ⟨_, by rw [hlk, if_pos e]⟩
    · exact ⟨s0, by rw [hlk, if_neg e]; exact hs⟩
  · intro k s h
    rcases hcase k _ h with ⟨_, h⟩ | ⟨rfl, e2⟩
    · obtain ⟨a, b, c⟩ := A.dir k s h
      exact ⟨a, b, fun q hq => hsm _ (c q hq)⟩
    · cases e2
      refine ⟨by rw [dropS_len]; exact d1, dropS_ok d2, fun q hq => hsm _ (d3 q (mem_dropS hq).1)⟩
  · intro k l h cs e
    rcases hcase k _ e with ⟨_, e⟩ | ⟨rfl, e2⟩
    · exact A.cel k l h cs e
    · cases e2
  · intro k l h cs e
    rcases hcase k _ e with ⟨_, e⟩ | ⟨rfl, e2⟩
    · exact R.hol k l h cs e
    · cases e2
  · show setA m.sl k0 _ = _
    rw [R.sl, hset, fmA_set dirO A.nd hk (z := namesO ss) rfl (y := namesO (dropS ss n0)) rfl, hfree]
  · show m.ce = _
    rw [R.ce, hset, fmA_keep fileO A.nd hk (v := .dir (dropS ss n0)) rfl]
  · intro p
    show (dropP m.at_ (p0 ++ [n0])).lookup p = _
    rw [hgo, pk_dropP, R.at_]
  · show ((dropP m.at_ (p0 ++ [n0])).map (·.1)).Nodup
    exact (List.filter_sublist.map _).nodup R.ndk
  · intro k l h cs hkx e
    rw [hls, if_neg (fun z => hkx z.symm), Int.sub_zero]
    rcases hcase k _ e with ⟨_, e⟩ | ⟨rfl, e2⟩
    · exact R.lkf k l h cs hkx e
    · cases e2
  · intro k s hkx e
    rw [hls, if_neg (fun z => hkx z.symm), Int.sub_zero]
    rcases hcase k _ e with ⟨_, e⟩ | ⟨rfl, e2⟩
    · exact R.lkd k s hkx e
    · exact R.lkd k ss hkx hk
  · intro k s e
    rcases hcase k _ e with ⟨_, e⟩ | ⟨rfl, e2⟩
    · exact R.nm k s e
    · cases e2
      exact ⟨hsub.nodup hnm.1, fun n hn2 => hnm.2 n (hsub.subset hn2)⟩
  · show (dropP m.at_ (p0 ++ [n0])).length = _
    have h1 := sum_set slotsN A.nd hk (v := .dir (dropS ss n0))
    have h2 : slotsN (.dir (dropS ss n0)) + 1 = slotsN (.dir ss) := by
      show (namesIn (dropS ss n0)).length + 1 = (namesIn ss).length
      rw [← hperm.length_eq, List.length_cons]
    have h3 := R.cnt
    rw [hat, List.length_append, List.length_cons] at h3
    rw [hat2, List.length_append, hset]
    omega
  · rw [hc, hcj]
    split <;> rfl
/-- a file's links are told anew -/
theorem RX.links (R : RX j room ns m) {l l' h : Int} {cs : List Int} (hj : ns.lookup j = some (.file l h cs)) (hl : linksM m j = l') : RX (-1) room (setA ns j (.file l' h cs)) m := by
  have A := R.ok
  have hlk : ∀ k, (setA ns j (.file l' h cs)).lookup k = if k = j then some (.file l' h cs) else ns.lookup k := fun k => by rw [lk_setA, hj]; rfl
  have hc : ∀ k n, childA (setA ns j (.file l' h cs)) k n = childA ns k n := fun k n => by
    by_cases e : k = j
    · subst e
      rw [childA_file hj, childA_file (by rw [hlk, if_pos rfl])]
    · exact childA_same (by rw [hlk, if_neg e]) n
  have hgo : ∀ p, goA (setA ns j (.file l' h cs)) p = goA ns p := fun p => by
    induction p using snoc_ind with
    | h0 => rfl
    | h1 p n ih => rw [goA_snoc, goA_snoc, ih]; cases goA ns p with
      | none => rfl
      | some k => exact hc k n
  have hcase : ∀ k u, (setA ns j (.file l' h cs)).lookup k = some u → (k ≠ j ∧ ns.lookup k = some u) ∨ (k = j ∧ u = .file l' h cs) := fun k u h => by
    rw [hlk] at h
    split at h
    · exact .inr ⟨by assumption, (Option.some.inj h).symm⟩
    · exact .inl ⟨by assumption, h⟩
  have hsm : ∀ k, (ns.lookup k).isSome = true → ((setA ns j (.file l' h cs)).lookup k).isSome = true := fun k h => by
    rw [hlk]
    split
    · rfl
    · exact h
  refine ⟨⟨?_, ?_, ?_, ?_, ?_, ?_⟩, R.room, R.ho, ?_, ?_, ?_, ?_, R.ndk, ?_, ?_, ?_, ?_⟩
  · rw [setA_keys]; exact A.nd
  · unfold setA; rw [List.length_map]; exact A.len
  · intro y hy
    have : y.1 ∈ ns.map (·.1) := by
      rw [← setA_keys ns j (.file l' h cs)]
      exact List.mem_map.mpr ⟨y, hy, rfl⟩
    obtain ⟨z, hz, e⟩ := List.mem_map.mp this
    rw [← e]
    exact A.rng z hz
  · obtain ⟨s0, hs⟩ := A.root
    refine ⟨s0, ?_⟩
    rw [hlk, if_neg]
    · exact hs
    · rintro rfl
      rw [hs] at hj
      cases hj
  · intro k s h
    rcases hcase k _ h with ⟨_, h⟩ | ⟨rfl, e2⟩
    · obtain ⟨a, b, c⟩ := A.dir k s h
      exact ⟨a, b, fun q hq => hsm _ (c q hq)⟩
    · cases e2
  · intro k l h cs e
    rcases hcase k _ e with ⟨_, e⟩ | ⟨rfl, e2⟩
    · exact A.cel k l h cs e
    · cases e2
      exact A.cel _ _ _ _ hj
  · intro k l h cs e
    rcases hcase k _ e with ⟨_, e⟩ | ⟨rfl, e2⟩
    · exact R.hol k l h cs e
    · cases e2
      exact R.hol _ _ _ _ hj
  · rw [R.sl, fmA_keep dirO A.nd hj (v := .file l' h cs) rfl]
  · rw [R.ce, fmA_keep fileO A.nd hj (v := .file l' h cs) rfl]
  · intro p
    rw [hgo]
    exact R.at_ p
  · intro k l h cs hkx e
    rcases hcase k _ e with ⟨hne, e⟩ | ⟨rfl, e2⟩
    · exact R.lkf k l h cs hne e
    · cases e2
      exact hl
  · intro k s hkx e
    rcases hcase k _ e with ⟨hne, e⟩ | ⟨rfl, e2⟩
    · exact R.lkd k s hne e
    · cases e2
  · intro k s e
    rcases hcase k _ e with ⟨_, e⟩ | ⟨rfl, e2⟩
    · exact R.nm k s e
    · cases e2
  · have h1 := sum_set slotsN A.nd hj (v := .file l' h cs)
    have h2 : slotsN (.file l' h cs) = slotsN (.file l h cs) := rfl
    have h3 := R.cnt
    omega
/-- a node less -/
theorem RX.gone (R : RX j room ns m) {u : AN} (hj : ns.lookup j = some u) (hu : slotsN u = 0) (h0 : j ≠ 0) (hl : linksM m j = 0) : RX (-1) room (dropA ns j) { m with sl := dropA m.sl j, ce := dropA m.ce j } := by
  have A := R.ok
  have hlk : ∀ k, (dropA ns j).lookup k = if k = j then none else ns.lookup k := fun k => lk_dropA ns j k
  have hcj : ∀ n, childA ns j n = none := fun n => by
    cases u with
    | file l h cs => exact childA_file hj n
    | dir ss =>
      rw [childA_dir hj]
      have hu : (namesIn ss).length = 0 := hu
      have := List.length_eq_zero_iff.mp hu
      exact nodeOf_none.mpr fun q hq _ => by
        have h2 := mem_namesIn hq
        rw [this] at h2
        cases h2
  have hc : ∀ k n, childA (dropA ns j) k n = childA ns k n := fun k n => by
    by_cases e : k = j
    · subst e
      rw [hcj, childA_no (by rw [hlk, if_pos rfl])]
    · exact childA_same (by rw [hlk, if_neg e]) n
  have hgo : ∀ p, goA (dropA ns j) p = goA ns p := fun p => by
    induction p using snoc_ind with
    | h0 => rfl
    | h1 p n ih => rw [goA_snoc, goA_snoc, ih]; cases goA ns p with
      | none => rfl
      | some k => exact hc k n
  have hcase : ∀ k u, (dropA ns j).lookup k = some u → k ≠ j ∧ ns.lookup k = some u := fun k u h => by
    rw [hlk] at h
    split at h
    · cases h
    · exact ⟨by assumption, h⟩
  refine ⟨⟨?_, ?_, ?_, ?_, ?_, ?_⟩, R.room, R.ho, ?_, ?_, ?_, ?_, R.ndk, ?_, ?_, ?_, ?_⟩
  · exact ((dropA_sub ns j).map _).nodup A.nd
  · exact Nat.le_trans (dropA_sub ns j).length_le A.len
  · exact fun y hy => A.rng y ((dropA_sub ns j).subset hy)
  · obtain ⟨s0, hs⟩ := A.root
    exact ⟨s0, by rw [hlk, if_neg (fun z => h0 z.symm)]; exact hs⟩
  · intro k s h
    obtain ⟨hne, hk2⟩ := hcase k _ h
    obtain ⟨a, b, c⟩ := A.dir k s hk2
    refine ⟨a, b, fun q hq => ?_⟩
    rw [hlk, if_neg]
    · exact c q hq
    · intro e
      obtain ⟨q1, q2⟩ := q
      have e : q2 = j := e
      subst e
      have := R.slot hk2 hne hq
      omega
  · exact fun k l h cs e => A.cel k l h cs (hcase k _ e).2
  · exact fun k l h cs e => R.hol k l h cs (hcase k _ e).2
  · show dropA m.sl j = _
    rw [R.sl, fmA_drop]
  · show dropA m.ce j = _
    rw [R.ce, fmA_drop]
  · intro p
    rw [hgo]
    exact R.at_ p
  · exact fun k l h cs _ e => R.lkf k l h cs (hcase k _ e).1 (hcase k _ e).2
  · exact fun k s _ e => R.lkd k s (hcase k _ e).1 (hcase k _ e).2
  · exact fun k s e => R.nm k s (hcase k _ e).2
  · have h1 := sum_drop slotsN A.nd hj
    have h3 := R.cnt
    show m.at_.length = _
    omega
end
/-! ### a name goes to another place -/
def belowB (q p : List Nm) : Bool := decide (q <+: p) && decide (p ≠ q)
def putP (m : Pt) (q : List Nm) (j : Int) : Pt := if q ∈ m.map (·.1) then m.map (fun x => if x.1 = q then (q, j) else x) else m ++ [(q, j)]
def stepP (q0 q1 : List Nm) (l : Pt) (p : List Nm) : Pt := if belowB q0 p = true then putP (dropP l p) (q1 ++ p.drop q0.length) ((l.lookup p).getD 0) else l
def moveP (m : Pt) (q0 q1 : List Nm) (j : Int) : Pt := ((dropP m q0 ++ [(q1, j)]).map (·.1)).foldl (stepP q0 q1) (dropP m q0 ++ [(q1, j)])
def renP (q0 q1 : List Nm) (x : List Nm × Int) : List Nm × Int := (q1 ++ x.1.drop q0.length, x.2)
theorem below_iff {q p : List Nm} : belowB q p = true ↔ ∃ n r, p = q ++ n :: r := by
  unfold belowB
  rw [Bool.and_eq_true, decide_eq_true_iff, decide_eq_true_iff]
  constructor
  · rintro ⟨⟨r, rfl⟩, h⟩
    cases r with
    | nil => exact absurd (List.append_nil q) h
    | cons n r => exact ⟨n, r, rfl⟩
  · rintro ⟨n, r, rfl⟩
    refine ⟨⟨_, rfl⟩, fun h => ?_⟩
    have := congrArg List.length h
    simp at this
theorem nodup_mid {α : Type} {a b : List α} {x : α} (h : (a ++ x :: b).Nodup) : x ∉ a ∧ x ∉ b ∧ (a ++ b).Nodup := by
  obtain ⟨n1, n2, n3⟩ := List.nodup_append.mp h
  obtain ⟨n4, n5⟩ := List.nodup_cons.mp n2
  exact ⟨fun z => n3 x z x (.head _) rfl, n4, List.nodup_append.mpr ⟨n1, n5, fun u hu v hv => n3 u hu v (.tail _ hv)⟩⟩
theorem move_fold {q0 q1 : List Nm} : ∀ (b A C : Pt), ((A ++ (b ++ C)).map (·.1)).Nodup → (∀ x ∈ b, belowB q0 x.1 = true → (renP q0 q1 x).1 ∉ (A ++ (b ++ C)).map (·.1)) →
    (b.map (·.1)).foldl (stepP q0 q1) (A ++ (b ++ C)) = A ++ (b.filter fun x => !belowB q0 x.1) ++ (C ++ (b.filter fun x => belowB q0 x.1).map (renP q0 q1)) ∧
    ((A ++ (b.filter fun x => !belowB q0 x.1) ++ (C ++ (b.filter fun x => belowB q0 x.1).map (renP q0 q1))).map (·.1)).Nodup
  | [], A, C, nd, _ => by
    refine ⟨?_, ?_⟩
    · simp
    · simpa using nd
  | x :: b, A, C, nd, h => by
    obtain ⟨p, k⟩ := x
    have nd1 := nd
    rw [List.map_append, List.cons_append, List.map_cons] at nd1
    obtain ⟨m1, m2, m3⟩ := nodup_mid nd1
    rw [← List.map_append] at m3
    have hb : ∀ y ∈ b, ∀ Z : Pt, True := fun _ _ _ => trivial
    rw [List.map_cons, List.foldl_cons]
    cases hp : belowB q0 p with
    | false =>
      have e1 : stepP q0 q1 (A ++ ((p, k) :: b ++ C)) p = A ++ ((p, k) :: b ++ C) := by
        unfold stepP
        rw [hp]
        rfl
      have e2 : A ++ ((p, k) :: b ++ C) = (A ++ [(p, k)]) ++ (b ++ C) := by simp
      rw [e1, e2]
      have ih := move_fold b (A ++ [(p, k)]) C (by rw [← e2]; exact nd) (fun y hy hbl => by rw [← e2]; exact h y (.tail _ hy) hbl)
      have e3 : (((p, k) :: b).filter fun x => !belowB q0 x.1) = (p, k) :: b.filter fun x => !belowB q0 x.1 := by rw [List.filter_cons, if_pos (by simp [hp])]
      have e4 : (((p, k) :: b).filter fun x => belowB q0 x.1) = b.filter fun x => belowB q0 x.1 := by rw [List.filter_cons, if_neg (by simp [hp])]
      rw [e3, e4]
      have e5 : A ++ ((p, k) :: b.filter fun x => !belowB q0 x.1) = A ++ [(p, k)] ++ b.filter fun x => !belowB q0 x.1 := by simp
      rw [e5]
      exact ih
    | true =>
      have hren := h (p, k) (.head _) hp
      have hr : (renP q0 q1 (p, k)).1 = q1 ++ p.drop q0.length := rfl
      have hlk : (A ++ ((p, k) :: b ++ C)).lookup p = some k := pk_nd nd (List.mem_append_right _ (.head _))
      have hdr : dropP (A ++ ((p, k) :: b ++ C)) p = A ++ (b ++ C) := dropP_mid nd
      have hno : q1 ++ p.drop q0.length ∉ (A ++ (b ++ C)).map (·.1) := fun z => hren (by
        rw [hr]
        rw [List.map_append] at z ⊢
        rcases List.mem_append.mp z with z | z
        · exact List.mem_append_left _ z
        · exact List.mem_append_right _ (.tail _ z))
      have e1 : stepP q0 q1 (A ++ ((p, k) :: b ++ C)) p = A ++ (b ++ (C ++ [renP q0 q1 (p, k)])) := by
        unfold stepP
        rw [if_pos hp, hdr, hlk]
        unfold putP
        rw [if_neg hno]
        simp [renP]
      rw [e1]
      have hperm : (A ++ (b ++ (C ++ [renP q0 q1 (p, k)]))).map (·.1) = (A ++ (b ++ C)).map (·.1) ++ [q1 ++ p.drop q0.length] := by simp [renP]
      have nd2 : ((A ++ (b ++ (C ++ [renP q0 q1 (p, k)]))).map (·.1)).Nodup := by
        rw [hperm]
        refine List.nodup_append.mpr ⟨m3, by simp, fun u hu v hv e => ?_⟩
        rw [List.mem_singleton] at hv
        rw [e, hv] at hu
        exact hno hu
      have ih := move_fold b A (C ++ [renP q0 q1 (p, k)]) nd2 (fun y hy hbl => by
        have h1 := h y (.tail _ hy) hbl
        rw [hperm]
        intro z
        rcases List.mem_append.mp z with z | z
        · refine h1 ?_
          rw [List.map_append] at z ⊢
          rcases List.mem_append.mp z with z | z
          · exact List.mem_append_left _ z
          · exact List.mem_append_right _ (.tail _ z)
        · have z := List.mem_singleton.mp z
          have z : q1 ++ y.1.drop q0.length = q1 ++ p.drop q0.length := z
          have z := List.append_cancel_left z
          obtain ⟨n1, r1, e1⟩ := below_iff.mp hp
          obtain ⟨n2, r2, e2⟩ := below_iff.mp hbl
          rw [e1, e2, drop_pre, drop_pre] at z
          refine m2 ?_
          rw [List.map_append]
          refine List.mem_append_left _ (List.mem_map.mpr ⟨y, hy, ?_⟩)
          show y.1 = p
          rw [e1, e2, z])
      have e3 : (((p, k) :: b).filter fun x => !belowB q0 x.1) = b.filter fun x => !belowB q0 x.1 := by rw [List.filter_cons, if_neg (by simp [hp])]
      have e4 : (((p, k) :: b).filter fun x => belowB q0 x.1) = (p, k) :: b.filter fun x => belowB q0 x.1 := by rw [List.filter_cons, if_pos (by simp [hp])]
      rw [e3, e4, List.map_cons]
      have e5 : C ++ renP q0 q1 (p, k) :: (b.filter fun x => belowB q0 x.1).map (renP q0 q1) = C ++ [renP q0 q1 (p, k)] ++ (b.filter fun x => belowB q0 x.1).map (renP q0 q1) := by simp
      rw [e5]
      exact ih
theorem pk_ren {q0 q1 : List Nm} : ∀ {l : Pt}, (∀ x ∈ l, belowB q0 x.1 = true) → ∀ p, (l.map (renP q0 q1)).lookup p = if q1 <+: p then l.lookup (q0 ++ p.drop q1.length) else none
  | [], _, p => by split <;> rfl
  | (k, v) :: l, h, p => by
    have ih := pk_ren (q1 := q1) (fun x hx => h x (.tail _ hx)) p
    obtain ⟨n, r, e⟩ := below_iff.mp (h _ (.head _))
    have e : k = q0 ++ n :: r := e
    subst e
    rw [List.map_cons]
    have e1 : renP q0 q1 (q0 ++ n :: r, v) = (q1 ++ n :: r, v) := by
      unfold renP
      rw [drop_pre]
    rw [e1, List.lookup_cons, List.lookup_cons]
    by_cases hp : q1 <+: p
    · rw [if_pos hp] at ih ⊢
      obtain ⟨s, rfl⟩ := hp
      rw [drop_pre] at ih ⊢
      by_cases hs : s = n :: r
      · subst hs
        simp
      · rw [show (q1 ++ s == q1 ++ n :: r) = false by simpa using hs, show (q0 ++ s == q0 ++ n :: r) = false by simpa using hs]
        exact ih
    · rw [if_neg hp] at ih ⊢
      rw [show (p == q1 ++ n :: r) = false by
        rw [beq_eq_false_iff_ne]
        rintro rfl
        exact hp ⟨_, rfl⟩]
      exact ih
theorem pk_one (q p : List Nm) (j : Int) : List.lookup p [(q, j)] = if p = q then some j else none := by
  rw [List.lookup_cons]
  by_cases e : p = q
  · rw [if_pos e, e]; simp
  · rw [if_neg e, show (p == q) = false by simpa using e]; rfl
/-- the row by path behind a move -/
theorem moveP_ok {m : Pt} {q0 q1 : List Nm} {j : Int} (nd : (m.map (·.1)).Nodup) (h0 : m.lookup q0 = some j) (h1 : ∀ r, m.lookup (q1 ++ r) = none) (hin : ¬ q0 <+: q1) :
    ((moveP m q0 q1 j).map (·.1)).Nodup ∧ (∀ p, (moveP m q0 q1 j).lookup p = if q1 <+: p then m.lookup (q0 ++ p.drop q1.length) else if q0 <+: p then none else m.lookup p) ∧ (∀ k, ((moveP m q0 q1 j).map (·.2)).count k = (m.map (·.2)).count k) ∧ (moveP m q0 q1 j).length = m.length := by
  have hq1 : m.lookup q1 = none := by have := h1 []; rwa [List.append_nil] at this
  have hne : q0 ≠ q1 := fun e => hin (by rw [e]; exact List.prefix_refl _)
  have halk : ∀ p, (dropP m q0 ++ [(q1, j)]).lookup p = (if p = q0 then none else m.lookup p).or (if p = q1 then some j else none) := fun p => by rw [pk_app, pk_dropP, pk_one]
  have hand : ((dropP m q0 ++ [(q1, j)]).map (·.1)).Nodup := by
    rw [List.map_append]
    refine List.nodup_append.mpr ⟨(List.filter_sublist.map _).nodup nd, by simp, fun a ha b hb e => ?_⟩
    rw [List.map_cons, List.map_nil, List.mem_singleton] at hb
    rw [e, hb] at ha
    exact pk_none.mp hq1 ((List.filter_sublist.map _).subset ha)
  have hfold := move_fold (q0 := q0) (q1 := q1) (dropP m q0 ++ [(q1, j)]) [] [] (by rw [List.nil_append, List.append_nil]; exact hand) (fun x hx hb => by
    rw [List.nil_append, List.append_nil]
    refine pk_none.mp ?_
    obtain ⟨n, r, e⟩ := below_iff.mp hb
    have e2 : (renP q0 q1 x).1 = q1 ++ n :: r := by
      show q1 ++ x.1.drop q0.length = _
      rw [e, drop_pre]
    have h2 : q1 ++ n :: r ≠ q1 := fun z => by have := congrArg List.length z; simp at this
    rw [e2, halk, h1, if_neg h2]
    split <;> rfl)
  obtain ⟨hf, hfn⟩ := hfold
  rw [List.nil_append, List.append_nil, List.nil_append, List.nil_append] at hf
  rw [List.nil_append, List.nil_append] at hfn
  have hm : moveP m q0 q1 j = ((dropP m q0 ++ [(q1, j)]).filter fun x => !belowB q0 x.1) ++ ((dropP m q0 ++ [(q1, j)]).filter fun x => belowB q0 x.1).map (renP q0 q1) := hf
  obtain ⟨l1, l2, hat, _⟩ := pk_split h0
  have hat2 : dropP m q0 = l1 ++ l2 := by
    have := nd
    rw [hat] at this ⊢
    exact dropP_mid this
  have hpm := List.filter_append_perm (fun x : List Nm × Int => !belowB q0 x.1) (dropP m q0 ++ [(q1, j)])
  have hvals : ∀ l : Pt, (l.map (renP q0 q1)).map (·.2) = l.map (·.2) := fun l => by rw [List.map_map]; rfl
  have hpv : ((moveP m q0 q1 j).map (·.2)).Perm ((dropP m q0 ++ [(q1, j)]).map (·.2)) := by
    rw [hm, List.map_append, hvals, ← List.map_append]
    refine List.Perm.map _ ?_
    have e : ((dropP m q0 ++ [(q1, j)]).filter fun x => belowB q0 x.1) = ((dropP m q0 ++ [(q1, j)]).filter fun x => !!belowB q0 x.1) := by simp
    rw [e]
    exact hpm
  refine ⟨by rw [hm]; exact hfn, fun p => ?_, fun k => ?_, ?_⟩
  · rw [hm, pk_app, pk_filter (fun p => !belowB q0 p), pk_ren (fun x hx => (List.mem_filter.mp hx).2), pk_filter (fun p => belowB q0 p), halk, halk]
    by_cases a1 : q1 <+: p
    · rw [if_pos a1, if_pos a1]
      obtain ⟨r, rfl⟩ := a1
      rw [drop_pre, h1]
      cases r with
      | nil =>
        rw [List.append_nil, List.append_nil]
        have hb : belowB q0 q1 = false := by
          cases hz : belowB q0 q1 with
          | false => rfl
          | true =>
            obtain ⟨n, r, e⟩ := below_iff.mp hz
            exact absurd ⟨_, e.symm⟩ hin
        have hbb : belowB q0 q0 = false := by unfold belowB; simp
        have hne2 : ¬ q1 = q0 := fun z => hne z.symm
        simp [hb, hbb, hne2, h0]
      | cons n r =>
        have h2 : q1 ++ n :: r ≠ q1 := fun z => by have := congrArg List.length z; simp at this
        have h3 : q0 ++ n :: r ≠ q0 := fun z => by have := congrArg List.length z; simp at this
        have h4 : q0 ++ n :: r ≠ q1 := fun z => hin ⟨_, z⟩
        rw [if_neg h2, if_neg h3, if_neg h4, if_pos (below_iff.mpr ⟨n, r, rfl⟩), Option.or_none]
        have e : (if q1 ++ n :: r = q0 then (none : Option Int) else none) = none := by split <;> rfl
        rw [e, Option.or_none]
        split <;> rfl
    · rw [if_neg a1, if_neg a1, Option.or_none]
      have h2 : p ≠ q1 := fun e => a1 (by rw [e]; exact List.prefix_refl _)
      rw [if_neg h2, Option.or_none]
      by_cases a2 : q0 <+: p
      · rw [if_pos a2]
        by_cases e : p = q0
        · rw [if_pos e]
          split <;> rfl
        · have hb : belowB q0 p = true := by
            unfold belowB
            rw [decide_eq_true a2, decide_eq_true e]
            rfl
          rw [hb]
          rfl
      · have hb : belowB q0 p = false := by
          unfold belowB
          rw [decide_eq_false a2]
          rfl
        have e : p ≠ q0 := fun e => a2 (by rw [e]; exact List.prefix_refl _)
        rw [if_neg a2, hb, if_neg e]
        rfl
  · rw [hpv.count_eq, count_snoc, hat2]
    conv => rhs; rw [hat]
    rw [List.map_append, List.map_append, List.count_append, List.count_append, List.map_cons, List.count_cons]
    by_cases h : j = k
    · rw [if_pos h, if_pos (by simpa using h)]
      omega
    · rw [if_neg h, if_neg (by simpa using h)]
      omega
  · have := hpv.length_eq
    rw [List.length_map, List.length_map] at this
    rw [this, hat2]
    conv => rhs; rw [hat]
    simp
section
variable {room : Int} {ns : Tr} {m : MW}
theorem RX.root_links (R : RX (-1) room ns m) : linksM m 0 = 1 := by
  obtain ⟨s0, hs⟩ := R.ok.root
  exact R.lkd 0 s0 (by decide) hs
/-- a name moved -/
theorem RX.moved (R : RX (-1) room ns m) {k0 k1 j : Int} {ss s1 t1 : List Sl} {p0 p1 : List Nm} {n0 n1 : Nm} (hk : ns.lookup k0 = some (.dir ss)) (hp : goA ns p0 = some k0) (hn : nodeOf ss n0 = some j) (hk1 : ns.lookup k1 = some (.dir t1)) (hp1 : goA ns p1 = some k1) (hn1 : nodeOf t1 n1 = none)
    (hs1 : (dropOf ns k0 n0).lookup k1 = some (.dir s1)) (hf : fullA s1 = false) (hN : nameB n1 = true) (hin : ¬ p0 ++ [n0] <+: p1) :
    RX (-1) room (addTo (dropOf ns k0 n0) k1 n1 j) { m with at_ := moveP m.at_ (p0 ++ [n0]) (p1 ++ [n1]) j, sl := setA (setA m.sl k0 (freeO (namesO ss) n0)) k1 (addO (namesO s1) n1) } := by
  have A := R.ok
  have hneg : ∀ {k : Int} {u : AN}, ns.lookup k = some u → k ≠ -1 := fun e z => by have := (A.rng _ (lk_mem e)).1; omega
  have hlk0 := lk_dropOf hk n0
  have hlk := lk_addTo hs1 n1 j
  have hset0 : dropOf ns k0 n0 = setA ns k0 (.dir (dropS ss n0)) := by
    unfold dropOf
    rw [hk]
  have hset : addTo (dropOf ns k0 n0) k1 n1 j = setA (dropOf ns k0 n0) k1 (.dir (addA s1 n1 j)) := by
    unfold addTo
    rw [hs1]
  have hs1n : nodeOf s1 n1 = none := by
    rw [hlk0] at hs1
    split at hs1
    · cases hs1
      rename_i e
      subst e
      rw [hk] at hk1
      cases hk1
      rw [nodeOf_dropS, hn1]
      split <;> rfl
    · rw [hk1] at hs1
      cases hs1
      exact hn1
  have hc0 : ∀ k n, childA (dropOf ns k0 n0) k n = if k = k0 ∧ n = n0 then none else childA ns k n := fun k n => by
    by_cases e : k = k0
    · subst e
      rw [childA_dir (by rw [hlk0, if_pos rfl]), nodeOf_dropS, childA_dir hk]
      by_cases e2 : n = n0
      · rw [if_pos e2, if_pos ⟨rfl, e2⟩]
      · rw [if_neg e2, if_neg (fun z => e2 z.2)]
    · rw [if_neg (fun z => e z.1)]
      exact childA_same (by rw [hlk0, if_neg e]) n
  have hc : ∀ k n, childA (addTo (dropOf ns k0 n0) k1 n1 j) k n = if k = k1 ∧ n = n1 then some j else if k = k0 ∧ n = n0 then none else childA ns k n := fun k n => by
    rw [← hc0]
    by_cases e : k = k1
    · subst e
      rw [childA_dir (by rw [hlk, if_pos rfl]), nodeOf_add j hs1n, childA_dir hs1]
      by_cases e2 : n = n1
      · rw [if_pos e2, if_pos ⟨rfl, e2⟩]
      · rw [if_neg e2, if_neg (fun z => e2 z.2)]
    · rw [if_neg (fun z => e z.1)]
      exact childA_same (by rw [hlk, if_neg e]) n
  have hgo := goA_move hc hp (fun p h => R.uniq hk (hneg hk) h hp) hp1 (fun p h => R.uniq hk1 (hneg hk1) h hp1) (by rw [childA_dir hk]; exact hn) (by rw [childA_dir hk1]; exact hn1) hin
  have hq0 : goA ns (p0 ++ [n0]) = some j := by rw [goA_snoc, hp, Option.bind_some, childA_dir hk, hn]
  have hq1 : goA ns (p1 ++ [n1]) = none := by rw [goA_snoc, hp1, Option.bind_some, childA_dir hk1, hn1]
  have hin2 : ¬ p0 ++ [n0] <+: p1 ++ [n1] := fun z => by
    rcases pre_snoc.mp z with z | z
    · rw [z, hq1] at hq0
      cases hq0
    · exact hin z
  obtain ⟨mv1, mv2, mv3, mv4⟩ := moveP_ok (j := j) R.ndk (by rw [R.at_]; exact hq0) (fun r => by rw [R.at_]; exact goA_none_app hq1 r) hin2
  have hls : ∀ k, linksM { m with at_ := moveP m.at_ (p0 ++ [n0]) (p1 ++ [n1]) j, sl := setA (setA m.sl k0 (freeO (namesO ss) n0)) k1 (addO (namesO s1) n1) } k = linksM m k := fun k => by
    unfold linksM
    rw [show ({ m with at_ := moveP m.at_ (p0 ++ [n0]) (p1 ++ [n1]) j, sl := setA (setA m.sl k0 (freeO (namesO ss) n0)) k1 (addO (namesO s1) n1) } : MW).at_ = moveP m.at_ (p0 ++ [n0]) (p1 ++ [n1]) j from rfl, mv3]
  have hcase0 : ∀ k u, (dropOf ns k0 n0).lookup k = some u → (k ≠ k0 ∧ ns.lookup k = some u) ∨ (k = k0 ∧ u = .dir (dropS ss n0)) := fun k u h => by
    rw [hlk0] at h
    split at h
    · exact .inr ⟨by assumption, (Option.some.inj h).symm⟩
    · exact .inl ⟨by assumption, h⟩
  have hcase : ∀ k u, (addTo (dropOf ns k0 n0) k1 n1 j).lookup k = some u → (ns.lookup k = some u) ∨ (k = k0 ∧ u = .dir (dropS ss n0)) ∨ (k = k1 ∧ u = .dir (addA s1 n1 j)) := fun k u h => by
    rw [hlk] at h
    split at h
    · exact .inr (.inr ⟨by assumption, (Option.some.inj h).symm⟩)
    · rcases hcase0 k u h with ⟨_, h⟩ | h
      · exact .inl h
      · exact .inr (.inl h)
  obtain ⟨d1, d2, d3⟩ := A.dir k0 ss hk
  have hnm := R.nm k0 ss hk
  obtain ⟨hperm, hsub⟩ := namesIn_drop hnm.1 hn
  obtain ⟨_, _, _, _, _, _, hfree⟩ := drop_split hnm.1 hn
  have hsm : ∀ k, (ns.lookup k).isSome = true → ((addTo (dropOf ns k0 n0) k1 n1 j).lookup k).isSome = true := fun k h => by
    rw [hlk]
    split
    · rfl
    · rw [hlk0]
      split
      · rfl
      · exact h
  have dS : (dropS ss n0).length ≤ 40 ∧ (∀ s ∈ dropS ss n0, SlOk s) ∧ ∀ q, some q ∈ dropS ss n0 → (ns.lookup q.2).isSome = true := ⟨by rw [dropS_len]; exact d1, dropS_ok d2, fun q hq => d3 q (mem_dropS hq).1⟩
  have d1' : s1.length ≤ 40 ∧ (∀ s ∈ s1, SlOk s) ∧ (∀ q, some q ∈ s1 → (ns.lookup q.2).isSome = true) ∧ (namesIn s1).Nodup ∧ ∀ n ∈ namesIn s1, nameB n = true := by
    rcases hcase0 k1 _ hs1 with ⟨_, h⟩ | ⟨_, h⟩
    · obtain ⟨a, b, c⟩ := A.dir k1 s1 h
      exact ⟨a, b, c, R.nm k1 s1 h⟩
    · cases h
      exact ⟨dS.1, dS.2.1, dS.2.2, hsub.nodup hnm.1, fun n h => hnm.2 n (hsub.subset h)⟩
  obtain ⟨e1, e2, e3, e4, e5⟩ := d1'
  have hnd0 : ((dropOf ns k0 n0).map (·.1)).Nodup := by rw [hset0, setA_keys]; exact A.nd
  have hadd := namesIn_add (ss := s1) n1 j
  have hjin : (ns.lookup j).isSome = true := goA_in A hq0
  refine ⟨⟨?_, ?_, ?_, ?_, ?_, ?_⟩, R.room, R.ho, ?_, ?_, ?_, ?_, ?_, ?_, ?_, ?_, ?_⟩
  · rw [hset, setA_keys]; exact hnd0
  · rw [hset, hset0]; unfold setA; rw [List.length_map, List.length_map]; exact A.len
  · intro y hy
    have : y.1 ∈ ns.map (·.1) := by
      rw [← setA_keys ns k0 (.dir (dropS ss n0)), ← hset0, ← setA_keys (dropOf ns k0 n0) k1 (.dir (addA s1 n1 j)), ← hset]
      exact List.mem_map.mpr ⟨y, hy, rfl⟩
    obtain ⟨z, hz, e⟩ := List.mem_map.mp this
    rw [← e]
    exact A.rng z hz
  · obtain ⟨s0, hs⟩ := A.root
    by_cases e : (0 : Int) = k1
    · exact ⟨_, by rw [hlk, if_pos e]⟩
    · by_cases e2 : (0 : Int) = k0
      · exact ⟨_, by rw [hlk, if_neg e, hlk0, if_pos e2]⟩
      · exact ⟨s0, by rw [hlk, if_neg e, hlk0, if_neg e2]; exact hs⟩
  · intro k s h
    rcases hcase k _ h with h | ⟨rfl, e2⟩ | ⟨rfl, e0⟩
    · obtain ⟨a, b, c⟩ := A.dir k s h
      exact ⟨a, b, fun q hq => hsm _ (c q hq)⟩
    · cases e2
      exact ⟨dS.1, dS.2.1, fun q hq => hsm _ (dS.2.2 q hq)⟩
    · cases e0
      refine ⟨?_, fun s hs => ?_, fun q hq => ?_⟩
      · rw [addA_len]
        split
        · exact e1
        · rename_i h2
          unfold fullA at hf
          rw [decide_eq_false h2, Bool.not_false, Bool.and_true] at hf
          have := of_decide_eq_false hf
          omega
      · rcases mem_addA hs with z | z
        · exact e2 s z
        · rw [z]; exact slok j hN
      · rcases mem_addA hq with z | z
        · exact hsm _ (e3 q z)
        · cases z
          exact hsm _ hjin
  · intro k l h cs e
    rcases hcase k _ e with e | ⟨rfl, e2⟩ | ⟨rfl, e2⟩
    · exact A.cel k l h cs e
    · cases e2
    · cases e2
  · intro k l h cs e
    rcases hcase k _ e with e | ⟨rfl, e2⟩ | ⟨rfl, e2⟩
    · exact R.hol k l h cs e
    · cases e2
    · cases e2
  · show setA (setA m.sl k0 _) k1 _ = _
    rw [R.sl, hset, fmA_set dirO hnd0 hs1 (z := namesO s1) rfl (y := namesO (addA s1 n1 j)) rfl, hset0, fmA_set dirO A.nd hk (z := namesO ss) rfl (y := namesO (dropS ss n0)) rfl, addO_names s1 n1 j, hfree]
  · show m.ce = _
    rw [R.ce, hset, fmA_keep fileO hnd0 hs1 (v := .dir (addA s1 n1 j)) rfl, hset0, fmA_keep fileO A.nd hk (v := .dir (dropS ss n0)) rfl]
  · intro p
    show (moveP m.at_ _ _ j).lookup p = _
    rw [hgo, mv2, R.at_, R.at_]
  · exact mv1
  · intro k l h cs hkx e
    rw [hls]
    rcases hcase k _ e with e | ⟨rfl, e2⟩ | ⟨rfl, e2⟩
    · exact R.lkf k l h cs hkx e
    · cases e2
    · cases e2
  · intro k s hkx e
    rw [hls]
    rcases hcase k _ e with e | ⟨rfl, _⟩ | ⟨rfl, _⟩
    · exact R.lkd k s hkx e
    · exact R.lkd k ss hkx hk
    · exact R.lkd k t1 hkx hk1
  · intro k s e
    rcases hcase k _ e with e | ⟨rfl, e0⟩ | ⟨rfl, e0⟩
    · exact R.nm k s e
    · cases e0
      exact ⟨hsub.nodup hnm.1, fun n h => hnm.2 n (hsub.subset h)⟩
    · cases e0
      refine ⟨hadd.nodup_iff.mpr (List.nodup_cons.mpr ⟨namesIn_nodeOf hs1n, e4⟩), fun n hn2 => ?_⟩
      rcases List.mem_cons.mp (hadd.mem_iff.mp hn2) with z | z
      · rw [z]; exact hN
      · exact e5 n z
  · show (moveP m.at_ _ _ j).length = _
    have h1 := sum_set slotsN A.nd hk (v := .dir (dropS ss n0))
    have h2 : slotsN (.dir (dropS ss n0)) + 1 = slotsN (.dir ss) := by
      show (namesIn (dropS ss n0)).length + 1 = (namesIn ss).length
      rw [← hperm.length_eq, List.length_cons]
    have h3 := sum_set slotsN hnd0 hs1 (v := .dir (addA s1 n1 j))
    have h4 : slotsN (.dir (addA s1 n1 j)) = slotsN (.dir s1) + 1 := by
      show (namesIn (addA s1 n1 j)).length = (namesIn s1).length + 1
      rw [hadd.length_eq, List.length_cons]
    rw [mv4, R.cnt, hset]
    rw [← hset0] at h1
    omega
/-- the start -/
theorem RX.start (room : Int) : RX (-1) room [(0, .dir [])] ⟨[([], 0)], [(0, [])], [], [], room⟩ := by
  have hk : ∀ k u, List.lookup k [((0 : Int), AN.dir [])] = some u → k = 0 ∧ u = .dir [] := fun k u h => by
    rw [List.lookup_cons] at h
    by_cases e : k = 0
    · subst e
      simp at h
      exact ⟨rfl, h.symm⟩
    · rw [show (k == 0) = false by simpa using e] at h
      cases h
  refine ⟨⟨by simp, by simp, ?_, ⟨[], rfl⟩, ?_, ?_⟩, rfl, rfl, ?_, rfl, rfl, ?_, by simp, ?_, ?_, ?_, rfl⟩
  · intro x hx
    rw [List.mem_singleton.mp hx]
    decide
  · intro k ss h
    obtain ⟨rfl, e⟩ := hk k _ h
    cases e
    exact ⟨by simp, nofun, nofun⟩
  · intro k l h cs e
    obtain ⟨_, e⟩ := hk k _ e
    cases e
  · intro k l h cs e
    obtain ⟨_, e⟩ := hk k _ e
    cases e
  · intro p
    show List.lookup p [(([] : List Nm), (0 : Int))] = _
    cases p using snoc_ind with
    | h0 => rfl
    | h1 p n =>
      have hx : ∀ k n, childA [(0, .dir [])] k n = none := fun k n => by
        cases e : childA [(0, .dir [])] k n with
        | none => rfl
        | some j =>
          obtain ⟨ss, h1, h2⟩ := childA_some e
          obtain ⟨_, e⟩ := hk k _ h1
          cases e
          cases h2
      rw [goA_snoc, pk_one, if_neg (by simp)]
      cases goA [(0, .dir [])] p with
      | none => rfl
      | some k => exact (hx k n).symm
  · intro k l h cs _ e
    obtain ⟨_, e⟩ := hk k _ e
    cases e
  · intro k ss _ e
    obtain ⟨rfl, _⟩ := hk k _ e
    rfl
  · intro k ss e
    obtain ⟨_, e⟩ := hk k _ e
    cases e
    exact ⟨List.nodup_nil, nofun⟩
end
theorem nameB_low {n : Nm} (h : nameB n = true) : n.length ≤ 6 ∧ (∀ c ∈ n, c < 128) ∧ 47 ∉ n := by
  unfold nameB at h
  rw [Bool.and_eq_true, Bool.and_eq_true] at h
  have h2 := List.all_eq_true.mp h.2.2
  have hs : ∀ c, smallL.contains c = true → c < 128 ∧ c ≠ 47 := by
    intro c hc
    have hc : c ∈ smallL := by simpa using hc
    have : ∀ c ∈ smallL, c < 128 ∧ c ≠ 47 := by decide
    exact this c hc
  exact ⟨of_decide_eq_true h.2.1, fun c hc => (hs c (h2 c hc)).1, fun hc => (hs 47 (h2 47 hc)).2 rfl⟩
section
variable {x room : Int} {ns : Tr} {m : MW}
theorem RX.goodNames (R : RX x room ns m) {p : List Nm} {k : Int} (h : goA ns p = some k) : ∀ n ∈ p, nameB n = true := by
  induction p using snoc_ind generalizing k with
  | h0 => exact nofun
  | h1 p n ih =>
    rw [goA_snoc] at h
    cases hg : goA ns p with
    | none => rw [hg] at h; cases h
    | some i =>
      rw [hg, Option.bind_some] at h
      obtain ⟨ss, h1, h2⟩ := childA_some h
      intro a ha
      rcases List.mem_append.mp ha with z | z
      · exact ih hg a z
      · rw [List.mem_singleton.mp z]
        exact (R.nm i ss h1).2 n (mem_namesIn (nodeOf_some h2))
theorem goA_dir {p r : List Nm} {k : Int} (h : goA ns (p ++ r) = some k) (hr : r ≠ []) : ∃ i ss, goA ns p = some i ∧ ns.lookup i = some (.dir ss) := by
  cases r with
  | nil => exact absurd rfl hr
  | cons n r =>
    rw [show p ++ n :: r = (p ++ [n]) ++ r by simp] at h
    obtain ⟨j, hj⟩ := goA_pre h
    rw [goA_snoc] at hj
    cases hg : goA ns p with
    | none => rw [hg] at hj; cases hj
    | some i =>
      rw [hg, Option.bind_some] at hj
      obtain ⟨ss, h1, _⟩ := childA_some hj
      exact ⟨i, ss, rfl, h1⟩
theorem RX.deep (R : RX (-1) room ns m) {p : List Nm} {k : Int} (h : goA ns p = some k) : p.length ≤ 24 := by
  have key : ∀ i, i < p.length → ∃ a ss, goA ns (p.take i) = some a ∧ ns.lookup a = some (.dir ss) := fun i hi => by
    have e : p = p.take i ++ p.drop i := (List.take_append_drop i p).symm
    rw [e] at h
    exact goA_dir h (fun z => by have := congrArg List.length z; rw [List.length_drop] at this; simp at this; omega)
  have h1 : ((List.range p.length).map fun i => (goA ns (p.take i)).getD 0).Nodup := by
    refine List.pairwise_map.mpr ((List.nodup_range (n := p.length)).imp_of_mem ?_)
    intro a b ha hb hab e
    rw [List.mem_range] at ha hb
    obtain ⟨i, ss, g1, g2⟩ := key a ha
    obtain ⟨i2, ss2, g3, g4⟩ := key b hb
    rw [g1, g3] at e
    have e : i = i2 := e
    subst e
    have := congrArg List.length (R.uniq g2 (fun z => by have := (R.ok.rng _ (lk_mem g2)).1; omega) g1 g3)
    rw [List.length_take, List.length_take] at this
    omega
  have h2 := nodup_sub (m := ns.map (·.1)) h1 (fun a ha => by
    obtain ⟨i, hi, rfl⟩ := List.mem_map.mp ha
    obtain ⟨b, ss, g1, g2⟩ := key i (List.mem_range.mp hi)
    rw [g1]
    exact List.mem_map.mpr ⟨_, lk_mem g2, rfl⟩)
  rw [List.length_map, List.length_range, List.length_map] at h2
  have := R.ok.len
  omega
theorem slots_sum {ns : Tr} (h : ∀ y ∈ ns, slotsN y.2 ≤ 40) : (ns.map fun x => slotsN x.2).sum ≤ 40 * ns.length := by
  induction ns with
  | nil => simp
  | cons y r ih =>
    have h1 := h y (.head _)
    have h2 := ih fun z hz => h z (.tail _ hz)
    rw [List.map_cons, List.sum_cons, List.length_cons]
    omega
theorem RX.mok (R : RX (-1) room ns m) : MOk m := by
  have A := R.ok
  refine ⟨fun y hy => ?_, R.ndk, ?_, ?_, fun y hy => ?_, ?_, ?_, fun k hk => ?_, ?_, fun y hy => ?_, fun y hy => ?_⟩
  · obtain ⟨p, k⟩ := y
    have hg := R.mem.mpr hy
    have hn := R.goodNames hg
    have := R.deep hg
    exact ⟨fun n h => (nameB_low (hn n h)).2.2, fun n h => ⟨(nameB_low (hn n h)).1, (nameB_low (hn n h)).2.1⟩, by show p.length ≤ 30; omega⟩
  · rw [R.cnt]
    have h1 := slots_sum (ns := ns) fun y hy => by
      obtain ⟨k, u⟩ := y
      cases u with
      | file l h cs => exact Nat.zero_le _
      | dir ss =>
        have := (A.dir k ss (lk_nd A.nd hy)).1
        exact Nat.le_trans (namesIn_len ss) this
    have := A.len
    omega
  · rw [R.at_]; rfl
  · obtain ⟨p, k⟩ := y
    have hg := goA_in A (R.mem.mpr hy)
    obtain ⟨u, hu⟩ := Option.isSome_iff_exists.mp hg
    cases u with
    | dir ss => exact .inl (by rw [(R.sl_dir hu).1]; rfl)
    | file l h cs => exact .inr (by rw [(R.ce_file hu).2]; rfl)
  · rw [R.sl]; exact fmA_nd _ A.nd
  · rw [R.ce]; exact fmA_nd _ A.nd
  · rw [R.sl_lk] at hk
    cases hu : ns.lookup k with
    | none => rw [hu] at hk; cases hk
    | some u =>
      cases u with
      | dir ss => exact (R.sl_dir hu).2
      | file l h cs => rw [hu] at hk; cases hk
  · rw [R.few]; exact A.len
  · obtain ⟨k, os⟩ := y
    have h1 := lk_nd (by rw [R.sl]; exact fmA_nd _ A.nd) hy
    rw [R.sl_lk] at h1
    cases hu : ns.lookup k with
    | none => rw [hu] at h1; cases h1
    | some u =>
      rw [hu] at h1
      cases u with
      | dir ss =>
        cases h1
        rw [namesO_len]
        exact (A.dir k ss hu).1
      | file l h cs => cases h1
  · obtain ⟨k, os⟩ := y
    have h1 := lk_nd (by rw [R.ce]; exact fmA_nd _ A.nd) hy
    rw [R.ce_lk] at h1
    cases hu : ns.lookup k with
    | none => rw [hu] at h1; cases h1
    | some u =>
      rw [hu] at h1
      cases u with
      | dir ss => cases h1
      | file l h cs =>
        cases h1
        exact A.cel k l h _ hu
theorem RX.seek (R : RX x room ns m) : ∀ (r p : List Nm) (c : List Int), walkA ns p = .ok c → seekM m p r = match walkA ns (p ++ r) with
    | .ok _ => none
    | .error e => some e
  | [], p, c, h => by
    rw [List.append_nil, h]
    rfl
  | n :: r, p, c, h => by
    have hg := (walkA_go p).1 c h
    obtain ⟨u, hu⟩ := Option.isSome_iff_exists.mp (goA_in R.ok hg)
    have hws := walkA_snoc ns p n
    rw [h] at hws
    have hws : walkA ns (p ++ [n]) = (stepA ns (lastI c) n).map fun k => c ++ [k] := hws
    have e0 : p ++ n :: r = (p ++ [n]) ++ r := by simp
    unfold seekM
    rw [R.at_, hg, Option.any_some]
    cases u with
    | file l hh cs =>
      rw [(R.ce_file hu).2]
      rw [if_pos (show (some cs).isSome = true from rfl)]
      have h2 : walkA ns (p ++ [n]) = .error .notDir := by
        rw [hws]
        unfold stepA
        rw [hu]
        rfl
      rw [e0, walkA_err h2 r]
    | dir ss =>
      rw [(R.sl_dir hu).2]
      rw [if_neg (by simp), R.at_, goA_snoc, hg, Option.bind_some, childA_dir hu]
      unfold stepA at hws
      rw [hu] at hws
      cases hn : nodeOf ss n with
      | none =>
        rw [if_pos rfl]
        have h2 : walkA ns (p ++ [n]) = .error .noName := by
          rw [hws]
          show (match nodeOf ss n with | some j => .ok j | none => .error .noName : Except FRf Int).map _ = _
          rw [hn]
          rfl
        rw [e0, walkA_err h2 r]
      | some j =>
        rw [if_neg nofun]
        have h2 : walkA ns (p ++ [n]) = .ok (c ++ [j]) := by
          rw [hws]
          show (match nodeOf ss n with | some j => .ok j | none => .error .noName : Except FRf Int).map _ = _
          rw [hn]
          rfl
        rw [e0]
        exact RX.seek R r (p ++ [n]) _ h2
theorem RX.found (R : RX x room ns m) {z : List Nat} {names : List Nm} (hz : namesL z = some names) : (∀ e, walkA ns names = .error e → foundM m z = .error e) ∧ (∀ c, walkA ns names = .ok c → foundM m z = .ok names) := by
  have h := R.seek names [] [0] rfl
  rw [List.nil_append] at h
  unfold foundM
  rw [hz]
  constructor
  · intro e he
    rw [he] at h
    show (match seekM m [] names with | some e => _ | none => _) = _
    rw [h]
  · intro c hc
    rw [hc] at h
    show (match seekM m [] names with | some e => _ | none => _) = _
    rw [h]
theorem RX.spot (R : RX x room ns m) {z : List Nat} {names : List Nm} (hz : namesL z = some names) : (∀ e, newA ns names = .error e → spotM m z = .error e) ∧ (∀ c, newA ns names = .ok c → spotM m z = .ok names.dropLast) := by
  unfold spotM newA
  rw [hz]
  dsimp only
  by_cases hn : names = []
  · rw [if_pos hn, if_pos hn]
    exact ⟨fun e h => by cases h; rfl, nofun⟩
  rw [if_neg hn, if_neg hn]
  have h := R.seek names.dropLast [] [0] rfl
  rw [List.nil_append] at h
  cases hw : walkA ns names.dropLast with
  | error e0 =>
    rw [hw] at h
    rw [h]
    exact ⟨fun e h => by cases h; rfl, nofun⟩
  | ok c0 =>
    rw [hw] at h
    rw [h]
    have hg := (walkA_go _).1 c0 hw
    have hsp := last_split hn
    have hg2 : goA ns names = childA ns (lastI c0) (lastN names) := by
      conv => lhs; rw [← hsp]
      rw [goA_snoc, hg]
      rfl
    show (∀ e, (match ns.lookup (lastI c0) with
      | some (.dir ss) => match nodeOf ss (lastN names) with
        | some _ => .error .taken
        | none => .ok c0
      | _ => .error .notDir : Except FRf (List Int)) = .error e → (if (m.at_.lookup names.dropLast).any (fun k => (m.ce.lookup k).isSome) = true then .error .notDir else if (m.at_.lookup names).isSome = true then .error .taken else .ok names.dropLast : Except FRf (List Nm)) = .error e) ∧
      (∀ c, (match ns.lookup (lastI c0) with
      | some (.dir ss) => match nodeOf ss (lastN names) with
        | some _ => .error .taken
        | none => .ok c0
      | _ => .error .notDir : Except FRf (List Int)) = .ok c → (if (m.at_.lookup names.dropLast).any (fun k => (m.ce.lookup k).isSome) = true then .error .notDir else if (m.at_.lookup names).isSome = true then .error .taken else .ok names.dropLast : Except FRf (List Nm)) = .ok names.dropLast)
    rw [R.at_, R.at_, hg, Option.any_some, hg2]
    obtain ⟨u, hu⟩ := Option.isSome_iff_exists.mp (goA_in R.ok hg)
    rw [hu]
    cases u with
    | file l hh cs =>
      rw [(R.ce_file hu).2, if_pos (show (some cs).isSome = true from rfl)]
      exact ⟨fun e h => by cases h; rfl, nofun⟩
    | dir ss =>
      rw [(R.sl_dir hu).2, if_neg (by simp), childA_dir hu]
      cases hno : nodeOf ss (lastN names) with
      | none =>
        rw [if_neg (by simp)]
        simp only [hno]
        exact ⟨nofun, fun _ _ => trivial⟩
      | some j =>
        rw [if_pos (show (some j).isSome = true from rfl)]
        simp only [hno]
        exact ⟨fun e h => by cases h; rfl, nofun⟩
end
/-! ### what each deed does in the law's world -/
def sltM (m : MW) (p : List Nm) : List (Option Nm) := ((m.at_.lookup p).bind fun k => m.sl.lookup k).getD []
abbrev nodM (m : MW) (p : List Nm) : Int := (m.at_.lookup p).getD 0
def putM (m : MW) (p q : List Nm) (j : Int) : MW := { m with at_ := m.at_ ++ [(q, j)], sl := setA m.sl (nodM m p) (addO (sltM m p) (lastN q)) }
def freedM (m : MW) (q : List Nm) : MW := { m with sl := setA m.sl (nodM m q.dropLast) (freeO (sltM m q.dropLast) (lastN q)) }
def freeNM (m : MW) : Int := ((((List.range 24).find? fun (k : Nat) => (m.sl.lookup (k : Int)).isNone && (m.ce.lookup (k : Int)).isNone).getD 0 : Nat) : Int)
def newM (d : Bool) (m : MW) (j : Int) : MW := if d = true then { m with sl := m.sl ++ [(j, [])] } else { m with ce := m.ce ++ [(j, [])] }
def madeM (d : Bool) (m : MW) (z : List Nat) : Except FRf (MW × Int) := match spotM m z with
  | .error e => .error e
  | .ok p => if fullO (sltM m p) = true then .error .tooMany else if m.sl.length + m.ce.length = 24 then .error .noNode else if growM m (sltM m p) = true then .error .noSpace else
    .ok (putM (newM d m (freeNM m)) p ((namesL z).getD []) (freeNM m), freeNM m)
def linkM (m : MW) (z y : List Nat) : Except FRf MW := withN z fun _ => withN y fun o => match foundM m z with
  | .error e => .error e
  | .ok p => if (m.sl.lookup (nodM m p)).isSome = true then .error .isDir else match spotM m y with
    | .error e => .error e
    | .ok pl => if fullO (sltM m pl) = true then .error .tooMany else if growM m (sltM m pl) = true then .error .noSpace else .ok (putM m pl o (nodM m p))
def unlinkM (m : MW) (z : List Nat) : Except FRf MW := match foundM m z with
  | .error e => .error e
  | .ok p => if (m.sl.lookup (nodM m p)).isSome = true then .error .isDir else .ok (clearM { freedM m p with at_ := dropP m.at_ p } (nodM m p))
def removeM (m : MW) (z : List Nat) : Except FRf MW := match foundM m z with
  | .error e => .error e
  | .ok p => if (m.ce.lookup (nodM m p)).isSome = true then .error .notDir else if p = [] then .error .notAllowed else if (sltM m p).filterMap id ≠ [] then .error .notEmpty else
    .ok { m with at_ := dropP m.at_ p, sl := dropA (freedM m p).sl (nodM m p) }
def moveM (m : MW) (z y : List Nat) : Except FRf MW := withN z fun n => withN y fun o => if n = [] then .error .notAllowed else match foundM m z with
  | .error e => .error e
  | .ok _ => match spotM m y with
    | .error e => .error e
    | .ok pl => if n <+: pl ∧ (m.sl.lookup (nodM m n)).isSome = true then .error .inside else if pl ≠ n.dropLast ∧ fullO (sltM m pl) = true then .error .tooMany else if pl ≠ n.dropLast ∧ growM m (sltM m pl) = true then .error .noSpace else
      .ok { m with at_ := moveP m.at_ n o (nodM m n), sl := setA (freedM m n).sl (nodM m pl) (addO (sltM (freedM m n) pl) (lastN o)) }
def findM (m : MW) (z : List Nat) : Except FRf Int := match foundM m z with
  | .error e => .error e
  | .ok p => .ok (nodM m p)
def namesM (m : MW) (z : List Nat) : Except FRf (List Nm) := match foundM m z with
  | .error e => .error e
  | .ok p => if (m.ce.lookup (nodM m p)).isSome = true then .error .notDir else .ok ((sltM m p).filterMap id)
def statM (m : MW) (k : Int) : Except FRf FAns := match m.sl.lookup k with
  | some os => .ok (.told "dir" 1 (os.length : Nat))
  | none => match m.ce.lookup k with
    | some cs => .ok (.told "file" (linksM m k) (cs.length : Nat))
    | none => .error .noNode
def semM (m : MW) : FDeed → Except FRf (MW × FAns)
  | .find z => (findM m z).map fun i => (m, .int i)
  | .make z => (madeM false m z).map fun x => (x.1, .int x.2)
  | .mkdir z => (madeM true m z).map fun x => (x.1, .int x.2)
  | .link z y => (linkM m z y).map fun t => (t, .non)
  | .unlink z => (unlinkM m z).map fun t => (t, .non)
  | .rmdir z => (removeM m z).map fun t => (t, .non)
  | .move z y => (moveM m z y).map fun t => (t, .non)
  | .names z => (namesM m z).map fun l => (m, .names l)
  | .stat k => (statM m k).map fun a => (m, a)
  | .free => .ok (m, .pair (24 - (m.sl.length : Nat) - (m.ce.length : Nat)) (spareM m))
/-- both go the same way -/
def Sm (room : Int) (r : Except FRf (Tr × FAns)) (r' : Except FRf (MW × FAns)) : Prop := match r with
  | .error e => r' = .error e
  | .ok (t, a) => ∃ m', r' = .ok (m', a) ∧ RX (-1) room t m'
section
variable {room : Int} {ns : Tr} {m : MW}
theorem sltM_dir {x : Int} (R : RX x room ns m) {p : List Nm} {k : Int} {ss : List Sl} (hp : goA ns p = some k) (hk : ns.lookup k = some (.dir ss)) : sltM m p = namesO ss ∧ nodM m p = k := by
  unfold sltM nodM
  rw [R.at_, hp, Option.bind_some, (R.sl_dir hk).1]
  exact ⟨rfl, rfl⟩
theorem nodM_at {x : Int} (R : RX x room ns m) {p : List Nm} {k : Int} (hp : goA ns p = some k) : nodM m p = k := by
  unfold nodM
  rw [R.at_, hp]
  rfl
theorem find_congr {α : Type} {f g : α → Bool} (h : ∀ a, f a = g a) (l : List α) : l.find? f = l.find? g := by
  induction l with
  | nil => rfl
  | cons a r ih => rw [List.find?_cons, List.find?_cons, h, ih]
theorem freeN_same (R : RX (-1) room ns m) : freeNM m = freeN ns := by
  unfold freeNM freeN
  congr 2
  refine find_congr (fun k => ?_) _
  rw [R.sl_lk, R.ce_lk]
  cases ns.lookup (k : Int) with
  | none => rfl
  | some u => cases u <;> rfl
theorem freeN_ok (A : AOk ns) (h : ns.length ≠ 24) : ns.lookup (freeN ns) = none ∧ 0 ≤ freeN ns ∧ freeN ns < 24 := by
  unfold freeN
  cases hf : (List.range 24).find? fun (k : Nat) => (ns.lookup (k : Int)).isNone with
  | some k =>
    have h1 := List.find?_some hf
    have h2 := List.mem_range.mp (List.mem_of_find?_eq_some hf)
    refine ⟨?_, ?_, ?_⟩
    · show ns.lookup (k : Int) = none
      simpa using h1
    · show (0 : Int) ≤ (k : Int)
      omega
    · show (k : Int) < 24
      omega
  | none =>
    exfalso
    have h1 := List.find?_eq_none.mp hf
    have h2 := nodup_sub (l := (List.range 24).map fun (k : Nat) => (k : Int)) (m := ns.map (·.1)) (List.Pairwise.map _ (fun a b h z => h (by omega)) List.nodup_range) (fun a ha => by
      obtain ⟨i, hi, rfl⟩ := List.mem_map.mp ha
      refine lk_some.mp ?_
      have := h1 i hi
      simpa using this)
    rw [List.length_map, List.length_range, List.length_map] at h2
    have := A.len
    omega
theorem newA_dir {A : AOk ns} {names : List Nm} {c : List Int} (h : newA ns names = .ok c) : names ≠ [] ∧ goA ns names.dropLast = some (lastI c) ∧ ∃ ss, ns.lookup (lastI c) = some (.dir ss) ∧ nodeOf ss (lastN names) = none := by
  obtain ⟨h1, h2, _, _, h3⟩ := newA_ok A h
  exact ⟨h1, (walkA_go _).1 c h2, h3⟩
theorem same_make (R : RX (-1) room ns m) (d : Bool) {new : AN} (hd : new = if d = true then .dir [] else .file 1 0 []) (hall : ∀ z names, namesL z = some names → ∀ n ∈ names, nameB n = true) (z : List Nat) :
    Sm room ((withN z fun n => (makeA room ns n new).map fun x => (x.1, .int x.2))) ((madeM d m z).map fun x => (x.1, .int x.2)) := by
  have A := R.ok
  unfold withN madeM
  cases hz : namesL z with
  | none =>
    have : spotM m z = .error .badName := by unfold spotM; rw [hz]
    rw [this]
    exact rfl
  | some names =>
    obtain ⟨h1, h2⟩ := R.spot hz
    show Sm room ((makeA room ns names new).map fun x => (x.1, FAns.int x.2)) _
    unfold makeA
    cases hw : newA ns names with
    | error e => rw [h1 e hw]; exact rfl
    | ok c =>
      rw [h2 c hw]
      obtain ⟨hne, hp, ss, hk, hno⟩ := newA_dir (A := A) hw
      obtain ⟨e1, e2⟩ := sltM_dir R hp hk
      show Sm room ((match ns.lookup (lastI c) with
        | some (.dir ss) => if fullA ss = true then .error .tooMany else if ns.length = 24 then .error .noNode else if growA room ns ss = true then .error .noSpace else .ok (addTo (ns ++ [(freeN ns, new)]) (lastI c) (lastN names) (freeN ns), freeN ns)
        | _ => .error .notDir : Except FRf (Tr × Int)).map fun x => (x.1, FAns.int x.2)) ((if fullO (sltM m names.dropLast) = true then .error .tooMany else if m.sl.length + m.ce.length = 24 then .error .noNode else if growM m (sltM m names.dropLast) = true then .error .noSpace else
          .ok (putM (newM d m (freeNM m)) names.dropLast names (freeNM m), freeNM m) : Except FRf (MW × Int)).map fun x => (x.1, FAns.int x.2))
      rw [hk, e1, full_names, R.few, R.grow, freeN_same R]
      show Sm room ((if fullA ss = true then .error .tooMany else if ns.length = 24 then .error .noNode else if growA room ns ss = true then .error .noSpace else .ok (addTo (ns ++ [(freeN ns, new)]) (lastI c) (lastN names) (freeN ns), freeN ns) : Except FRf (Tr × Int)).map fun x => (x.1, FAns.int x.2)) _
      by_cases c1 : fullA ss = true
      · rw [if_pos c1, if_pos c1]; exact rfl
      rw [if_neg c1, if_neg c1]
      by_cases c2 : ns.length = 24
      · rw [if_pos c2, if_pos c2]; exact rfl
      rw [if_neg c2, if_neg c2]
      by_cases c3 : growA room ns ss = true
      · rw [if_pos c3, if_pos c3]; exact rfl
      rw [if_neg c3, if_neg c3]
      obtain ⟨f1, f2, f3⟩ := freeN_ok A c2
      obtain ⟨R1, hl0, hcj, hj', hold, hgo⟩ := R.node (new := new) f1 f2 f3 c2 (by rw [hd]; cases d; (· exact .inr ⟨1, rfl⟩); (· exact .inl rfl))
      have hkj : lastI c ≠ freeN ns := fun z => by rw [z, f1] at hk; cases hk
      have hk1 := hold _ _ hk
      have hN := hall z names hz _ (lastN_mem hne)
      obtain ⟨R2, hl2, hlk2⟩ := R1.edge hk1 hkj (by rw [hgo]; exact hp) hno hN (by simpa using c1) (by rw [hj']; rfl) hcj
      rw [last_split hne] at R2 hl2
      refine ⟨putM (newM d m (freeN ns)) names.dropLast names (freeN ns), rfl, ?_⟩
      have hl1 : linksM { m with sl := m.sl ++ ((dirO new).map fun y => (freeN ns, y)).toList, ce := m.ce ++ ((fileO new).map fun y => (freeN ns, y)).toList } (freeN ns) = 0 := hl0
      have hnm : newM d m (freeN ns) = { m with sl := m.sl ++ ((dirO new).map fun y => (freeN ns, y)).toList, ce := m.ce ++ ((fileO new).map fun y => (freeN ns, y)).toList } := by
        unfold newM
        rw [hd]
        cases d
        · simp [dirO, fileO]
        · simp [dirO, fileO, namesO]
      obtain ⟨e3, e4⟩ := sltM_dir R1 (by rw [hgo]; exact hp) hk1
      have hput : putM (newM d m (freeN ns)) names.dropLast names (freeN ns) = { { m with sl := m.sl ++ ((dirO new).map fun y => (freeN ns, y)).toList, ce := m.ce ++ ((fileO new).map fun y => (freeN ns, y)).toList } with at_ := m.at_ ++ [(names, freeN ns)], sl := setA (m.sl ++ ((dirO new).map fun y => (freeN ns, y)).toList) (lastI c) (addO (namesO ss) (lastN names)) } := by
        rw [hnm]
        unfold putM
        rw [e3, e4]
      rw [hput]
      have hj2 : (addTo (ns ++ [(freeN ns, new)]) (lastI c) (lastN names) (freeN ns)).lookup (freeN ns) = some new := by rw [hlk2, hj']
      rw [hl1] at hl2
      exact ⟨R2.ok, R2.room, R2.ho, R2.hol, R2.sl, R2.ce, R2.at_, R2.ndk, fun k l h cs _ e => by
        by_cases hkx : k = freeN ns
        · subst hkx
          rw [hj2, hd] at e
          cases d
          · cases e; exact hl2
          · cases e
        · exact R2.lkf k l h cs hkx e, fun k s _ e => by
        by_cases hkx : k = freeN ns
        · subst hkx
          exact hl2
        · exact R2.lkd k s hkx e, R2.nm, R2.cnt⟩
end
section
variable {room : Int} {ns : Tr} {m : MW}
theorem RX.neg (R : RX (-1) room ns m) {k : Int} {u : AN} (h : ns.lookup k = some u) : k ≠ -1 := fun z => by
  have := (R.ok.rng _ (lk_mem h)).1
  omega
theorem same_find (R : RX (-1) room ns m) (z : List Nat) : Sm room (withN z fun n => (walkA ns n).map fun c => (ns, .int (lastI c))) ((findM m z).map fun i => (m, .int i)) := by
  unfold withN findM
  cases hz : namesL z with
  | none =>
    have : foundM m z = .error .badName := by unfold foundM; rw [hz]
    rw [this]
    exact rfl
  | some names =>
    obtain ⟨h1, h2⟩ := R.found hz
    show Sm room ((walkA ns names).map fun c => (ns, FAns.int (lastI c))) _
    cases hw : walkA ns names with
    | error e => rw [h1 e hw]; exact rfl
    | ok c =>
      rw [h2 c hw]
      have hp := (walkA_go _).1 c hw
      refine ⟨m, ?_, R⟩
      show (.ok (m, FAns.int (nodM m names)) : Except FRf (MW × FAns)) = _
      rw [nodM_at R hp]
theorem names_filter (ss : List Sl) : (namesO ss).filterMap id = namesIn ss := by
  unfold namesO namesIn
  rw [List.filterMap_map]
  rfl
theorem same_names (R : RX (-1) room ns m) (z : List Nat) : Sm room (withN z fun n => (namesA ns n).map fun l => (ns, .names l)) ((namesM m z).map fun l => (m, .names l)) := by
  unfold withN namesM
  cases hz : namesL z with
  | none =>
    have : foundM m z = .error .badName := by unfold foundM; rw [hz]
    rw [this]
    exact rfl
  | some names =>
    obtain ⟨h1, h2⟩ := R.found hz
    show Sm room ((namesA ns names).map fun l => (ns, FAns.names l)) _
    unfold namesA
    cases hw : walkA ns names with
    | error e => rw [h1 e hw]; exact rfl
    | ok c =>
      rw [h2 c hw]
      have hp := (walkA_go _).1 c hw
      obtain ⟨u, hu⟩ := Option.isSome_iff_exists.mp (goA_in R.ok hp)
      show Sm room ((match ns.lookup (lastI c) with
        | some (.dir ss) => .ok (namesIn ss)
        | _ => .error .notDir : Except FRf (List Nm)).map fun l => (ns, FAns.names l)) ((if (m.ce.lookup (nodM m names)).isSome = true then .error .notDir else .ok ((sltM m names).filterMap id) : Except FRf (List Nm)).map fun l => (m, FAns.names l))
      rw [hu, nodM_at R hp]
      cases u with
      | file l h cs =>
        rw [(R.ce_file hu).2]
        exact rfl
      | dir ss =>
        rw [(R.sl_dir hu).2, (sltM_dir R hp hu).1, names_filter]
        exact ⟨m, rfl, R⟩
theorem same_stat (R : RX (-1) room ns m) (k : Int) : Sm room (match ns.lookup k with
    | none => .error .noNode
    | some n => .ok (ns, toldA n)) ((statM m k).map fun a => (m, a)) := by
  unfold statM
  cases hu : ns.lookup k with
  | none =>
    rw [(R.lk_no hu).1, (R.lk_no hu).2]
    exact rfl
  | some u =>
    cases u with
    | dir ss =>
      rw [(R.sl_dir hu).1]
      refine ⟨m, ?_, R⟩
      show (.ok (m, FAns.told "dir" 1 ((namesO ss).length : Nat)) : Except FRf (MW × FAns)) = _
      rw [namesO_len]
      rfl
    | file l h cs =>
      rw [(R.ce_file hu).1, (R.ce_file hu).2]
      refine ⟨m, ?_, R⟩
      show (.ok (m, FAns.told "file" (linksM m k) (cs.length : Nat)) : Except FRf (MW × FAns)) = _
      rw [R.lkf k l h cs (R.neg hu) hu]
      rfl
theorem same_free (R : RX (-1) room ns m) : Sm room (.ok (ns, .pair (24 - (ns.length : Nat)) (freeA room ns))) (.ok (m, .pair (24 - (m.sl.length : Nat) - (m.ce.length : Nat)) (spareM m))) := by
  refine ⟨m, ?_, R⟩
  have h1 := R.few
  rw [R.spare, show (24 : Int) - (m.sl.length : Nat) - (m.ce.length : Nat) = 24 - (ns.length : Nat) by omega]
theorem same_link (R : RX (-1) room ns m) (hall : ∀ z names, namesL z = some names → ∀ n ∈ names, nameB n = true) (z y : List Nat) :
    Sm room (withN z fun n => withN y fun o => (linkA room ns n o).map fun t => (t, .non)) ((linkM m z y).map fun t => (t, .non)) := by
  have A := R.ok
  unfold withN linkM withN
  cases hz : namesL z with
  | none => exact rfl
  | some names =>
    cases hy : namesL y with
    | none => exact rfl
    | some others =>
      obtain ⟨h1, h2⟩ := R.found hz
      obtain ⟨g1, g2⟩ := R.spot hy
      show Sm room ((linkA room ns names others).map fun t => (t, FAns.non)) ((match foundM m z with
        | .error e => .error e
        | .ok p => if (m.sl.lookup (nodM m p)).isSome = true then .error .isDir else match spotM m y with
          | .error e => .error e
          | .ok pl => if fullO (sltM m pl) = true then .error .tooMany else if growM m (sltM m pl) = true then .error .noSpace else .ok (putM m pl others (nodM m p)) : Except FRf MW).map fun t => (t, FAns.non))
      unfold linkA
      cases hw : walkA ns names with
      | error e => rw [h1 e hw]; exact rfl
      | ok c =>
        rw [h2 c hw]
        have hp := (walkA_go _).1 c hw
        obtain ⟨u, hu⟩ := Option.isSome_iff_exists.mp (goA_in A hp)
        dsimp only [Except.bind]
        rw [hu, nodM_at R hp]
        cases u with
        | dir ss =>
          rw [(R.sl_dir hu).1]
          exact rfl
        | file l h cs =>
          rw [(R.ce_file hu).1, if_neg (by simp)]
          dsimp only
          cases hw2 : newA ns others with
          | error e => rw [g1 e hw2]; exact rfl
          | ok c2 =>
            rw [g2 c2 hw2]
            obtain ⟨hne, hp2, ss, hk, hno⟩ := newA_dir (A := A) hw2
            obtain ⟨e1, e2⟩ := sltM_dir R hp2 hk
            dsimp only
            rw [hk, e1, full_names, R.grow]
            dsimp only
            by_cases c1 : fullA ss = true
            · rw [if_pos c1, if_pos c1]; exact rfl
            rw [if_neg c1, if_neg c1]
            by_cases c3 : growA room ns ss = true
            · rw [if_pos c3, if_pos c3]; exact rfl
            rw [if_neg c3, if_neg c3]
            have hkj : lastI c2 ≠ lastI c := fun z => by rw [z, hu] at hk; cases hk
            have R1 := R.weak rfl (lastI c)
            obtain ⟨R2, hl2, hlk2⟩ := R1.edge hk hkj hp2 hno (hall y others hy _ (lastN_mem hne)) (by simpa using c1) (by rw [hu]; rfl) (fun n => childA_file hu n)
            rw [last_split hne] at R2 hl2
            rw [R.lkf _ l h cs (R.neg hu) hu] at hl2
            refine ⟨putM m others.dropLast others (lastI c), rfl, ?_⟩
            have hput : putM m others.dropLast others (lastI c) = { m with at_ := m.at_ ++ [(others, lastI c)], sl := setA m.sl (lastI c2) (addO (namesO ss) (lastN others)) } := by
              unfold putM
              rw [e1, e2]
            rw [hput]
            exact R2.links (by rw [hlk2]; exact hu) hl2
theorem walkA_split {A : AOk ns} {names : List Nm} {c : List Int} (h : walkA ns names = .ok c) (hne : names ≠ []) : ∃ ss, goA ns names.dropLast = some (prevI c) ∧ ns.lookup (prevI c) = some (.dir ss) ∧ nodeOf ss (lastN names) = some (lastI c) := by
  have hsp := last_split hne
  rw [← hsp, walkA_snoc] at h
  cases hw : walkA ns names.dropLast with
  | error e => rw [hw] at h; cases h
  | ok c0 =>
    rw [hw] at h
    have h : (stepA ns (lastI c0) (lastN names)).map (fun k => c0 ++ [k]) = .ok c := h
    unfold stepA at h
    cases hl : ns.lookup (lastI c0) with
    | none => rw [hl] at h; cases h
    | some u =>
      cases u with
      | file l hh cs => rw [hl] at h; cases h
      | dir ss =>
        rw [hl] at h
        have h : (match nodeOf ss (lastN names) with | some j => .ok j | none => .error .noName : Except FRf Int).map (fun k => c0 ++ [k]) = .ok c := h
        cases hn : nodeOf ss (lastN names) with
        | none => rw [hn] at h; cases h
        | some j =>
          rw [hn] at h
          cases h
          have e1 : prevI (c0 ++ [j]) = lastI c0 := by simp [prevI, lastI]
          have e2 : lastI (c0 ++ [j]) = j := by simp [lastI]
          rw [e1, e2]
          exact ⟨ss, (walkA_go _).1 c0 hw, hl, hn⟩
theorem same_unlink (R : RX (-1) room ns m) (z : List Nat) : Sm room (withN z fun n => (unlinkA ns n).map fun t => (t, .non)) ((unlinkM m z).map fun t => (t, .non)) := by
  have A := R.ok
  unfold withN unlinkM
  cases hz : namesL z with
  | none =>
    have : foundM m z = .error .badName := by unfold foundM; rw [hz]
    rw [this]
    exact rfl
  | some names =>
    obtain ⟨h1, h2⟩ := R.found hz
    show Sm room ((unlinkA ns names).map fun t => (t, FAns.non)) _
    unfold unlinkA
    cases hw : walkA ns names with
    | error e => rw [h1 e hw]; exact rfl
    | ok c =>
      rw [h2 c hw]
      have hp := (walkA_go _).1 c hw
      obtain ⟨u, hu⟩ := Option.isSome_iff_exists.mp (goA_in A hp)
      dsimp only [Except.bind]
      rw [hu, nodM_at R hp]
      cases u with
      | dir ss =>
        rw [(R.sl_dir hu).1]
        exact rfl
      | file l h cs =>
        rw [(R.ce_file hu).1, if_neg (by simp)]
        have hne := names_ne A hw hu
        obtain ⟨ss, hp0, hk0, hn0⟩ := walkA_split (A := A) hw hne
        obtain ⟨e1, e2⟩ := sltM_dir R hp0 hk0
        have hkj : prevI c ≠ lastI c := fun z => by rw [z, hu] at hk0; cases hk0
        have R1 := R.weak rfl (lastI c)
        obtain ⟨R2, hl2, hlk2, _⟩ := R1.unedge hk0 hkj hp0 hn0 (fun n => childA_file hu n)
        rw [last_split hne] at R2 hl2
        rw [R.lkf _ l h cs (R.neg hu) hu] at hl2
        have hfr : ({ freedM m names with at_ := dropP m.at_ names } : MW) = { m with at_ := dropP m.at_ names, sl := setA m.sl (prevI c) (freeO (namesO ss) (lastN names)) } := by
          unfold freedM
          rw [e1, e2]
        rw [hfr]
        have hj2 : (dropOf ns (prevI c) (lastN names)).lookup (lastI c) = some (.file l h cs) := by rw [hlk2, hu]
        have R3 := R2.links hj2 hl2
        have h0 := R.hol _ _ _ _ hu
        subst h0
        refine ⟨_, rfl, ?_⟩
        have hset : (setA (dropOf ns (prevI c) (lastN names)) (lastI c) (.file (l - 1) 0 cs)).lookup (lastI c) = some (.file (l - 1) 0 cs) := by rw [lk_setA, hj2, if_pos rfl]; rfl
        unfold clearA clearM
        rw [hset, hl2]
        dsimp only
        have hho : ((({ m with at_ := dropP m.at_ names, sl := setA m.sl (prevI c) (freeO (namesO ss) (lastN names)) } : MW).ho.lookup (lastI c)).getD 0) = 0 := by
          show ((m.ho.lookup (lastI c)).getD 0) = 0
          rw [R.ho]
          rfl
        by_cases c1 : l - 1 = 0
        · rw [if_pos ⟨c1, rfl⟩, if_pos ⟨c1, hho⟩]
          have R4 := (R3.weak rfl (lastI c)).gone hset rfl (fun z => by
            obtain ⟨s0, hs⟩ := A.root
            rw [z, hs] at hu
            cases hu) (by rw [hl2]; exact c1)
          have e : dropA (setA m.sl (prevI c) (freeO (namesO ss) (lastN names))) (lastI c) = setA m.sl (prevI c) (freeO (namesO ss) (lastN names)) := by
            refine dropA_no ?_
            rw [setA_keys]
            exact lk_none.mp (R.ce_file hu).1
          have R5 : RX (-1) room (dropA (setA (dropOf ns (prevI c) (lastN names)) (lastI c) (.file (l - 1) 0 cs)) (lastI c)) { m with at_ := dropP m.at_ names, sl := dropA (setA m.sl (prevI c) (freeO (namesO ss) (lastN names))) (lastI c), ce := dropA m.ce (lastI c) } := R4
          rw [e] at R5
          exact R5
        · rw [if_neg (fun z => c1 z.1), if_neg (fun z => c1 z.1)]
          exact R3
end
section
variable {room : Int} {ns : Tr} {m : MW}
theorem same_remove (R : RX (-1) room ns m) (z : List Nat) : Sm room (withN z fun n => (removeA ns n).map fun t => (t, .non)) ((removeM m z).map fun t => (t, .non)) := by
  have A := R.ok
  unfold withN removeM
  cases hz : namesL z with
  | none =>
    have : foundM m z = .error .badName := by unfold foundM; rw [hz]
    rw [this]
    exact rfl
  | some names =>
    obtain ⟨h1, h2⟩ := R.found hz
    show Sm room ((removeA ns names).map fun t => (t, FAns.non)) _
    unfold removeA
    cases hw : walkA ns names with
    | error e => rw [h1 e hw]; exact rfl
    | ok c =>
      rw [h2 c hw]
      have hp := (walkA_go _).1 c hw
      obtain ⟨u, hu⟩ := Option.isSome_iff_exists.mp (goA_in A hp)
      dsimp only [Except.bind]
      rw [hu, nodM_at R hp]
      cases u with
      | file l h cs =>
        rw [(R.ce_file hu).2]
        exact rfl
      | dir ss =>
        rw [(R.sl_dir hu).2, if_neg (by simp), (sltM_dir R hp hu).1, names_filter]
        dsimp only
        by_cases hne : names = []
        · rw [if_pos hne, if_pos hne]; exact rfl
        rw [if_neg hne, if_neg hne]
        by_cases hin : namesIn ss = []
        · rw [if_neg (fun z => z hin), if_neg (fun z => z hin)]
          obtain ⟨s0, hp0, hk0, hn0⟩ := walkA_split (A := A) hw hne
          obtain ⟨e1, e2⟩ := sltM_dir R hp0 hk0
          have hsp := last_split hne
          have hcj : ∀ n, childA ns (lastI c) n = none := fun n => by
            rw [childA_dir hu]
            exact nodeOf_none.mpr fun q hq _ => by
              have h2 := mem_namesIn hq
              rw [hin] at h2
              cases h2
          have hkj : prevI c ≠ lastI c := fun z => by
            have h3 := hcj (lastN names)
            rw [← z, childA_dir hk0, hn0] at h3
            cases h3
          have R1 := R.weak rfl (lastI c)
          obtain ⟨R2, hl2, hlk2, _⟩ := R1.unedge hk0 hkj hp0 hn0 hcj
          rw [hsp] at R2 hl2
          rw [R.lkd _ ss (R.neg hu) hu] at hl2
          have hj2 : (dropOf ns (prevI c) (lastN names)).lookup (lastI c) = some (.dir ss) := by rw [hlk2, hu]
          have h0 : lastI c ≠ 0 := fun z => by
            have h3 : goA ns [] = some (lastI c) := by rw [z]; rfl
            exact hne (R.uniq hu (R.neg hu) hp h3)
          have R3 := R2.gone hj2 (by show (namesIn ss).length = 0; rw [hin]; rfl) h0 hl2
          refine ⟨{ m with at_ := dropP m.at_ names, sl := dropA (freedM m names).sl (lastI c) }, rfl, ?_⟩
          have e : dropA m.ce (lastI c) = m.ce := dropA_no (lk_none.mp (R.sl_dir hu).2)
          have e3 : (freedM m names).sl = setA m.sl (prevI c) (freeO (namesO s0) (lastN names)) := by
            unfold freedM
            rw [e1, e2]
          rw [e3]
          have R4 : RX (-1) room (dropA (dropOf ns (prevI c) (lastN names)) (lastI c)) { m with at_ := dropP m.at_ names, sl := dropA (setA m.sl (prevI c) (freeO (namesO s0) (lastN names))) (lastI c), ce := dropA m.ce (lastI c) } := R3
          rw [e] at R4
          exact R4
        · rw [if_pos hin, if_pos hin]; exact rfl
theorem in_chain {A : AOk ns} : ∀ {p : List Nm} {c : List Int}, walkA ns p = .ok c → ∀ k, k ∈ c ↔ ∃ q, q <+: p ∧ goA ns q = some k := by
  intro p
  induction p using snoc_ind with
  | h0 =>
    intro c h k
    cases h
    constructor
    · intro hk
      rw [List.mem_singleton.mp hk]
      exact ⟨[], List.prefix_refl _, rfl⟩
    · rintro ⟨q, ⟨r, hr⟩, hg⟩
      have : q = [] := (List.append_eq_nil_iff.mp hr).1
      subst this
      cases hg
      exact .head _
  | h1 p n ih =>
    intro c h k
    have hg := (walkA_go _).1 c h
    rw [walkA_snoc] at h
    cases hw : walkA ns p with
    | error e => rw [hw] at h; cases h
    | ok c0 =>
      rw [hw] at h
      have h : (stepA ns (lastI c0) n).map (fun k => c0 ++ [k]) = .ok c := h
      cases hs : stepA ns (lastI c0) n with
      | error e => rw [hs] at h; cases h
      | ok j =>
        rw [hs] at h
        cases h
        have e2 : lastI (c0 ++ [j]) = j := by simp [lastI]
        rw [e2] at hg
        constructor
        · intro hk
          rcases List.mem_append.mp hk with z | z
          · obtain ⟨q, hq, hqk⟩ := (ih hw k).mp z
            exact ⟨q, pre_snoc.mpr (.inr hq), hqk⟩
          · rw [List.mem_singleton.mp z]
            exact ⟨_, List.prefix_refl _, hg⟩
        · rintro ⟨q, hq, hqk⟩
          rcases pre_snoc.mp hq with z | z
          · rw [z, hg] at hqk
            cases hqk
            exact List.mem_append_right _ (.head _)
          · exact List.mem_append_left _ ((ih hw k).mpr ⟨q, z, hqk⟩)
theorem same_move (R : RX (-1) room ns m) (hall : ∀ z names, namesL z = some names → ∀ n ∈ names, nameB n = true) (z y : List Nat) :
    Sm room (withN z fun n => withN y fun o => (moveA room ns n o).map fun t => (t, .non)) ((moveM m z y).map fun t => (t, .non)) := by
  have A := R.ok
  unfold withN moveM withN
  cases hz : namesL z with
  | none => exact rfl
  | some names =>
    cases hy : namesL y with
    | none => exact rfl
    | some others =>
      obtain ⟨h1, h2⟩ := R.found hz
      obtain ⟨g1, g2⟩ := R.spot hy
      dsimp only
      unfold moveA
      by_cases hne : names = []
      · rw [if_pos hne, if_pos hne]; exact rfl
      rw [if_neg hne, if_neg hne]
      cases hw : walkA ns names with
      | error e => rw [h1 e hw]; exact rfl
      | ok c =>
        rw [h2 c hw]
        have hp := (walkA_go _).1 c hw
        obtain ⟨u, hu⟩ := Option.isSome_iff_exists.mp (goA_in A hp)
        dsimp only [Except.bind]
        cases hw2 : newA ns others with
        | error e => rw [g1 e hw2]; exact rfl
        | ok c2 =>
          rw [g2 c2 hw2]
          obtain ⟨hne2, hp2, ss, hk, hno⟩ := newA_dir (A := A) hw2
          have hw3 : walkA ns others.dropLast = .ok c2 := (newA_ok A hw2).2.1
          obtain ⟨e1, e2⟩ := sltM_dir R hp2 hk
          obtain ⟨s0, hp0, hk0, hn0⟩ := walkA_split (A := A) hw hne
          obtain ⟨e3, e4⟩ := sltM_dir R hp0 hk0
          have hin : (isDirA ns (lastI c) = true ∧ lastI c ∈ c2) ↔ (names <+: others.dropLast ∧ (m.sl.lookup (nodM m names)).isSome = true) := by
            rw [nodM_at R hp, in_chain (A := A) hw3]
            unfold isDirA
            rw [hu]
            cases u with
            | file l h cs =>
              rw [(R.ce_file hu).1]
              simp
            | dir sx =>
              rw [(R.sl_dir hu).1]
              constructor
              · rintro ⟨_, q, hq, hqk⟩
                rw [R.uniq hu (R.neg hu) hp hqk]
                exact ⟨hq, rfl⟩
              · rintro ⟨hq, _⟩
                exact ⟨rfl, names, hq, hp⟩
          dsimp only
          by_cases c0 : isDirA ns (lastI c) = true ∧ lastI c ∈ c2
          · rw [if_pos c0, if_pos (hin.mp c0)]; exact rfl
          rw [if_neg c0, if_neg (fun z => c0 (hin.mpr z)), hk, e1, e2, full_names, R.grow]
          dsimp only
          have hap : others.dropLast ≠ names.dropLast ↔ lastI c2 ≠ prevI c := by
            constructor
            · intro z e
              exact z (R.uniq hk (R.neg hk) hp2 (by rw [hp0, e]))
            · intro z e
              rw [e, hp0] at hp2
              exact z (Option.some.inj hp2).symm
          have hcong : ∀ (P : Prop), (others.dropLast ≠ names.dropLast ∧ P) ↔ (lastI c2 ≠ prevI c ∧ P) := fun P => by rw [hap]
          by_cases c1 : lastI c2 ≠ prevI c ∧ fullA ss = true
          · rw [if_pos c1, if_pos ((hcong _).mpr c1)]; exact rfl
          rw [if_neg c1, if_neg (fun z => c1 ((hcong _).mp z))]
          by_cases c3 : lastI c2 ≠ prevI c ∧ growA room ns ss = true
          · rw [if_pos c3, if_pos ((hcong _).mpr c3)]; exact rfl
          rw [if_neg c3, if_neg (fun z => c3 ((hcong _).mp z))]
          have hnin : ¬ names.dropLast ++ [lastN names] <+: others.dropLast := by
            rw [last_split hne]
            intro hpre
            obtain ⟨r, hr⟩ := hpre
            cases u with
            | dir sx =>
              exact c0 (hin.mpr ⟨⟨r, hr⟩, by rw [nodM_at R hp, (R.sl_dir hu).1]; rfl⟩)
            | file l h cs =>
              cases r with
              | nil =>
                rw [List.append_nil] at hr
                rw [← hr, hp] at hp2
                have := Option.some.inj hp2
                rw [← this, hu] at hk
                cases hk
              | cons a r =>
                have := goA_end hp (fun n => childA_file hu n) (r := a :: r) nofun
                rw [hr, hp2] at this
                cases this
          obtain ⟨s1, hs1, hf1, hso⟩ : ∃ s1, (dropOf ns (prevI c) (lastN names)).lookup (lastI c2) = some (.dir s1) ∧ fullA s1 = false ∧ sltM (freedM m names) others.dropLast = namesO s1 := by
            have hlk0 := lk_dropOf hk0 (lastN names) (lastI c2)
            have hsl : ∀ k, (freedM m names).sl.lookup k = if k = prevI c then some (freeO (namesO s0) (lastN names)) else m.sl.lookup k := fun k => by
              unfold freedM
              rw [e3, e4]
              show (setA m.sl (prevI c) (freeO (namesO s0) (lastN names))).lookup k = _
              rw [lk_setA, (R.sl_dir hk0).1]
              rfl
            have hst : sltM (freedM m names) others.dropLast = ((freedM m names).sl.lookup (lastI c2)).getD [] := by
              unfold sltM
              rw [show (freedM m names).at_ = m.at_ from rfl, R.at_, hp2, Option.bind_some]
            by_cases e : lastI c2 = prevI c
            · refine ⟨dropS s0 (lastN names), by rw [hlk0, if_pos e], ?_, ?_⟩
              · obtain ⟨a, b, _, _, _, hd, _⟩ := drop_split (R.nm _ _ hk0).1 hn0
                unfold fullA
                rw [hd, decide_eq_true (show none ∈ a ++ none :: b by simp)]
                simp
              · obtain ⟨a, b, _, _, _, hd, hfr⟩ := drop_split (R.nm _ _ hk0).1 hn0
                rw [hst, hsl, if_pos e]
                exact hfr
            · refine ⟨ss, by rw [hlk0, if_neg e]; exact hk, by simpa using fun z => c1 ⟨e, z⟩, ?_⟩
              rw [hst, hsl, if_neg e, (R.sl_dir hk).1]
              rfl
          have Rm := R.moved hk0 hp0 hn0 hk hp2 hno hs1 hf1 (hall y others hy _ (lastN_mem hne2)) hnin
          rw [last_split hne, last_split hne2] at Rm
          refine ⟨_, rfl, ?_⟩
          rw [nodM_at R hp, hso]
          have e5 : (freedM m names).sl = setA m.sl (prevI c) (freeO (namesO s0) (lastN names)) := by
            unfold freedM
            rw [e3, e4]
          rw [e5]
          exact Rm
/-- tree and world go the same way -/
theorem RX.same (R : RX (-1) room ns m) (hall : ∀ z names, namesL z = some names → ∀ n ∈ names, nameB n = true) (d : FDeed) : Sm room (semF room ns d) (semM m d) := by
  cases d with
  | find z => exact same_find R z
  | make z => exact same_make R false rfl hall z
  | mkdir z => exact same_make R true rfl hall z
  | link z y => exact same_link R hall z y
  | unlink z => exact same_unlink R z
  | rmdir z => exact same_remove R z
  | move z y => exact same_move R hall z y
  | names z => exact same_names R z
  | stat k => exact same_stat R k
  | free => exact same_free R
end

open SX (S)
def sp__law_put (K : PySem.W.Frag) : Sp := sp4 fun x y z w H Q _ => ∃ g p q k sa node, ∃ os : List (Option Nm), x = .ref g.D ∧ y = .str (S (pathT p)) ∧ z = .str (S (pathT q)) ∧ w = .int node ∧ NoS q ∧ q ≠ [] ∧ q.dropLast = p ∧ (∀ n ∈ q, n.length ≤ 6) ∧ p.length ≤ 30 ∧ Own H H (adr (cMW g)) (cMW g) ∧ MOk g.abs ∧ g.at_.lookup p = some k ∧ g.sl.lookup k = some (sa, os) ∧ g.at_.lookup q = none ∧
  ∀ H' g', Own H H' (adr (cMW g)) (cMW g') → g'.abs = { g.abs with at_ := g.at_ ++ [(q, node)], sl := setA g.abs.sl k (addO os (lastN q)) } → g'.D = g.D → Q .non H'
theorem setA_mapf {α β : Type} (f : α → β) (m : List (Int × α)) (k : Int) (v : α) : (setA m k v).map (fun x => (x.1, f x.2)) = setA (m.map fun x => (x.1, f x.2)) k (f v) := by
  unfold setA
  rw [List.map_map, List.map_map]
  refine List.map_congr_left fun x _ => ?_
  show (fun y : Int × α => (y.1, f y.2)) (if x.1 = k then (x.1, v) else x) = if x.1 = k then (x.1, f v) else (x.1, f x.2)
  by_cases h : x.1 = k
  · rw [if_pos h, if_pos h]
  · rw [if_neg h, if_neg h]
theorem cSl_at {l : List (Int × Addr × List (Option Nm))} {k : Int} {sa : Addr} {os os' : List (Option Nm)} (nd : (l.map (·.1)).Nodup) (h : l.lookup k = some (sa, os)) : At (cSl l) sa (.lst (os.map onV)) (.lst (os'.map onV)) (cSl (setA l k (sa, os'))) ∧ slD (setA l k (sa, os')) = slD l := by
  obtain ⟨a, b, rfl, _⟩ := lk_split h
  rw [setA_mid nd]
  refine ⟨?_, ?_⟩
  · show At ((a ++ (k, sa, os) :: b).map _) sa _ _ ((a ++ (k, sa, os') :: b).map _)
    rw [List.map_append, List.map_append]
    exact .app .here
  · show (a ++ (k, sa, os') :: b).map _ = (a ++ (k, sa, os) :: b).map _
    rw [List.map_append, List.map_append]
    rfl
theorem at_keyN {l : List (List Nm × Int)} (h : ∀ x ∈ l, NoS x.1) {q : List Nm} (hq : NoS q) (hn : l.lookup q = none) : (Sum.inr (S (pathT q)) : Key) ∉ (atD l).map (·.1) := by
  intro z
  obtain ⟨y, hy, e⟩ := List.mem_map.mp z
  obtain ⟨x, hx, rfl⟩ := List.mem_map.mp hy
  have e := pathT_inj (h x hx) hq (SX.S_inj (Sum.inr.inj e))
  exact pk_none.mp hn (e ▸ List.mem_map.mpr ⟨x, hx, rfl⟩)
theorem atD_new {l : List (List Nm × Int)} (h : ∀ x ∈ l, NoS x.1) {q : List Nm} (hq : NoS q) (hn : l.lookup q = none) (j : Int) : putK (atD l) (Sum.inr (S (pathT q))) (V.int j) = atD (l ++ [(q, j)]) := by
  rw [putK_new (at_keyN h hq hn)]
  show _ = (l ++ [(q, j)]).map _
  rw [List.map_append]
  rfl
theorem idx_on {os : List (Option Nm)} (hm : none ∈ os) : (os.map onV)[os.idxOf none]? = some .non ∧ eqV .non .non = true ∧ ∀ (m : Nat) (z : V), m < os.idxOf none → (os.map onV)[m]? = some z → eqV z .non = false := by
  obtain ⟨a, b, e, ha, hi⟩ := idx_split hm
  rw [hi]
  refine ⟨?_, rfl, fun m z hlt hz => ?_⟩
  · rw [e, List.getElem?_map, List.getElem?_append_right (Nat.le_refl _), Nat.sub_self]
    rfl
  · rw [e, List.getElem?_map, List.getElem?_append_left hlt] at hz
    obtain ⟨y, hy, rfl⟩ := Option.map_eq_some_iff.mp hz
    cases y with
    | none => exact absurd (List.mem_of_getElem? hy) ha
    | some n => rfl
theorem put_end {Q : VK} {H H1 : Hp} {A : List Addr} {g : MG} {at1 : List (List Nm × Int)} {k : Int} {sa : Addr} {os os' : List (Option Nm)} {m' : MW} {g1 : MG} (O : Own H H1 A (cMW { g with at_ := at1 })) (M : MOk g.abs) (hs : g.sl.lookup k = some (sa, os)) (hg : g1 = { g with at_ := at1, sl := setA g.sl k (sa, os') }) (hm : m' = { g.abs with at_ := at1, sl := setA g.abs.sl k os' })
    (kk : ∀ H' g', Own H H' A (cMW g') → g'.abs = m' → g'.D = g.D → Q .non H') : Q .non (upd H1 sa (.lst (os'.map onV))) := by
  have nd : (g.sl.map (·.1)).Nodup := by
    have := M.nds
    unfold MG.abs at this
    rwa [List.map_map] at this
  obtain ⟨h1, h2⟩ := cSl_at nd hs (os' := os')
  have O2 := O.wr (a := sa) (o' := .lst (os'.map onV)) (.there (.there (.there (.there (.there (.appl h1))))))
  subst hg hm
  refine kk _ { g with at_ := at1, sl := setA g.sl k (sa, os') } ?_ ?_ rfl
  · have e : cMW { g with at_ := at1, sl := setA g.sl k (sa, os') } = (g.D, .dK (wD g)) :: (g.AD, .dK (atD at1)) :: (g.SD, .dK (slD g.sl)) :: (g.CD, .dK (ceD g.ce)) :: (g.HD, .dK (hoD g.ho)) :: (cSl (setA g.sl k (sa, os')) ++ cCe g.ce) := by
      unfold cMW
      rw [show slD ({ g with at_ := at1, sl := setA g.sl k (sa, os') } : MG).sl = slD g.sl from h2]
    rw [e]
    exact O2
  · unfold MG.abs
    dsimp only
    rw [setA_mapf (fun x : Addr × List (Option Nm) => x.2)]
theorem sc__law_put : FnScope ["_law_world", "_law_text", "_law_path_here", "_law_node_here", "_law_slots", "_law_piece"] ["_law_world", "_law_text", "_law_path_here", "_law_node_here"] (defScope s__law_put) := ⟨rfl, rfl, rfl, by decide +kernel, rfl, by decide +kernel, by decide +kernel⟩
theorem ok__law_put {P : Program} {w : World} {K : PySem.W.Frag} {mg : Str → Option Value} {base : Heap} (T : Txt K mg) : Cee P w K mg base 1 (He.fAd K ("_law_put", none)) ["_law_world", "_law_text", "_law_path_here", "_law_node_here"] (sp__law_put K) := by
  refine cee_of T.d__law_put sc__law_put (fun _ _ _ _ _ _ us hl => match us, hl with | [_, _, _, _], _ => rfl) (fun vs H Q E h => sp4_len h) (fun cdv A outer s H vs Q E hr h => ⟨_, (pss_cons (ps_set (i := 4) sc__law_put.nd rfl (Or.inl rfl) (pe_dget (hu_of hr) (pe_dget (hu_of hr) (pv 0) pe_str (fun _ _ => rfl)) (pe_dget (hu_of hr) (pe_dget (hu_of hr) (pv 0) pe_str (fun _ _ => rfl)) (pv 1) (fun _ _ => rfl)) (fun _ _ => rfl))) (pss_cons (ps_set (i := 5) sc__law_put.nd rfl (Or.inl rfl) (pe_slice sl_str (pv 2) (po_some (pe_op op_add (pe_bm PySem.F.plainAttrs_str PySem.F.slot_str_rfind PySem.F.type_str_rfind mt_rfind (pv 2) (pa_cons pe_str pa_nil)) pe_int)) po_none)) (pss_cons (ps_dput (hu_of hr) (pe_dget (hu_of hr) (pv 0) pe_str (fun _ _ => rfl)) (pe_op op_add_str (pe_op op_add_str (pv 1) pe_str) (pv 5)) (pv 3) rfl) (pss_one (ps_if (pt_cmpR op_in_seq pe_non (pv 4) (by with_unfolding_all rfl)) (pss_one (ps_asg (pv 5) (pg_sub (pv 4) (pe_bm PySem.F.plainAttrs_list PySem.F.slot_list_index PySem.F.type_list_index mt_index (pv 4) (pa_cons pe_non pa_nil)) set_list))) (pss_one (ps_expr (pe_bm PySem.F.plainAttrs_list PySem.F.slot_list_append PySem.F.type_list_append mt_append (pv 4) (pa_cons (pv 5) pa_nil))))))))), ?_⟩)
  obtain ⟨v0, v1, v2, v3, rfl, h⟩ := h
  dsimp only [cxOf, L2.start]
  obtain ⟨g, p, q, k, sa, node, os, rfl, rfl, rfl, rfl, hq, hqn, rfl, hq6, hp30, O, M, hk, hs, hno, kk⟩ := h
  have hD := O.get (a := g.D) (o := .dK (wD g)) (.head _)
  have hA := O.get (a := g.AD) (o := .dK (atD g.at_)) (.tail _ (.head _))
  have hS := O.get (a := g.SD) (o := .dK (slD g.sl)) (.tail _ (.tail _ (.head _)))
  have hvA : valV (wD g) (Sum.inr "at") = some (.ref g.AD) := rfl
  have hvS : valV (wD g) (Sum.inr "slots") = some (.ref g.SD) := rfl
  have hkeys : ∀ x ∈ g.at_, NoS x.1 := fun x hx => (M.names x hx).1
  have hqd : NoS q.dropLast := fun n h => hq n (List.dropLast_subset _ h)
  have hva : valV (atD g.at_) (Sum.inr (S (pathT q.dropLast))) = some (.int k) := by rw [at_val hkeys hqd, hk]; rfl
  have hvs : valV (slD g.sl) (Sum.inl k) = some (.ref sa) := by rw [sl_val, hs]; rfl
  have hql : q.length ≤ 31 := by rw [List.length_dropLast] at hp30; omega
  have hpl := pathT_len hq6
  have hs1 := SX.S_len (pathT q)
  have hz0 : (S (pathT q)).length ≤ sizeLine := by rw [hs1]; exact Nat.le_of_lt (sz_lt (by omega))
  have hql2 := last_split hqn
  have hn47 : 47 ∉ lastN q := hq _ (lastN_mem hqn)
  have hpt : pathT q = pathT q.dropLast ++ 47 :: lastN q := by rw [← pathT_snoc, hql2]
  have hrf : L2.cutS (S (pathT q)) (some (Txt.rfind (S (pathT q)) "/" + 1)) none = S (lastN q) := by
    rw [hpt, rfind_last hn47]
    have h1 := cutS_from (pathT q.dropLast ++ 47 :: lastN q) ((pathT q.dropLast).length + 1)
    rw [show (((pathT q.dropLast).length + 1 : Nat) : Int) = ((pathT q.dropLast).length : Nat) + 1 by omega] at h1
    rw [h1]
    congr 1
    rw [List.drop_append, List.drop_eq_nil_of_le (by omega)]
    simp
  have hBO := Box.mk O
  have hs2 := SX.S_len (pathT q.dropLast)
  have hs3 : ("/" : Str).length = 1 := by decide +kernel
  have hpd : (pathT q.dropLast).length ≤ 217 := by rw [hpt, List.length_append] at hpl; omega
  have hn6 := hq6 _ (lastN_mem hqn)
  have hz1 : (S (pathT q.dropLast)).length + ("/" : Str).length ≤ sizeLine := sz_le (by omega)
  have hz2 : (S (pathT q.dropLast) ++ ("/" : Str)).length + (S (lastN q)).length ≤ sizeLine := by
    have h1 : (S (pathT q.dropLast) ++ ("/" : Str)).length ≤ 218 := by rw [Str.length_append, hs2, hs3]; omega
    have h2 : (S (lastN q)).length ≤ 6 := by rw [SX.S_len]; exact hn6
    refine sz_le ?_
    generalize (S (pathT q.dropLast) ++ ("/" : Str)).length = u at h1 ⊢
    generalize (S (lastN q)).length = v at h2 ⊢
    omega
  have hcat := txt_snoc q.dropLast (lastN q)
  rw [hql2] at hcat
  have hfew := M.few
  have hal : (atD g.at_).length < 100000 := by
    rw [List.length_map]
    have : g.abs.at_ = g.at_ := rfl
    rw [this] at hfew
    omega
  walk_at "s"
  rw [hrf]
  walk_at "s"
  rw [hcat]
  walk_at "s"
  rw [atD_new hkeys hq hno]
  have O1 := O.wr (a := g.AD) (o' := .dK (atD (g.at_ ++ [(q, node)]))) (.there .here)
  generalize upd H g.AD _ = H1 at O1 ⊢
  have hsa := O1.get (a := sa) (o := .lst (os.map onV)) (.tail _ (.tail _ (.tail _ (.tail _ (.tail _ (cMW_sl (lk_mem hs)))))))
  have hsas : SqL K H1 sa (os.map onV) := SqL.of hsa
  refine ⟨.inl hsas, rfl, flat_on os, ?_⟩
  rw [if_neg Bool.false_ne_true, inV_on]
  refine ⟨_, rfl, ?_⟩
  have hadd : addO os (lastN q) = if none ∈ os then os.set (os.idxOf none) (some (lastN q)) else os ++ [some (lastN q)] := rfl
  have hol : (os.map onV).length = os.length := List.length_map ..
  have hos40 : os.length ≤ 40 := M.slen (k, os) (List.mem_map.mpr ⟨_, lk_mem hs, rfl⟩)
  refine if_d (fun hm => ?_) (fun hm => ?_)
  · rw [if_pos hm] at hadd
    have BO := Box.mk O1
    walk_at "clo"
    walk_at "s"
    obtain ⟨x1, x2, x3⟩ := idx_on hm
    have hil := List.idxOf_lt_length_of_mem hm
    have hix : ixN (os.map onV).length ((os.idxOf none : Nat) : Int) = some (os.idxOf none) := by rw [hol]; unfold ixN; rw [if_pos (by omega), if_pos (by omega)]; rfl
    refine ⟨flat_on os, x1, x2, x3, ?_⟩
    walk_at "s"
    have O2 := BO.out
    have e : (os.map onV).set (os.idxOf none) (.str (S (lastN q))) = (addO os (lastN q)).map onV := by
      rw [hadd, List.map_set]
      rfl
    rw [e]
    exact put_end O2 M hs rfl rfl kk
  · rw [if_neg hm] at hadd
    have BO := Box.mk O1
    walk_at "clo"
    walk_at "s"
    have O2 := BO.out
    have e : os.map onV ++ [.str (S (lastN q))] = (addO os (lastN q)).map onV := by
      rw [hadd, List.map_append]
      rfl
    rw [e]
    exact put_end O2 M hs rfl rfl kk

open SX (S)
def sp__law_freed (K : PySem.W.Frag) : Sp := sp2 fun x y H Q _ => ∃ g q k sa, ∃ os : List (Option Nm), x = .ref g.D ∧ y = .str (S (pathT q)) ∧ NoS q ∧ q ≠ [] ∧ (∀ n ∈ q, n.length ≤ 6) ∧ q.length ≤ 31 ∧ Own H H (adr (cMW g)) (cMW g) ∧ MOk g.abs ∧ g.at_.lookup q.dropLast = some k ∧ g.sl.lookup k = some (sa, os) ∧ some (lastN q) ∈ os ∧
  ∀ H' g', Own H H' (adr (cMW g)) (cMW g') → g'.abs = { g.abs with sl := setA g.abs.sl k (freeO os (lastN q)) } → g'.D = g.D → Q .non H'
theorem idx_onS {os : List (Option Nm)} {n : Nm} (hm : some n ∈ os) : (os.map onV)[os.idxOf (some n)]? = some (.str (S n)) ∧ eqV (.str (S n)) (.str (S n)) = true ∧ ∀ (m : Nat) (z : V), m < os.idxOf (some n) → (os.map onV)[m]? = some z → eqV z (.str (S n)) = false := by
  obtain ⟨a, b, e, ha, hi⟩ := idx_split hm
  rw [hi]
  refine ⟨?_, by simp [eqV], fun m z hlt hz => ?_⟩
  · rw [e, List.getElem?_map, List.getElem?_append_right (Nat.le_refl _), Nat.sub_self]
    rfl
  · rw [e, List.getElem?_map, List.getElem?_append_left hlt] at hz
    obtain ⟨y, hy, rfl⟩ := Option.map_eq_some_iff.mp hz
    cases y with
    | none => rfl
    | some n2 =>
      have hne : n2 ≠ n := fun e => ha (e ▸ List.mem_of_getElem? hy)
      show eqV (.str (S n2)) (.str (S n)) = false
      simp [eqV]
      exact hne
theorem rf_cut {q : List Nm} (hq : NoS q) (hqn : q ≠ []) : Txt.rfind (S (pathT q)) "/" = ((pathT q.dropLast).length : Nat) ∧ L2.cutS (S (pathT q)) none (some (Txt.rfind (S (pathT q)) "/")) = S (pathT q.dropLast) ∧ L2.cutS (S (pathT q)) (some (Txt.rfind (S (pathT q)) "/" + 1)) none = S (lastN q) := by
  have hn47 : 47 ∉ lastN q := hq _ (lastN_mem hqn)
  have hpt : pathT q = pathT q.dropLast ++ 47 :: lastN q := by rw [← pathT_snoc, last_split hqn]
  have h0 : Txt.rfind (S (pathT q)) "/" = ((pathT q.dropLast).length : Nat) := by rw [hpt, rfind_last hn47]
  rw [h0]
  refine ⟨rfl, ?_, ?_⟩
  · rw [cutS_to]
    conv => lhs; rw [hpt]
    rw [List.take_append_of_le_length (Nat.le_refl _), List.take_of_length_le (Nat.le_refl _)]
  · have h1 := cutS_from (pathT q) ((pathT q.dropLast).length + 1)
    rw [show (((pathT q.dropLast).length + 1 : Nat) : Int) = ((pathT q.dropLast).length : Nat) + 1 by omega] at h1
    rw [h1]
    congr 1
    conv => lhs; rw [hpt]
    rw [List.drop_append, List.drop_eq_nil_of_le (by omega)]
    simp
theorem sc__law_freed : FnScope ["_law_world", "_law_text", "_law_cut", "_law_slots"] ["_law_world", "_law_text"] (defScope s__law_freed) := ⟨rfl, rfl, rfl, by decide +kernel, rfl, by decide +kernel, by decide +kernel⟩
theorem ok__law_freed {P : Program} {w : World} {K : PySem.W.Frag} {mg : Str → Option Value} {base : Heap} (T : Txt K mg) : Cee P w K mg base 1 (He.fAd K ("_law_freed", none)) ["_law_world", "_law_text"] (sp__law_freed K) := by
  refine cee_of T.d__law_freed sc__law_freed (fun _ _ _ _ _ _ us hl => match us, hl with | [_, _], _ => rfl) (fun vs H Q E h => sp2_len h) (fun cdv A outer s H vs Q E hr h => ⟨_, (pss_cons (ps_set (i := 2) sc__law_freed.nd rfl (Or.inl rfl) (pe_bm PySem.F.plainAttrs_str PySem.F.slot_str_rfind PySem.F.type_str_rfind mt_rfind (pv 1) (pa_cons pe_str pa_nil))) (pss_cons (ps_set (i := 3) sc__law_freed.nd rfl (Or.inl rfl) (pe_dget (hu_of hr) (pe_dget (hu_of hr) (pv 0) pe_str (fun _ _ => rfl)) (pe_dget (hu_of hr) (pe_dget (hu_of hr) (pv 0) pe_str (fun _ _ => rfl)) (pe_slice sl_str (pv 1) po_none (po_some (pv 2))) (fun _ _ => rfl)) (fun _ _ => rfl))) (pss_one (ps_asg pe_non (pg_sub (pv 3) (pe_bm PySem.F.plainAttrs_list PySem.F.slot_list_index PySem.F.type_list_index mt_index (pv 3) (pa_cons (pe_slice sl_str (pv 1) (po_some (pe_op op_add (pv 2) pe_int)) po_none) pa_nil)) set_list))))), ?_⟩)
  obtain ⟨v0, v1, rfl, h⟩ := h
  dsimp only [cxOf, L2.start]
  obtain ⟨g, q, k, sa, os, rfl, rfl, hq, hqn, hq6, hql, O, M, hk, hs, hm, kk⟩ := h
  have hD := O.get (a := g.D) (o := .dK (wD g)) (.head _)
  have hA := O.get (a := g.AD) (o := .dK (atD g.at_)) (.tail _ (.head _))
  have hS := O.get (a := g.SD) (o := .dK (slD g.sl)) (.tail _ (.tail _ (.head _)))
  have hvA : valV (wD g) (Sum.inr "at") = some (.ref g.AD) := rfl
  have hvS : valV (wD g) (Sum.inr "slots") = some (.ref g.SD) := rfl
  have hkeys : ∀ x ∈ g.at_, NoS x.1 := fun x hx => (M.names x hx).1
  have hqd : NoS q.dropLast := fun n h => hq n (List.dropLast_subset _ h)
  have hva : valV (atD g.at_) (Sum.inr (S (pathT q.dropLast))) = some (.int k) := by rw [at_val hkeys hqd, hk]; rfl
  have hvs : valV (slD g.sl) (Sum.inl k) = some (.ref sa) := by rw [sl_val, hs]; rfl
  have hpl := pathT_len hq6
  have hs1 := SX.S_len (pathT q)
  have hz0 : (S (pathT q)).length ≤ sizeLine := by rw [hs1]; exact Nat.le_of_lt (sz_lt (by omega))
  obtain ⟨hr1, hr2, hr3⟩ := rf_cut hq hqn
  have hsa := O.get (a := sa) (o := .lst (os.map onV)) (.tail _ (.tail _ (.tail _ (.tail _ (.tail _ (cMW_sl (lk_mem hs)))))))
  have hsas : SqL K H sa (os.map onV) := SqL.of hsa
  have hol : (os.map onV).length = os.length := List.length_map ..
  have hos40 : os.length ≤ 40 := M.slen (k, os) (List.mem_map.mpr ⟨_, lk_mem hs, rfl⟩)
  have hil := List.idxOf_lt_length_of_mem hm
  have hix : ixN (os.map onV).length ((os.idxOf (some (lastN q)) : Nat) : Int) = some (os.idxOf (some (lastN q))) := by rw [hol]; unfold ixN; rw [if_pos (by omega), if_pos (by omega)]; rfl
  obtain ⟨x1, x2, x3⟩ := idx_onS hm
  have BO := Box.mk O
  walk_at "clo"
  walk_at "s"
  rw [hr2]
  walk_at "s"
  rw [hr3]
  walk_at "s"
  refine ⟨flat_on os, x1, x2, x3, ?_⟩
  walk_at "s"
  have e : (os.map onV).set (os.idxOf (some (lastN q))) .non = (freeO os (lastN q)).map onV := by
    unfold freeO
    rw [List.map_set]
    rfl
  rw [e]
  exact put_end (at1 := g.at_) BO.out M hs rfl rfl kk

open SX (S)
/-! ## the law's world: a node made -/
theorem found_ok {m : MW} {z : List Nat} {p : List Nm} (M : MOk m) (h : foundM m z = .ok p) : namesL z = some p ∧ ∃ k, m.at_.lookup p = some k := by
  unfold foundM at h
  cases hz : namesL z with
  | none => rw [hz] at h; cases h
  | some names =>
    rw [hz] at h
    have h : (match seekM m [] names with | some e => .error e | none => .ok names : Except FRf (List Nm)) = .ok p := h
    cases hs : seekM m [] names with
    | some e => rw [hs] at h; cases h
    | none =>
      rw [hs] at h
      cases h
      have := seekM_in m [] p (by rw [M.root]; rfl) hs
      rw [List.nil_append] at this
      exact ⟨rfl, Option.isSome_iff_exists.mp this⟩
theorem spot_ok {m : MW} {z : List Nat} {p : List Nm} (M : MOk m) (h : spotM m z = .ok p) : ∃ names k os, namesL z = some names ∧ names ≠ [] ∧ p = names.dropLast ∧ m.at_.lookup p = some k ∧ m.sl.lookup k = some os ∧ m.at_.lookup names = none ∧ m.ce.lookup k = none := by
  unfold spotM at h
  cases hz : namesL z with
  | none => rw [hz] at h; cases h
  | some names =>
    rw [hz] at h
    dsimp only at h
    by_cases hn : names = []
    · rw [if_pos hn] at h; cases h
    rw [if_neg hn] at h
    cases hs : seekM m [] names.dropLast with
    | some e => rw [hs] at h; cases h
    | none =>
      rw [hs] at h
      dsimp only at h
      have hin := seekM_in m [] names.dropLast (by rw [M.root]; rfl) hs
      rw [List.nil_append] at hin
      obtain ⟨k, hk⟩ := Option.isSome_iff_exists.mp hin
      rw [hk, Option.any_some] at h
      split at h
      · cases h
      · rename_i hce
        split at h
        · cases h
        · rename_i hat
          cases h
          have hat : m.at_.lookup names = none := Option.not_isSome_iff_eq_none.mp hat
          have hce : m.ce.lookup k = none := Option.not_isSome_iff_eq_none.mp hce
          rcases M.ends _ (lkL_mem hk) with he | he
          · obtain ⟨os, hos⟩ := Option.isSome_iff_exists.mp he
            exact ⟨names, k, os, rfl, hn, rfl, hk, hos, hat, hce⟩
          · rw [hce] at he
            cases he
def freesM (m : MW) (i : Nat) : List Int := ((List.range i).filter fun (k : Nat) => (m.sl.lookup (k : Int)).isNone && (m.ce.lookup (k : Int)).isNone).map fun (k : Nat) => (k : Int)
theorem freesM_len (m : MW) (i : Nat) : (freesM m i).length ≤ i := by
  unfold freesM
  rw [List.length_map]
  exact Nat.le_trans (List.length_filter_le _ _) (by rw [List.length_range]; omega)
theorem freesM_succ (m : MW) (i : Nat) : freesM m (i + 1) = freesM m i ++ if ((m.sl.lookup (i : Int)).isNone && (m.ce.lookup (i : Int)).isNone) = true then [(i : Int)] else [] := by
  unfold freesM
  rw [List.range_succ, List.filter_append, List.map_append, List.filter_cons, List.filter_nil]
  split <;> rfl
theorem freesM_hd {m : MW} (M : MOk m) (h : m.sl.length + m.ce.length ≠ 24) : (freesM m 24)[0]? = some (freeNM m) ∧ m.sl.lookup (freeNM m) = none ∧ m.ce.lookup (freeNM m) = none := by
  cases hf : (List.range 24).find? fun (k : Nat) => (m.sl.lookup (k : Int)).isNone && (m.ce.lookup (k : Int)).isNone with
  | some k =>
    have e : freeNM m = (k : Int) := by
      unfold freeNM
      rw [hf]
      rfl
    have h1 := List.find?_some hf
    have h1 : ((m.sl.lookup (k : Int)).isNone && (m.ce.lookup (k : Int)).isNone) = true := h1
    rw [Bool.and_eq_true] at h1
    rw [e]
    refine ⟨?_, by simpa using h1.1, by simpa using h1.2⟩
    unfold freesM
    rw [List.getElem?_map, ← List.head?_eq_getElem?, List.head?_filter, hf]
    rfl
  | none =>
    exfalso
    have h1 := List.find?_eq_none.mp hf
    have h2 := nodup_sub (l := (List.range 24).map fun (k : Nat) => (k : Int)) (m := m.sl.map (·.1) ++ m.ce.map (·.1)) (List.Pairwise.map _ (fun a b h z => h (by omega)) List.nodup_range) (fun a ha => by
      obtain ⟨i, hi, rfl⟩ := List.mem_map.mp ha
      have h3 := h1 i hi
      cases hs : m.sl.lookup (i : Int) with
      | some x => exact List.mem_append_left _ (lk_some.mp (by rw [hs]; rfl))
      | none =>
        cases hc : m.ce.lookup (i : Int) with
        | some x => exact List.mem_append_right _ (lk_some.mp (by rw [hc]; rfl))
        | none =>
          rw [hs, hc] at h3
          exact absurd rfl h3)
    rw [List.length_map, List.length_range, List.length_append, List.length_map, List.length_map] at h2
    have := M.fews
    omega
theorem MOk.new {m : MW} (M : MOk m) (d : Bool) {j : Int} (h1 : m.sl.lookup j = none) (h2 : m.ce.lookup j = none) (h : m.sl.length + m.ce.length ≠ 24) : MOk (newM d m j) := by
  have hf := M.fews
  have hlk : ∀ {α : Type} (l : List (Int × α)) (v : α) (k : Int), (l.lookup k).isSome = true → ((l ++ [(j, v)]).lookup k).isSome = true := fun l v k h => by
    rw [lk_app]
    cases e : l.lookup k with
    | none => rw [e] at h; cases h
    | some x => rfl
  have hnd : ∀ {α : Type} (l : List (Int × α)) (v : α), (l.map (·.1)).Nodup → l.lookup j = none → ((l ++ [(j, v)]).map (·.1)).Nodup := fun l v nd hn => by
    rw [List.map_append]
    refine List.nodup_append.mpr ⟨nd, by simp, fun a ha b hb e => ?_⟩
    rw [List.map_cons, List.map_nil, List.mem_singleton] at hb
    rw [e, hb] at ha
    exact lk_none.mp hn ha
  have hone : ∀ {α : Type} (l : List (Int × α)) (v : α) (k : Int), (l ++ [(j, v)]).lookup k = (l.lookup k).or (if k = j then some v else none) := fun l v k => by
    rw [lk_app]
    congr 1
    rw [List.lookup_cons]
    by_cases e : k = j
    · subst e; simp
    · rw [show (k == j) = false by simpa using e, if_neg e]; rfl
  cases d with
  | false =>
    show MOk { m with ce := m.ce ++ [(j, [])] }
    refine ⟨M.names, M.ndk, M.few, M.root, fun x hx => (M.ends x hx).imp id (hlk _ _ _), M.nds, hnd _ _ M.ndc h2, fun k hk => ?_, ?_, M.slen, fun x hx => ?_⟩
    · show (m.ce ++ [(j, [])]).lookup k = none
      have hk : (m.sl.lookup k).isSome = true := hk
      rw [hone, M.apart k hk, if_neg (fun e => by rw [e, h1] at hk; cases hk)]
      rfl
    · show m.sl.length + (m.ce ++ [(j, [])]).length ≤ 24
      rw [List.length_append]
      show _ + (_ + 1) ≤ 24
      omega
    · rcases List.mem_append.mp hx with z | z
      · exact M.clen x z
      · rw [List.mem_singleton.mp z]; exact Nat.zero_le _
  | true =>
    show MOk { m with sl := m.sl ++ [(j, [])] }
    refine ⟨M.names, M.ndk, M.few, M.root, fun x hx => (M.ends x hx).imp (hlk _ _ _) id, hnd _ _ M.nds h1, M.ndc, fun k hk => ?_, ?_, fun x hx => ?_, M.clen⟩
    · have hk : ((m.sl ++ [(j, [])]).lookup k).isSome = true := hk
      rw [hone] at hk
      cases e : m.sl.lookup k with
      | some x => exact M.apart k (by rw [e]; rfl)
      | none =>
        rw [e, Option.none_or] at hk
        split at hk
        · rename_i e2; rw [e2]; exact h2
        · cases hk
    · show (m.sl ++ [(j, [])]).length + m.ce.length ≤ 24
      rw [List.length_append]
      show (_ + 1) + _ ≤ 24
      omega
    · rcases List.mem_append.mp hx with z | z
      · exact M.slen x z
      · rw [List.mem_singleton.mp z]; exact Nat.zero_le _
theorem atS {g : MG} {p : List Nm} {k : Int} {os : List (Option Nm)} (hk : g.abs.at_.lookup p = some k) (hs : g.abs.sl.lookup k = some os) : g.at_.lookup p = some k ∧ (∃ sa, g.sl.lookup k = some (sa, os)) ∧ sltM g.abs p = os ∧ nodM g.abs p = k := by
  have h2 := hs
  rw [abs_sl] at hs
  obtain ⟨⟨sa, os2⟩, h1, rfl⟩ := Option.map_eq_some_iff.mp hs
  refine ⟨hk, ⟨sa, h1⟩, ?_, ?_⟩
  · unfold sltM
    rw [hk, Option.bind_some, h2]
    rfl
  · unfold nodM
    rw [hk]
    rfl
theorem used_not (g : MG) (i : Int) : (!decide (i ∈ g.sl.map (·.1) ++ g.ce.map (·.1))) = ((g.abs.sl.lookup i).isNone && (g.abs.ce.lookup i).isNone) := by
  rw [abs_sl, abs_ce, Option.isNone_map, Option.isNone_map]
  cases hs : g.sl.lookup i with
  | some x => rw [decide_eq_true (List.mem_append_left _ (lk_some.mp (by rw [hs]; rfl)))]; rfl
  | none =>
    cases hc : g.ce.lookup i with
    | some x => rw [decide_eq_true (List.mem_append_right _ (lk_some.mp (by rw [hc]; rfl)))]; rfl
    | none =>
      rw [decide_eq_false]
      · rfl
      · intro z
        rcases List.mem_append.mp z with z | z
        · exact lk_none.mp hs z
        · exact lk_none.mp hc z
theorem slD_new {l : List (Int × Addr × List (Option Nm))} {j : Int} (h : l.lookup j = none) (la : Addr) : putK (slD l) (Sum.inl j) (V.ref la) = slD (l ++ [(j, la, [])]) := by
  rw [putK_new]
  · show _ = (l ++ [(j, la, [])]).map _
    rw [List.map_append]
    rfl
  · intro z
    obtain ⟨y, hy, e⟩ := List.mem_map.mp z
    obtain ⟨x, hx, rfl⟩ := List.mem_map.mp hy
    exact lk_none.mp h (Sum.inl.inj e ▸ List.mem_map.mpr ⟨x, hx, rfl⟩)
theorem ceD_new {l : List (Int × Addr × List Int)} {j : Int} (h : l.lookup j = none) (la : Addr) : putK (ceD l) (Sum.inl j) (V.ref la) = ceD (l ++ [(j, la, [])]) := by
  rw [putK_new]
  · show _ = (l ++ [(j, la, [])]).map _
    rw [List.map_append]
    rfl
  · intro z
    obtain ⟨y, hy, e⟩ := List.mem_map.mp z
    obtain ⟨x, hx, rfl⟩ := List.mem_map.mp hy
    exact lk_none.mp h (Sum.inl.inj e ▸ List.mem_map.mpr ⟨x, hx, rfl⟩)
theorem perm_sl (a b c d e x : Addr × HO) (l r : Cells) : List.Perm (x :: a :: b :: c :: d :: e :: (l ++ r)) (a :: b :: c :: d :: e :: ((l ++ [x]) ++ r)) := by walk_at "pm"
theorem perm_ce (a b c d e x : Addr × HO) (l r : Cells) : List.Perm (x :: a :: b :: c :: d :: e :: (l ++ r)) (a :: b :: c :: d :: e :: (l ++ (r ++ [x]))) := by walk_at "pm"
theorem abs_none {g : MG} {k : Int} (h : g.abs.sl.lookup k = none) : g.sl.lookup k = none := by rw [abs_sl] at h; exact Option.map_eq_none_iff.mp h
theorem abs_noneC {g : MG} {k : Int} (h : g.abs.ce.lookup k = none) : g.ce.lookup k = none := by rw [abs_ce] at h; exact Option.map_eq_none_iff.mp h
/-- an answer, or a refusal's word -/
def Ans3 (H : Hp) (g : MG) {α : Type} (r : Except FRf (MW × α)) (v : α → V) (Q : VK) : Prop := (∀ e, r = .error e → ∀ H', Own H H' (adr (cMW g)) (cMW g) → Q (.str e.word) H') ∧ (∀ m a, r = .ok (m, a) → ∀ H' g', Own H H' (adr (cMW g)) (cMW g') → g'.abs = m → g'.D = g.D → Q (v a) H')
def sp__law_made (K : PySem.W.Frag) : Sp := sp3 fun x y w H Q _ => ∃ g z, ∃ d : Bool, x = .ref g.D ∧ y = .str (S z) ∧ w = .str (if d = true then "slots" else "cells") ∧ AsT z ∧ Own H H (adr (cMW g)) (cMW g) ∧ MOk g.abs ∧ Ans3 H g (madeM d g.abs z) V.int Q
theorem sc__law_made : FnScope ["_law_world", "_law_path_here", "_law_kind_here", "_law_word", "_law_text", "_law_used", "_law_node_here", "_law_one"] ["_law_world", "_law_path_here", "_law_kind_here"] (defScope s__law_made) := ⟨rfl, rfl, rfl, by decide +kernel, rfl, by decide +kernel, by decide +kernel⟩
theorem ok__law_made {P : Program} {w : World} {K : PySem.W.Frag} {mg : Str → Option Value} {base : Heap} (T : Txt K mg) : Cee P w K mg base 4 (He.fAd K ("_law_made", none)) ["_law_world", "_law_path_here", "_law_kind_here"] (sp__law_made K) := by
  have c__law_spot : Cee P w K mg base 2 (He.fAd K ("_law_spot", none)) ["_law_world", "_law_path_here"] (sp__law_spot K) := ok__law_spot T
  have c__law_full : Cee P w K mg base 1 (He.fAd K ("_law_full", none)) ["_law_world", "_law_text"] (sp__law_full K) := ok__law_full T
  have c__law_lacks : Cee P w K mg base 3 (He.fAd K ("_law_lacks", none)) ["_law_world", "_law_text"] (sp__law_lacks K) := ok__law_lacks T
  have c__law_put : Cee P w K mg base 1 (He.fAd K ("_law_put", none)) ["_law_world", "_law_text", "_law_path_here", "_law_node_here"] (sp__law_put K) := ok__law_put T
  refine cee_of T.d__law_made sc__law_made (fun _ _ _ _ _ _ us hl => match us, hl with | [_, _, _], _ => rfl) (fun vs H Q E h => sp3_len h) (fun cdv A outer s H vs Q E hr h => ⟨_, (pss_cons (ps_asg (pe_f c__law_spot (hr.mono (by decide)) (takes_of rfl rfl rfl rfl) (by rfl) T.g__law_spot (pa_cons (pv 0) (pa_cons (pv 1) pa_nil))) (pg_tup rfl (pgs_cons (pg_name (i := 3) sc__law_made.nd rfl (Or.inl rfl)) (pgs_cons (pg_name (i := 4) sc__law_made.nd rfl (Or.inl rfl)) pgs_nil)))) (pss_cons (ps_if (pt_cmpR op_ne (pv 3) pe_str (nomark _)) (pss_one (ps_ret (pv 3))) pss_nil) (pss_cons (ps_set (i := 5) sc__law_made.nd rfl (Or.inr rfl) (pe_op op_cat (pe_callTy (call_listK rfl) (by rfl) T.n_list (by decide +kernel) (pa_cons (pe_bm0 PySem.F.plainAttrs_dict PySem.F.slot_dict_keys PySem.F.type_dict_keys mt_keys (pe_dget (hu_of hr) (pv 0) pe_str (fun _ _ => rfl))) pa_nil)) (pe_callTy (call_listK rfl) (by rfl) T.n_list (by decide +kernel) (pa_cons (pe_bm0 PySem.F.plainAttrs_dict PySem.F.slot_dict_keys PySem.F.type_dict_keys mt_keys (pe_dget (hu_of hr) (pv 0) pe_str (fun _ _ => rfl))) pa_nil)))) (pss_cons (ps_if (pt_val (pe_f c__law_full (hr.mono (by decide)) (takes_of rfl rfl rfl rfl) (by rfl) T.g__law_full (pa_cons (pv 0) (pa_cons (pv 4) pa_nil)))) (pss_one (ps_ret pe_str)) pss_nil) (pss_cons (ps_if (pt_cmpR op_eq (pe_callB call_len_seq (by rfl) T.n_len (by decide +kernel) (pa_cons (pv 5) pa_nil)) pe_int (nomark _)) (pss_one (ps_ret pe_str)) pss_nil) (pss_cons (ps_if (pt_val (pe_f c__law_lacks (hr.mono (by decide)) (takes_of rfl rfl rfl rfl) (by rfl) T.g__law_lacks (pa_cons (pv 0) (pa_cons (pv 4) pa_nil)))) (pss_one (ps_ret pe_str)) pss_nil) (pss_cons (ps_set (i := 6) sc__law_made.nd rfl (Or.inl rfl) (pe_ix ix_list (pe_lc (own := [("_law_one", 7)]) (by rfl) sc__law_made.nd (PI.box (pi_range1 (by rfl) T.n_range (pa_cons pe_int pa_nil))) (blkOk_by (own := [("_law_one", 7)]) (N := ["_law_world", "_law_path_here", "_law_kind_here", "_law_word", "_law_text", "_law_used", "_law_node_here", "_law_one"]) (sc := defScope s__law_made) (by decide +kernel)) (fun _ _ _ _ _ => (pg_name (i := 7) sc__law_made.nd rfl (Or.inl rfl))) (fun _ _ _ _ _ => (pts_one (pt_cmpR (show OpR _ _ (rIn K true) from op_notIn_seq) (pv 7) (pv 5) (by with_unfolding_all rfl)))) (fun _ _ _ _ _ => (pv 7))) pe_int (fun _ _ => rfl))) (pss_cons (ps_dput (hu_of hr) (pe_dget (hu_of hr) (pv 0) (pv 2) (fun _ _ => rfl)) (pv 6) (pe_lst pa_nil) rfl) (pss_cons (ps_expr (pe_f c__law_put (hr.mono (by decide)) (takes_of rfl rfl rfl rfl) (by rfl) T.g__law_put (pa_cons (pv 0) (pa_cons (pv 4) (pa_cons (pv 1) (pa_cons (pv 6) pa_nil)))))) (pss_one (ps_ret (pv 6)))))))))))), ?_⟩)
  obtain ⟨v0, v1, v2, rfl, h⟩ := h
  dsimp only [cxOf, L2.start]
  obtain ⟨g, z, d, rfl, rfl, rfl, hz, O, M, ke, k⟩ := h
  unfold madeM at ke k
  walk_at "s"
  refine ask2 ⟨g, z, rfl, rfl, hz, O, M, fun e he H1 T O1 hT => ?_, fun p hp H1 T O1 hT => ?_⟩
  · rw [he] at ke
    have hw := word_ne e
    walk_at "s"
    refine if_nss (fun _ => ?_) (fun q => absurd q hw)
    walk_at "s"
    exact ke e rfl _ O1
  obtain ⟨names, n0, os, hn, hne, rfl, hk, hs, hno, hce⟩ := spot_ok M hp
  obtain ⟨hk', ⟨sa, hsa⟩, e1, e2⟩ := atS hk hs
  rw [hp] at ke k
  dsimp only at ke k
  rw [e1] at ke k
  have hD := O1.get (a := g.D) (o := .dK (wD g)) (.head _)
  have hvS : valV (wD g) (Sum.inr "slots") = some (.ref g.SD) := rfl
  have hvC : valV (wD g) (Sum.inr "cells") = some (.ref g.CD) := rfl
  have hS := O1.get (a := g.SD) (o := .dK (slD g.sl)) (.tail _ (.tail _ (.head _)))
  walk_at "s"
  intro r1 hr1
  have O2 := O1.new (o := KO r1 g.SD) hr1
  generalize upd H1 r1 _ = H2 at O2 ⊢
  refine ⟨r1, g.SD, slD g.sl, rfl, O2.get (.head _), .inl (O2.get (.tail _ (.tail _ (.tail _ (.head _))))), fun q1 hq1 => ?_⟩
  have O3 := (O2.new (o := .lst ((slD g.sl).map fun kv => kV kv.1)) hq1).drop (cs' := (q1, .lst ((slD g.sl).map fun kv => kV kv.1)) :: cMW g) (.cons₂ _ (.cons _ (.refl _)))
  generalize upd H2 q1 _ = H3 at O3 ⊢
  clear hD hS
  have hD := O3.get (a := g.D) (o := .dK (wD g)) (.tail _ (.head _))
  have hC := O3.get (a := g.CD) (o := .dK (ceD g.ce)) (.tail _ (.tail _ (.tail _ (.tail _ (.head _)))))
  walk_at "s"
  intro r2 hr2
  have O4 := O3.new (o := KO r2 g.CD) hr2
  generalize upd H3 r2 _ = H4 at O4 ⊢
  refine ⟨r2, g.CD, ceD g.ce, rfl, O4.get (.head _), .inl (O4.get (.tail _ (.tail _ (.tail _ (.tail _ (.tail _ (.head _))))))), fun q2 hq2 => ?_⟩
  have O5 := (O4.new (o := .lst ((ceD g.ce).map fun kv => kV kv.1)) hq2).drop (cs' := (q2, .lst ((ceD g.ce).map fun kv => kV kv.1)) :: (q1, .lst ((slD g.sl).map fun kv => kV kv.1)) :: cMW g) (.cons₂ _ (.cons _ (.refl _)))
  generalize upd H4 q2 _ = H5 at O5 ⊢
  clear hD hC O2 O3 O4 hr1 hr2 hq1 hq2
  have hsk : ((slD g.sl).map fun kv => kV kv.1) = (g.sl.map (·.1)).map V.int := by rw [List.map_map, List.map_map]; rfl
  have hck : ((ceD g.ce).map fun kv => kV kv.1) = (g.ce.map (·.1)).map V.int := by rw [List.map_map, List.map_map]; rfl
  rw [hsk, hck] at O5
  have hq1 : SqL K H5 q1 ((g.sl.map (·.1)).map V.int) := SqL.of (O5.get (.tail _ (.head _)))
  have hq2 : SqL K H5 q2 ((g.ce.map (·.1)).map V.int) := SqL.of (O5.get (.head _))
  have hfew := M.fews
  have hsl : g.abs.sl.length = g.sl.length := List.length_map ..
  have hcl : g.abs.ce.length = g.ce.length := List.length_map ..
  have BO := Box.mk O5
  walk_at "clo"
  walk_at "s"
  have O5 := BO.out
  refine ⟨O5.get (.tail _ (.head _)), O5.get (.head _), sz_le (by rw [List.length_map, List.length_map, List.length_map, List.length_map]; omega), fun q3 hq3 => ?_⟩
  have O6 := (O5.new (o := .lst (((g.sl.map (·.1)) ++ (g.ce.map (·.1))).map V.int)) hq3).drop (cs' := (q3, .lst (((g.sl.map (·.1)) ++ (g.ce.map (·.1))).map V.int)) :: cMW g) (.cons₂ _ (.cons _ (.cons _ (.refl _))))
  rw [← List.map_append]
  generalize upd H5 q3 _ = H6 at O6 ⊢
  clear O5 hq1 hq2 hq3
  have hq3 : SqL K H6 q3 (((g.sl.map (·.1)) ++ (g.ce.map (·.1))).map V.int) := SqL.of (O6.get (.head _))
  have hu : (((g.sl.map (·.1)) ++ (g.ce.map (·.1))).map V.int).length = g.abs.sl.length + g.abs.ce.length := by rw [List.length_map, List.length_append, List.length_map, List.length_map, hsl, hcl]
  have BO := Box.mk O6
  have hnd : NoS names.dropLast := fun n h => noS_of hn n (List.dropLast_subset _ h)
  walk_at "clo"
  walk_at "s"
  refine ask2 ⟨g, names.dropLast, n0, sa, os, rfl, rfl, hnd, BO.out.blk (s' := []) (.there .all), M, hk', hsa, ?_⟩
  refine ⟨_, rfl, ?_⟩
  refine if_b (fun h1 => ?_) (fun h1 => ?_)
  · rw [if_pos h1] at ke
    walk_at "s"
    exact ke .tooMany rfl _ (BO.out.drop (.cons _ (.refl _)))
  rw [if_neg (by rw [h1]; simp)] at ke k
  walk_at "s"
  refine if_ii (fun h2 => ?_) (fun h2 => ?_)
  · rw [if_pos (by omega)] at ke
    walk_at "s"
    exact ke .noNode rfl _ (BO.out.drop (.cons _ (.refl _)))
  rw [if_neg (by omega)] at ke k
  walk_at "s"
  refine ask2 ⟨g, names.dropLast, n0, sa, os, rfl, rfl, hnd, BO.out.blk (s' := []) (.there .all), M, hk', hsa, fun H7 O7 => ?_⟩
  have O8 := BO.out.call (.there .all) O7
  refine ⟨_, rfl, ?_⟩
  refine if_b (fun h3 => ?_) (fun h3 => ?_)
  · rw [if_pos h3] at ke
    walk_at "s"
    exact ke .noSpace rfl _ (O8.drop (.cons _ (.refl _)))
  rw [if_neg (by rw [h3]; simp)] at ke k
  clear BO O7 hq3
  have hq8 : H7 q3 = some (.lst (((g.sl.map (·.1)) ++ (g.ce.map (·.1))).map V.int)) := O8.get (.head _)
  have hq8s : SqL K H7 q3 (((g.sl.map (·.1)) ++ (g.ce.map (·.1))).map V.int) := SqL.of hq8
  have BO := Box.mk O8
  walk_at "clo"
  walk_at "s"
  refine lcR (lo := 0) (n := 24) (fun D i H' => Own H7 H' [] [(D, .lst ((freesM g.abs i).map V.int))]) ?_ ?_ ?_
  · intro D hD
    exact Own.start.new hD
  · rintro D i H' hi O7
    have hD7 := O7.get (.head _)
    have hq9 : SqL K H' q3 (((g.sl.map (·.1)) ++ (g.ce.map (·.1))).map V.int) := O7.sq hq8s
    have hfl := freesM_len g.abs i
    have hfs := freesM_succ g.abs i
    have BO := Box.mk O7
    walk_at "clo"
    walk_at "s"
    rw [if_pos rfl, Int.zero_add, inV_ints, used_not]
    rw [hfs]
    refine if_b (fun h4 => ?_) (fun h4 => ?_)
    · rw [if_pos h4, List.map_append]
      walk_at "s"
      exact ⟨BO.out.wr .here⟩
    · rw [if_neg (by rw [h4]; simp), List.append_nil]
      exact BO
  · rintro D H' O7
    have hD7 : SqL K H' D ((freesM g.abs 24).map V.int) := SqL.of (O7.get (.head _))
    obtain ⟨hd1, hd2, hd3⟩ := freesM_hd M (by omega)
    have hat : atI ((freesM g.abs 24).map V.int) 0 = some (.int (freeNM g.abs)) := atI_nat (j := 0) (by rw [List.getElem?_map, hd1]; rfl)
    have O8 := (BO.out.callN O7).drop (cs' := cMW g) (.cons _ (.cons _ (.refl _)))
    have hD8 := O8.get (a := g.D) (o := .dK (wD g)) (.head _)
    clear O7 BO
    have BO := Box.mk O8
    walk_at "clo"
    walk_at "s"
    intro la hla
    have O9 := BO.out.new (o := .lst []) hla
    generalize upd H' la _ = H9 at O9 ⊢
    have M2 := M.new d hd2 hd3 (by omega)
    have hD9 := O9.get (a := g.D) (o := .dK (wD g)) (.tail _ (.head _))
    have hS9 := O9.get (a := g.SD) (o := .dK (slD g.sl)) (.tail _ (.tail _ (.tail _ (.head _))))
    have hC9 := O9.get (a := g.CD) (o := .dK (ceD g.ce)) (.tail _ (.tail _ (.tail _ (.tail _ (.head _)))))
    have hsdl : (slD g.sl).length < 100000 := by rw [List.length_map]; omega
    have hcdl : (ceD g.ce).length < 100000 := by rw [List.length_map]; omega
    clear hD8 hD7
    have hs0 := abs_none hd2
    have hc0 := abs_noneC hd3
    have hzt : z = pathT names := by
      rcases namesL_text hn with ⟨h, _⟩ | ⟨_, h⟩
      · exact absurd h hne
      · exact h
    subst hzt
    have hnos := noS_of hn
    have hn6 : ∀ n ∈ names, n.length ≤ 6 := fun n h => (names_ok hn n h).1
    have hp30 : names.dropLast.length ≤ 30 := (M.names _ (lkL_mem hk')).2.2
    cases d with
    | true =>
      have hv : valV (wD g) (Sum.inr (if true = true then "slots" else "cells")) = some (.ref g.SD) := rfl
      have BO := Box.mk O9
      walk_at "clo"
      walk_at "s"
      rw [slD_new hs0]
      have O10 := BO.out.wr (a := g.SD) (o' := .dK (slD (g.sl ++ [(freeNM g.abs, la, [])]))) (.there (.there (.there .here)))
      generalize upd H9 g.SD _ = H10 at O10 ⊢
      have e10 : cSl (g.sl ++ [(freeNM g.abs, la, [])]) = cSl g.sl ++ [(la, .lst [])] := by
        show (g.sl ++ [(freeNM g.abs, la, [])]).map _ = _
        rw [List.map_append]
        rfl
      have O11 : Own H H10 (adr (cMW g)) (cMW { g with sl := g.sl ++ [(freeNM g.abs, la, [])] }) := by
        unfold cMW
        rw [e10]
        exact O10.perm (perm_sl _ _ _ _ _ _ _ _)
      have eab : ({ g with sl := g.sl ++ [(freeNM g.abs, la, [])] } : MG).abs = newM true g.abs (freeNM g.abs) := by
        unfold MG.abs newM
        rw [if_pos rfl]
        dsimp only
        rw [List.map_append]
        rfl
      have hsa2 : ({ g with sl := g.sl ++ [(freeNM g.abs, la, [])] } : MG).sl.lookup n0 = some (sa, os) := by
        show (g.sl ++ [(freeNM g.abs, la, [])]).lookup n0 = _
        rw [lk_app, hsa]
        rfl
      clear BO O10 hD9 hS9 hC9 hq8 hq8s hla
      walk_at "s"
      refine ask4 ⟨{ g with sl := g.sl ++ [(freeNM g.abs, la, [])] }, names.dropLast, names, n0, sa, freeNM g.abs, os, rfl, rfl, rfl, rfl, hnos, hne, rfl, hn6, hp30, O11.blk (s' := []) .all, by rw [eab]; exact M2, hk', hsa2, hno, fun H12 g2 O12 eg eD => ?_⟩
      walk_at "s"
      obtain ⟨_, _, e3, e4⟩ := atS (g := { g with sl := g.sl ++ [(freeNM g.abs, la, [])] }) (p := names.dropLast) (k := n0) (os := os) hk' (by rw [abs_sl, hsa2]; rfl)
      refine k _ _ rfl _ g2 (O11.call .all O12) ?_ eD
      rw [eg, ← eab]
      unfold putM
      rw [e3, e4, hn]
      rfl
    | false =>
      have hv : valV (wD g) (Sum.inr (if false = true then "slots" else "cells")) = some (.ref g.CD) := rfl
      have BO := Box.mk O9
      walk_at "clo"
      walk_at "s"
      rw [ceD_new hc0]
      have O10 := BO.out.wr (a := g.CD) (o' := .dK (ceD (g.ce ++ [(freeNM g.abs, la, [])]))) (.there (.there (.there (.there .here))))
      generalize upd H9 g.CD _ = H10 at O10 ⊢
      have e10 : cCe (g.ce ++ [(freeNM g.abs, la, [])]) = cCe g.ce ++ [(la, .lst [])] := by
        show (g.ce ++ [(freeNM g.abs, la, [])]).map _ = _
        rw [List.map_append]
        rfl
      have O11 : Own H H10 (adr (cMW g)) (cMW { g with ce := g.ce ++ [(freeNM g.abs, la, [])] }) := by
        unfold cMW
        rw [e10]
        exact O10.perm (perm_ce _ _ _ _ _ _ _ _)
      have eab : ({ g with ce := g.ce ++ [(freeNM g.abs, la, [])] } : MG).abs = newM false g.abs (freeNM g.abs) := by
        unfold MG.abs newM
        rw [if_neg Bool.false_ne_true]
        dsimp only
        rw [List.map_append]
        rfl
      clear BO O10 hD9 hS9 hC9 hq8 hq8s hla
      walk_at "s"
      refine ask4 ⟨{ g with ce := g.ce ++ [(freeNM g.abs, la, [])] }, names.dropLast, names, n0, sa, freeNM g.abs, os, rfl, rfl, rfl, rfl, hnos, hne, rfl, hn6, hp30, O11.blk (s' := []) .all, by rw [eab]; exact M2, hk', hsa, hno, fun H12 g2 O12 eg eD => ?_⟩
      walk_at "s"
      obtain ⟨_, _, e3, e4⟩ := atS (g := { g with ce := g.ce ++ [(freeNM g.abs, la, [])] }) (p := names.dropLast) (k := n0) (os := os) hk' (by rw [abs_sl, hsa]; rfl)
      refine k _ _ rfl _ g2 (O11.call .all O12) ?_ eD
      rw [eg, ← eab]
      unfold putM
      rw [e3, e4, hn]
      rfl

open SX (S)
def AnsN (H : Hp) (g : MG) (r : Except FRf MW) (Q : VK) : Prop := (∀ e, r = .error e → ∀ H', Own H H' (adr (cMW g)) (cMW g) → Q (.str e.word) H') ∧ (∀ m, r = .ok m → ∀ H' g', Own H H' (adr (cMW g)) (cMW g') → g'.abs = m → g'.D = g.D → Q .non H')
def sp__law_linked (K : PySem.W.Frag) : Sp := sp3 fun x y w H Q _ => ∃ g z z2, x = .ref g.D ∧ y = .str (S z) ∧ w = .str (S z2) ∧ AsT z ∧ AsT z2 ∧ Own H H (adr (cMW g)) (cMW g) ∧ MOk g.abs ∧ AnsN H g (linkM g.abs z z2) Q
theorem found_bad {m : MW} {z : List Nat} (M : MOk m) : (foundM m z = .error .badName ↔ namesL z = none) := by
  unfold foundM
  cases hz : namesL z with
  | none => exact ⟨fun _ => rfl, fun _ => rfl⟩
  | some names =>
    refine ⟨fun h => ?_, nofun⟩
    dsimp only at h
    cases hs : seekM m [] names with
    | none => rw [hs] at h; cases h
    | some e =>
      rw [hs] at h
      cases h
      exfalso
      have key : ∀ (r p : List Nm), seekM m p r ≠ some .badName := by
        intro r
        induction r with
        | nil => intro p h; cases h
        | cons n r ih =>
          intro p h
          unfold seekM at h
          split at h
          · cases h
          · split at h
            · cases h
            · exact ih _ h
      exact key _ _ hs
theorem word_bad (e : FRf) : e.word = "BadName" ↔ e = .badName := by
  cases e <;> simp only [FRf.word] <;> constructor <;> intro h <;> first | rfl | (exfalso; revert h; decide +kernel) | cases h
theorem sc__law_linked : FnScope ["_law_world", "_law_path_here", "_law_new", "_law_word", "_law_text", "_law_place"] ["_law_world", "_law_path_here", "_law_new"] (defScope s__law_linked) := ⟨rfl, rfl, rfl, by decide +kernel, rfl, by decide +kernel, by decide +kernel⟩
theorem ok__law_linked {P : Program} {w : World} {K : PySem.W.Frag} {mg : Str → Option Value} {base : Heap} (T : Txt K mg) : Cee P w K mg base 4 (He.fAd K ("_law_linked", none)) ["_law_world", "_law_path_here", "_law_new"] (sp__law_linked K) := by
  have c__law_found : Cee P w K mg base 2 (He.fAd K ("_law_found", none)) ["_law_world", "_law_path_here"] (sp__law_found K) := ok__law_found T
  have c__law_names : Cee P w K mg base 1 (He.fAd K ("_law_names", none)) ["_law_path_here"] (sp__law_names K) := ok__law_names T
  have c__law_spot : Cee P w K mg base 2 (He.fAd K ("_law_spot", none)) ["_law_world", "_law_path_here"] (sp__law_spot K) := ok__law_spot T
  have c__law_full : Cee P w K mg base 1 (He.fAd K ("_law_full", none)) ["_law_world", "_law_text"] (sp__law_full K) := ok__law_full T
  have c__law_lacks : Cee P w K mg base 3 (He.fAd K ("_law_lacks", none)) ["_law_world", "_law_text"] (sp__law_lacks K) := ok__law_lacks T
  have c__law_put : Cee P w K mg base 1 (He.fAd K ("_law_put", none)) ["_law_world", "_law_text", "_law_path_here", "_law_node_here"] (sp__law_put K) := ok__law_put T
  refine cee_of T.d__law_linked sc__law_linked (fun _ _ _ _ _ _ us hl => match us, hl with | [_, _, _], _ => rfl) (fun vs H Q E h => sp3_len h) (fun cdv A outer s H vs Q E hr h => ⟨_, (pss_cons (ps_asg (pe_f c__law_found (hr.mono (by decide)) (takes_of rfl rfl rfl rfl) (by rfl) T.g__law_found (pa_cons (pv 0) (pa_cons (pv 1) pa_nil))) (pg_tup rfl (pgs_cons (pg_name (i := 3) sc__law_linked.nd rfl (Or.inl rfl)) (pgs_cons (pg_name (i := 4) sc__law_linked.nd rfl (Or.inl rfl)) pgs_nil)))) (pss_cons (PS.box (ps_if (PW.pt (pw_and (pt_cmpR op_ne (pv 3) pe_str (nomark _)) (pw_and1 (PW.pt (pw_or (pt_cmpR op_eq (pv 3) pe_str (nomark _)) (pw_or1 (pt_cmpR op_notN (pe_f c__law_names (hr.mono (by decide)) (takes_of rfl rfl rfl rfl) (by rfl) T.g__law_names (pa_cons (pv 2) pa_nil)) pe_non (nomark _)))))))) (pss_one (ps_ret (pv 3))) pss_nil)) (pss_cons (ps_if (pt_cmpR op_isN (pe_f c__law_names (hr.mono (by decide)) (takes_of rfl rfl rfl rfl) (by rfl) T.g__law_names (pa_cons (pv 2) pa_nil)) pe_non (nomark _)) (pss_one (ps_ret pe_str)) pss_nil) (pss_cons (ps_if (pt_cmp (pc_din (hu_of hr) (pe_dget (hu_of hr) (pe_dget (hu_of hr) (pv 0) pe_str (fun _ _ => rfl)) (pv 4) (fun _ _ => rfl)) (pe_dget (hu_of hr) (pv 0) pe_str (fun _ _ => rfl))) (by with_unfolding_all rfl)) (pss_one (ps_ret pe_str)) pss_nil) (pss_cons (ps_asg (pe_f c__law_spot (hr.mono (by decide)) (takes_of rfl rfl rfl rfl) (by rfl) T.g__law_spot (pa_cons (pv 0) (pa_cons (pv 2) pa_nil))) (pg_tup rfl (pgs_cons (pg_name (i := 3) sc__law_linked.nd rfl (Or.inl rfl)) (pgs_cons (pg_name (i := 5) sc__law_linked.nd rfl (Or.inl rfl)) pgs_nil)))) (pss_cons (ps_if (pt_cmpR op_ne (pv 3) pe_str (nomark _)) (pss_one (ps_ret (pv 3))) pss_nil) (pss_cons (ps_if (pt_val (pe_f c__law_full (hr.mono (by decide)) (takes_of rfl rfl rfl rfl) (by rfl) T.g__law_full (pa_cons (pv 0) (pa_cons (pv 5) pa_nil)))) (pss_one (ps_ret pe_str)) pss_nil) (pss_cons (ps_if (pt_val (pe_f c__law_lacks (hr.mono (by decide)) (takes_of rfl rfl rfl rfl) (by rfl) T.g__law_lacks (pa_cons (pv 0) (pa_cons (pv 5) pa_nil)))) (pss_one (ps_ret pe_str)) pss_nil) (pss_cons (ps_expr (pe_f c__law_put (hr.mono (by decide)) (takes_of rfl rfl rfl rfl) (by rfl) T.g__law_put (pa_cons (pv 0) (pa_cons (pv 5) (pa_cons (pv 2) (pa_cons (pe_dget (hu_of hr) (pe_dget (hu_of hr) (pv 0) pe_str (fun _ _ => rfl)) (pv 4) (fun _ _ => rfl)) pa_nil)))))) (pss_one (ps_ret pe_non))))))))))), ?_⟩)
  obtain ⟨v0, v1, v2, rfl, h⟩ := h
  dsimp only [cxOf, L2.start]
  obtain ⟨g, z, z2, rfl, rfl, rfl, hz, hz2, O, M, ke, k⟩ := h
  unfold linkM withN at ke k
  walk_at "s"
  refine ask2 ⟨g, z, rfl, rfl, hz, O, M, fun e he H1 T O1 hT => ?_, fun p hp H1 T O1 hT => ?_⟩
  · have hw := word_ne e
    walk_at "s"
    walk_at "b"
    refine if_nss (fun _ => ?_) (fun q => absurd q hw)
    walk_at "s"
    refine if_ss (fun hb => ?_) (fun hb => ?_)
    · have hb2 := (word_bad e).mp hb
      subst hb2
      have hn := (found_bad M).mp he
      rw [hn] at ke
      walk_at "s"
      exact ke _ rfl _ O1
    · obtain ⟨names, hn⟩ : ∃ names, namesL z = some names := by
        cases h : namesL z with
        | none =>
          rw [(found_bad M).mpr h] at he
          cases he
          exact absurd rfl hb
        | some names => exact ⟨names, rfl⟩
      rw [hn] at ke
      dsimp only at ke
      walk_at "s"
      refine ask1 ⟨z2, rfl, hz2.tx, hz2.asc, fun hn2 H2 O2 => ?_, fun o hn2 H2 b O2 => ?_⟩
      · rw [hn2] at ke
        walk_at "s"
        refine ask1 ⟨z2, rfl, hz2.tx, hz2.asc, fun hn2 H3 O3 => ?_, fun o hn3 H3 b O3 => ?_⟩
        · walk_at "s"
          exact ke _ rfl _ ((O1.callN O2).callN O3)
        · rw [hn2] at hn3; cases hn3
      · rw [hn2] at ke
        dsimp only at ke
        rw [he] at ke
        walk_at "s"
        exact ke _ rfl _ ((O1.callN O2).drop (.cons _ (.refl _)))
  obtain ⟨hn, n0, hn0⟩ := found_ok M hp
  rw [hn] at ke k
  dsimp only at ke k
  walk_at "s"
  walk_at "b"
  walk_at "s"
  refine ask1 ⟨z2, rfl, hz2.tx, hz2.asc, fun hn2 H2 O2 => ?_, fun o hn2 H2 b O2 => ?_⟩
  · rw [hn2] at ke
    walk_at "s"
    exact ke _ rfl _ (O1.callN O2)
  rw [hn2] at ke k
  dsimp only at ke k
  rw [hp] at ke k
  dsimp only at ke k
  have O3 := (O1.callN O2).drop (cs' := cMW g) (.cons _ (.refl _))
  have hD := O3.get (a := g.D) (o := .dK (wD g)) (.head _)
  have hA := O3.get (a := g.AD) (o := .dK (atD g.at_)) (.tail _ (.head _))
  have hS := O3.get (a := g.SD) (o := .dK (slD g.sl)) (.tail _ (.tail _ (.head _)))
  have hvA : valV (wD g) (Sum.inr "at") = some (.ref g.AD) := rfl
  have hvS : valV (wD g) (Sum.inr "slots") = some (.ref g.SD) := rfl
  have hkeys : ∀ x ∈ g.at_, NoS x.1 := fun x hx => (M.names x hx).1
  have hn0 : g.at_.lookup p = some n0 := hn0
  have hva : valV (atD g.at_) (Sum.inr (S (pathT p))) = some (.int n0) := by rw [at_val hkeys (noS_of hn), hn0]; rfl
  have enod : nodM g.abs p = n0 := by
    unfold nodM
    rw [show g.abs.at_.lookup p = some n0 from hn0]
    rfl
  rw [enod] at ke k
  have BO := Box.mk O3
  clear O1 O2
  rw [abs_sl, Option.isSome_map] at ke k
  walk_at "clo"
  walk_at "s"
  rw [sl_val, Option.isSome_map]
  refine if_b (fun h1 => ?_) (fun h1 => ?_)
  · rw [if_pos h1] at ke
    walk_at "s"
    exact ke .isDir rfl _ BO.out
  rw [if_neg (by rw [h1]; simp)] at ke k
  walk_at "s"
  refine ask2 ⟨g, z2, rfl, rfl, hz2, BO.out.blk (s' := []) .all, M, fun e he H4 T2 O4 hT2 => ?_, fun pl hpl H4 T2 O4 hT2 => ?_⟩
  · rw [he] at ke
    have hw := word_ne e
    walk_at "s"
    refine if_nss (fun _ => ?_) (fun q => absurd q hw)
    walk_at "s"
    exact ke e rfl _ (BO.out.call .all O4)
  rw [hpl] at ke k
  obtain ⟨names, k0, os, hn3, hne, rfl, hk, hs, hno, hce⟩ := spot_ok M hpl
  cases hn2.symm.trans hn3
  obtain ⟨hk', ⟨sa, hsa⟩, e1, e2⟩ := atS hk hs
  dsimp only at ke k
  rw [e1] at ke k
  have O5 := BO.out.call .all O4
  have hnd : NoS o.dropLast := fun n h => noS_of hn2 n (List.dropLast_subset _ h)
  clear BO O4
  walk_at "s"
  refine ask2 ⟨g, o.dropLast, k0, sa, os, rfl, rfl, hnd, O5.blk (s' := []) .all, M, hk', hsa, ?_⟩
  refine ⟨_, rfl, ?_⟩
  refine if_b (fun h2 => ?_) (fun h2 => ?_)
  · rw [if_pos h2] at ke
    walk_at "s"
    exact ke .tooMany rfl _ O5
  rw [if_neg (by rw [h2]; simp)] at ke k
  walk_at "s"
  refine ask2 ⟨g, o.dropLast, k0, sa, os, rfl, rfl, hnd, O5.blk (s' := []) .all, M, hk', hsa, fun H7 O7 => ?_⟩
  have O8 := O5.call .all O7
  refine ⟨_, rfl, ?_⟩
  refine if_b (fun h3 => ?_) (fun h3 => ?_)
  · rw [if_pos h3] at ke
    walk_at "s"
    exact ke .noSpace rfl _ O8
  rw [if_neg (by rw [h3]; simp)] at ke k
  have hzt : z2 = pathT o := by
    rcases namesL_text hn2 with ⟨h, _⟩ | ⟨_, h⟩
    · exact absurd h hne
    · exact h
  subst hzt
  have hnos := noS_of hn2
  have hn6 : ∀ n ∈ o, n.length ≤ 6 := fun n h => (names_ok hn2 n h).1
  have hp30 : o.dropLast.length ≤ 30 := (M.names _ (lkL_mem hk')).2.2
  have hD8 := O8.get (a := g.D) (o := .dK (wD g)) (.head _)
  have hA8 := O8.get (a := g.AD) (o := .dK (atD g.at_)) (.tail _ (.head _))
  have BO := Box.mk O8
  clear O7 hD hA hS
  walk_at "clo"
  walk_at "s"
  refine ask4 ⟨g, o.dropLast, o, k0, sa, n0, os, rfl, rfl, rfl, rfl, hnos, hne, rfl, hn6, hp30, BO.out.blk (s' := []) .all, M, hk', hsa, hno, fun H12 g2 O12 eg eD => ?_⟩
  walk_at "s"
  refine k _ rfl _ g2 (BO.out.call .all O12) ?_ eD
  rw [eg]
  unfold putM
  rw [e1, e2]
  rfl

open SX (S)
/-- a path leads through dirs that tell its names -/
structure MUp (m : MW) : Prop where
  up : ∀ p k, m.at_.lookup p = some k → p ≠ [] → ∃ k0 os, m.at_.lookup p.dropLast = some k0 ∧ m.sl.lookup k0 = some os ∧ some (lastN p) ∈ os
  root : (m.sl.lookup 0).isSome = true
  plain : ∀ k os, m.sl.lookup k = some os → ∀ n, some n ∈ os → n.length ≤ 6 ∧ ∀ c ∈ n, c < 128
theorem RX.mup {x room : Int} {ns : Tr} {m : MW} (R : RX x room ns m) : MUp m := by
  refine ⟨fun p k h hne => ?_, ?_, fun k os h n hn => ?_⟩
  · rw [R.at_, ← last_split hne, goA_snoc] at h
    cases hg : goA ns p.dropLast with
    | none => rw [hg] at h; cases h
    | some i =>
      rw [hg, Option.bind_some] at h
      obtain ⟨ss, h1, h2⟩ := childA_some h
      refine ⟨i, namesO ss, by rw [R.at_]; exact hg, (R.sl_dir h1).1, ?_⟩
      exact List.mem_map.mpr ⟨_, nodeOf_some h2, rfl⟩
  · obtain ⟨ss, hs⟩ := R.ok.root
    rw [(R.sl_dir hs).1]
    rfl
  · rw [R.sl_lk] at h
    cases hu : ns.lookup k with
    | none => rw [hu] at h; cases h
    | some u =>
      rw [hu] at h
      cases u with
      | file l hh cs => cases h
      | dir ss =>
        cases h
        obtain ⟨s, hs, e⟩ := List.mem_map.mp hn
        cases s with
        | none => cases e
        | some q =>
          have e : q.1 = n := Option.some.inj e
          have := nameB_low ((R.nm k ss hu).2 n (e ▸ mem_namesIn hs))
          exact ⟨this.1, this.2.1⟩
theorem freeO_len (os : List (Option Nm)) (n : Nm) : (freeO os n).length = os.length := List.length_set ..
theorem MOk.setSl {m : MW} (M : MOk m) {k : Int} {os os' : List (Option Nm)} (hs : m.sl.lookup k = some os) (h : os'.length ≤ 40) : MOk { m with sl := setA m.sl k os' } := by
  have hlk : ∀ j, ((setA m.sl k os').lookup j).isSome = (m.sl.lookup j).isSome := fun j => by
    rw [lk_setA, hs]
    by_cases e : j = k
    · rw [if_pos e, e, hs]; rfl
    · rw [if_neg e]
  refine ⟨M.names, M.ndk, M.few, M.root, fun x hx => ?_, ?_, M.ndc, fun j hj => ?_, ?_, fun x hx => ?_, M.clen⟩
  · show ((setA m.sl k os').lookup x.2).isSome = true ∨ _
    rw [hlk]
    exact M.ends x hx
  · show ((setA m.sl k os').map (·.1)).Nodup
    rw [setA_keys]
    exact M.nds
  · have hj : ((setA m.sl k os').lookup j).isSome = true := hj
    rw [hlk] at hj
    exact M.apart j hj
  · show (setA m.sl k os').length + m.ce.length ≤ 24
    unfold setA
    rw [List.length_map]
    exact M.fews
  · have hx : x ∈ setA m.sl k os' := hx
    obtain ⟨y, hy, e⟩ := List.mem_map.mp hx
    split at e
    · rw [← e]; exact h
    · rw [← e]; exact M.slen y hy
theorem MOk.dropAt {m : MW} (M : MOk m) {p : List Nm} (hp : p ≠ []) : MOk { m with at_ := dropP m.at_ p } := by
  have hsub : List.Sublist (dropP m.at_ p) m.at_ := List.filter_sublist
  refine ⟨fun x hx => M.names x (hsub.subset hx), (hsub.map _).nodup M.ndk, Nat.le_trans hsub.length_le M.few, ?_, fun x hx => M.ends x (hsub.subset hx), M.nds, M.ndc, M.apart, M.fews, M.slen, M.clen⟩
  show (dropP m.at_ p).lookup [] = some 0
  rw [pk_dropP, if_neg (fun z => hp z.symm)]
  exact M.root
theorem atD_drop {l : List (List Nm × Int)} (h : ∀ x ∈ l, NoS x.1) {q : List Nm} (hq : NoS q) : dropK (atD l) (Sum.inr (S (pathT q))) = atD (dropP l q) := by
  unfold dropK dropP
  show ((l.map _).filter _) = (l.filter _).map _
  rw [List.filter_map]
  congr 1
  refine List.filter_congr fun x hx => ?_
  show decide ((Sum.inr (S (pathT x.1)) : Key) ≠ Sum.inr (S (pathT q))) = decide (x.1 ≠ q)
  exact decide_eq_decide.mpr ⟨fun h e => h (by rw [e]), fun h2 e => h2 (pathT_inj (h x hx) hq (SX.S_inj (Sum.inr.inj e)))⟩
def sp__law_unlinked (K : PySem.W.Frag) : Sp := sp2 fun x y H Q _ => ∃ g z, x = .ref g.D ∧ y = .str (S z) ∧ AsT z ∧ Own H H (adr (cMW g)) (cMW g) ∧ MOk g.abs ∧ MUp g.abs ∧ AnsN H g (unlinkM g.abs z) Q
theorem sc__law_unlinked : FnScope ["_law_world", "_law_path_here", "_law_word", "_law_text"] ["_law_world", "_law_path_here"] (defScope s__law_unlinked) := ⟨rfl, rfl, rfl, by decide +kernel, rfl, by decide +kernel, by decide +kernel⟩
theorem ok__law_unlinked {P : Program} {w : World} {K : PySem.W.Frag} {mg : Str → Option Value} {base : Heap} (T : Txt K mg) : Cee P w K mg base 3 (He.fAd K ("_law_unlinked", none)) ["_law_world", "_law_path_here"] (sp__law_unlinked K) := by
  have c__law_found : Cee P w K mg base 2 (He.fAd K ("_law_found", none)) ["_law_world", "_law_path_here"] (sp__law_found K) := ok__law_found T
  have c__law_freed : Cee P w K mg base 1 (He.fAd K ("_law_freed", none)) ["_law_world", "_law_text"] (sp__law_freed K) := ok__law_freed T
  have c__law_cleared : Cee P w K mg base 2 (He.fAd K ("_law_cleared", none)) ["_law_world", "_law_node_here"] (sp__law_cleared K) := ok__law_cleared T
  refine cee_of T.d__law_unlinked sc__law_unlinked (fun _ _ _ _ _ _ us hl => match us, hl with | [_, _], _ => rfl) (fun vs H Q E h => sp2_len h) (fun cdv A outer s H vs Q E hr h => ⟨_, (pss_cons (ps_asg (pe_f c__law_found (hr.mono (by decide)) (takes_of rfl rfl rfl rfl) (by rfl) T.g__law_found (pa_cons (pv 0) (pa_cons (pv 1) pa_nil))) (pg_tup rfl (pgs_cons (pg_name (i := 2) sc__law_unlinked.nd rfl (Or.inl rfl)) (pgs_cons (pg_name (i := 3) sc__law_unlinked.nd rfl (Or.inl rfl)) pgs_nil)))) (pss_cons (ps_if (pt_cmpR op_ne (pv 2) pe_str (nomark _)) (pss_one (ps_ret (pv 2))) pss_nil) (pss_cons (ps_if (pt_cmp (pc_din (hu_of hr) (pe_dget (hu_of hr) (pe_dget (hu_of hr) (pv 0) pe_str (fun _ _ => rfl)) (pv 3) (fun _ _ => rfl)) (pe_dget (hu_of hr) (pv 0) pe_str (fun _ _ => rfl))) (by with_unfolding_all rfl)) (pss_one (ps_ret pe_str)) pss_nil) (pss_cons (ps_expr (pe_f c__law_freed (hr.mono (by decide)) (takes_of rfl rfl rfl rfl) (by rfl) T.g__law_freed (pa_cons (pv 0) (pa_cons (pv 3) pa_nil)))) (pss_cons (ps_expr (pe_f c__law_cleared (hr.mono (by decide)) (takes_of rfl rfl rfl rfl) (by rfl) T.g__law_cleared (pa_cons (pv 0) (pa_cons (pe_dpop1 (pe_dget (hu_of hr) (pv 0) pe_str (fun _ _ => rfl)) (pv 3) ⟨rfl, rfl, rfl, rfl⟩) pa_nil)))) (pss_one (ps_ret pe_non))))))), ?_⟩)
  obtain ⟨v0, v1, rfl, h⟩ := h
  dsimp only [cxOf, L2.start]
  obtain ⟨g, z, rfl, rfl, hz, O, M, U, ke, k⟩ := h
  unfold unlinkM at ke k
  walk_at "s"
  refine ask2 ⟨g, z, rfl, rfl, hz, O, M, fun e he H1 T O1 hT => ?_, fun p hp H1 T O1 hT => ?_⟩
  · rw [he] at ke
    have hw := word_ne e
    walk_at "s"
    refine if_nss (fun _ => ?_) (fun q => absurd q hw)
    walk_at "s"
    exact ke _ rfl _ O1
  rw [hp] at ke k
  dsimp only at ke k
  obtain ⟨hn, n0, hn0⟩ := found_ok M hp
  have hD := O1.get (a := g.D) (o := .dK (wD g)) (.head _)
  have hA := O1.get (a := g.AD) (o := .dK (atD g.at_)) (.tail _ (.head _))
  have hS := O1.get (a := g.SD) (o := .dK (slD g.sl)) (.tail _ (.tail _ (.head _)))
  have hvA : valV (wD g) (Sum.inr "at") = some (.ref g.AD) := rfl
  have hvS : valV (wD g) (Sum.inr "slots") = some (.ref g.SD) := rfl
  have hkeys : ∀ x ∈ g.at_, NoS x.1 := fun x hx => (M.names x hx).1
  have hn0' : g.at_.lookup p = some n0 := hn0
  have hva : valV (atD g.at_) (Sum.inr (S (pathT p))) = some (.int n0) := by rw [at_val hkeys (noS_of hn), hn0']; rfl
  have enod : nodM g.abs p = n0 := by
    unfold nodM
    rw [hn0]
    rfl
  rw [enod] at ke k
  have BO := Box.mk O1
  rw [abs_sl, Option.isSome_map] at ke k
  walk_at "clo"
  walk_at "s"
  rw [sl_val, Option.isSome_map]
  refine if_b (fun h1 => ?_) (fun h1 => ?_)
  · rw [if_pos h1] at ke
    walk_at "s"
    exact ke .isDir rfl _ BO.out
  rw [if_neg (by rw [h1]; simp)] at ke k
  have hpne : p ≠ [] := fun e => by
    rw [e, show g.at_.lookup [] = some 0 from M.root] at hn0'
    cases hn0'
    have := U.root
    rw [abs_sl, Option.isSome_map, h1] at this
    cases this
  obtain ⟨k0, os, hk, hs, hmem⟩ := U.up p n0 hn0 hpne
  obtain ⟨hk', ⟨sa, hsa⟩, e1, e2⟩ := atS hk hs
  have hpt := (M.names _ (lkL_mem hn0)).2
  walk_at "s"
  refine ask2 ⟨g, p, k0, sa, os, rfl, rfl, noS_of hn, hpne, fun n hn => (hpt.1 n hn).1, Nat.le_trans hpt.2 (by decide), BO.out.blk (s' := []) .all, M, hk', hsa, hmem, fun H4 g2 O4 eg eD => ?_⟩
  have M2 : MOk g2.abs := by
    rw [eg]
    exact M.setSl hs (by rw [freeO_len]; exact M.slen (k0, os) (lk_mem hs))
  have eat : g2.at_ = g.at_ := by
    have : g2.abs.at_ = g.abs.at_ := by rw [eg]
    exact this
  have hn2 : g2.at_.lookup p = some n0 := by rw [eat]; exact hn0
  have hkeys2 : ∀ x ∈ g2.at_, NoS x.1 := by rw [eat]; exact hkeys
  have hva2 : valV (atD g2.at_) (Sum.inr (S (pathT p))) = some (.int n0) := by rw [at_val hkeys2 (noS_of hn), hn2]; rfl
  have O5 := BO.out.call .all O4
  have hD2 := O5.get (a := g2.D) (o := .dK (wD g2)) (.head _)
  have hA2 := O5.get (a := g2.AD) (o := .dK (atD g2.at_)) (.tail _ (.head _))
  have hvA2 : valV (wD g2) (Sum.inr "at") = some (.ref g2.AD) := rfl
  rw [← eD]
  clear O4 BO hD hA hS
  have BO := Box.mk O5
  walk_at "clo"
  walk_at "s"
  rw [atD_drop hkeys2 (noS_of hn)]
  have O6 : Own H (upd H4 g2.AD (.dK (atD (dropP g2.at_ p)))) (adr (cMW g)) (cMW { g2 with at_ := dropP g2.at_ p }) := BO.out.wr (a := g2.AD) (o' := .dK (atD (dropP g2.at_ p))) (.there .here)
  generalize upd H4 g2.AD _ = H6 at O6 ⊢
  have e3 : ({ g2 with at_ := dropP g2.at_ p } : MG).abs = { freedM g.abs p with at_ := dropP g.abs.at_ p } := by
    show { g2.abs with at_ := dropP g2.at_ p } = _
    rw [eg, eat]
    unfold freedM
    rw [e1, e2]
    rfl
  have M3 : MOk ({ g2 with at_ := dropP g2.at_ p } : MG).abs := M2.dropAt hpne
  have hce : (g2.ce.lookup n0).isSome = true := by
    have h2 : g2.abs.ce = g.abs.ce := by rw [eg]
    rcases M.ends _ (lkL_mem hn0) with h | h
    · rw [abs_sl, Option.isSome_map, h1] at h
      cases h
    · rw [← h2, abs_ce, Option.isSome_map] at h
      exact h
  refine ask2 ⟨{ g2 with at_ := dropP g2.at_ p }, n0, rfl, rfl, O6.blk (s' := []) .all, M3, hce, fun H7 g4 O7 e4 eD4 => ?_⟩
  walk_at "s"
  refine k _ rfl _ g4 (O6.call .all O7) ?_ (eD4.trans eD)
  rw [e4, e3]
theorem on_strOk {os : List (Option Nm)} (h : ∀ n, some n ∈ os → ∀ c ∈ n, c < 256) : (((os.filterMap id).map S).all PyData.strOk) = true := by
  refine List.all_eq_true.mpr fun z hz => ?_
  obtain ⟨n, hn, rfl⟩ := List.mem_map.mp hz
  obtain ⟨o, ho, e⟩ := List.mem_filterMap.mp hn
  cases o with
  | none => cases e
  | some m =>
    cases e
    exact strOk_S (h n ho)
def sp__law_removed (K : PySem.W.Frag) : Sp := sp2 fun x y H Q _ => ∃ g z, x = .ref g.D ∧ y = .str (S z) ∧ AsT z ∧ Own H H (adr (cMW g)) (cMW g) ∧ MOk g.abs ∧ MUp g.abs ∧ AnsN H g (removeM g.abs z) Q
theorem pathT_nil {p : List Nm} : pathT p = [] ↔ p = [] := by
  cases p with
  | nil => exact ⟨fun _ => rfl, fun _ => rfl⟩
  | cons n r => rw [pathT_cons]; exact ⟨nofun, nofun⟩
theorem sc__law_removed : FnScope ["_law_world", "_law_path_here", "_law_word", "_law_text", "_law_name"] ["_law_world", "_law_path_here"] (defScope s__law_removed) := ⟨rfl, rfl, rfl, by decide +kernel, rfl, by decide +kernel, by decide +kernel⟩
theorem ok__law_removed {P : Program} {w : World} {K : PySem.W.Frag} {mg : Str → Option Value} {base : Heap} (T : Txt K mg) : Cee P w K mg base 3 (He.fAd K ("_law_removed", none)) ["_law_world", "_law_path_here"] (sp__law_removed K) := by
  have c__law_found : Cee P w K mg base 2 (He.fAd K ("_law_found", none)) ["_law_world", "_law_path_here"] (sp__law_found K) := ok__law_found T
  have c__law_freed : Cee P w K mg base 1 (He.fAd K ("_law_freed", none)) ["_law_world", "_law_text"] (sp__law_freed K) := ok__law_freed T
  refine cee_of T.d__law_removed sc__law_removed (fun _ _ _ _ _ _ us hl => match us, hl with | [_, _], _ => rfl) (fun vs H Q E h => sp2_len h) (fun cdv A outer s H vs Q E hr h => ⟨_, (pss_cons (ps_asg (pe_f c__law_found (hr.mono (by decide)) (takes_of rfl rfl rfl rfl) (by rfl) T.g__law_found (pa_cons (pv 0) (pa_cons (pv 1) pa_nil))) (pg_tup rfl (pgs_cons (pg_name (i := 2) sc__law_removed.nd rfl (Or.inl rfl)) (pgs_cons (pg_name (i := 3) sc__law_removed.nd rfl (Or.inl rfl)) pgs_nil)))) (pss_cons (ps_if (pt_cmpR op_ne (pv 2) pe_str (nomark _)) (pss_one (ps_ret (pv 2))) pss_nil) (pss_cons (ps_if (pt_cmp (pc_din (hu_of hr) (pe_dget (hu_of hr) (pe_dget (hu_of hr) (pv 0) pe_str (fun _ _ => rfl)) (pv 3) (fun _ _ => rfl)) (pe_dget (hu_of hr) (pv 0) pe_str (fun _ _ => rfl))) (by with_unfolding_all rfl)) (pss_one (ps_ret pe_str)) pss_nil) (pss_cons (ps_if (pt_cmpR op_eq (pv 3) pe_str (nomark _)) (pss_one (ps_ret pe_str)) pss_nil) (pss_cons (ps_if (pt_cmpR (op_neD hr.units) (pe_lc (own := [("_law_name", 4)]) (by rfl) sc__law_removed.nd (PI.box (pi_list (pe_dget (hu_of hr) (pe_dget (hu_of hr) (pv 0) pe_str (fun _ _ => rfl)) (pe_dget (hu_of hr) (pe_dget (hu_of hr) (pv 0) pe_str (fun _ _ => rfl)) (pv 3) (fun _ _ => rfl)) (fun _ _ => rfl)))) (blkOk_by (own := [("_law_name", 4)]) (N := ["_law_world", "_law_path_here", "_law_word", "_law_text", "_law_name"]) (sc := defScope s__law_removed) (by decide +kernel)) (fun _ _ _ _ _ => (pg_name (i := 4) sc__law_removed.nd rfl (Or.inl rfl))) (fun _ _ _ _ _ => (pts_one (pt_cmpR op_notN (pv 4) pe_non (nomark _)))) (fun _ _ _ _ _ => (pv 4))) (pe_lst pa_nil) (nomark _)) (pss_one (ps_ret pe_str)) pss_nil) (pss_cons (ps_expr (pe_f c__law_freed (hr.mono (by decide)) (takes_of rfl rfl rfl rfl) (by rfl) T.g__law_freed (pa_cons (pv 0) (pa_cons (pv 3) pa_nil)))) (pss_cons (ps_expr (pe_dpop1 (pe_dget (hu_of hr) (pv 0) pe_str (fun _ _ => rfl)) (pe_dpop1 (pe_dget (hu_of hr) (pv 0) pe_str (fun _ _ => rfl)) (pv 3) ⟨rfl, rfl, rfl, rfl⟩) ⟨rfl, rfl, rfl, rfl⟩)) (pss_one (ps_ret pe_non))))))))), ?_⟩)
  obtain ⟨v0, v1, rfl, h⟩ := h
  dsimp only [cxOf, L2.start]
  obtain ⟨g, z, rfl, rfl, hz, O, M, U, ke, k⟩ := h
  unfold removeM at ke k
  walk_at "s"
  refine ask2 ⟨g, z, rfl, rfl, hz, O, M, fun e he H1 T O1 hT => ?_, fun p hp H1 T O1 hT => ?_⟩
  · rw [he] at ke
    have hw := word_ne e
    walk_at "s"
    refine if_nss (fun _ => ?_) (fun q => absurd q hw)
    walk_at "s"
    exact ke _ rfl _ O1
  rw [hp] at ke k
  dsimp only at ke k
  obtain ⟨hn, n0, hn0⟩ := found_ok M hp
  have hD := O1.get (a := g.D) (o := .dK (wD g)) (.head _)
  have hA := O1.get (a := g.AD) (o := .dK (atD g.at_)) (.tail _ (.head _))
  have hS := O1.get (a := g.SD) (o := .dK (slD g.sl)) (.tail _ (.tail _ (.head _)))
  have hC := O1.get (a := g.CD) (o := .dK (ceD g.ce)) (.tail _ (.tail _ (.tail _ (.head _))))
  have hvA : valV (wD g) (Sum.inr "at") = some (.ref g.AD) := rfl
  have hvS : valV (wD g) (Sum.inr "slots") = some (.ref g.SD) := rfl
  have hvC : valV (wD g) (Sum.inr "cells") = some (.ref g.CD) := rfl
  have hkeys : ∀ x ∈ g.at_, NoS x.1 := fun x hx => (M.names x hx).1
  have hn0' : g.at_.lookup p = some n0 := hn0
  have hva : valV (atD g.at_) (Sum.inr (S (pathT p))) = some (.int n0) := by rw [at_val hkeys (noS_of hn), hn0']; rfl
  have enod : nodM g.abs p = n0 := by
    unfold nodM
    rw [hn0]
    rfl
  rw [enod] at ke k
  have BO := Box.mk O1
  rw [abs_ce, Option.isSome_map] at ke k
  walk_at "clo"
  walk_at "s"
  rw [ce_val, Option.isSome_map]
  refine if_b (fun h1 => ?_) (fun h1 => ?_)
  · rw [if_pos h1] at ke
    walk_at "s"
    exact ke .notDir rfl _ BO.out
  rw [if_neg (by rw [h1]; simp)] at ke k
  walk_at "s"
  refine if_ss (fun h2 => ?_) (fun h2 => ?_)
  · have h2 : p = [] := pathT_nil.mp (SX.S_inj (h2.trans (by decide +kernel : ("" : Str) = S [])))
    rw [if_pos h2] at ke
    walk_at "s"
    exact ke .notAllowed rfl _ BO.out
  have hpne : p ≠ [] := fun e => h2 (by rw [e]; decide +kernel)
  rw [if_neg hpne] at ke k
  obtain ⟨sa1, os1, hsa1⟩ : ∃ sa1 os1, g.sl.lookup n0 = some (sa1, os1) := by
    rcases M.ends _ (lkL_mem hn0) with h | h
    · rw [abs_sl, Option.isSome_map] at h
      obtain ⟨⟨a, b⟩, e⟩ := Option.isSome_iff_exists.mp h
      exact ⟨a, b, e⟩
    · rw [abs_ce, Option.isSome_map, h1] at h
      cases h
  have hso : sltM g.abs p = os1 := by
    unfold sltM
    rw [hn0, Option.bind_some, abs_sl, hsa1]
    rfl
  rw [hso] at ke k
  have hvs1 : valV (slD g.sl) (Sum.inl n0) = some (.ref sa1) := by rw [sl_val, hsa1]; rfl
  have hsac := BO.out.get (a := sa1) (o := .lst (os1.map onV)) (.tail _ (.tail _ (.tail _ (.tail _ (.tail _ (cMW_sl (lk_mem hsa1)))))))
  have hsas : SqL K H1 sa1 (os1.map onV) := SqL.of hsac
  have hos40 : os1.length ≤ 40 := M.slen (n0, os1) (List.mem_map.mpr ⟨_, lk_mem hsa1, rfl⟩)
  walk_at "s"
  refine lcL (xs := os1.map onV) (fun D i H' => Own H1 H' [] [(D, .lst (SV ((os1.take i).filterMap id)))]) ?_ ?_ ?_ ?_
  · intro D hD
    exact Own.start.new hD
  · intro D i H' _ O
    exact O.sq hsas
  · intro D i x H' hx O
    rw [List.getElem?_map] at hx
    obtain ⟨s, hsi, rfl⟩ := Option.map_eq_some_iff.mp hx
    have hD := O.get (.head _)
    have hll : (SV ((os1.take i).filterMap id)).length < 100000 := by
      have := List.length_filterMap_le id (os1.take i)
      rw [List.length_take] at this
      rw [List.length_map]
      omega
    rw [take_succ hsi, List.filterMap_append]
    cases s with
    | none =>
      walk_at "s"
      rw [show List.filterMap id [(none : Option Nm)] = [] from rfl, List.append_nil]
      exact if_f (by simp [onV]) ⟨O⟩
    | some n =>
      walk_at "s"
      rw [show List.filterMap id [some n] = [n] from rfl, show SV ((os1.take i).filterMap id ++ [n]) = SV ((os1.take i).filterMap id) ++ [.str (S n)] from List.map_append]
      exact ⟨O.wr .here⟩
  · intro D H' O2
    rw [List.length_map, List.take_length] at O2
    have O3 := BO.out.callN O2
    walk_at "s"
    intro e0 he0
    have O4 := O3.new (o := .lst []) he0
    have he1 : upd H' e0 (.lst []) e0 = some (.lst (([] : List Str).map V.str)) := upd_same
    generalize upd H' e0 _ = H3 at O4 he1 ⊢
    have hDl : H3 D = some (.lst (((os1.filterMap id).map S).map V.str)) := by
      rw [← SV_map]
      exact O4.get (.tail _ (.head _))
    refine ne_strs (on_strOk (fun n hn c hc => Nat.lt_trans ((U.plain n0 os1 (by rw [abs_sl, hsa1]; rfl) n hn).2 c hc) (by decide))) rfl hDl he1 ?_
    have O5 := O4.drop (cs' := cMW g) (.cons _ (.cons _ (.refl _)))
    clear O2 O3 O4 BO
    refine ⟨_, rfl, ?_⟩
    refine if_nd (fun h3 => ?_) (fun h3 => ?_)
    · rw [if_pos (fun z => h3 (by rw [z]; rfl))] at ke
      walk_at "s"
      exact ke .notEmpty rfl _ O5
    have h3 : os1.filterMap id = [] := List.map_eq_nil_iff.mp h3
    rw [if_neg (fun z => z h3)] at ke k
    obtain ⟨k0, os, hk, hs, hmem⟩ := U.up p n0 hn0 hpne
    obtain ⟨hk', ⟨sa, hsa⟩, e1, e2⟩ := atS hk hs
    have hpt := (M.names _ (lkL_mem hn0)).2
    walk_at "s"
    refine ask2 ⟨g, p, k0, sa, os, rfl, rfl, noS_of hn, hpne, fun n hn => (hpt.1 n hn).1, Nat.le_trans hpt.2 (by decide), O5.blk (s' := []) .all, M, hk', hsa, hmem, fun H4 g2 O6 eg eD => ?_⟩
    have M2 : MOk g2.abs := by
      rw [eg]
      exact M.setSl hs (by rw [freeO_len]; exact M.slen (k0, os) (lk_mem hs))
    have eat : g2.at_ = g.at_ := by
      have : g2.abs.at_ = g.abs.at_ := by rw [eg]
      exact this
    have hn2 : g2.at_.lookup p = some n0 := by rw [eat]; exact hn0
    have hkeys2 : ∀ x ∈ g2.at_, NoS x.1 := by rw [eat]; exact hkeys
    have hva2 : valV (atD g2.at_) (Sum.inr (S (pathT p))) = some (.int n0) := by rw [at_val hkeys2 (noS_of hn), hn2]; rfl
    have hsi : (g2.sl.lookup n0).isSome = true := by
      have h4 : g2.abs.sl.lookup n0 = (setA g.abs.sl k0 (freeO os (lastN p))).lookup n0 := by rw [eg]
      rw [abs_sl] at h4
      rw [← Option.isSome_map (f := fun x : Addr × List (Option Nm) => x.2), h4, lk_setA, hs]
      split
      · rfl
      · rw [abs_sl, hsa1]; rfl
    obtain ⟨⟨sa2, os2⟩, hsa2⟩ := Option.isSome_iff_exists.mp hsi
    have hvs2 : valV (slD g2.sl) (Sum.inl n0) = some (.ref sa2) := by rw [sl_val, hsa2]; rfl
    have O7 := O5.call .all O6
    have hD2 := O7.get (a := g2.D) (o := .dK (wD g2)) (.head _)
    have hA2 := O7.get (a := g2.AD) (o := .dK (atD g2.at_)) (.tail _ (.head _))
    have hS2 := O7.get (a := g2.SD) (o := .dK (slD g2.sl)) (.tail _ (.tail _ (.head _)))
    have hvA2 : valV (wD g2) (Sum.inr "at") = some (.ref g2.AD) := rfl
    have hvS2 : valV (wD g2) (Sum.inr "slots") = some (.ref g2.SD) := rfl
    rw [← eD]
    clear O5 O6
    have BO := Box.mk O7
    clear O7
    walk_at "s"
    have hdr := atD_drop hkeys2 (noS_of hn)
    have O8 := BO.out.wr (a := g2.AD) (o' := .dK (dropK (atD g2.at_) (Sum.inr (S (pathT p))))) (.there .here)
    have hS8 := O8.get (a := g2.SD) (o := .dK (slD g2.sl)) (.tail _ (.tail _ (.head _)))
    refine ⟨hS8, Eq.refl (kV (Sum.inl n0)), hvs2, ?_⟩
    rw [hdr] at O8 ⊢
    have O8 : Own H (upd H4 g2.AD (.dK (atD (dropP g2.at_ p)))) (adr (cMW g)) (cMW { g2 with at_ := dropP g2.at_ p }) := O8
    generalize upd H4 g2.AD _ = H6 at O8 ⊢
    rw [show dropK (slD g2.sl) (Sum.inl n0) = slD (dropA g2.sl n0) from dropA_val (fun x : Addr × List (Option Nm) => V.ref x.1) g2.sl n0]
    have O9 := O8.wr (a := g2.SD) (o' := .dK (slD (dropA g2.sl n0))) (.there (.there .here))
    refine k _ rfl _ { g2 with at_ := dropP g2.at_ p, sl := dropA g2.sl n0 } (O9.drop (.cons₂ _ (.cons₂ _ (.cons₂ _ (.cons₂ _ (.cons₂ _ (.append (List.filter_sublist.map _) (.refl _)))))))) ?_ eD
    have ega : g2.abs.sl = setA g.abs.sl k0 (freeO os (lastN p)) := by rw [eg]
    unfold freedM
    rw [e1, e2]
    show ({ g2.abs with at_ := dropP g2.at_ p, sl := (dropA g2.sl n0).map fun x => (x.1, x.2.2) } : MW) = _
    rw [← dropA_map (fun x : Addr × List (Option Nm) => x.2)]
    show ({ g2.abs with at_ := dropP g2.at_ p, sl := dropA g2.abs.sl n0 } : MW) = _
    rw [ega, eg, eat]
    rfl

open SX (S)
def sp__law_moved (K : PySem.W.Frag) : Sp := sp3 fun x y w H Q _ => ∃ g z z2, x = .ref g.D ∧ y = .str (S z) ∧ w = .str (S z2) ∧ AsT z ∧ AsT z2 ∧ Own H H (adr (cMW g)) (cMW g) ∧ MOk g.abs ∧ MUp g.abs ∧ AnsN H g (moveM g.abs z z2) Q
structure MvI (n : Nat) (l : Pt) (rest : List (List Nm)) : Prop where
  nos : ∀ x ∈ l, NoS x.1
  len : l.length ≤ n
  mem : ∀ p ∈ rest, p ∈ l.map (·.1)
theorem putP_mem {l : Pt} {q : List Nm} {j : Int} {x : List Nm × Int} (h : x ∈ putP l q j) : x ∈ l ∨ x.1 = q := by
  unfold putP at h
  split at h
  · obtain ⟨y, hy, e⟩ := List.mem_map.mp h
    split at e
    · exact .inr (by rw [← e])
    · exact .inl (e ▸ hy)
  · rcases List.mem_append.mp h with z | z
    · exact .inl z
    · exact .inr (by rw [List.mem_singleton.mp z])
theorem putP_keys {l : Pt} {q : List Nm} {j : Int} {p : List Nm} (h : p ∈ l.map (·.1)) : p ∈ (putP l q j).map (·.1) := by
  unfold putP
  split
  · obtain ⟨y, hy, rfl⟩ := List.mem_map.mp h
    rw [List.map_map]
    refine List.mem_map.mpr ⟨y, hy, ?_⟩
    show (if y.1 = q then (q, j) else y).1 = y.1
    by_cases e : y.1 = q
    · rw [if_pos e]; exact e.symm
    · rw [if_neg e]
  · rw [List.map_append]; exact List.mem_append_left _ h
theorem putP_len (l : Pt) (q : List Nm) (j : Int) : (putP l q j).length ≤ l.length + 1 := by
  unfold putP
  split
  · rw [List.length_map]; omega
  · rw [List.length_append]; exact Nat.le_refl _
theorem dropP_len {l : Pt} {p : List Nm} (h : p ∈ l.map (·.1)) : (dropP l p).length + 1 ≤ l.length := by
  induction l with
  | nil => cases h
  | cons x r ih =>
    unfold dropP at ih ⊢
    rw [List.filter_cons]
    by_cases e : x.1 = p
    · rw [if_neg (by simpa using e), List.length_cons]
      have := List.length_filter_le (fun x : List Nm × Int => decide (x.1 ≠ p)) r
      omega
    · rw [if_pos (by simpa using e), List.length_cons, List.length_cons]
      have h2 : p ∈ r.map (·.1) := by
        rcases List.mem_cons.mp h with z | z
        · exact absurd z.symm e
        · exact z
      have := ih h2
      omega
theorem dropP_keys {l : Pt} {p q : List Nm} (h : q ∈ l.map (·.1)) (hne : q ≠ p) : q ∈ (dropP l p).map (·.1) := by
  obtain ⟨y, hy, rfl⟩ := List.mem_map.mp h
  exact List.mem_map.mpr ⟨y, List.mem_filter.mpr ⟨hy, decide_eq_true hne⟩, rfl⟩
theorem MvI.step {n : Nat} {l : Pt} {q0 q1 p : List Nm} {rest : List (List Nm)} (I : MvI n l (p :: rest)) (nd : (p :: rest).Nodup) (hq : NoS q1) : MvI n (stepP q0 q1 l p) rest := by
  unfold stepP
  split
  · have hp := I.mem p (.head _)
    obtain ⟨y, hy, e⟩ := List.mem_map.mp hp
    have hpn : NoS p := e ▸ I.nos y hy
    refine ⟨fun x hx => ?_, ?_, fun r hr => ?_⟩
    · rcases putP_mem hx with z | z
      · exact I.nos x (List.mem_filter.mp z).1
      · rw [z]
        intro m hm
        rcases List.mem_append.mp hm with z | z
        · exact hq m z
        · exact hpn m (List.mem_of_mem_drop z)
    · have h1 := putP_len (dropP l p) (q1 ++ p.drop q0.length) ((l.lookup p).getD 0)
      have h2 := dropP_len hp
      have := I.len
      omega
    · exact putP_keys (dropP_keys (I.mem r (.tail _ hr)) fun e => (List.nodup_cons.mp nd).1 (e ▸ hr))
  · exact ⟨I.nos, I.len, fun r hr => I.mem r (.tail _ hr)⟩
theorem atD_put {l : Pt} (h : ∀ x ∈ l, NoS x.1) {q : List Nm} (hq : NoS q) (j : Int) : putK (atD l) (Sum.inr (S (pathT q))) (V.int j) = atD (putP l q j) := by
  by_cases hm : q ∈ l.map (·.1)
  · have e1 : putP l q j = l.map (fun x => if x.1 = q then (q, j) else x) := by unfold putP; rw [if_pos hm]
    have e2 : ((atD l).any fun p => decide (p.1 = (Sum.inr (S (pathT q)) : Key))) = true := by
      obtain ⟨y, hy, rfl⟩ := List.mem_map.mp hm
      exact List.any_eq_true.mpr ⟨_, List.mem_map.mpr ⟨y, hy, rfl⟩, decide_eq_true rfl⟩
    unfold putK
    rw [if_pos e2, e1]
    show (l.map _).map _ = (l.map _).map _
    rw [List.map_map, List.map_map]
    refine List.map_congr_left fun x hx => ?_
    show (if (Sum.inr (S (pathT x.1)) : Key) = Sum.inr (S (pathT q)) then ((Sum.inr (S (pathT x.1)) : Key), V.int j) else (Sum.inr (S (pathT x.1)), V.int x.2)) = ((Sum.inr (S (pathT (if x.1 = q then (q, j) else x).1)) : Key), V.int (if x.1 = q then (q, j) else x).2)
    by_cases e : x.1 = q
    · rw [if_pos (by rw [e]), if_pos e, e]
    · rw [if_neg (fun z => e (pathT_inj (h x hx) hq (SX.S_inj (Sum.inr.inj z)))), if_neg e]
  · rw [atD_new h hq (pk_none.mpr hm)]
    unfold putP
    rw [if_neg hm]
theorem cat47 (a : List Nat) : S a ++ ("/" : Str) = S (a ++ [47]) := by
  rw [stroke_eq]
  apply congrArg Str.mk
  show a.toArray ++ [47].toArray = _
  simp
theorem starts_in {q p : List Nm} (hq : NoS q) (hp : NoS p) : Txt.startswith (S (pathT p) ++ ("/" : Str)) (S (pathT q) ++ ("/" : Str)) = decide (q <+: p) := by
  rw [cat47, cat47, starts_iff]
  exact decide_eq_decide.mpr (pre_in hq hp)
theorem starts_below {q p : List Nm} (hq : NoS q) (hp : NoS p) : Txt.startswith (S (pathT p)) (S (pathT q) ++ ("/" : Str)) = belowB q p := by
  rw [cat47, starts_iff, Bool.eq_iff_iff, decide_eq_true_iff, below_iff]
  exact pre_below hq hp
theorem sc__law_moved : FnScope ["_law_world", "_law_path_here", "_law_new", "_law_word", "_law_text", "_law_place", "_law_apart", "_law_old", "_law_later"] ["_law_world", "_law_path_here", "_law_new"] (defScope s__law_moved) := ⟨rfl, rfl, rfl, by decide +kernel, rfl, by decide +kernel, by decide +kernel⟩
theorem ok__law_moved {P : Program} {w : World} {K : PySem.W.Frag} {mg : Str → Option Value} {base : Heap} (T : Txt K mg) : Cee P w K mg base 4 (He.fAd K ("_law_moved", none)) ["_law_world", "_law_path_here", "_law_new"] (sp__law_moved K) := by
  have c__law_names : Cee P w K mg base 1 (He.fAd K ("_law_names", none)) ["_law_path_here"] (sp__law_names K) := ok__law_names T
  have c__law_found : Cee P w K mg base 2 (He.fAd K ("_law_found", none)) ["_law_world", "_law_path_here"] (sp__law_found K) := ok__law_found T
  have c__law_spot : Cee P w K mg base 2 (He.fAd K ("_law_spot", none)) ["_law_world", "_law_path_here"] (sp__law_spot K) := ok__law_spot T
  have c__law_full : Cee P w K mg base 1 (He.fAd K ("_law_full", none)) ["_law_world", "_law_text"] (sp__law_full K) := ok__law_full T
  have c__law_lacks : Cee P w K mg base 3 (He.fAd K ("_law_lacks", none)) ["_law_world", "_law_text"] (sp__law_lacks K) := ok__law_lacks T
  have c__law_freed : Cee P w K mg base 1 (He.fAd K ("_law_freed", none)) ["_law_world", "_law_text"] (sp__law_freed K) := ok__law_freed T
  have c__law_put : Cee P w K mg base 1 (He.fAd K ("_law_put", none)) ["_law_world", "_law_text", "_law_path_here", "_law_node_here"] (sp__law_put K) := ok__law_put T
  refine cee_of T.d__law_moved sc__law_moved (fun _ _ _ _ _ _ us hl => match us, hl with | [_, _, _], _ => rfl) (fun vs H Q E h => sp3_len h) (fun cdv A outer s H vs Q E hr h => ⟨_, (pss_cons (PS.box (ps_if (PW.pt (pw_or (pt_cmpR op_isN (pe_f c__law_names (hr.mono (by decide)) (takes_of rfl rfl rfl rfl) (by rfl) T.g__law_names (pa_cons (pv 1) pa_nil)) pe_non (nomark _)) (pw_or1 (pt_cmpR op_isN (pe_f c__law_names (hr.mono (by decide)) (takes_of rfl rfl rfl rfl) (by rfl) T.g__law_names (pa_cons (pv 2) pa_nil)) pe_non (nomark _))))) (pss_one (ps_ret pe_str)) pss_nil)) (pss_cons (ps_if (pt_cmpR op_eq (pv 1) pe_str (nomark _)) (pss_one (ps_ret pe_str)) pss_nil) (pss_cons (ps_asg (pe_f c__law_found (hr.mono (by decide)) (takes_of rfl rfl rfl rfl) (by rfl) T.g__law_found (pa_cons (pv 0) (pa_cons (pv 1) pa_nil))) (pg_tup rfl (pgs_cons (pg_name (i := 3) sc__law_moved.nd rfl (Or.inl rfl)) (pgs_cons (pg_name (i := 4) sc__law_moved.nd rfl (Or.inl rfl)) pgs_nil)))) (pss_cons (ps_if (pt_cmpR op_ne (pv 3) pe_str (nomark _)) (pss_one (ps_ret (pv 3))) pss_nil) (pss_cons (ps_asg (pe_f c__law_spot (hr.mono (by decide)) (takes_of rfl rfl rfl rfl) (by rfl) T.g__law_spot (pa_cons (pv 0) (pa_cons (pv 2) pa_nil))) (pg_tup rfl (pgs_cons (pg_name (i := 3) sc__law_moved.nd rfl (Or.inl rfl)) (pgs_cons (pg_name (i := 5) sc__law_moved.nd rfl (Or.inl rfl)) pgs_nil)))) (pss_cons (ps_if (pt_cmpR op_ne (pv 3) pe_str (nomark _)) (pss_one (ps_ret (pv 3))) pss_nil) (pss_cons (PS.box (ps_if (PW.pt (pw_and (pt_val (pe_bm PySem.F.plainAttrs_str PySem.F.slot_str_startswith PySem.F.type_str_startswith mt_startswith (pe_op op_add_str (pv 5) pe_str) (pa_cons (pe_op op_add_str (pv 4) pe_str) pa_nil))) (pw_and1 (pt_cmp (pc_din (hu_of hr) (pe_dget (hu_of hr) (pe_dget (hu_of hr) (pv 0) pe_str (fun _ _ => rfl)) (pv 4) (fun _ _ => rfl)) (pe_dget (hu_of hr) (pv 0) pe_str (fun _ _ => rfl))) (by with_unfolding_all rfl))))) (pss_one (ps_ret pe_str)) pss_nil)) (pss_cons (ps_set (i := 6) sc__law_moved.nd rfl (Or.inl rfl) (pe_cmpR op_ne (pv 5) (pe_slice sl_str (pv 4) po_none (po_some (pe_bm PySem.F.plainAttrs_str PySem.F.slot_str_rfind PySem.F.type_str_rfind mt_rfind (pv 4) (pa_cons pe_str pa_nil)))) (nomark _))) (pss_cons (PS.box (ps_if (PW.pt (pw_and (pt_val (pv 6)) (pw_and1 (pt_val (pe_f c__law_full (hr.mono (by decide)) (takes_of rfl rfl rfl rfl) (by rfl) T.g__law_full (pa_cons (pv 0) (pa_cons (pv 5) pa_nil))))))) (pss_one (ps_ret pe_str)) pss_nil)) (pss_cons (PS.box (ps_if (PW.pt (pw_and (pt_val (pv 6)) (pw_and1 (pt_val (pe_f c__law_lacks (hr.mono (by decide)) (takes_of rfl rfl rfl rfl) (by rfl) T.g__law_lacks (pa_cons (pv 0) (pa_cons (pv 5) pa_nil))))))) (pss_one (ps_ret pe_str)) pss_nil)) (pss_cons (ps_expr (pe_f c__law_freed (hr.mono (by decide)) (takes_of rfl rfl rfl rfl) (by rfl) T.g__law_freed (pa_cons (pv 0) (pa_cons (pv 4) pa_nil)))) (pss_cons (ps_expr (pe_f c__law_put (hr.mono (by decide)) (takes_of rfl rfl rfl rfl) (by rfl) T.g__law_put (pa_cons (pv 0) (pa_cons (pv 5) (pa_cons (pv 2) (pa_cons (pe_dpop1 (pe_dget (hu_of hr) (pv 0) pe_str (fun _ _ => rfl)) (pv 4) ⟨rfl, rfl, rfl, rfl⟩) pa_nil)))))) (pss_cons (ps_for (passes_of rfl) rfl (PI.box (pi_list (pe_callTy (call_listK rfl) (by rfl) T.n_list (by decide +kernel) (pa_cons (pe_bm0 PySem.F.plainAttrs_dict PySem.F.slot_dict_keys PySem.F.type_dict_keys mt_keys (pe_dget (hu_of hr) (pv 0) pe_str (fun _ _ => rfl))) pa_nil)))) (pg_name (i := 7) sc__law_moved.nd rfl (Or.inl rfl)) (pss_one (ps_if (pt_val (pe_bm PySem.F.plainAttrs_str PySem.F.slot_str_startswith PySem.F.type_str_startswith mt_startswith (pv 7) (pa_cons (pe_op op_add_str (pv 4) pe_str) pa_nil))) (pss_cons (ps_set (i := 8) sc__law_moved.nd rfl (Or.inl rfl) (pe_op op_add_str (pv 2) (pe_slice sl_str (pv 7) (po_some (pe_callB call_len_str (by rfl) T.n_len (by decide +kernel) (pa_cons (pv 4) pa_nil))) po_none))) (pss_one (ps_dput (hu_of hr) (pe_dget (hu_of hr) (pv 0) pe_str (fun _ _ => rfl)) (pv 8) (pe_dpop1 (pe_dget (hu_of hr) (pv 0) pe_str (fun _ _ => rfl)) (pv 7) ⟨rfl, rfl, rfl, rfl⟩) rfl))) pss_nil))) (pss_one (ps_ret pe_non))))))))))))))), ?_⟩)
  obtain ⟨v0, v1, v2, rfl, h⟩ := h
  dsimp only [cxOf, L2.start]
  obtain ⟨g, z, z2, rfl, rfl, rfl, hz, hz2, O, M, U, ke, k⟩ := h
  unfold moveM withN at ke k
  walk_at "s"
  walk_at "b"
  walk_at "s"
  refine ask1 ⟨z, rfl, hz.tx, hz.asc, fun hn H1 O1 => ?_, fun n hn H1 b1 O1 => ?_⟩
  · rw [hn] at ke
    walk_at "s"
    exact ke _ rfl _ (O.callN O1)
  rw [hn] at ke k
  dsimp only at ke k
  have O2 := (O.callN O1).drop (cs' := cMW g) (.cons _ (.refl _))
  walk_at "s"
  refine ask1 ⟨z2, rfl, hz2.tx, hz2.asc, fun hn2 H2 O3 => ?_, fun o hn2 H2 b2 O3 => ?_⟩
  · rw [hn2] at ke
    walk_at "s"
    exact ke _ rfl _ (O2.callN O3)
  rw [hn2] at ke k
  dsimp only at ke k
  have O4 := (O2.callN O3).drop (cs' := cMW g) (.cons _ (.refl _))
  clear O O1 O2 O3
  walk_at "s"
  refine if_ss (fun h1 => ?_) (fun h1 => ?_)
  · have hz0 : n = [] := by
      rcases namesL_text hn with ⟨h, _⟩ | ⟨h, e⟩
      · exact h
      · exfalso
        have e1 : z = [47] := SX.S_inj (h1.trans (by decide +kernel : ("/" : Str) = S [47]))
        unfold namesL at hn
        rw [if_pos e1] at hn
        cases hn
        exact h rfl
    rw [if_pos hz0] at ke
    walk_at "s"
    exact ke .notAllowed rfl _ O4
  have hnne : n ≠ [] := by
    rintro rfl
    rcases namesL_text hn with ⟨_, h⟩ | ⟨h, _⟩
    · exact h1 (by rw [h]; decide +kernel)
    · exact h rfl
  rw [if_neg hnne] at ke k
  walk_at "s"
  refine ask2 ⟨g, z, rfl, rfl, hz, O4.blk (s' := []) .all, M, fun e he H3 T O5 hT => ?_, fun p hp H3 T O5 hT => ?_⟩
  · rw [he] at ke
    have hw := word_ne e
    walk_at "s"
    refine if_nss (fun _ => ?_) (fun q => absurd q hw)
    walk_at "s"
    exact ke _ rfl _ (O4.call .all O5)
  rw [hp] at ke k
  obtain ⟨hn3, n0, hn0⟩ := found_ok M hp
  cases hn.symm.trans hn3
  dsimp only at ke k
  have O6 := O4.call .all O5
  clear O4 O5
  walk_at "s"
  refine ask2 ⟨g, z2, rfl, rfl, hz2, O6.blk (s' := []) .all, M, fun e he H4 T2 O7 hT2 => ?_, fun pl hpl H4 T2 O7 hT2 => ?_⟩
  · rw [he] at ke
    have hw := word_ne e
    walk_at "s"
    refine if_nss (fun _ => ?_) (fun q => absurd q hw)
    walk_at "s"
    exact ke _ rfl _ (O6.call .all O7)
  rw [hpl] at ke k
  obtain ⟨names, k1, os1, hn4, hone, rfl, hk1, hs1, hno1, hce1⟩ := spot_ok M hpl
  cases hn2.symm.trans hn4
  obtain ⟨hk1', ⟨sa1, hsa1⟩, e1, e2⟩ := atS hk1 hs1
  dsimp only at ke k
  rw [e1] at ke k
  have O8 := O6.call .all O7
  clear O6 O7
  have hD := O8.get (a := g.D) (o := .dK (wD g)) (.head _)
  have hA := O8.get (a := g.AD) (o := .dK (atD g.at_)) (.tail _ (.head _))
  have hS := O8.get (a := g.SD) (o := .dK (slD g.sl)) (.tail _ (.tail _ (.head _)))
  have hvA : valV (wD g) (Sum.inr "at") = some (.ref g.AD) := rfl
  have hvS : valV (wD g) (Sum.inr "slots") = some (.ref g.SD) := rfl
  have hkeys : ∀ x ∈ g.at_, NoS x.1 := fun x hx => (M.names x hx).1
  have hn0' : g.at_.lookup n = some n0 := hn0
  have hva : valV (atD g.at_) (Sum.inr (S (pathT n))) = some (.int n0) := by rw [at_val hkeys (noS_of hn), hn0']; rfl
  have enod : nodM g.abs n = n0 := by
    unfold nodM
    rw [hn0]
    rfl
  rw [enod, abs_sl, Option.isSome_map] at ke k
  have hnt := (M.names _ (lkL_mem hn0)).2
  have hot := (M.names _ (lkL_mem hk1')).2
  have hnp : (pathT n).length ≤ 7 * n.length := pathT_len fun m hm => (hnt.1 m hm).1
  have hop : (pathT o.dropLast).length ≤ 7 * o.dropLast.length := pathT_len fun m hm => (hot.1 m hm).1
  have hn30 : n.length ≤ 30 := hnt.2
  have ho30 : o.dropLast.length ≤ 30 := hot.2
  have hz1 : (S (pathT n)).length + ("/" : Str).length ≤ sizeLine := sz_le (by rw [SX.S_len, show ("/" : Str).length = 1 by decide +kernel]; omega)
  have hz3 : (S (pathT o.dropLast)).length + ("/" : Str).length ≤ sizeLine := sz_le (by rw [SX.S_len, show ("/" : Str).length = 1 by decide +kernel]; omega)
  have BO := Box.mk O8
  walk_at "clo"
  walk_at "s"
  refine if_nss (fun q => absurd rfl q) (fun _ => ?_)
  walk_at "s"
  have hnsn := noS_of hn
  have hnso : NoS o.dropLast := fun m h => noS_of hn2 m (List.dropLast_subset _ h)
  have hst := starts_in hnsn hnso
  obtain ⟨hr1, hr2, _⟩ := rf_cut hnsn hnne
  refine cutS (fun σ' H2 => ∃ v6 v7 v8 : Option V, σ' = [some (.ref g.D), some (.str (S z)), some (.str (S z2)), some (.str ""), some (.str (S (pathT n))), some (.str (S (pathT o.dropLast))), v6, v7, v8] ∧ H2 = H4 ∧ ¬ (n <+: o.dropLast ∧ (g.sl.lookup n0).isSome = true)) (fun nx hnx => ?_) ?_
  · walk_at "s"
    rw [hst]
    refine if_d (fun h2 => ?_) (fun h2 => ?_)
    · walk_at "s"
      rw [sl_val, Option.isSome_map]
      refine if_b (fun h3 => ?_) (fun h3 => ?_)
      · rw [if_pos ⟨h2, h3⟩] at ke
        walk_at "s"
        exact ke .inside rfl _ BO.out
      · exact hnx _ _ ⟨_, _, _, rfl, rfl, fun q => by rw [h3] at q; cases q.2⟩
    · exact hnx _ _ ⟨_, _, _, rfl, rfl, fun q => h2 q.1⟩
  rintro σ' H2 ⟨v6, v7, v8, rfl, rfl, hni⟩
  rw [if_neg hni] at ke k
  walk_at "s"
  rw [hr2]
  walk_at "s"
  have hnd2 : NoS n.dropLast := fun m h => hnsn m (List.dropLast_subset _ h)
  have hap : (!decide (V.str (S (pathT o.dropLast)) = V.str (S (pathT n.dropLast)))) = decide (o.dropLast ≠ n.dropLast) := by
    by_cases e : o.dropLast = n.dropLast
    · rw [e]; simp
    · rw [decide_eq_false (fun z => e (pathT_inj hnso hnd2 (SX.S_inj (V.str.inj z)))), decide_eq_true e]; rfl
  rw [hap]
  walk_at "s"
  refine cutS (fun σ' H3 => ∃ v7 v8 : Option V, σ' = [some (.ref g.D), some (.str (S z)), some (.str (S z2)), some (.str ""), some (.str (S (pathT n))), some (.str (S (pathT o.dropLast))), some (.bl (decide (o.dropLast ≠ n.dropLast))), v7, v8] ∧ H3 = H2 ∧ ¬ (o.dropLast ≠ n.dropLast ∧ fullO os1 = true)) (fun nx hnx => ?_) ?_
  · walk_at "s"
    refine if_d (fun h2 => ?_) (fun h2 => ?_)
    · walk_at "s"
      refine ask2 ⟨g, o.dropLast, k1, sa1, os1, rfl, rfl, hnso, BO.out.blk (s' := []) .all, M, hk1', hsa1, ?_⟩
      refine ⟨_, rfl, ?_⟩
      refine if_b (fun h3 => ?_) (fun h3 => ?_)
      · rw [if_pos ⟨h2, h3⟩] at ke
        walk_at "s"
        exact ke .tooMany rfl _ BO.out
      · exact hnx _ _ ⟨_, _, rfl, rfl, fun q => by rw [h3] at q; cases q.2⟩
    · exact hnx _ _ ⟨_, _, rfl, rfl, fun q => h2 q.1⟩
  rintro σ' H3 ⟨v7, v8, rfl, rfl, hnf⟩
  rw [if_neg hnf] at ke k
  refine cutS (fun σ' H4 => ∃ v7 v8 : Option V, σ' = [some (.ref g.D), some (.str (S z)), some (.str (S z2)), some (.str ""), some (.str (S (pathT n))), some (.str (S (pathT o.dropLast))), some (.bl (decide (o.dropLast ≠ n.dropLast))), v7, v8] ∧ Own H H4 (adr (cMW g)) (cMW g) ∧ ¬ (o.dropLast ≠ n.dropLast ∧ growM g.abs os1 = true)) (fun nx hnx => ?_) ?_
  · walk_at "s"
    refine if_d (fun h2 => ?_) (fun h2 => ?_)
    · walk_at "s"
      refine ask2 ⟨g, o.dropLast, k1, sa1, os1, rfl, rfl, hnso, BO.out.blk (s' := []) .all, M, hk1', hsa1, fun H5 O5 => ?_⟩
      have O6 := BO.out.call .all O5
      refine ⟨_, rfl, ?_⟩
      refine if_b (fun h3 => ?_) (fun h3 => ?_)
      · rw [if_pos ⟨h2, h3⟩] at ke
        walk_at "s"
        exact ke .noSpace rfl _ O6
      · exact hnx _ _ ⟨_, _, rfl, O6, fun q => by rw [h3] at q; cases q.2⟩
    · exact hnx _ _ ⟨_, _, rfl, BO.out, fun q => h2 q.1⟩
  clear BO
  rintro σ' H4 ⟨v7, v8, rfl, O9, hng⟩
  rw [if_neg hng] at ke k
  clear ke
  obtain ⟨k0, os, hk, hs, hmem⟩ := U.up n n0 hn0 hnne
  obtain ⟨hk', ⟨sa, hsa⟩, e3, e4⟩ := atS hk hs
  have BO := Box.mk O9
  walk_at "s"
  refine ask2 ⟨g, n, k0, sa, os, rfl, rfl, hnsn, hnne, fun m hm => (hnt.1 m hm).1, Nat.le_trans hnt.2 (by decide), O9.blk (s' := []) .all, M, hk', hsa, hmem, fun H5 g2 O6 eg eD => ?_⟩
  have M2 : MOk g2.abs := by
    rw [eg]
    exact M.setSl hs (by rw [freeO_len]; exact M.slen (k0, os) (lk_mem hs))
  have eat : g2.at_ = g.at_ := by
    have : g2.abs.at_ = g.abs.at_ := by rw [eg]
    exact this
  have hn2' : g2.at_.lookup n = some n0 := by rw [eat]; exact hn0
  have hkeys2 : ∀ x ∈ g2.at_, NoS x.1 := by rw [eat]; exact hkeys
  have hva2 : valV (atD g2.at_) (Sum.inr (S (pathT n))) = some (.int n0) := by rw [at_val hkeys2 hnsn, hn2']; rfl
  have O10 := O9.call .all O6
  have hD2 := O10.get (a := g2.D) (o := .dK (wD g2)) (.head _)
  have hA2 := O10.get (a := g2.AD) (o := .dK (atD g2.at_)) (.tail _ (.head _))
  have hvA2 : valV (wD g2) (Sum.inr "at") = some (.ref g2.AD) := rfl
  rw [← eD]
  clear O6 O9 hD hA hS BO
  have BO := Box.mk O10
  walk_at "clo"
  walk_at "s"
  have hdr := atD_drop hkeys2 hnsn
  have O11 := BO.out.wr (a := g2.AD) (o' := .dK (dropK (atD g2.at_) (Sum.inr (S (pathT n))))) (.there .here)
  rw [hdr] at O11 ⊢
  have O11 : Own H (upd H5 g2.AD (.dK (atD (dropP g2.at_ n)))) (adr (cMW g)) (cMW { g2 with at_ := dropP g2.at_ n }) := O11
  generalize upd H5 g2.AD _ = H6 at O11 ⊢
  have M3 : MOk ({ g2 with at_ := dropP g2.at_ n } : MG).abs := M2.dropAt hnne
  have hone2 := noS_of hn2
  have hne12 : o.dropLast ≠ n := by
    intro e
    refine hni ⟨by rw [e]; exact List.prefix_refl _, ?_⟩
    rw [e] at hk1'
    cases hn0'.symm.trans hk1'
    rw [hsa1]
    rfl
  have hk2 : ({ g2 with at_ := dropP g2.at_ n } : MG).at_.lookup o.dropLast = some k1 := by
    show (dropP g2.at_ n).lookup o.dropLast = _
    rw [pk_dropP, if_neg hne12, eat]
    exact hk1
  have hsg : g2.abs.sl = setA g.abs.sl k0 (freeO os (lastN n)) := by rw [eg]
  obtain ⟨os2, hs2⟩ : ∃ os2, g2.abs.sl.lookup k1 = some os2 := by
    rw [hsg, lk_setA, hs]
    split
    · exact ⟨_, rfl⟩
    · exact ⟨os1, hs1⟩
  obtain ⟨hk2', ⟨sa2, hsa2⟩, e5, e6⟩ := atS (g := { g2 with at_ := dropP g2.at_ n }) hk2 hs2
  have hno2 : ({ g2 with at_ := dropP g2.at_ n } : MG).at_.lookup o = none := by
    show (dropP g2.at_ n).lookup o = _
    rw [pk_dropP]
    split
    · rfl
    · rw [eat]; exact hno1
  have hzt : z2 = pathT o := by
    rcases namesL_text hn2 with ⟨h, _⟩ | ⟨_, h⟩
    · exact absurd h hone
    · exact h
  subst hzt
  have hn6 : ∀ m ∈ o, m.length ≤ 6 := fun m h => (names_ok hn2 m h).1
  clear BO
  walk_at "s"
  refine ask4 ⟨{ g2 with at_ := dropP g2.at_ n }, o.dropLast, o, k1, sa2, n0, os2, rfl, rfl, rfl, rfl, hone2, hone, rfl, hn6, ho30, O11.blk (s' := []) .all, M3, hk2', hsa2, hno2, fun H7 g3 O12 eg3 eD3 => ?_⟩
  have O13 := O11.call .all O12
  have ea3 : g3.at_ = dropP g.at_ n ++ [(o, n0)] := by
    have h : g3.abs.at_ = dropP g2.at_ n ++ [(o, n0)] := by rw [eg3]
    rw [eat] at h
    exact h
  have hD3 := O13.get (a := g3.D) (o := .dK (wD g3)) (.head _)
  have hA3 := O13.get (a := g3.AD) (o := .dK (atD g3.at_)) (.tail _ (.head _))
  have hvA3 : valV (wD g3) (Sum.inr "at") = some (.ref g3.AD) := rfl
  have eD3' : g3.D = g2.D := eD3
  rw [← eD3']
  clear O11 O12 hD2 hA2
  have BO := Box.mk O13
  walk_at "clo"
  walk_at "s"
  intro r1 hr1
  have O14 := BO.out.new (o := KO r1 g3.AD) hr1
  generalize upd H7 r1 _ = H8 at O14 ⊢
  refine ⟨r1, g3.AD, atD g3.at_, rfl, O14.get (.head _), .inl (O14.get (.tail _ (.tail _ (.head _)))), fun q1 hq1 => ?_⟩
  have O15 := (O14.new (o := .lst ((atD g3.at_).map fun kv => kV kv.1)) hq1).drop (cs' := (q1, .lst ((atD g3.at_).map fun kv => kV kv.1)) :: cMW g3) (.cons₂ _ (.cons _ (.refl _)))
  generalize upd H8 q1 _ = H9 at O15 ⊢
  clear O14 hr1 hq1 hD3 hA3 BO
  have hks : ((atD g3.at_).map fun kv => kV kv.1) = (g3.at_.map (·.1)).map fun p => V.str (S (pathT p)) := by rw [List.map_map, List.map_map]; rfl
  rw [hks] at O15
  have hq1s : SqL K H9 q1 ((g3.at_.map (·.1)).map fun p => V.str (S (pathT p))) := SqL.of (O15.get (.head _))
  have hol6 := pathT_len hn6
  have hol31 : o.length ≤ 31 := by rw [List.length_dropLast] at ho30; omega
  have hsub3 : List.Sublist (dropP g.at_ n) g.at_ := List.filter_sublist
  have hfew : g.at_.length ≤ 1000 := M.few
  have h3len : g3.at_.length ≤ 1001 := by rw [ea3, List.length_append]; have := hsub3.length_le; show _ + 1 ≤ 1001; omega
  have h3key : ∀ p ∈ g3.at_.map (·.1), NoS p ∧ (∀ m ∈ p, m.length ≤ 6) ∧ p.length ≤ 31 := by
    intro p hp
    rw [ea3, List.map_append] at hp
    rcases List.mem_append.mp hp with z | z
    · obtain ⟨y, hy, rfl⟩ := List.mem_map.mp z
      have := M.names y (hsub3.subset hy)
      exact ⟨this.1, fun m hm => (this.2.1 m hm).1, Nat.le_trans this.2.2 (by decide)⟩
    · rw [List.map_cons, List.map_nil, List.mem_singleton] at z
      rw [z]
      exact ⟨hone2, hn6, hol31⟩
  have h3nd : (g3.at_.map (·.1)).Nodup := by
    rw [ea3, List.map_append]
    refine List.nodup_append.mpr ⟨(hsub3.map _).nodup M.ndk, by simp, fun a ha b hb e => ?_⟩
    rw [List.map_cons, List.map_nil, List.mem_singleton] at hb
    rw [e, hb] at ha
    exact pk_none.mp hno1 ((hsub3.map _).subset ha)
  walk_at "s"
  refine forL (xs := (g3.at_.map (·.1)).map fun p => V.str (S (pathT p))) (fun i σ H' => ∃ (v7 v8 : Option V) (l : Pt), σ = [some (.ref g3.D), some (.str (S z)), some (.str (S (pathT o))), some (.str ""), some (.str (S (pathT n))), some (.str (S (pathT o.dropLast))), some (.bl (decide (o.dropLast ≠ n.dropLast))), v7, v8] ∧ Own H H' (adr (cMW g)) ((q1, .lst ((g3.at_.map (·.1)).map fun p => V.str (S (pathT p)))) :: cMW { g3 with at_ := l }) ∧ MvI 1001 l ((g3.at_.map (·.1)).drop i) ∧ l = ((g3.at_.map (·.1)).take i).foldl (stepP n o) g3.at_) ⟨_, _, g3.at_, rfl, O15, ⟨fun x hx => (h3key x.1 (List.mem_map.mpr ⟨x, hx, rfl⟩)).1, h3len, fun p hp => by rw [List.drop_zero] at hp; exact hp⟩, rfl⟩ (fun i σ H' _ ⟨_, _, _, _, O, _⟩ => SqL.of (O.get (.head _))) ?_ ?_
  · rintro i x σ H' hx ⟨v7, v8, l, rfl, O16, I, hl⟩
    rw [List.getElem?_map] at hx
    obtain ⟨p, hp, rfl⟩ := Option.map_eq_some_iff.mp hx
    obtain ⟨kp1, kp2, kp3⟩ := h3key p (List.mem_of_getElem? hp)
    have hstb := starts_below hnsn kp1
    have hpl := pathT_len kp2
    have hD := O16.get (a := g3.D) (o := .dK (wD g3)) (.tail _ (.head _))
    have hA := O16.get (a := g3.AD) (o := .dK (atD l)) (.tail _ (.tail _ (.head _)))
    have hdrop : (g3.at_.map (·.1)).drop i = p :: (g3.at_.map (·.1)).drop (i + 1) := by
      have hi := (List.getElem?_eq_some_iff.mp hp).1
      rw [List.drop_eq_getElem_cons hi]
      congr 1
      rw [List.getElem?_eq_getElem hi] at hp
      exact Option.some.inj hp
    rw [hdrop] at I
    have hnd3 : (p :: (g3.at_.map (·.1)).drop (i + 1)).Nodup := by rw [← hdrop]; exact (List.drop_sublist _ _).nodup h3nd
    have I2 := I.step (q0 := n) (q1 := o) hnd3 hone2
    have hstep : stepP n o l p = ((g3.at_.map (·.1)).take (i + 1)).foldl (stepP n o) g3.at_ := by
      rw [take_succ hp, List.foldl_append, ← hl]
      rfl
    have hpl2 : (pathT p).length ≤ 217 := by omega
    have hol2 : (pathT o).length ≤ 217 := by omega
    have BO := Box.mk O16
    walk_at "clo"
    walk_at "s"
    rw [hstb]
    refine if_b (fun h1 => ?_) (fun h1 => ?_)
    · obtain ⟨m, r, hpe⟩ := below_iff.mp h1
      have hdp : p.drop n.length = m :: r := by rw [hpe, drop_pre]
      have hcut : L2.cutS (S (pathT p)) (some ((S (pathT n)).length : Int)) none = S (pathT (p.drop n.length)) := by
        rw [SX.S_len, cutS_from, hdp]
        congr 1
        rw [hpe, pathT_app]
        simp
      have hcat2 : S (pathT o) ++ S (pathT (p.drop n.length)) = S (pathT (o ++ p.drop n.length)) := by
        rw [pathT_app]
        apply congrArg Str.mk
        show (pathT o).toArray ++ (pathT (p.drop n.length)).toArray = _
        simp
      have hdl : (pathT (p.drop n.length)).length ≤ 217 := by
        have h := pathT_len (p := p.drop n.length) fun m hm => kp2 m (List.mem_of_mem_drop hm)
        have h2 : (p.drop n.length).length ≤ 31 := by rw [List.length_drop]; omega
        omega
      have hzp : (S (pathT p)).length ≤ sizeLine := by rw [SX.S_len]; exact Nat.le_of_lt (sz_lt (by omega))
      have hzc : (S (pathT o)).length + (S (pathT (p.drop n.length))).length ≤ sizeLine := sz_le (by rw [SX.S_len, SX.S_len]; omega)
      have hpk := I.mem p (.head _)
      obtain ⟨v, hv⟩ : ∃ v, l.lookup p = some v := by
        cases h : l.lookup p with
        | none => exact absurd hpk (pk_none.mp h)
        | some v => exact ⟨v, rfl⟩
      have hvp : valV (atD l) (Sum.inr (S (pathT p))) = some (.int v) := by rw [at_val I.nos kp1, hv]; rfl
      walk_at "s"
      rw [hcut]
      refine ⟨hzc, ?_⟩
      rw [hcat2]
      walk_at "s"
      have hdr := atD_drop I.nos kp1
      have O17 := BO.out.wr (a := g3.AD) (o' := .dK (dropK (atD l) (Sum.inr (S (pathT p))))) (.there (.there .here))
      rw [hdr] at O17 ⊢
      generalize upd H' g3.AD _ = H2 at O17 ⊢
      have hD17 := O17.get (a := g3.D) (o := .dK (wD g3)) (.tail _ (.head _))
      have hA17 := O17.get (a := g3.AD) (o := .dK (atD (dropP l p))) (.tail _ (.tail _ (.head _)))
      have hnl : NoS (o ++ p.drop n.length) := fun a ha => by
        rcases List.mem_append.mp ha with z | z
        · exact hone2 a z
        · exact kp1 a (List.mem_of_mem_drop z)
      have hdpn : ∀ x ∈ dropP l p, NoS x.1 := fun x hx => I.nos x (List.mem_filter.mp hx).1
      have hll : (atD (dropP l p)).length < 100000 := by
        have h1 := dropP_len hpk
        have h2 := I.len
        rw [List.length_map]
        omega
      have BO7 := Box.mk O17
      walk_at "clo"
      walk_at "s"
      rw [atD_put hdpn hnl]
      have hs2 : stepP n o l p = putP (dropP l p) (o ++ p.drop n.length) v := by unfold stepP; rw [if_pos h1, hv]; rfl
      rw [hs2] at I2 hstep
      have O18 : Own H (upd H2 g3.AD (.dK (atD (putP (dropP l p) (o ++ p.drop n.length) v)))) (adr (cMW g)) ((q1, .lst ((g3.at_.map (·.1)).map fun p => V.str (S (pathT p)))) :: cMW { g3 with at_ := putP (dropP l p) (o ++ p.drop n.length) v }) := BO7.out.wr (a := g3.AD) (o' := .dK (atD (putP (dropP l p) (o ++ p.drop n.length) v))) (.there (.there .here))
      exact ⟨⟨_, _, putP (dropP l p) (o ++ p.drop n.length) v, rfl, O18, I2, hstep⟩⟩
    · have hs2 : stepP n o l p = l := by unfold stepP; rw [if_neg (by rw [h1]; simp)]
      rw [hs2] at I2 hstep
      walk_at "s"
      exact ⟨⟨_, _, l, rfl, BO.out, I2, hstep⟩⟩
  · rintro σ H' ⟨v7, v8, l, rfl, O16, I, hl⟩
    rw [List.length_map, List.take_length] at hl
    walk_at "s"
    have e7 : g3.abs.at_ = g3.at_ := rfl
    refine k _ rfl _ { g3 with at_ := l } (O16.drop (.cons _ (.refl _))) ?_ (eD3'.trans eD)
    have q1 : g2.abs.sl = (freedM g.abs n).sl := by rw [hsg]; unfold freedM; rw [e3, e4]
    have q2 : sltM (freedM g.abs n) o.dropLast = os2 := by
      unfold sltM
      rw [show (freedM g.abs n).at_ = g.abs.at_ from rfl, hk1, Option.bind_some, ← q1, hs2]
      rfl
    have q3 : g3.abs.sl = setA g2.abs.sl k1 (addO os2 (lastN o)) := by rw [eg3]; rfl
    have q4 : g3.abs.ce = g.abs.ce := by rw [eg3]; show g2.abs.ce = _; rw [eg]
    have q5 : g3.abs.ho = g.abs.ho := by rw [eg3]; show g2.abs.ho = _; rw [eg]
    have q6 : g3.abs.room = g.abs.room := by rw [eg3]; show g2.abs.room = _; rw [eg]
    show (⟨l, g3.abs.sl, g3.abs.ce, g3.abs.ho, g3.abs.room⟩ : MW) = _
    rw [q3, q4, q5, q6, q1, q2, e2, hl, ea3]
    rfl

open SX (S)
/-! ## the law's world: what is due -/
def DAn (H : Hp) (g : MG) (r : Except FRf (MW × FAns)) (Q : VK) : Prop := match r with
  | .error e => ∀ H', Own H H' (adr (cMW g)) (cMW g) → Q (.str e.word) H'
  | .ok (m, .non) => ∀ H' g', Own H H' (adr (cMW g)) (cMW g') → g'.abs = m → g'.D = g.D → Q .non H'
  | .ok (m, .int i) => ∀ H' g', Own H H' (adr (cMW g)) (cMW g') → g'.abs = m → g'.D = g.D → Q (.int i) H'
  | .ok (m, .names l) => ∀ H' g' b ys, Own H H' (adr (cMW g)) ((b, .lst (ys.map V.str)) :: cMW g') → g'.abs = m → g'.D = g.D → ys.Perm (l.map S) → PyProof.Rows.sortedS ys = true → Q (.ref b) H'
  | .ok (m, .told d l s) => ∀ H' g' T, Own H H' (adr (cMW g)) (cMW g') → g'.abs = m → g'.D = g.D → H' T = some (.tup [.str d, .int l, .int s]) → Q (.ref T) H'
  | .ok (m, .pair a b) => ∀ H' g' T, Own H H' (adr (cMW g)) (cMW g') → g'.abs = m → g'.D = g.D → H' T = some (.tup [.int a, .int b]) → Q (.ref T) H'
def FDeed.vs : FDeed → List V
  | .find z => [.str "find", .str (S z)]
  | .make z => [.str "make", .str (S z)]
  | .mkdir z => [.str "make_dir", .str (S z)]
  | .link z y => [.str "link", .str (S z), .str (S y)]
  | .unlink z => [.str "unlink", .str (S z)]
  | .rmdir z => [.str "remove_dir", .str (S z)]
  | .move z y => [.str "move", .str (S z), .str (S y)]
  | .names z => [.str "names", .str (S z)]
  | .stat k => [.str "stat", .int k]
  | .free => [.str "free"]
def FDeed.fine : FDeed → Prop
  | .find z => AsT z
  | .make z => AsT z
  | .mkdir z => AsT z
  | .link z y => AsT z ∧ AsT y
  | .unlink z => AsT z
  | .rmdir z => AsT z
  | .move z y => AsT z ∧ AsT y
  | .names z => AsT z
  | .stat _ => True
  | .free => True
def sp__law_by_path (K : PySem.W.Frag) : Sp := sp2 fun x y H Q _ => ∃ g T z, ∃ d : FDeed, (d = .find z ∨ d = .names z) ∧ x = .ref g.D ∧ y = .ref T ∧ H T = some (.tup d.vs) ∧ AsT z ∧ Own H H (adr (cMW g)) (cMW g) ∧ MOk g.abs ∧ MUp g.abs ∧ DAn H g (semM g.abs d) Q
def sp__law_stat (K : PySem.W.Frag) : Sp := sp2 fun x y H Q _ => ∃ g k, x = .ref g.D ∧ y = .int k ∧ Own H H (adr (cMW g)) (cMW g) ∧ MOk g.abs ∧ ((g.abs.sl.lookup k).isSome = true ∨ (g.abs.ce.lookup k).isSome = true) ∧ DAn H g (semM g.abs (.stat k)) Q
theorem sc__law_by_path : FnScope ["_law_world", "_law_deed", "_law_word", "_law_text", "_law_name"] ["_law_world", "_law_deed"] (defScope s__law_by_path) := ⟨rfl, rfl, rfl, by decide +kernel, rfl, by decide +kernel, by decide +kernel⟩
theorem ok__law_by_path {P : Program} {w : World} {K : PySem.W.Frag} {mg : Str → Option Value} {base : Heap} (T : Txt K mg) : Cee P w K mg base 3 (He.fAd K ("_law_by_path", none)) ["_law_world", "_law_deed"] (sp__law_by_path K) := by
  have c__law_found : Cee P w K mg base 2 (He.fAd K ("_law_found", none)) ["_law_world", "_law_path_here"] (sp__law_found K) := ok__law_found T
  refine cee_of T.d__law_by_path sc__law_by_path (fun _ _ _ _ _ _ us hl => match us, hl with | [_, _], _ => rfl) (fun vs H Q E h => sp2_len h) (fun cdv A outer s H vs Q E hr h => ⟨_, (pss_cons (ps_asg (pe_f c__law_found (hr.mono (by decide)) (takes_of rfl rfl rfl rfl) (by rfl) T.g__law_found (pa_cons (pv 0) (pa_cons (pe_ix ix_tup (pv 1) pe_int (fun _ _ => rfl)) pa_nil))) (pg_tup rfl (pgs_cons (pg_name (i := 2) sc__law_by_path.nd rfl (Or.inl rfl)) (pgs_cons (pg_name (i := 3) sc__law_by_path.nd rfl (Or.inl rfl)) pgs_nil)))) (pss_cons (ps_if (pt_cmpR op_ne (pv 2) pe_str (nomark _)) (pss_one (ps_ret (pv 2))) pss_nil) (pss_cons (ps_if (pt_cmpR op_eq (pe_ix ix_tup (pv 1) pe_int (fun _ _ => rfl)) pe_str (nomark _)) (pss_one (ps_ret (pe_dget (hu_of hr) (pe_dget (hu_of hr) (pv 0) pe_str (fun _ _ => rfl)) (pv 3) (fun _ _ => rfl)))) pss_nil) (pss_cons (ps_if (pt_cmp (pc_din (hu_of hr) (pe_dget (hu_of hr) (pe_dget (hu_of hr) (pv 0) pe_str (fun _ _ => rfl)) (pv 3) (fun _ _ => rfl)) (pe_dget (hu_of hr) (pv 0) pe_str (fun _ _ => rfl))) (by with_unfolding_all rfl)) (pss_one (ps_ret pe_str)) pss_nil) (pss_one (ps_ret (pe_callB cr_sortedS (by rfl) T.n_sorted (by decide +kernel) (pa_cons (pe_lc (own := [("_law_name", 4)]) (by rfl) sc__law_by_path.nd (PI.box (pi_list (pe_dget (hu_of hr) (pe_dget (hu_of hr) (pv 0) pe_str (fun _ _ => rfl)) (pe_dget (hu_of hr) (pe_dget (hu_of hr) (pv 0) pe_str (fun _ _ => rfl)) (pv 3) (fun _ _ => rfl)) (fun _ _ => rfl)))) (blkOk_by (own := [("_law_name", 4)]) (N := ["_law_world", "_law_deed", "_law_word", "_law_text", "_law_name"]) (sc := defScope s__law_by_path) (by decide +kernel)) (fun _ _ _ _ _ => (pg_name (i := 4) sc__law_by_path.nd rfl (Or.inl rfl))) (fun _ _ _ _ _ => (pts_one (pt_cmpR op_notN (pv 4) pe_non (nomark _)))) (fun _ _ _ _ _ => (pv 4))) pa_nil)))))))), ?_⟩)
  obtain ⟨v0, v1, rfl, h⟩ := h
  dsimp only [cxOf, L2.start]
  obtain ⟨g, T, z, d, hd, rfl, rfl, hT, hz, O, M, U, k⟩ := h
  obtain ⟨dk, hvs⟩ : ∃ dk : Str, d.vs = [.str dk, .str (S z)] := by rcases hd with rfl | rfl <;> exact ⟨_, rfl⟩
  have hT2 : H T = some (.tup [.str dk, .str (S z)]) := by rw [← hvs]; exact hT
  have at0 : atI [V.str dk, V.str (S z)] 0 = some (.str dk) := rfl
  have at1 : atI [V.str dk, V.str (S z)] 1 = some (.str (S z)) := rfl
  have hTs : SqT K H T [.str dk, .str (S z)] := SqT.of hT2
  walk_at "s"
  refine ask2 ⟨g, z, rfl, rfl, hz, O, M, fun e he H1 T1 O1 hT1 => ?_, fun p hp H1 T1 O1 hT1 => ?_⟩
  · have hw := word_ne e
    walk_at "s"
    refine if_nss (fun _ => ?_) (fun q => absurd q hw)
    walk_at "s"
    have k2 : ∀ H', Own H H' (adr (cMW g)) (cMW g) → Q (.str e.word) H' := by
      rcases hd with rfl | rfl
      · have k : DAn H g ((findM g.abs z).map fun i => (g.abs, FAns.int i)) Q := k
        unfold findM at k
        rw [he] at k
        exact k
      · have k : DAn H g ((namesM g.abs z).map fun i => (g.abs, FAns.names i)) Q := k
        unfold namesM at k
        rw [he] at k
        exact k
    exact k2 _ O1
  obtain ⟨hn, n0, hn0⟩ := found_ok M hp
  have hD := O1.get (a := g.D) (o := .dK (wD g)) (.head _)
  have hA := O1.get (a := g.AD) (o := .dK (atD g.at_)) (.tail _ (.head _))
  have hS := O1.get (a := g.SD) (o := .dK (slD g.sl)) (.tail _ (.tail _ (.head _)))
  have hC := O1.get (a := g.CD) (o := .dK (ceD g.ce)) (.tail _ (.tail _ (.tail _ (.head _))))
  have hvA : valV (wD g) (Sum.inr "at") = some (.ref g.AD) := rfl
  have hvS : valV (wD g) (Sum.inr "slots") = some (.ref g.SD) := rfl
  have hvC : valV (wD g) (Sum.inr "cells") = some (.ref g.CD) := rfl
  have hkeys : ∀ x ∈ g.at_, NoS x.1 := fun x hx => (M.names x hx).1
  have hn0' : g.at_.lookup p = some n0 := hn0
  have hva : valV (atD g.at_) (Sum.inr (S (pathT p))) = some (.int n0) := by rw [at_val hkeys (noS_of hn), hn0']; rfl
  have enod : nodM g.abs p = n0 := by
    unfold nodM
    rw [hn0]
    rfl
  have hTs1 : SqT K H1 T [.str dk, .str (S z)] := SqT.of (O1.tp _ _ hT2)
  have BO := Box.mk O1
  walk_at "clo"
  rcases hd with rfl | rfl
  · have hdk : dk = "find" := by cases hvs; rfl
    subst hdk
    have k : DAn H g ((findM g.abs z).map fun i => (g.abs, FAns.int i)) Q := k
    unfold findM at k
    rw [hp] at k
    have k : ∀ H' g', Own H H' (adr (cMW g)) (cMW g') → g'.abs = g.abs → g'.D = g.D → Q (.int (nodM g.abs p)) H' := k
    rw [enod] at k
    walk_at "s"
    exact k _ g BO.out rfl rfl
  · have hdk : dk = "names" := by cases hvs; rfl
    subst hdk
    have k : DAn H g ((namesM g.abs z).map fun i => (g.abs, FAns.names i)) Q := k
    unfold namesM at k
    rw [hp] at k
    dsimp only at k
    rw [enod, abs_ce, Option.isSome_map] at k
    walk_at "s"
    rw [ce_val, Option.isSome_map]
    refine if_b (fun h1 => ?_) (fun h1 => ?_)
    · rw [if_pos h1] at k
      walk_at "s"
      exact k _ BO.out
    rw [if_neg (by rw [h1]; simp)] at k
    obtain ⟨sa1, os1, hsa1⟩ : ∃ sa1 os1, g.sl.lookup n0 = some (sa1, os1) := by
      rcases M.ends _ (lkL_mem hn0) with h | h
      · rw [abs_sl, Option.isSome_map] at h
        obtain ⟨⟨a, b⟩, e⟩ := Option.isSome_iff_exists.mp h
        exact ⟨a, b, e⟩
      · rw [abs_ce, Option.isSome_map, h1] at h
        cases h
    have hso : sltM g.abs p = os1 := by
      unfold sltM
      rw [hn0, Option.bind_some, abs_sl, hsa1]
      rfl
    rw [hso] at k
    have k : ∀ H' g' b ys, Own H H' (adr (cMW g)) ((b, .lst (ys.map V.str)) :: cMW g') → g'.abs = g.abs → g'.D = g.D → ys.Perm ((os1.filterMap id).map S) → PyProof.Rows.sortedS ys = true → Q (.ref b) H' := k
    have hvs1 : valV (slD g.sl) (Sum.inl n0) = some (.ref sa1) := by rw [sl_val, hsa1]; rfl
    have hsac := BO.out.get (a := sa1) (o := .lst (os1.map onV)) (.tail _ (.tail _ (.tail _ (.tail _ (.tail _ (cMW_sl (lk_mem hsa1)))))))
    have hsas : SqL K H1 sa1 (os1.map onV) := SqL.of hsac
    have hos40 : os1.length ≤ 40 := M.slen (n0, os1) (List.mem_map.mpr ⟨_, lk_mem hsa1, rfl⟩)
    walk_at "s"
    refine lcL (xs := os1.map onV) (fun D i H' => Own H1 H' [] [(D, .lst (SV ((os1.take i).filterMap id)))]) ?_ ?_ ?_ ?_
    · intro D hD
      exact Own.start.new hD
    · intro D i H' _ O
      exact O.sq hsas
    · intro D i x H' hx O
      rw [List.getElem?_map] at hx
      obtain ⟨s, hsi, rfl⟩ := Option.map_eq_some_iff.mp hx
      have hD := O.get (.head _)
      have hll : (SV ((os1.take i).filterMap id)).length < 100000 := by
        have := List.length_filterMap_le id (os1.take i)
        rw [List.length_take] at this
        rw [List.length_map]
        omega
      rw [take_succ hsi, List.filterMap_append]
      cases s with
      | none =>
        walk_at "s"
        rw [show List.filterMap id [(none : Option Nm)] = [] from rfl, List.append_nil]
        exact if_f (by simp [onV]) ⟨O⟩
      | some n =>
        walk_at "s"
        rw [show List.filterMap id [some n] = [n] from rfl, show SV ((os1.take i).filterMap id ++ [n]) = SV ((os1.take i).filterMap id) ++ [.str (S n)] from List.map_append]
        exact ⟨O.wr .here⟩
    · intro D H' O2
      rw [List.length_map, List.take_length] at O2
      have O3 := BO.out.callN O2
      have hfl := List.length_filterMap_le id os1
      have hDl : H' D = some (.lst (((os1.filterMap id).map S).map V.str)) := by
        rw [← SV_map]
        exact O3.get (.head _)
      walk_at "s"
      exact ⟨(os1.filterMap id).map S, rfl, SqL.of hDl, by rw [List.length_map]; omega, fun ys b h1 h2 h3 => k _ g b ys ((O3.new h3).drop (.cons₂ _ (.cons _ (.refl _)))) rfl rfl h1 h2⟩
theorem sc__law_stat : FnScope ["_law_world", "_law_node_here"] ["_law_world", "_law_node_here"] (defScope s__law_stat) := ⟨rfl, rfl, rfl, by decide +kernel, rfl, by decide +kernel, by decide +kernel⟩
theorem ok__law_stat {P : Program} {w : World} {K : PySem.W.Frag} {mg : Str → Option Value} {base : Heap} (T : Txt K mg) : Cee P w K mg base 2 (He.fAd K ("_law_stat", none)) ["_law_world", "_law_node_here"] (sp__law_stat K) := by
  have c__law_links : Cee P w K mg base 1 (He.fAd K ("_law_links", none)) ["_law_world", "_law_node_here"] (sp__law_links K) := ok__law_links T
  refine cee_of T.d__law_stat sc__law_stat (fun _ _ _ _ _ _ us hl => match us, hl with | [_, _], _ => rfl) (fun vs H Q E h => sp2_len h) (fun cdv A outer s H vs Q E hr h => ⟨_, (pss_cons (ps_if (pt_cmp (pc_din (hu_of hr) (pv 1) (pe_dget (hu_of hr) (pv 0) pe_str (fun _ _ => rfl))) (by with_unfolding_all rfl)) (pss_one (ps_ret (pe_tup (pa_cons pe_str (pa_cons pe_int (pa_cons (pe_callB call_len_seq (by rfl) T.n_len (by decide +kernel) (pa_cons (pe_dget (hu_of hr) (pe_dget (hu_of hr) (pv 0) pe_str (fun _ _ => rfl)) (pv 1) (fun _ _ => rfl)) pa_nil)) pa_nil)))))) pss_nil) (pss_one (ps_ret (pe_tup (pa_cons pe_str (pa_cons (pe_f c__law_links (hr.mono (by decide)) (takes_of rfl rfl rfl rfl) (by rfl) T.g__law_links (pa_cons (pv 0) (pa_cons (pv 1) pa_nil))) (pa_cons (pe_callB call_len_seq (by rfl) T.n_len (by decide +kernel) (pa_cons (pe_dget (hu_of hr) (pe_dget (hu_of hr) (pv 0) pe_str (fun _ _ => rfl)) (pv 1) (fun _ _ => rfl)) pa_nil)) pa_nil))))))), ?_⟩)
  obtain ⟨v0, v1, rfl, h⟩ := h
  dsimp only [cxOf, L2.start]
  obtain ⟨g, k0, rfl, rfl, O, M, hin, k⟩ := h
  have hD := O.get (a := g.D) (o := .dK (wD g)) (.head _)
  have hS := O.get (a := g.SD) (o := .dK (slD g.sl)) (.tail _ (.tail _ (.head _)))
  have hC := O.get (a := g.CD) (o := .dK (ceD g.ce)) (.tail _ (.tail _ (.tail _ (.head _))))
  have hvS : valV (wD g) (Sum.inr "slots") = some (.ref g.SD) := rfl
  have hvC : valV (wD g) (Sum.inr "cells") = some (.ref g.CD) := rfl
  have BO := Box.mk O
  walk_at "clo"
  walk_at "s"
  rw [sl_val, Option.isSome_map]
  have k : DAn H g ((statM g.abs k0).map fun a => (g.abs, a)) Q := k
  unfold statM at k
  cases hs : g.sl.lookup k0 with
  | some y =>
    obtain ⟨sa, os⟩ := y
    rw [abs_sl, hs] at k
    have k : ∀ H' g' T, Own H H' (adr (cMW g)) (cMW g') → g'.abs = g.abs → g'.D = g.D → H' T = some (.tup [.str "dir", .int 1, .int (os.length : Nat)]) → Q (.ref T) H' := k
    have hvs1 : valV (slD g.sl) (Sum.inl k0) = some (.ref sa) := by rw [sl_val, hs]; rfl
    have hsac := BO.out.get (a := sa) (o := .lst (os.map onV)) (.tail _ (.tail _ (.tail _ (.tail _ (.tail _ (cMW_sl (lk_mem hs)))))))
    have hsas : SqL K H sa (os.map onV) := SqL.of hsac
    have hol : (os.map onV).length = os.length := List.length_map ..
    refine if_t rfl ?_
    walk_at "s"
    rw [hol]
    intro T hT
    have O2 := (BO.out.new (o := .tup [.str "dir", .int 1, .int (os.length : Nat)]) hT).drop (cs' := cMW g) (.cons _ (.refl _))
    exact k _ g T O2 rfl rfl upd_same
  | none =>
    obtain ⟨cs, hcs⟩ : ∃ cs, g.ce.lookup k0 = some cs := by
      rcases hin with h | h
      · rw [abs_sl, hs] at h; cases h
      · rw [abs_ce, Option.isSome_map] at h
        exact Option.isSome_iff_exists.mp h
    obtain ⟨ca, cl⟩ := cs
    rw [abs_sl, hs, abs_ce, hcs] at k
    have k : ∀ H' g' T, Own H H' (adr (cMW g)) (cMW g') → g'.abs = g.abs → g'.D = g.D → H' T = some (.tup [.str "file", .int (linksM g.abs k0), .int (cl.length : Nat)]) → Q (.ref T) H' := k
    have hvc1 : valV (ceD g.ce) (Sum.inl k0) = some (.ref ca) := by rw [ce_val, hcs]; rfl
    refine if_f rfl ?_
    walk_at "s"
    refine ask2 ⟨g, k0, rfl, rfl, BO.out.blk (s' := []) .all, M, fun H1 O1 => ?_⟩
    have O2 := BO.out.call .all O1
    have hD1 := O2.get (a := g.D) (o := .dK (wD g)) (.head _)
    have hC1 := O2.get (a := g.CD) (o := .dK (ceD g.ce)) (.tail _ (.tail _ (.tail _ (.head _))))
    have hcac := O2.get (a := ca) (o := .lst (cl.map V.int)) (.tail _ (.tail _ (.tail _ (.tail _ (.tail _ (cMW_ce (lk_mem hcs)))))))
    have hcas : SqL K H1 ca (cl.map V.int) := SqL.of hcac
    have hol : (cl.map V.int).length = cl.length := List.length_map ..
    walk_at "s"
    rw [hol]
    intro T hT
    have O3 := (O2.new (o := .tup [.str "file", .int (linksM g.abs k0), .int (cl.length : Nat)]) hT).drop (cs' := cMW g) (.cons _ (.refl _))
    exact k _ g T O3 rfl rfl upd_same

open SX (S)
def FDeed.named : FDeed → Prop
  | .stat _ => False
  | .free => False
  | _ => True
structure DPre (K : PySem.W.Frag) (H : Hp) (g : MG) (T : Addr) (d : FDeed) : Prop where
  t : H T = some (.tup d.vs)
  fine : d.fine
  own : Own H H (adr (cMW g)) (cMW g)
  m : MOk g.abs
  u : MUp g.abs
def sp__law_named_due (K : PySem.W.Frag) : Sp := sp2 fun x y H Q _ => ∃ g T, ∃ d : FDeed, x = .ref g.D ∧ y = .ref T ∧ DPre K H g T d ∧ d.named ∧ DAn H g (semM g.abs d) Q
def sp__law_due (K : PySem.W.Frag) : Sp := sp2 fun x y H Q _ => ∃ g T, ∃ d : FDeed, x = .ref g.D ∧ y = .ref T ∧ DPre K H g T d ∧ DAn H g (semM g.abs d) Q
theorem dan_made {H : Hp} {g : MG} {r : Except FRf (MW × Int)} {Q : VK} (h : DAn H g (r.map fun x => (x.1, .int x.2)) Q) : Ans3 H g r V.int Q := by
  cases r with
  | error e => exact ⟨fun e' he H' O => by cases he; exact h H' O, nofun⟩
  | ok x => exact ⟨nofun, fun m a e H' g' O e1 e2 => by cases e; exact h H' g' O e1 e2⟩
theorem dan_non {H : Hp} {g : MG} {r : Except FRf MW} {Q : VK} (h : DAn H g (r.map fun t => (t, .non)) Q) : AnsN H g r Q := by
  cases r with
  | error e => exact ⟨fun e' he H' O => by cases he; exact h H' O, nofun⟩
  | ok x => exact ⟨nofun, fun m e H' g' O e1 e2 => by cases e; exact h H' g' O e1 e2⟩
theorem sc__law_named_due : FnScope ["_law_world", "_law_deed"] ["_law_world", "_law_deed"] (defScope s__law_named_due) := ⟨rfl, rfl, rfl, by decide +kernel, rfl, by decide +kernel, by decide +kernel⟩
theorem ok__law_named_due {P : Program} {w : World} {K : PySem.W.Frag} {mg : Str → Option Value} {base : Heap} (T : Txt K mg) : Cee P w K mg base 5 (He.fAd K ("_law_named_due", none)) ["_law_world", "_law_deed"] (sp__law_named_due K) := by
  have c__law_made : Cee P w K mg base 4 (He.fAd K ("_law_made", none)) ["_law_world", "_law_path_here", "_law_kind_here"] (sp__law_made K) := ok__law_made T
  have c__law_linked : Cee P w K mg base 4 (He.fAd K ("_law_linked", none)) ["_law_world", "_law_path_here", "_law_new"] (sp__law_linked K) := ok__law_linked T
  have c__law_removed : Cee P w K mg base 3 (He.fAd K ("_law_removed", none)) ["_law_world", "_law_path_here"] (sp__law_removed K) := ok__law_removed T
  have c__law_moved : Cee P w K mg base 4 (He.fAd K ("_law_moved", none)) ["_law_world", "_law_path_here", "_law_new"] (sp__law_moved K) := ok__law_moved T
  have c__law_by_path : Cee P w K mg base 3 (He.fAd K ("_law_by_path", none)) ["_law_world", "_law_deed"] (sp__law_by_path K) := ok__law_by_path T
  have c__law_unlinked : Cee P w K mg base 3 (He.fAd K ("_law_unlinked", none)) ["_law_world", "_law_path_here"] (sp__law_unlinked K) := ok__law_unlinked T
  refine cee_of T.d__law_named_due sc__law_named_due (fun _ _ _ _ _ _ us hl => match us, hl with | [_, _], _ => rfl) (fun vs H Q E h => sp2_len h) (fun cdv A outer s H vs Q E hr h => ⟨_, (pss_cons (PS.box (ps_if (PW.pt (pw_or (pt_cmpR op_eq (pe_ix ix_tup (pv 1) pe_int (fun _ _ => rfl)) pe_str (nomark _)) (pw_or1 (pt_cmpR op_eq (pe_ix ix_tup (pv 1) pe_int (fun _ _ => rfl)) pe_str (nomark _))))) (pss_one (ps_ret (pe_f c__law_made (hr.mono (by decide)) (takes_of rfl rfl rfl rfl) (by rfl) T.g__law_made (pa_cons (pv 0) (pa_cons (pe_ix ix_tup (pv 1) pe_int (fun _ _ => rfl)) (pa_cons (pe_ix ix_list (pe_lst (pa_cons pe_str (pa_cons pe_str pa_nil))) (pe_callTy call_intB (by rfl) T.n_int (by decide +kernel) (pa_cons (pe_cmpR op_eq (pe_ix ix_tup (pv 1) pe_int (fun _ _ => rfl)) pe_str (nomark _)) pa_nil)) (fun _ _ => rfl)) pa_nil)))))) pss_nil)) (pss_cons (ps_if (pt_cmpR op_eq (pe_ix ix_tup (pv 1) pe_int (fun _ _ => rfl)) pe_str (nomark _)) (pss_one (ps_ret (pe_f c__law_linked (hr.mono (by decide)) (takes_of rfl rfl rfl rfl) (by rfl) T.g__law_linked (pa_cons (pv 0) (pa_cons (pe_ix ix_tup (pv 1) pe_int (fun _ _ => rfl)) (pa_cons (pe_ix ix_tup (pv 1) pe_int (fun _ _ => rfl)) pa_nil)))))) pss_nil) (pss_cons (ps_if (pt_cmpR op_eq (pe_ix ix_tup (pv 1) pe_int (fun _ _ => rfl)) pe_str (nomark _)) (pss_one (ps_ret (pe_f c__law_removed (hr.mono (by decide)) (takes_of rfl rfl rfl rfl) (by rfl) T.g__law_removed (pa_cons (pv 0) (pa_cons (pe_ix ix_tup (pv 1) pe_int (fun _ _ => rfl)) pa_nil))))) pss_nil) (pss_cons (ps_if (pt_cmpR op_eq (pe_ix ix_tup (pv 1) pe_int (fun _ _ => rfl)) pe_str (nomark _)) (pss_one (ps_ret (pe_f c__law_moved (hr.mono (by decide)) (takes_of rfl rfl rfl rfl) (by rfl) T.g__law_moved (pa_cons (pv 0) (pa_cons (pe_ix ix_tup (pv 1) pe_int (fun _ _ => rfl)) (pa_cons (pe_ix ix_tup (pv 1) pe_int (fun _ _ => rfl)) pa_nil)))))) pss_nil) (pss_cons (PS.box (ps_if (PW.pt (pw_or (pt_cmpR op_eq (pe_ix ix_tup (pv 1) pe_int (fun _ _ => rfl)) pe_str (nomark _)) (pw_or1 (pt_cmpR op_eq (pe_ix ix_tup (pv 1) pe_int (fun _ _ => rfl)) pe_str (nomark _))))) (pss_one (ps_ret (pe_f c__law_by_path (hr.mono (by decide)) (takes_of rfl rfl rfl rfl) (by rfl) T.g__law_by_path (pa_cons (pv 0) (pa_cons (pv 1) pa_nil))))) pss_nil)) (pss_one (ps_ret (pe_f c__law_unlinked (hr.mono (by decide)) (takes_of rfl rfl rfl rfl) (by rfl) T.g__law_unlinked (pa_cons (pv 0) (pa_cons (pe_ix ix_tup (pv 1) pe_int (fun _ _ => rfl)) pa_nil)))))))))), ?_⟩)
  obtain ⟨v0, v1, rfl, h⟩ := h
  dsimp only [cxOf, L2.start]
  obtain ⟨g, T, d, rfl, rfl, ⟨hT, hf, O, M, U⟩, hnd, k⟩ := h
  have hTs : SqT K H T d.vs := SqT.of hT
  cases d with
  | stat i => exact hnd.elim
  | free => exact hnd.elim
  | find z =>
    have at0 : atI (FDeed.vs (.find z)) 0 = some (.str "find") := rfl
    have at1 : atI (FDeed.vs (.find z)) 1 = some (.str (S z)) := rfl
    walk_at "s"
    walk_at "b"
    walk_at "s"
    refine if_ss (fun q => absurd q (by decide +kernel)) (fun _ => ?_)
    walk_at "s"
    walk_at "b"
    walk_at "s"
    exact ask2 ⟨g, T, z, .find z, .inl rfl, rfl, rfl, hT, hf, O, M, U, k⟩
  | make z =>
    have at0 : atI (FDeed.vs (.make z)) 0 = some (.str "make") := rfl
    have at1 : atI (FDeed.vs (.make z)) 1 = some (.str (S z)) := rfl
    walk_at "s"
    walk_at "b"
    walk_at "s"
    intro la hla
    have O1 := O.new (o := .lst [.str "cells", .str "slots"]) hla
    have hT1 : upd H la (.lst [.str "cells", .str "slots"]) T = some (.tup (FDeed.vs (.make z))) := (Own.start.new hla).tp _ _ hT
    generalize upd H la _ = H1 at O1 hT1 ⊢
    have hTs1 : SqT K H1 T (FDeed.vs (.make z)) := SqT.of hT1
    have hla1 : SqL K H1 la [.str "cells", .str "slots"] := SqL.of (O1.get (.head _))
    have hat : atI [V.str "cells", V.str "slots"] 0 = some (.str (if false = true then "slots" else "cells")) := rfl
    clear O
    walk_at "s"
    obtain ⟨k1, k2⟩ := dan_made k
    exact ask3 ⟨g, z, false, rfl, rfl, rfl, hf, O1.blk (s' := []) (.there .all), M, fun e he H2 O2 => k1 e he _ ((O1.call (.there .all) O2).drop (.cons _ (.refl _))), fun m a he H2 g2 O2 e1 e2 => k2 m a he _ g2 ((O1.call (.there .all) O2).drop (.cons _ (.refl _))) e1 e2⟩
  | mkdir z =>
    have at0 : atI (FDeed.vs (.mkdir z)) 0 = some (.str "make_dir") := rfl
    have at1 : atI (FDeed.vs (.mkdir z)) 1 = some (.str (S z)) := rfl
    walk_at "s"
    walk_at "b"
    walk_at "s"
    intro la hla
    have O1 := O.new (o := .lst [.str "cells", .str "slots"]) hla
    have hT1 : upd H la (.lst [.str "cells", .str "slots"]) T = some (.tup (FDeed.vs (.mkdir z))) := (Own.start.new hla).tp _ _ hT
    generalize upd H la _ = H1 at O1 hT1 ⊢
    have hTs1 : SqT K H1 T (FDeed.vs (.mkdir z)) := SqT.of hT1
    have hla1 : SqL K H1 la [.str "cells", .str "slots"] := SqL.of (O1.get (.head _))
    have hat : atI [V.str "cells", V.str "slots"] 1 = some (.str (if true = true then "slots" else "cells")) := rfl
    clear O
    walk_at "s"
    obtain ⟨k1, k2⟩ := dan_made k
    exact ask3 ⟨g, z, true, rfl, rfl, rfl, hf, O1.blk (s' := []) (.there .all), M, fun e he H2 O2 => k1 e he _ ((O1.call (.there .all) O2).drop (.cons _ (.refl _))), fun m a he H2 g2 O2 e1 e2 => k2 m a he _ g2 ((O1.call (.there .all) O2).drop (.cons _ (.refl _))) e1 e2⟩
  | link z y =>
    have at0 : atI (FDeed.vs (.link z y)) 0 = some (.str "link") := rfl
    have at1 : atI (FDeed.vs (.link z y)) 1 = some (.str (S z)) := rfl
    have at2 : atI (FDeed.vs (.link z y)) 2 = some (.str (S y)) := rfl
    walk_at "s"
    walk_at "b"
    walk_at "s"
    exact ask3 ⟨g, z, y, rfl, rfl, rfl, hf.1, hf.2, O, M, dan_non k⟩
  | unlink z =>
    have at0 : atI (FDeed.vs (.unlink z)) 0 = some (.str "unlink") := rfl
    have at1 : atI (FDeed.vs (.unlink z)) 1 = some (.str (S z)) := rfl
    walk_at "s"
    walk_at "b"
    walk_at "s"
    refine if_ss (fun q => absurd q (by decide +kernel)) (fun _ => ?_)
    walk_at "s"
    walk_at "b"
    walk_at "s"
    exact ask2 ⟨g, z, rfl, rfl, hf, O, M, U, dan_non k⟩
  | rmdir z =>
    have at0 : atI (FDeed.vs (.rmdir z)) 0 = some (.str "remove_dir") := rfl
    have at1 : atI (FDeed.vs (.rmdir z)) 1 = some (.str (S z)) := rfl
    walk_at "s"
    walk_at "b"
    walk_at "s"
    exact ask2 ⟨g, z, rfl, rfl, hf, O, M, U, dan_non k⟩
  | move z y =>
    have at0 : atI (FDeed.vs (.move z y)) 0 = some (.str "move") := rfl
    have at1 : atI (FDeed.vs (.move z y)) 1 = some (.str (S z)) := rfl
    have at2 : atI (FDeed.vs (.move z y)) 2 = some (.str (S y)) := rfl
    walk_at "s"
    walk_at "b"
    walk_at "s"
    exact ask3 ⟨g, z, y, rfl, rfl, rfl, hf.1, hf.2, O, M, U, dan_non k⟩
  | names z =>
    have at0 : atI (FDeed.vs (.names z)) 0 = some (.str "names") := rfl
    have at1 : atI (FDeed.vs (.names z)) 1 = some (.str (S z)) := rfl
    walk_at "s"
    walk_at "b"
    walk_at "s"
    refine if_ss (fun q => absurd q (by decide +kernel)) (fun _ => ?_)
    walk_at "s"
    walk_at "b"
    walk_at "s"
    exact ask2 ⟨g, T, z, .names z, .inr rfl, rfl, rfl, hT, hf, O, M, U, k⟩

open SX (S)
theorem sc__law_due : FnScope ["_law_world", "_law_deed"] ["_law_world", "_law_deed"] (defScope s__law_due) := ⟨rfl, rfl, rfl, by decide +kernel, rfl, by decide +kernel, by decide +kernel⟩
theorem ok__law_due {P : Program} {w : World} {K : PySem.W.Frag} {mg : Str → Option Value} {base : Heap} (T : Txt K mg) : Cee P w K mg base 6 (He.fAd K ("_law_due", none)) ["_law_world", "_law_deed"] (sp__law_due K) := by
  have c__law_spare : Cee P w K mg base 2 (He.fAd K ("_law_spare", none)) ["_law_world"] (sp__law_spare K) := ok__law_spare T
  have c__law_named_due : Cee P w K mg base 5 (He.fAd K ("_law_named_due", none)) ["_law_world", "_law_deed"] (sp__law_named_due K) := ok__law_named_due T
  have c__law_stat : Cee P w K mg base 2 (He.fAd K ("_law_stat", none)) ["_law_world", "_law_node_here"] (sp__law_stat K) := ok__law_stat T
  refine cee_of T.d__law_due sc__law_due (fun _ _ _ _ _ _ us hl => match us, hl with | [_, _], _ => rfl) (fun vs H Q E h => sp2_len h) (fun cdv A outer s H vs Q E hr h => ⟨_, (pss_cons (ps_if (pt_cmpR op_eq (pe_ix ix_tup (pv 1) pe_int (fun _ _ => rfl)) pe_str (nomark _)) (pss_one (ps_ret (pe_tup (pa_cons (pe_op op_sub (pe_op op_sub pe_int (pe_callB call_lenD (by rfl) T.n_len (by decide +kernel) (pa_cons (pe_dget (hu_of hr) (pv 0) pe_str (fun _ _ => rfl)) pa_nil))) (pe_callB call_lenD (by rfl) T.n_len (by decide +kernel) (pa_cons (pe_dget (hu_of hr) (pv 0) pe_str (fun _ _ => rfl)) pa_nil))) (pa_cons (pe_f c__law_spare (hr.mono (by decide)) (takes_of rfl rfl rfl rfl) (by rfl) T.g__law_spare (pa_cons (pv 0) pa_nil)) pa_nil))))) pss_nil) (pss_cons (ps_if (pt_val (pe_callB call_isi (by rfl) T.n_isinstance (by decide +kernel) (pa_cons (pe_ix ix_tup (pv 1) pe_int (fun _ _ => rfl)) (pa_cons (pe_bltn (v := .ty "str") rfl T.n_str (by decide +kernel) rfl) pa_nil)))) (pss_one (ps_ret (pe_f c__law_named_due (hr.mono (by decide)) (takes_of rfl rfl rfl rfl) (by rfl) T.g__law_named_due (pa_cons (pv 0) (pa_cons (pv 1) pa_nil))))) pss_nil) (pss_cons (PS.box (ps_if (PW.pt (pw_and (pt_cmp (pc_dnotin (hu_of hr) (pe_ix ix_tup (pv 1) pe_int (fun _ _ => rfl)) (pe_dget (hu_of hr) (pv 0) pe_str (fun _ _ => rfl))) (by with_unfolding_all rfl)) (pw_and1 (pt_cmp (pc_dnotin (hu_of hr) (pe_ix ix_tup (pv 1) pe_int (fun _ _ => rfl)) (pe_dget (hu_of hr) (pv 0) pe_str (fun _ _ => rfl))) (by with_unfolding_all rfl))))) (pss_one (ps_ret pe_str)) pss_nil)) (pss_cons (ps_if (pt_cmpR op_eq (pe_ix ix_tup (pv 1) pe_int (fun _ _ => rfl)) pe_str (nomark _)) (pss_one (ps_ret (pe_f c__law_stat (hr.mono (by decide)) (takes_of rfl rfl rfl rfl) (by rfl) T.g__law_stat (pa_cons (pv 0) (pa_cons (pe_ix ix_tup (pv 1) pe_int (fun _ _ => rfl)) pa_nil))))) pss_nil) (pss_one (ps_ret pe_non)))))), ?_⟩)
  obtain ⟨v0, v1, rfl, h⟩ := h
  dsimp only [cxOf, L2.start]
  obtain ⟨g, T, d, rfl, rfl, ⟨hT, hf, O, M, U⟩, k⟩ := h
  have hTs : SqT K H T d.vs := SqT.of hT
  have hD := O.get (a := g.D) (o := .dK (wD g)) (.head _)
  have hS := O.get (a := g.SD) (o := .dK (slD g.sl)) (.tail _ (.tail _ (.head _)))
  have hC := O.get (a := g.CD) (o := .dK (ceD g.ce)) (.tail _ (.tail _ (.tail _ (.head _))))
  have hvS : valV (wD g) (Sum.inr "slots") = some (.ref g.SD) := rfl
  have hvC : valV (wD g) (Sum.inr "cells") = some (.ref g.CD) := rfl
  have BO := Box.mk O
  walk_at "clo"
  cases d with
  | free =>
    have at0 : atI (FDeed.vs .free) 0 = some (.str "free") := rfl
    have hsl : (slD g.sl).length = g.abs.sl.length := by show (g.sl.map _).length = (g.sl.map _).length; rw [List.length_map, List.length_map]
    have hcl : (ceD g.ce).length = g.abs.ce.length := by show (g.ce.map _).length = (g.ce.map _).length; rw [List.length_map, List.length_map]
    have k : ∀ H' g' T, Own H H' (adr (cMW g)) (cMW g') → g'.abs = g.abs → g'.D = g.D → H' T = some (.tup [.int (24 - (g.abs.sl.length : Nat) - (g.abs.ce.length : Nat)), .int (spareM g.abs)]) → Q (.ref T) H' := k
    walk_at "s"
    refine ask1 ⟨g, rfl, BO.out, M, fun H1 O1 => ?_⟩
    walk_at "s"
    rw [hsl, hcl]
    intro T2 hT2
    have O2 := (O1.new (o := .tup [.int (24 - (g.abs.sl.length : Nat) - (g.abs.ce.length : Nat)), .int (spareM g.abs)]) hT2).drop (cs' := cMW g) (.cons _ (.refl _))
    exact k _ g T2 O2 rfl rfl upd_same
  | stat i =>
    have at0 : atI (FDeed.vs (.stat i)) 0 = some (.str "stat") := rfl
    have at1 : atI (FDeed.vs (.stat i)) 1 = some (.int i) := rfl
    walk_at "s"
    refine if_f rfl ?_
    walk_at "s"
    walk_at "b"
    walk_at "s"
    rw [sl_val, Option.isSome_map]
    have kk : DAn H g ((statM g.abs i).map fun a => (g.abs, a)) Q := k
    unfold statM at kk
    cases hs : g.sl.lookup i with
    | some y =>
      refine if_f rfl ?_
      walk_at "s"
      exact ask2 ⟨g, i, rfl, rfl, BO.out, M, .inl (by rw [abs_sl, hs]; rfl), k⟩
    | none =>
      refine if_t rfl ?_
      walk_at "s"
      rw [ce_val, Option.isSome_map]
      cases hc : g.ce.lookup i with
      | some y =>
        refine if_f rfl ?_
        walk_at "s"
        exact ask2 ⟨g, i, rfl, rfl, BO.out, M, .inr (by rw [abs_ce, hc]; rfl), k⟩
      | none =>
        refine if_t rfl ?_
        walk_at "s"
        rw [abs_sl, hs, abs_ce, hc] at kk
        exact kk _ BO.out
  | find z =>
    have at0 : atI (FDeed.vs (.find z)) 0 = some (.str "find") := rfl
    have at1 : atI (FDeed.vs (.find z)) 1 = some (.str (S z)) := rfl
    walk_at "s"
    exact ask2 ⟨g, T, .find z, rfl, rfl, ⟨hT, hf, BO.out, M, U⟩, True.intro, k⟩
  | make z =>
    have at0 : atI (FDeed.vs (.make z)) 0 = some (.str "make") := rfl
    have at1 : atI (FDeed.vs (.make z)) 1 = some (.str (S z)) := rfl
    walk_at "s"
    exact ask2 ⟨g, T, .make z, rfl, rfl, ⟨hT, hf, BO.out, M, U⟩, True.intro, k⟩
  | mkdir z =>
    have at0 : atI (FDeed.vs (.mkdir z)) 0 = some (.str "make_dir") := rfl
    have at1 : atI (FDeed.vs (.mkdir z)) 1 = some (.str (S z)) := rfl
    walk_at "s"
    exact ask2 ⟨g, T, .mkdir z, rfl, rfl, ⟨hT, hf, BO.out, M, U⟩, True.intro, k⟩
  | link z y =>
    have at0 : atI (FDeed.vs (.link z y)) 0 = some (.str "link") := rfl
    have at1 : atI (FDeed.vs (.link z y)) 1 = some (.str (S z)) := rfl
    walk_at "s"
    exact ask2 ⟨g, T, .link z y, rfl, rfl, ⟨hT, hf, BO.out, M, U⟩, True.intro, k⟩
  | unlink z =>
    have at0 : atI (FDeed.vs (.unlink z)) 0 = some (.str "unlink") := rfl
    have at1 : atI (FDeed.vs (.unlink z)) 1 = some (.str (S z)) := rfl
    walk_at "s"
    exact ask2 ⟨g, T, .unlink z, rfl, rfl, ⟨hT, hf, BO.out, M, U⟩, True.intro, k⟩
  | rmdir z =>
    have at0 : atI (FDeed.vs (.rmdir z)) 0 = some (.str "remove_dir") := rfl
    have at1 : atI (FDeed.vs (.rmdir z)) 1 = some (.str (S z)) := rfl
    walk_at "s"
    exact ask2 ⟨g, T, .rmdir z, rfl, rfl, ⟨hT, hf, BO.out, M, U⟩, True.intro, k⟩
  | move z y =>
    have at0 : atI (FDeed.vs (.move z y)) 0 = some (.str "move") := rfl
    have at1 : atI (FDeed.vs (.move z y)) 1 = some (.str (S z)) := rfl
    walk_at "s"
    exact ask2 ⟨g, T, .move z y, rfl, rfl, ⟨hT, hf, BO.out, M, U⟩, True.intro, k⟩
  | names z =>
    have at0 : atI (FDeed.vs (.names z)) 0 = some (.str "names") := rfl
    have at1 : atI (FDeed.vs (.names z)) 1 = some (.str (S z)) := rfl
    walk_at "s"
    exact ask2 ⟨g, T, .names z, rfl, rfl, ⟨hT, hf, BO.out, M, U⟩, True.intro, k⟩

open SX (S)
def sp__law_done (K : PySem.W.Frag) : Sp := sp2 fun x y H Q E => ∃ g T, ∃ d : FDeed, x = .ref g.p ∧ y = .ref T ∧ H T = some (.tup d.vs) ∧ d.fine ∧ FPre K H g ∧ FAn K H g (semF g.room (anS g.ns) d) Q E
theorem sc__law_done : FnScope ["_law_files", "_law_deed"] ["_law_files", "_law_deed"] (defScope s__law_done) := ⟨rfl, rfl, rfl, by decide +kernel, rfl, by decide +kernel, by decide +kernel⟩
theorem ok__law_done {P : Program} {w : World} {K : PySem.W.Frag} {mg : Str → Option Value} {base : Heap} (T : Txt K mg) : Cee P w K mg base 7 (He.fAd K ("_law_done", none)) ["_law_files", "_law_deed"] (sp__law_done K) := by
  have c_PlainFiles_find : Cee P w K mg base 3 (He.fAd K ("PlainFiles", some "find")) ["self", "path"] (sp_PlainFiles_find K) := ok_PlainFiles_find T
  have c_PlainFiles_make : Cee P w K mg base 6 (He.fAd K ("PlainFiles", some "make")) ["self", "path"] (sp_PlainFiles_make K) := ok_PlainFiles_make T
  have c_PlainFiles_make_dir : Cee P w K mg base 6 (He.fAd K ("PlainFiles", some "make_dir")) ["self", "path"] (sp_PlainFiles_make_dir K) := ok_PlainFiles_make_dir T
  have c_PlainFiles_unlink : Cee P w K mg base 3 (He.fAd K ("PlainFiles", some "unlink")) ["self", "path"] (sp_PlainFiles_unlink K) := ok_PlainFiles_unlink T
  have c_PlainFiles_remove_dir : Cee P w K mg base 3 (He.fAd K ("PlainFiles", some "remove_dir")) ["self", "path"] (sp_PlainFiles_remove_dir K) := ok_PlainFiles_remove_dir T
  have c_PlainFiles_names : Cee P w K mg base 4 (He.fAd K ("PlainFiles", some "names")) ["self", "path"] (sp_PlainFiles_names K) := ok_PlainFiles_names T
  have c_PlainFiles_stat : Cee P w K mg base 2 (He.fAd K ("PlainFiles", some "stat")) ["self", "node"] (sp_PlainFiles_stat K) := ok_PlainFiles_stat T
  have c_PlainFiles_link : Cee P w K mg base 5 (He.fAd K ("PlainFiles", some "link")) ["self", "path", "new"] (sp_PlainFiles_link K) := ok_PlainFiles_link T
  have c_PlainFiles_move : Cee P w K mg base 5 (He.fAd K ("PlainFiles", some "move")) ["self", "path", "new"] (sp_PlainFiles_move K) := ok_PlainFiles_move T
  have c_PlainFiles_free : Cee P w K mg base 4 (He.fAd K ("PlainFiles", some "free")) ["self"] (sp_PlainFiles_free K) := ok_PlainFiles_free T
  refine cee_of T.d__law_done sc__law_done (fun _ _ _ _ _ _ us hl => match us, hl with | [_, _], _ => rfl) (fun vs H Q E h => sp2_len h) (fun cdv A outer s H vs Q E hr h => ⟨_, (pss_cons (ps_if (pt_cmpR op_eq (pe_ix ix_tup (pv 1) pe_int (fun _ _ => rfl)) pe_str (nomark _)) (pss_one (ps_ret (pe_m (pv 0) T.c_PlainFiles T.m_PlainFiles_find c_PlainFiles_find (hr.mono (by decide)) (takes_of rfl rfl rfl rfl) (pa_cons (pe_ix ix_tup (pv 1) pe_int (fun _ _ => rfl)) pa_nil)))) pss_nil) (pss_cons (ps_if (pt_cmpR op_eq (pe_ix ix_tup (pv 1) pe_int (fun _ _ => rfl)) pe_str (nomark _)) (pss_one (ps_ret (pe_m (pv 0) T.c_PlainFiles T.m_PlainFiles_make c_PlainFiles_make (hr.mono (by decide)) (takes_of rfl rfl rfl rfl) (pa_cons (pe_ix ix_tup (pv 1) pe_int (fun _ _ => rfl)) pa_nil)))) pss_nil) (pss_cons (ps_if (pt_cmpR op_eq (pe_ix ix_tup (pv 1) pe_int (fun _ _ => rfl)) pe_str (nomark _)) (pss_one (ps_ret (pe_m (pv 0) T.c_PlainFiles T.m_PlainFiles_make_dir c_PlainFiles_make_dir (hr.mono (by decide)) (takes_of rfl rfl rfl rfl) (pa_cons (pe_ix ix_tup (pv 1) pe_int (fun _ _ => rfl)) pa_nil)))) pss_nil) (pss_cons (ps_if (pt_cmpR op_eq (pe_ix ix_tup (pv 1) pe_int (fun _ _ => rfl)) pe_str (nomark _)) (pss_one (ps_ret (pe_m (pv 0) T.c_PlainFiles T.m_PlainFiles_unlink c_PlainFiles_unlink (hr.mono (by decide)) (takes_of rfl rfl rfl rfl) (pa_cons (pe_ix ix_tup (pv 1) pe_int (fun _ _ => rfl)) pa_nil)))) pss_nil) (pss_cons (ps_if (pt_cmpR op_eq (pe_ix ix_tup (pv 1) pe_int (fun _ _ => rfl)) pe_str (nomark _)) (pss_one (ps_ret (pe_m (pv 0) T.c_PlainFiles T.m_PlainFiles_remove_dir c_PlainFiles_remove_dir (hr.mono (by decide)) (takes_of rfl rfl rfl rfl) (pa_cons (pe_ix ix_tup (pv 1) pe_int (fun _ _ => rfl)) pa_nil)))) pss_nil) (pss_cons (ps_if (pt_cmpR op_eq (pe_ix ix_tup (pv 1) pe_int (fun _ _ => rfl)) pe_str (nomark _)) (pss_one (ps_ret (pe_m (pv 0) T.c_PlainFiles T.m_PlainFiles_names c_PlainFiles_names (hr.mono (by decide)) (takes_of rfl rfl rfl rfl) (pa_cons (pe_ix ix_tup (pv 1) pe_int (fun _ _ => rfl)) pa_nil)))) pss_nil) (pss_cons (ps_if (pt_cmpR op_eq (pe_ix ix_tup (pv 1) pe_int (fun _ _ => rfl)) pe_str (nomark _)) (pss_one (ps_ret (pe_m (pv 0) T.c_PlainFiles T.m_PlainFiles_stat c_PlainFiles_stat (hr.mono (by decide)) (takes_of rfl rfl rfl rfl) (pa_cons (pe_ix ix_tup (pv 1) pe_int (fun _ _ => rfl)) pa_nil)))) pss_nil) (pss_cons (ps_if (pt_cmpR op_eq (pe_ix ix_tup (pv 1) pe_int (fun _ _ => rfl)) pe_str (nomark _)) (pss_one (ps_ret (pe_m (pv 0) T.c_PlainFiles T.m_PlainFiles_link c_PlainFiles_link (hr.mono (by decide)) (takes_of rfl rfl rfl rfl) (pa_cons (pe_ix ix_tup (pv 1) pe_int (fun _ _ => rfl)) (pa_cons (pe_ix ix_tup (pv 1) pe_int (fun _ _ => rfl)) pa_nil))))) pss_nil) (pss_cons (ps_if (pt_cmpR op_eq (pe_ix ix_tup (pv 1) pe_int (fun _ _ => rfl)) pe_str (nomark _)) (pss_one (ps_ret (pe_m (pv 0) T.c_PlainFiles T.m_PlainFiles_move c_PlainFiles_move (hr.mono (by decide)) (takes_of rfl rfl rfl rfl) (pa_cons (pe_ix ix_tup (pv 1) pe_int (fun _ _ => rfl)) (pa_cons (pe_ix ix_tup (pv 1) pe_int (fun _ _ => rfl)) pa_nil))))) pss_nil) (pss_one (ps_ret (pe_m0 (pv 0) T.c_PlainFiles T.m_PlainFiles_free c_PlainFiles_free (hr.mono (by decide)) (takes_of rfl rfl rfl rfl))))))))))))), ?_⟩)
  obtain ⟨v0, v1, rfl, h⟩ := h
  dsimp only [cxOf, L2.start]
  obtain ⟨g, T, d, rfl, rfl, hT, hf, ⟨O, N⟩, k⟩ := h
  have hTs : SqT K H T d.vs := SqT.of hT
  have hp := O.get (a := g.p) (o := insPf K g) (.head _)
  have BO := Box.mk O
  walk_at "clo"
  cases d with
  | find z =>
    have at0 : atI (FDeed.vs (.find z)) 0 = some (.str "find") := rfl
    have at1 : atI (FDeed.vs (.find z)) 1 = some (.str (S z)) := rfl
    walk_at "s"
    have k : FAn K H g (withN z fun n => (walkA (anS g.ns) n).map fun c => (anS g.ns, FAns.int (lastI c))) Q E := k
    unfold withN at k
    refine ask2 ⟨g, z, rfl, rfl, hf.tx, ⟨BO.out, N⟩, fun hn => by rw [hn] at k; exact k, fun ns e hn he => ?_, fun ns c hn hc H1 O1 => ?_⟩
    · rw [hn] at k
      dsimp only at k
      rw [he] at k
      exact k
    · rw [hn] at k
      dsimp only at k
      rw [hc] at k
      exact k _ g O1 (N.sl.mono (H := H) O1) .refl
  | make z =>
    have at0 : atI (FDeed.vs (.make z)) 0 = some (.str "make") := rfl
    have at1 : atI (FDeed.vs (.make z)) 1 = some (.str (S z)) := rfl
    walk_at "s"
    exact ask2 ⟨g, z, rfl, rfl, hf.tx, ⟨BO.out, N⟩, k⟩
  | mkdir z =>
    have at0 : atI (FDeed.vs (.mkdir z)) 0 = some (.str "make_dir") := rfl
    have at1 : atI (FDeed.vs (.mkdir z)) 1 = some (.str (S z)) := rfl
    walk_at "s"
    exact ask2 ⟨g, z, rfl, rfl, hf.tx, ⟨BO.out, N⟩, k⟩
  | link z y =>
    have at0 : atI (FDeed.vs (.link z y)) 0 = some (.str "link") := rfl
    have at1 : atI (FDeed.vs (.link z y)) 1 = some (.str (S z)) := rfl
    have at2 : atI (FDeed.vs (.link z y)) 2 = some (.str (S y)) := rfl
    walk_at "s"
    exact ask3 ⟨g, z, y, rfl, rfl, rfl, hf.1.tx, hf.2.tx, ⟨BO.out, N⟩, k⟩
  | unlink z =>
    have at0 : atI (FDeed.vs (.unlink z)) 0 = some (.str "unlink") := rfl
    have at1 : atI (FDeed.vs (.unlink z)) 1 = some (.str (S z)) := rfl
    walk_at "s"
    exact ask2 ⟨g, z, rfl, rfl, hf.tx, ⟨BO.out, N⟩, k⟩
  | rmdir z =>
    have at0 : atI (FDeed.vs (.rmdir z)) 0 = some (.str "remove_dir") := rfl
    have at1 : atI (FDeed.vs (.rmdir z)) 1 = some (.str (S z)) := rfl
    walk_at "s"
    exact ask2 ⟨g, z, rfl, rfl, hf.tx, ⟨BO.out, N⟩, k⟩
  | move z y =>
    have at0 : atI (FDeed.vs (.move z y)) 0 = some (.str "move") := rfl
    have at1 : atI (FDeed.vs (.move z y)) 1 = some (.str (S z)) := rfl
    have at2 : atI (FDeed.vs (.move z y)) 2 = some (.str (S y)) := rfl
    walk_at "s"
    exact ask3 ⟨g, z, y, rfl, rfl, rfl, hf.1.tx, hf.2.tx, ⟨BO.out, N⟩, k⟩
  | names z =>
    have at0 : atI (FDeed.vs (.names z)) 0 = some (.str "names") := rfl
    have at1 : atI (FDeed.vs (.names z)) 1 = some (.str (S z)) := rfl
    walk_at "s"
    exact ask2 ⟨g, z, rfl, rfl, hf.tx, ⟨BO.out, N⟩, k⟩
  | stat i =>
    have at0 : atI (FDeed.vs (.stat i)) 0 = some (.str "stat") := rfl
    have at1 : atI (FDeed.vs (.stat i)) 1 = some (.int i) := rfl
    walk_at "s"
    exact ask2 ⟨g, i, rfl, rfl, ⟨BO.out, N⟩, k⟩
  | free =>
    have at0 : atI (FDeed.vs (.free)) 0 = some (.str "free") := rfl
    walk_at "s"
    exact ask1 ⟨g, rfl, ⟨BO.out, N⟩, k⟩

open SX (S)
def kindOk : FRf → Bool
  | .tooBig => false
  | .notHeld => false
  | _ => true
def sp__law_kind (K : PySem.W.Frag) : Sp := sp1 fun x H Q _ => ∃ ea, ∃ e : FRf, kindOk e = true ∧ x = .ref ea ∧ H ea = some (CxO (e.cls K) none ea) ∧ ∀ H', Own H H' [] [] → Q (.str e.word) H'
abbrev wds1 : List Str := [("BadName" : Str), ("NoName" : Str), ("NotDir" : Str), ("IsDir" : Str), ("NotEmpty" : Str), ("Inside" : Str), ("NoNode" : Str)]
abbrev wds2 : List Str := [("NoSpace" : Str), ("TooMany" : Str), ("TooBig" : Str), ("NotHeld" : Str), ("NotAllowed" : Str), ("Taken" : Str)]
theorem words1 : Txt.split "BadName NoName NotDir IsDir NotEmpty Inside NoNode" " " = wds1 := by decide +kernel
theorem words2 : Txt.split "NoSpace TooMany TooBig NotHeld NotAllowed Taken" " " = wds2 := by decide +kernel
theorem sc__law_kind : FnScope ["_law_error", "_law_asked", "_law_words"] ["_law_error"] (defScope s__law_kind) := ⟨rfl, rfl, rfl, by decide +kernel, rfl, by decide +kernel, by decide +kernel⟩
theorem ok__law_kind {P : Program} {w : World} {K : PySem.W.Frag} {mg : Str → Option Value} {base : Heap} (T : Txt K mg) : Cee P w K mg base 1 (He.fAd K ("_law_kind", none)) ["_law_error"] (sp__law_kind K) := by
  refine cee_of T.d__law_kind sc__law_kind (fun _ _ _ _ _ _ us hl => match us, hl with | [_], _ => rfl) (fun vs H Q E h => sp1_len h) (fun cdv A outer s H vs Q E hr h => ⟨_, (pss_cons (ps_set (i := 1) sc__law_kind.nd rfl (Or.inl rfl) (pe_lst (pa_cons (pe_callB call_isX (by rfl) T.n_isinstance (by decide +kernel) (pa_cons (pv 0) (pa_cons (pe_glob (v := .ref (He.ga K "BadName")) rfl T.g_BadName rfl) pa_nil))) (pa_cons (pe_callB call_isX (by rfl) T.n_isinstance (by decide +kernel) (pa_cons (pv 0) (pa_cons (pe_glob (v := .ref (He.ga K "NoName")) rfl T.g_NoName rfl) pa_nil))) (pa_cons (pe_callB call_isX (by rfl) T.n_isinstance (by decide +kernel) (pa_cons (pv 0) (pa_cons (pe_glob (v := .ref (He.ga K "NotDir")) rfl T.g_NotDir rfl) pa_nil))) pa_nil))))) (pss_cons (ps_set (i := 1) sc__law_kind.nd rfl (Or.inl rfl) (pe_op op_cat (pv 1) (pe_lst (pa_cons (pe_callB call_isX (by rfl) T.n_isinstance (by decide +kernel) (pa_cons (pv 0) (pa_cons (pe_glob (v := .ref (He.ga K "IsDir")) rfl T.g_IsDir rfl) pa_nil))) (pa_cons (pe_callB call_isX (by rfl) T.n_isinstance (by decide +kernel) (pa_cons (pv 0) (pa_cons (pe_glob (v := .ref (He.ga K "NotEmpty")) rfl T.g_NotEmpty rfl) pa_nil))) pa_nil))))) (pss_cons (ps_set (i := 1) sc__law_kind.nd rfl (Or.inl rfl) (pe_op op_cat (pv 1) (pe_lst (pa_cons (pe_callB call_isX (by rfl) T.n_isinstance (by decide +kernel) (pa_cons (pv 0) (pa_cons (pe_glob (v := .ref (He.ga K "Inside")) rfl T.g_Inside rfl) pa_nil))) (pa_cons (pe_callB call_isX (by rfl) T.n_isinstance (by decide +kernel) (pa_cons (pv 0) (pa_cons (pe_glob (v := .ref (He.ga K "NoNode")) rfl T.g_NoNode rfl) pa_nil))) (pa_cons (pe_callB call_isX (by rfl) T.n_isinstance (by decide +kernel) (pa_cons (pv 0) (pa_cons (pe_glob (v := .ref (He.ga K "NoSpace")) rfl T.g_NoSpace rfl) pa_nil))) pa_nil)))))) (pss_cons (ps_set (i := 1) sc__law_kind.nd rfl (Or.inl rfl) (pe_op op_cat (pv 1) (pe_lst (pa_cons (pe_callB call_isX (by rfl) T.n_isinstance (by decide +kernel) (pa_cons (pv 0) (pa_cons (pe_glob (v := .ref (He.ga K "TooMany")) rfl T.g_TooMany rfl) pa_nil))) (pa_cons (pe_callB call_isX (by rfl) T.n_isinstance (by decide +kernel) (pa_cons (pv 0) (pa_cons (pe_glob (v := .ref (He.ga K "TooBig")) rfl T.g_TooBig rfl) pa_nil))) pa_nil))))) (pss_cons (ps_set (i := 1) sc__law_kind.nd rfl (Or.inl rfl) (pe_op op_cat (pv 1) (pe_lst (pa_cons (pe_callB call_isX (by rfl) T.n_isinstance (by decide +kernel) (pa_cons (pv 0) (pa_cons (pe_glob (v := .ref (He.ga K "NotHeld")) rfl T.g_NotHeld rfl) pa_nil))) (pa_cons (pe_callB call_isX (by rfl) T.n_isinstance (by decide +kernel) (pa_cons (pv 0) (pa_cons (pe_glob (v := .ref (He.ga K "NotAllowed")) rfl T.g_NotAllowed rfl) pa_nil))) (pa_cons (pe_callB call_isX (by rfl) T.n_isinstance (by decide +kernel) (pa_cons (pv 0) (pa_cons (pe_glob (v := .ref (He.ga K "Taken")) rfl T.g_Taken rfl) pa_nil))) pa_nil)))))) (pss_cons (ps_set (i := 2) sc__law_kind.nd rfl (Or.inl rfl) (pe_split pe_str pe_str)) (pss_cons (ps_set (i := 2) sc__law_kind.nd rfl (Or.inl rfl) (pe_op op_cat (pv 2) (pe_split pe_str pe_str))) (pss_cons (PS.box (ps_if (PW.pt (pw_or (pt_cmpR op_ne (pe_bm PySem.F.plainAttrs_list PySem.F.slot_list_count PySem.F.type_list_count mt_lcountF (pv 1) (pa_cons pe_bl pa_nil)) pe_int (nomark _)) (pw_or1 (pt_not (pt_val (pe_callB call_isX (by rfl) T.n_isinstance (by decide +kernel) (pa_cons (pv 0) (pa_cons (pe_bltn (v := .ty "ValueError") rfl T.n_ValueError (by decide +kernel) rfl) pa_nil)))))))) (pss_one (ps_ret pe_str)) pss_nil)) (pss_one (ps_ret (pe_ix ix_list (pv 2) (pe_bm PySem.F.plainAttrs_list PySem.F.slot_list_index PySem.F.type_list_index mt_index (pv 1) (pa_cons pe_bl pa_nil)) (fun _ _ => rfl)))))))))))), ?_⟩)
  obtain ⟨v0, rfl, h⟩ := h
  dsimp only [cxOf, L2.start]
  obtain ⟨ea, e, hko, rfl, he, k⟩ := h
  have O0 := Own.start (H := H)
  cases e with
  | badName =>
    have he : H ea = some (CxO (.ref (He.ga K "BadName")) none ea) := he
    have hw : FRf.word .badName = "BadName" := rfl
    rw [hw] at k
    clear hw hko
    walk_at "s"
    intro l1 hl1
    have O1 := O0.new (o := .lst [V.bl true, V.bl false, V.bl false]) hl1
    generalize upd _ l1 _ = H1 at O1 ⊢
    walk_at "s"
    intro l2 hl2
    have O2 := O1.new (o := .lst [V.bl false, V.bl false]) hl2
    generalize upd _ l2 _ = H2 at O2 ⊢
    walk_at "s"
    intro l3 hl3
    rw [show (([V.bl true, V.bl false, V.bl false] : List V) ++ [V.bl false, V.bl false]) = [V.bl true, V.bl false, V.bl false, V.bl false, V.bl false] from rfl]
    have O3 := O2.new (o := .lst [V.bl true, V.bl false, V.bl false, V.bl false, V.bl false]) hl3
    generalize upd _ l3 _ = H3 at O3 ⊢
    have O3 : Own H H3 [] [(l3, .lst [V.bl true, V.bl false, V.bl false, V.bl false, V.bl false])] := O3.drop (.cons₂ _ (List.nil_sublist _))
    clear O1 O2
    walk_at "s"
    intro l4 hl4
    have O4 := O3.new (o := .lst [V.bl false, V.bl false, V.bl false]) hl4
    generalize upd _ l4 _ = H4 at O4 ⊢
    walk_at "s"
    intro l5 hl5
    rw [show (([V.bl true, V.bl false, V.bl false, V.bl false, V.bl false] : List V) ++ [V.bl false, V.bl false, V.bl false]) = [V.bl true, V.bl false, V.bl false, V.bl false, V.bl false, V.bl false, V.bl false, V.bl false] from rfl]
    have O5 := O4.new (o := .lst [V.bl true, V.bl false, V.bl false, V.bl false, V.bl false, V.bl false, V.bl false, V.bl false]) hl5
    generalize upd _ l5 _ = H5 at O5 ⊢
    have O5 : Own H H5 [] [(l5, .lst [V.bl true, V.bl false, V.bl false, V.bl false, V.bl false, V.bl false, V.bl false, V.bl false])] := O5.drop (.cons₂ _ (List.nil_sublist _))
    clear O4 O3
    walk_at "s"
    intro l6 hl6
    have O6 := O5.new (o := .lst [V.bl false, V.bl false]) hl6
    generalize upd _ l6 _ = H6 at O6 ⊢
    walk_at "s"
    intro l7 hl7
    rw [show (([V.bl true, V.bl false, V.bl false, V.bl false, V.bl false, V.bl false, V.bl false, V.bl false] : List V) ++ [V.bl false, V.bl false]) = [V.bl true, V.bl false, V.bl false, V.bl false, V.bl false, V.bl false, V.bl false, V.bl false, V.bl false, V.bl false] from rfl]
    have O7 := O6.new (o := .lst [V.bl true, V.bl false, V.bl false, V.bl false, V.bl false, V.bl false, V.bl false, V.bl false, V.bl false, V.bl false]) hl7
    generalize upd _ l7 _ = H7 at O7 ⊢
    have O7 : Own H H7 [] [(l7, .lst [V.bl true, V.bl false, V.bl false, V.bl false, V.bl false, V.bl false, V.bl false, V.bl false, V.bl false, V.bl false])] := O7.drop (.cons₂ _ (List.nil_sublist _))
    clear O6 O5
    walk_at "s"
    intro l8 hl8
    have O8 := O7.new (o := .lst [V.bl false, V.bl false, V.bl false]) hl8
    generalize upd _ l8 _ = H8 at O8 ⊢
    walk_at "s"
    intro l9 hl9
    rw [show (([V.bl true, V.bl false, V.bl false, V.bl false, V.bl false, V.bl false, V.bl false, V.bl false, V.bl false, V.bl false] : List V) ++ [V.bl false, V.bl false, V.bl false]) = [V.bl true, V.bl false, V.bl false, V.bl false, V.bl false, V.bl false, V.bl false, V.bl false, V.bl false, V.bl false, V.bl false, V.bl false, V.bl false] from rfl]
    have O9 := O8.new (o := .lst [V.bl true, V.bl false, V.bl false, V.bl false, V.bl false, V.bl false, V.bl false, V.bl false, V.bl false, V.bl false, V.bl false, V.bl false, V.bl false]) hl9
    generalize upd _ l9 _ = H9 at O9 ⊢
    have O9 : Own H H9 [] [(l9, .lst [V.bl true, V.bl false, V.bl false, V.bl false, V.bl false, V.bl false, V.bl false, V.bl false, V.bl false, V.bl false, V.bl false, V.bl false, V.bl false])] := O9.drop (.cons₂ _ (List.nil_sublist _))
    clear O8 O7
    walk_at "s"
    refine ⟨by decide +kernel, by decide +kernel, fun b1 hb1 => ?_⟩
    rw [words1]
    have O10 := O9.new (o := .lst (wds1.map V.str)) hb1
    generalize upd _ b1 _ = H10 at O10 ⊢
    walk_at "s"
    refine ⟨by decide +kernel, by decide +kernel, fun b2 hb2 => ?_⟩
    rw [words2]
    have O11 := O10.new (o := .lst (wds2.map V.str)) hb2
    generalize upd _ b2 _ = H11 at O11 ⊢
    walk_at "s"
    intro b3 hb3
    rw [show wds1.map V.str ++ wds2.map V.str = (wds1 ++ wds2).map V.str from rfl]
    have O12 := (O11.new (o := .lst ((wds1 ++ wds2).map V.str)) hb3).drop (cs' := [(b3, .lst ((wds1 ++ wds2).map V.str)), (l9, .lst [V.bl true, V.bl false, V.bl false, V.bl false, V.bl false, V.bl false, V.bl false, V.bl false, V.bl false, V.bl false, V.bl false, V.bl false, V.bl false])]) (.cons₂ _ (.cons _ (.cons _ (.refl _))))
    generalize upd _ b3 _ = H12 at O12 ⊢
    clear O9 O10 O11
    walk_at "s"
    walk_at "b"
    walk_at "s"
    refine ⟨rfl, ?_⟩
    generalize hb : List.countP _ _ = n
    obtain rfl : n = 1 := hb.symm
    clear hb
    walk_at "s"
    refine ⟨rfl, (show ([V.bl true, V.bl false, V.bl false, V.bl false, V.bl false, V.bl false, V.bl false, V.bl false, V.bl false, V.bl false, V.bl false, V.bl false, V.bl false] : List V)[0]? = some (.bl true) from rfl), rfl, fun m z' hm hz => ?_, ?_⟩
    . have hm : m < 0 := hm
      rcases m with _ |  m <;> first | omega | (cases hz; rfl) | (cases hz; decide) | (cases hz; intro h; cases h)
    have hat : atI ((wds1 ++ wds2).map V.str) 0 = some (.str "BadName") := rfl
    walk_at "s"
    exact k _ (O12.drop (List.nil_sublist _))
  | noName =>
    have he : H ea = some (CxO (.ref (He.ga K "NoName")) none ea) := he
    have hw : FRf.word .noName = "NoName" := rfl
    rw [hw] at k
    clear hw hko
    walk_at "s"
    intro l1 hl1
    have O1 := O0.new (o := .lst [V.bl false, V.bl true, V.bl false]) hl1
    generalize upd _ l1 _ = H1 at O1 ⊢
    walk_at "s"
    intro l2 hl2
    have O2 := O1.new (o := .lst [V.bl false, V.bl false]) hl2
    generalize upd _ l2 _ = H2 at O2 ⊢
    walk_at "s"
    intro l3 hl3
    rw [show (([V.bl false, V.bl true, V.bl false] : List V) ++ [V.bl false, V.bl false]) = [V.bl false, V.bl true, V.bl false, V.bl false, V.bl false] from rfl]
    have O3 := O2.new (o := .lst [V.bl false, V.bl true, V.bl false, V.bl false, V.bl false]) hl3
    generalize upd _ l3 _ = H3 at O3 ⊢
    have O3 : Own H H3 [] [(l3, .lst [V.bl false, V.bl true, V.bl false, V.bl false, V.bl false])] := O3.drop (.cons₂ _ (List.nil_sublist _))
    clear O1 O2
    walk_at "s"
    intro l4 hl4
    have O4 := O3.new (o := .lst [V.bl false, V.bl false, V.bl false]) hl4
    generalize upd _ l4 _ = H4 at O4 ⊢
    walk_at "s"
    intro l5 hl5
    rw [show (([V.bl false, V.bl true, V.bl false, V.bl false, V.bl false] : List V) ++ [V.bl false, V.bl false, V.bl false]) = [V.bl false, V.bl true, V.bl false, V.bl false, V.bl false, V.bl false, V.bl false, V.bl false] from rfl]
    have O5 := O4.new (o := .lst [V.bl false, V.bl true, V.bl false, V.bl false, V.bl false, V.bl false, V.bl false, V.bl false]) hl5
    generalize upd _ l5 _ = H5 at O5 ⊢
    have O5 : Own H H5 [] [(l5, .lst [V.bl false, V.bl true, V.bl false, V.bl false, V.bl false, V.bl false, V.bl false, V.bl false])] := O5.drop (.cons₂ _ (List.nil_sublist _))
    clear O4 O3
    walk_at "s"
    intro l6 hl6
    have O6 := O5.new (o := .lst [V.bl false, V.bl false]) hl6
    generalize upd _ l6 _ = H6 at O6 ⊢
    walk_at "s"
    intro l7 hl7
    rw [show (([V.bl false, V.bl true, V.bl false, V.bl false, V.bl false, V.bl false, V.bl false, V.bl false] : List V) ++ [V.bl false, V.bl false]) = [V.bl false, V.bl true, V.bl false, V.bl false, V.bl false, V.bl false, V.bl false, V.bl false, V.bl false, V.bl false] from rfl]
    have O7 := O6.new (o := .lst [V.bl false, V.bl true, V.bl false, V.bl false, V.bl false, V.bl false, V.bl false, V.bl false, V.bl false, V.bl false]) hl7
    generalize upd _ l7 _ = H7 at O7 ⊢
    have O7 : Own H H7 [] [(l7, .lst [V.bl false, V.bl true, V.bl false, V.bl false, V.bl false, V.bl false, V.bl false, V.bl false, V.bl false, V.bl false])] := O7.drop (.cons₂ _ (List.nil_sublist _))
    clear O6 O5
    walk_at "s"
    intro l8 hl8
    have O8 := O7.new (o := .lst [V.bl false, V.bl false, V.bl false]) hl8
    generalize upd _ l8 _ = H8 at O8 ⊢
    walk_at "s"
    intro l9 hl9
    rw [show (([V.bl false, V.bl true, V.bl false, V.bl false, V.bl false, V.bl false, V.bl false, V.bl false, V.bl false, V.bl false] : List V) ++ [V.bl false, V.bl false, V.bl false]) = [V.bl false, V.bl true, V.bl false, V.bl false, V.bl false, V.bl false, V.bl false, V.bl false, V.bl false, V.bl false, V.bl false, V.bl false, V.bl false] from rfl]
    have O9 := O8.new (o := .lst [V.bl false, V.bl true, V.bl false, V.bl false, V.bl false, V.bl false, V.bl false, V.bl false, V.bl false, V.bl false, V.bl false, V.bl false, V.bl false]) hl9
    generalize upd _ l9 _ = H9 at O9 ⊢
    have O9 : Own H H9 [] [(l9, .lst [V.bl false, V.bl true, V.bl false, V.bl false, V.bl false, V.bl false, V.bl false, V.bl false, V.bl false, V.bl false, V.bl false, V.bl false, V.bl false])] := O9.drop (.cons₂ _ (List.nil_sublist _))
    clear O8 O7
    walk_at "s"
    refine ⟨by decide +kernel, by decide +kernel, fun b1 hb1 => ?_⟩
    rw [words1]
    have O10 := O9.new (o := .lst (wds1.map V.str)) hb1
    generalize upd _ b1 _ = H10 at O10 ⊢
    walk_at "s"
    refine ⟨by decide +kernel, by decide +kernel, fun b2 hb2 => ?_⟩
    rw [words2]
    have O11 := O10.new (o := .lst (wds2.map V.str)) hb2
    generalize upd _ b2 _ = H11 at O11 ⊢
    walk_at "s"
    intro b3 hb3
    rw [show wds1.map V.str ++ wds2.map V.str = (wds1 ++ wds2).map V.str from rfl]
    have O12 := (O11.new (o := .lst ((wds1 ++ wds2).map V.str)) hb3).drop (cs' := [(b3, .lst ((wds1 ++ wds2).map V.str)), (l9, .lst [V.bl false, V.bl true, V.bl false, V.bl false, V.bl false, V.bl false, V.bl false, V.bl false, V.bl false, V.bl false, V.bl false, V.bl false, V.bl false])]) (.cons₂ _ (.cons _ (.cons _ (.refl _))))
    generalize upd _ b3 _ = H12 at O12 ⊢
    clear O9 O10 O11
    walk_at "s"
    walk_at "b"
    walk_at "s"
    refine ⟨rfl, ?_⟩
    generalize hb : List.countP _ _ = n
    obtain rfl : n = 1 := hb.symm
    clear hb
    walk_at "s"
    refine ⟨rfl, (show ([V.bl false, V.bl true, V.bl false, V.bl false, V.bl false, V.bl false, V.bl false, V.bl false, V.bl false, V.bl false, V.bl false, V.bl false, V.bl false] : List V)[1]? = some (.bl true) from rfl), rfl, fun m z' hm hz => ?_, ?_⟩
    . have hm : m < 1 := hm
      rcases m with _ | _ |  m <;> first | omega | (cases hz; rfl) | (cases hz; decide) | (cases hz; intro h; cases h)
    have hat : atI ((wds1 ++ wds2).map V.str) 1 = some (.str "NoName") := rfl
    walk_at "s"
    exact k _ (O12.drop (List.nil_sublist _))
  | notDir =>
    have he : H ea = some (CxO (.ref (He.ga K "NotDir")) none ea) := he
    have hw : FRf.word .notDir = "NotDir" := rfl
    rw [hw] at k
    clear hw hko
    walk_at "s"
    intro l1 hl1
    have O1 := O0.new (o := .lst [V.bl false, V.bl false, V.bl true]) hl1
    generalize upd _ l1 _ = H1 at O1 ⊢
    walk_at "s"
    intro l2 hl2
    have O2 := O1.new (o := .lst [V.bl false, V.bl false]) hl2
    generalize upd _ l2 _ = H2 at O2 ⊢
    walk_at "s"
    intro l3 hl3
    rw [show (([V.bl false, V.bl false, V.bl true] : List V) ++ [V.bl false, V.bl false]) = [V.bl false, V.bl false, V.bl true, V.bl false, V.bl false] from rfl]
    have O3 := O2.new (o := .lst [V.bl false, V.bl false, V.bl true, V.bl false, V.bl false]) hl3
    generalize upd _ l3 _ = H3 at O3 ⊢
    have O3 : Own H H3 [] [(l3, .lst [V.bl false, V.bl false, V.bl true, V.bl false, V.bl false])] := O3.drop (.cons₂ _ (List.nil_sublist _))
    clear O1 O2
    walk_at "s"
    intro l4 hl4
    have O4 := O3.new (o := .lst [V.bl false, V.bl false, V.bl false]) hl4
    generalize upd _ l4 _ = H4 at O4 ⊢
    walk_at "s"
    intro l5 hl5
    rw [show (([V.bl false, V.bl false, V.bl true, V.bl false, V.bl false] : List V) ++ [V.bl false, V.bl false, V.bl false]) = [V.bl false, V.bl false, V.bl true, V.bl false, V.bl false, V.bl false, V.bl false, V.bl false] from rfl]
    have O5 := O4.new (o := .lst [V.bl false, V.bl false, V.bl true, V.bl false, V.bl false, V.bl false, V.bl false, V.bl false]) hl5
    generalize upd _ l5 _ = H5 at O5 ⊢
    have O5 : Own H H5 [] [(l5, .lst [V.bl false, V.bl false, V.bl true, V.bl false, V.bl false, V.bl false, V.bl false, V.bl false])] := O5.drop (.cons₂ _ (List.nil_sublist _))
    clear O4 O3
    walk_at "s"
    intro l6 hl6
    have O6 := O5.new (o := .lst [V.bl false, V.bl false]) hl6
    generalize upd _ l6 _ = H6 at O6 ⊢
    walk_at "s"
    intro l7 hl7
    rw [show (([V.bl false, V.bl false, V.bl true, V.bl false, V.bl false, V.bl false, V.bl false, V.bl false] : List V) ++ [V.bl false, V.bl false]) = [V.bl false, V.bl false, V.bl true, V.bl false, V.bl false, V.bl false, V.bl false, V.bl false, V.bl false, V.bl false] from rfl]
    have O7 := O6.new (o := .lst [V.bl false, V.bl false, V.bl true, V.bl false, V.bl false, V.bl false, V.bl false, V.bl false, V.bl false, V.bl false]) hl7
    generalize upd _ l7 _ = H7 at O7 ⊢
    have O7 : Own H H7 [] [(l7, .lst [V.bl false, V.bl false, V.bl true, V.bl false, V.bl false, V.bl false, V.bl false, V.bl false, V.bl false, V.bl false])] := O7.drop (.cons₂ _ (List.nil_sublist _))
    clear O6 O5
    walk_at "s"
    intro l8 hl8
    have O8 := O7.new (o := .lst [V.bl false, V.bl false, V.bl false]) hl8
    generalize upd _ l8 _ = H8 at O8 ⊢
    walk_at "s"
    intro l9 hl9
    rw [show (([V.bl false, V.bl false, V.bl true, V.bl false, V.bl false, V.bl false, V.bl false, V.bl false, V.bl false, V.bl false] : List V) ++ [V.bl false, V.bl false, V.bl false]) = [V.bl false, V.bl false, V.bl true, V.bl false, V.bl false, V.bl false, V.bl false, V.bl false, V.bl false, V.bl false, V.bl false, V.bl false, V.bl false] from rfl]
    have O9 := O8.new (o := .lst [V.bl false, V.bl false, V.bl true, V.bl false, V.bl false, V.bl false, V.bl false, V.bl false, V.bl false, V.bl false, V.bl false, V.bl false, V.bl false]) hl9
    generalize upd _ l9 _ = H9 at O9 ⊢
    have O9 : Own H H9 [] [(l9, .lst [V.bl false, V.bl false, V.bl true, V.bl false, V.bl false, V.bl false, V.bl false, V.bl false, V.bl false, V.bl false, V.bl false, V.bl false, V.bl false])] := O9.drop (.cons₂ _ (List.nil_sublist _))
    clear O8 O7
    walk_at "s"
    refine ⟨by decide +kernel, by decide +kernel, fun b1 hb1 => ?_⟩
    rw [words1]
    have O10 := O9.new (o := .lst (wds1.map V.str)) hb1
    generalize upd _ b1 _ = H10 at O10 ⊢
    walk_at "s"
    refine ⟨by decide +kernel, by decide +kernel, fun b2 hb2 => ?_⟩
    rw [words2]
    have O11 := O10.new (o := .lst (wds2.map V.str)) hb2
    generalize upd _ b2 _ = H11 at O11 ⊢
    walk_at "s"
    intro b3 hb3
    rw [show wds1.map V.str ++ wds2.map V.str = (wds1 ++ wds2).map V.str from rfl]
    have O12 := (O11.new (o := .lst ((wds1 ++ wds2).map V.str)) hb3).drop (cs' := [(b3, .lst ((wds1 ++ wds2).map V.str)), (l9, .lst [V.bl false, V.bl false, V.bl true, V.bl false, V.bl false, V.bl false, V.bl false, V.bl false, V.bl false, V.bl false, V.bl false, V.bl false, V.bl false])]) (.cons₂ _ (.cons _ (.cons _ (.refl _))))
    generalize upd _ b3 _ = H12 at O12 ⊢
    clear O9 O10 O11
    walk_at "s"
    walk_at "b"
    walk_at "s"
    refine ⟨rfl, ?_⟩
    generalize hb : List.countP _ _ = n
    obtain rfl : n = 1 := hb.symm
    clear hb
    walk_at "s"
    refine ⟨rfl, (show ([V.bl false, V.bl false, V.bl true, V.bl false, V.bl false, V.bl false, V.bl false, V.bl false, V.bl false, V.bl false, V.bl false, V.bl false, V.bl false] : List V)[2]? = some (.bl true) from rfl), rfl, fun m z' hm hz => ?_, ?_⟩
    . have hm : m < 2 := hm
      rcases m with _ | _ | _ |  m <;> first | omega | (cases hz; rfl) | (cases hz; decide) | (cases hz; intro h; cases h)
    have hat : atI ((wds1 ++ wds2).map V.str) 2 = some (.str "NotDir") := rfl
    walk_at "s"
    exact k _ (O12.drop (List.nil_sublist _))
  | isDir =>
    have he : H ea = some (CxO (.ref (He.ga K "IsDir")) none ea) := he
    have hw : FRf.word .isDir = "IsDir" := rfl
    rw [hw] at k
    clear hw hko
    walk_at "s"
    intro l1 hl1
    have O1 := O0.new (o := .lst [V.bl false, V.bl false, V.bl false]) hl1
    generalize upd _ l1 _ = H1 at O1 ⊢
    walk_at "s"
    intro l2 hl2
    have O2 := O1.new (o := .lst [V.bl true, V.bl false]) hl2
    generalize upd _ l2 _ = H2 at O2 ⊢
    walk_at "s"
    intro l3 hl3
    rw [show (([V.bl false, V.bl false, V.bl false] : List V) ++ [V.bl true, V.bl false]) = [V.bl false, V.bl false, V.bl false, V.bl true, V.bl false] from rfl]
    have O3 := O2.new (o := .lst [V.bl false, V.bl false, V.bl false, V.bl true, V.bl false]) hl3
    generalize upd _ l3 _ = H3 at O3 ⊢
    have O3 : Own H H3 [] [(l3, .lst [V.bl false, V.bl false, V.bl false, V.bl true, V.bl false])] := O3.drop (.cons₂ _ (List.nil_sublist _))
    clear O1 O2
    walk_at "s"
    intro l4 hl4
    have O4 := O3.new (o := .lst [V.bl false, V.bl false, V.bl false]) hl4
    generalize upd _ l4 _ = H4 at O4 ⊢
    walk_at "s"
    intro l5 hl5
    rw [show (([V.bl false, V.bl false, V.bl false, V.bl true, V.bl false] : List V) ++ [V.bl false, V.bl false, V.bl false]) = [V.bl false, V.bl false, V.bl false, V.bl true, V.bl false, V.bl false, V.bl false, V.bl false] from rfl]
    have O5 := O4.new (o := .lst [V.bl false, V.bl false, V.bl false, V.bl true, V.bl false, V.bl false, V.bl false, V.bl false]) hl5
    generalize upd _ l5 _ = H5 at O5 ⊢
    have O5 : Own H H5 [] [(l5, .lst [V.bl false, V.bl false, V.bl false, V.bl true, V.bl false, V.bl false, V.bl false, V.bl false])] := O5.drop (.cons₂ _ (List.nil_sublist _))
    clear O4 O3
    walk_at "s"
    intro l6 hl6
    have O6 := O5.new (o := .lst [V.bl false, V.bl false]) hl6
    generalize upd _ l6 _ = H6 at O6 ⊢
    walk_at "s"
    intro l7 hl7
    rw [show (([V.bl false, V.bl false, V.bl false, V.bl true, V.bl false, V.bl false, V.bl false, V.bl false] : List V) ++ [V.bl false, V.bl false]) = [V.bl false, V.bl false, V.bl false, V.bl true, V.bl false, V.bl false, V.bl false, V.bl false, V.bl false, V.bl false] from rfl]
    have O7 := O6.new (o := .lst [V.bl false, V.bl false, V.bl false, V.bl true, V.bl false, V.bl false, V.bl false, V.bl false, V.bl false, V.bl false]) hl7
    generalize upd _ l7 _ = H7 at O7 ⊢
    have O7 : Own H H7 [] [(l7, .lst [V.bl false, V.bl false, V.bl false, V.bl true, V.bl false, V.bl false, V.bl false, V.bl false, V.bl false, V.bl false])] := O7.drop (.cons₂ _ (List.nil_sublist _))
    clear O6 O5
    walk_at "s"
    intro l8 hl8
    have O8 := O7.new (o := .lst [V.bl false, V.bl false, V.bl false]) hl8
    generalize upd _ l8 _ = H8 at O8 ⊢
    walk_at "s"
    intro l9 hl9
    rw [show (([V.bl false, V.bl false, V.bl false, V.bl true, V.bl false, V.bl false, V.bl false, V.bl false, V.bl false, V.bl false] : List V) ++ [V.bl false, V.bl false, V.bl false]) = [V.bl false, V.bl false, V.bl false, V.bl true, V.bl false, V.bl false, V.bl false, V.bl false, V.bl false, V.bl false, V.bl false, V.bl false, V.bl false] from rfl]
    have O9 := O8.new (o := .lst [V.bl false, V.bl false, V.bl false, V.bl true, V.bl false, V.bl false, V.bl false, V.bl false, V.bl false, V.bl false, V.bl false, V.bl false, V.bl false]) hl9
    generalize upd _ l9 _ = H9 at O9 ⊢
    have O9 : Own H H9 [] [(l9, .lst [V.bl false, V.bl false, V.bl false, V.bl true, V.bl false, V.bl false, V.bl false, V.bl false, V.bl false, V.bl false, V.bl false, V.bl false, V.bl false])] := O9.drop (.cons₂ _ (List.nil_sublist _))
    clear O8 O7
    walk_at "s"
    refine ⟨by decide +kernel, by decide +kernel, fun b1 hb1 => ?_⟩
    rw [words1]
    have O10 := O9.new (o := .lst (wds1.map V.str)) hb1
    generalize upd _ b1 _ = H10 at O10 ⊢
    walk_at "s"
    refine ⟨by decide +kernel, by decide +kernel, fun b2 hb2 => ?_⟩
    rw [words2]
    have O11 := O10.new (o := .lst (wds2.map V.str)) hb2
    generalize upd _ b2 _ = H11 at O11 ⊢
    walk_at "s"
    intro b3 hb3
    rw [show wds1.map V.str ++ wds2.map V.str = (wds1 ++ wds2).map V.str from rfl]
    have O12 := (O11.new (o := .lst ((wds1 ++ wds2).map V.str)) hb3).drop (cs' := [(b3, .lst ((wds1 ++ wds2).map V.str)), (l9, .lst [V.bl false, V.bl false, V.bl false, V.bl true, V.bl false, V.bl false, V.bl false, V.bl false, V.bl false, V.bl false, V.bl false, V.bl false, V.bl false])]) (.cons₂ _ (.cons _ (.cons _ (.refl _))))
    generalize upd _ b3 _ = H12 at O12 ⊢
    clear O9 O10 O11
    walk_at "s"
    walk_at "b"
    walk_at "s"
    refine ⟨rfl, ?_⟩
    generalize hb : List.countP _ _ = n
    obtain rfl : n = 1 := hb.symm
    clear hb
    walk_at "s"
    refine ⟨rfl, (show ([V.bl false, V.bl false, V.bl false, V.bl true, V.bl false, V.bl false, V.bl false, V.bl false, V.bl false, V.bl false, V.bl false, V.bl false, V.bl false] : List V)[3]? = some (.bl true) from rfl), rfl, fun m z' hm hz => ?_, ?_⟩
    . have hm : m < 3 := hm
      rcases m with _ | _ | _ | _ |  m <;> first | omega | (cases hz; rfl) | (cases hz; decide) | (cases hz; intro h; cases h)
    have hat : atI ((wds1 ++ wds2).map V.str) 3 = some (.str "IsDir") := rfl
    walk_at "s"
    exact k _ (O12.drop (List.nil_sublist _))
  | notEmpty =>
    have he : H ea = some (CxO (.ref (He.ga K "NotEmpty")) none ea) := he
    have hw : FRf.word .notEmpty = "NotEmpty" := rfl
    rw [hw] at k
    clear hw hko
    walk_at "s"
    intro l1 hl1
    have O1 := O0.new (o := .lst [V.bl false, V.bl false, V.bl false]) hl1
    generalize upd _ l1 _ = H1 at O1 ⊢
    walk_at "s"
    intro l2 hl2
    have O2 := O1.new (o := .lst [V.bl false, V.bl true]) hl2
    generalize upd _ l2 _ = H2 at O2 ⊢
    walk_at "s"
    intro l3 hl3
    rw [show (([V.bl false, V.bl false, V.bl false] : List V) ++ [V.bl false, V.bl true]) = [V.bl false, V.bl false, V.bl false, V.bl false, V.bl true] from rfl]
    have O3 := O2.new (o := .lst [V.bl false, V.bl false, V.bl false, V.bl false, V.bl true]) hl3
    generalize upd _ l3 _ = H3 at O3 ⊢
    have O3 : Own H H3 [] [(l3, .lst [V.bl false, V.bl false, V.bl false, V.bl false, V.bl true])] := O3.drop (.cons₂ _ (List.nil_sublist _))
    clear O1 O2
    walk_at "s"
    intro l4 hl4
    have O4 := O3.new (o := .lst [V.bl false, V.bl false, V.bl false]) hl4
    generalize upd _ l4 _ = H4 at O4 ⊢
    walk_at "s"
    intro l5 hl5
    rw [show (([V.bl false, V.bl false, V.bl false, V.bl false, V.bl true] : List V) ++ [V.bl false, V.bl false, V.bl false]) = [V.bl false, V.bl false, V.bl false, V.bl false, V.bl true, V.bl false, V.bl false, V.bl false] from rfl]
    have O5 := O4.new (o := .lst [V.bl false, V.bl false, V.bl false, V.bl false, V.bl true, V.bl false, V.bl false, V.bl false]) hl5
    generalize upd _ l5 _ = H5 at O5 ⊢
    have O5 : Own H H5 [] [(l5, .lst [V.bl false, V.bl false, V.bl false, V.bl false, V.bl true, V.bl false, V.bl false, V.bl false])] := O5.drop (.cons₂ _ (List.nil_sublist _))
    clear O4 O3
    walk_at "s"
    intro l6 hl6
    have O6 := O5.new (o := .lst [V.bl false, V.bl false]) hl6
    generalize upd _ l6 _ = H6 at O6 ⊢
    walk_at "s"
    intro l7 hl7
    rw [show (([V.bl false, V.bl false, V.bl false, V.bl false, V.bl true, V.bl false, V.bl false, V.bl false] : List V) ++ [V.bl false, V.bl false]) = [V.bl false, V.bl false, V.bl false, V.bl false, V.bl true, V.bl false, V.bl false, V.bl false, V.bl false, V.bl false] from rfl]
    have O7 := O6.new (o := .lst [V.bl false, V.bl false, V.bl false, V.bl false, V.bl true, V.bl false, V.bl false, V.bl false, V.bl false, V.bl false]) hl7
    generalize upd _ l7 _ = H7 at O7 ⊢
    have O7 : Own H H7 [] [(l7, .lst [V.bl false, V.bl false, V.bl false, V.bl false, V.bl true, V.bl false, V.bl false, V.bl false, V.bl false, V.bl false])] := O7.drop (.cons₂ _ (List.nil_sublist _))
    clear O6 O5
    walk_at "s"
    intro l8 hl8
    have O8 := O7.new (o := .lst [V.bl false, V.bl false, V.bl false]) hl8
    generalize upd _ l8 _ = H8 at O8 ⊢
    walk_at "s"
    intro l9 hl9
    rw [show (([V.bl false, V.bl false, V.bl false, V.bl false, V.bl true, V.bl false, V.bl false, V.bl false, V.bl false, V.bl false] : List V) ++ [V.bl false, V.bl false, V.bl false]) = [V.bl false, V.bl false, V.bl false, V.bl false, V.bl true, V.bl false, V.bl false, V.bl false, V.bl false, V.bl false, V.bl false, V.bl false, V.bl false] from rfl]
    have O9 := O8.new (o := .lst [V.bl false, V.bl false, V.bl false, V.bl false, V.bl true, V.bl false, V.bl false, V.bl false, V.bl false, V.bl false, V.bl false, V.bl false, V.bl false]) hl9
    generalize upd _ l9 _ = H9 at O9 ⊢
    have O9 : Own H H9 [] [(l9, .lst [V.bl false, V.bl false, V.bl false, V.bl false, V.bl true, V.bl false, V.bl false, V.bl false, V.bl false, V.bl false, V.bl false, V.bl false, V.bl false])] := O9.drop (.cons₂ _ (List.nil_sublist _))
    clear O8 O7
    walk_at "s"
    refine ⟨by decide +kernel, by decide +kernel, fun b1 hb1 => ?_⟩
    rw [words1]
    have O10 := O9.new (o := .lst (wds1.map V.str)) hb1
    generalize upd _ b1 _ = H10 at O10 ⊢
    walk_at "s"
    refine ⟨by decide +kernel, by decide +kernel, fun b2 hb2 => ?_⟩
    rw [words2]
    have O11 := O10.new (o := .lst (wds2.map V.str)) hb2
    generalize upd _ b2 _ = H11 at O11 ⊢
    walk_at "s"
    intro b3 hb3
    rw [show wds1.map V.str ++ wds2.map V.str = (wds1 ++ wds2).map V.str from rfl]
    have O12 := (O11.new (o := .lst ((wds1 ++ wds2).map V.str)) hb3).drop (cs' := [(b3, .lst ((wds1 ++ wds2).map V.str)), (l9, .lst [V.bl false, V.bl false, V.bl false, V.bl false, V.bl true, V.bl false, V.bl false, V.bl false, V.bl false, V.bl false, V.bl false, V.bl false, V.bl false])]) (.cons₂ _ (.cons _ (.cons _ (.refl _))))
    generalize upd _ b3 _ = H12 at O12 ⊢
    clear O9 O10 O11
    walk_at "s"
    walk_at "b"
    walk_at "s"
    refine ⟨rfl, ?_⟩
    generalize hb : List.countP _ _ = n
    obtain rfl : n = 1 := hb.symm
    clear hb
    walk_at "s"
    refine ⟨rfl, (show ([V.bl false, V.bl false, V.bl false, V.bl false, V.bl true, V.bl false, V.bl false, V.bl false, V.bl false, V.bl false, V.bl false, V.bl false, V.bl false] : List V)[4]? = some (.bl true) from rfl), rfl, fun m z' hm hz => ?_, ?_⟩
    . have hm : m < 4 := hm
      rcases m with _ | _ | _ | _ | _ |  m <;> first | omega | (cases hz; rfl) | (cases hz; decide) | (cases hz; intro h; cases h)
    have hat : atI ((wds1 ++ wds2).map V.str) 4 = some (.str "NotEmpty") := rfl
    walk_at "s"
    exact k _ (O12.drop (List.nil_sublist _))
  | inside =>
    have he : H ea = some (CxO (.ref (He.ga K "Inside")) none ea) := he
    have hw : FRf.word .inside = "Inside" := rfl
    rw [hw] at k
    clear hw hko
    walk_at "s"
    intro l1 hl1
    have O1 := O0.new (o := .lst [V.bl false, V.bl false, V.bl false]) hl1
    generalize upd _ l1 _ = H1 at O1 ⊢
    walk_at "s"
    intro l2 hl2
    have O2 := O1.new (o := .lst [V.bl false, V.bl false]) hl2
    generalize upd _ l2 _ = H2 at O2 ⊢
    walk_at "s"
    intro l3 hl3
    rw [show (([V.bl false, V.bl false, V.bl false] : List V) ++ [V.bl false, V.bl false]) = [V.bl false, V.bl false, V.bl false, V.bl false, V.bl false] from rfl]
    have O3 := O2.new (o := .lst [V.bl false, V.bl false, V.bl false, V.bl false, V.bl false]) hl3
    generalize upd _ l3 _ = H3 at O3 ⊢
    have O3 : Own H H3 [] [(l3, .lst [V.bl false, V.bl false, V.bl false, V.bl false, V.bl false])] := O3.drop (.cons₂ _ (List.nil_sublist _))
    clear O1 O2
    walk_at "s"
    intro l4 hl4
    have O4 := O3.new (o := .lst [V.bl true, V.bl false, V.bl false]) hl4
    generalize upd _ l4 _ = H4 at O4 ⊢
    walk_at "s"
    intro l5 hl5
    rw [show (([V.bl false, V.bl false, V.bl false, V.bl false, V.bl false] : List V) ++ [V.bl true, V.bl false, V.bl false]) = [V.bl false, V.bl false, V.bl false, V.bl false, V.bl false, V.bl true, V.bl false, V.bl false] from rfl]
    have O5 := O4.new (o := .lst [V.bl false, V.bl false, V.bl false, V.bl false, V.bl false, V.bl true, V.bl false, V.bl false]) hl5
    generalize upd _ l5 _ = H5 at O5 ⊢
    have O5 : Own H H5 [] [(l5, .lst [V.bl false, V.bl false, V.bl false, V.bl false, V.bl false, V.bl true, V.bl false, V.bl false])] := O5.drop (.cons₂ _ (List.nil_sublist _))
    clear O4 O3
    walk_at "s"
    intro l6 hl6
    have O6 := O5.new (o := .lst [V.bl false, V.bl false]) hl6
    generalize upd _ l6 _ = H6 at O6 ⊢
    walk_at "s"
    intro l7 hl7
    rw [show (([V.bl false, V.bl false, V.bl false, V.bl false, V.bl false, V.bl true, V.bl false, V.bl false] : List V) ++ [V.bl false, V.bl false]) = [V.bl false, V.bl false, V.bl false, V.bl false, V.bl false, V.bl true, V.bl false, V.bl false, V.bl false, V.bl false] from rfl]
    have O7 := O6.new (o := .lst [V.bl false, V.bl false, V.bl false, V.bl false, V.bl false, V.bl true, V.bl false, V.bl false, V.bl false, V.bl false]) hl7
    generalize upd _ l7 _ = H7 at O7 ⊢
    have O7 : Own H H7 [] [(l7, .lst [V.bl false, V.bl false, V.bl false, V.bl false, V.bl false, V.bl true, V.bl false, V.bl false, V.bl false, V.bl false])] := O7.drop (.cons₂ _ (List.nil_sublist _))
    clear O6 O5
    walk_at "s"
    intro l8 hl8
    have O8 := O7.new (o := .lst [V.bl false, V.bl false, V.bl false]) hl8
    generalize upd _ l8 _ = H8 at O8 ⊢
    walk_at "s"
    intro l9 hl9
    rw [show (([V.bl false, V.bl false, V.bl false, V.bl false, V.bl false, V.bl true, V.bl false, V.bl false, V.bl false, V.bl false] : List V) ++ [V.bl false, V.bl false, V.bl false]) = [V.bl false, V.bl false, V.bl false, V.bl false, V.bl false, V.bl true, V.bl false, V.bl false, V.bl false, V.bl false, V.bl false, V.bl false, V.bl false] from rfl]
    have O9 := O8.new (o := .lst [V.bl false, V.bl false, V.bl false, V.bl false, V.bl false, V.bl true, V.bl false, V.bl false, V.bl false, V.bl false, V.bl false, V.bl false, V.bl false]) hl9
    generalize upd _ l9 _ = H9 at O9 ⊢
    have O9 : Own H H9 [] [(l9, .lst [V.bl false, V.bl false, V.bl false, V.bl false, V.bl false, V.bl true, V.bl false, V.bl false, V.bl false, V.bl false, V.bl false, V.bl false, V.bl false])] := O9.drop (.cons₂ _ (List.nil_sublist _))
    clear O8 O7
    walk_at "s"
    refine ⟨by decide +kernel, by decide +kernel, fun b1 hb1 => ?_⟩
    rw [words1]
    have O10 := O9.new (o := .lst (wds1.map V.str)) hb1
    generalize upd _ b1 _ = H10 at O10 ⊢
    walk_at "s"
    refine ⟨by decide +kernel, by decide +kernel, fun b2 hb2 => ?_⟩
    rw [words2]
    have O11 := O10.new (o := .lst (wds2.map V.str)) hb2
    generalize upd _ b2 _ = H11 at O11 ⊢
    walk_at "s"
    intro b3 hb3
    rw [show wds1.map V.str ++ wds2.map V.str = (wds1 ++ wds2).map V.str from rfl]
    have O12 := (O11.new (o := .lst ((wds1 ++ wds2).map V.str)) hb3).drop (cs' := [(b3, .lst ((wds1 ++ wds2).map V.str)), (l9, .lst [V.bl false, V.bl false, V.bl false, V.bl false, V.bl false, V.bl true, V.bl false, V.bl false, V.bl false, V.bl false, V.bl false, V.bl false, V.bl false])]) (.cons₂ _ (.cons _ (.cons _ (.refl _))))
    generalize upd _ b3 _ = H12 at O12 ⊢
    clear O9 O10 O11
    walk_at "s"
    walk_at "b"
    walk_at "s"
    refine ⟨rfl, ?_⟩
    generalize hb : List.countP _ _ = n
    obtain rfl : n = 1 := hb.symm
    clear hb
    walk_at "s"
    refine ⟨rfl, (show ([V.bl false, V.bl false, V.bl false, V.bl false, V.bl false, V.bl true, V.bl false, V.bl false, V.bl false, V.bl false, V.bl false, V.bl false, V.bl false] : List V)[5]? = some (.bl true) from rfl), rfl, fun m z' hm hz => ?_, ?_⟩
    . have hm : m < 5 := hm
      rcases m with _ | _ | _ | _ | _ | _ |  m <;> first | omega | (cases hz; rfl) | (cases hz; decide) | (cases hz; intro h; cases h)
    have hat : atI ((wds1 ++ wds2).map V.str) 5 = some (.str "Inside") := rfl
    walk_at "s"
    exact k _ (O12.drop (List.nil_sublist _))
  | noNode =>
    have he : H ea = some (CxO (.ref (He.ga K "NoNode")) none ea) := he
    have hw : FRf.word .noNode = "NoNode" := rfl
    rw [hw] at k
    clear hw hko
    walk_at "s"
    intro l1 hl1
    have O1 := O0.new (o := .lst [V.bl false, V.bl false, V.bl false]) hl1
    generalize upd _ l1 _ = H1 at O1 ⊢
    walk_at "s"
    intro l2 hl2
    have O2 := O1.new (o := .lst [V.bl false, V.bl false]) hl2
    generalize upd _ l2 _ = H2 at O2 ⊢
    walk_at "s"
    intro l3 hl3
    rw [show (([V.bl false, V.bl false, V.bl false] : List V) ++ [V.bl false, V.bl false]) = [V.bl false, V.bl false, V.bl false, V.bl false, V.bl false] from rfl]
    have O3 := O2.new (o := .lst [V.bl false, V.bl false, V.bl false, V.bl false, V.bl false]) hl3
    generalize upd _ l3 _ = H3 at O3 ⊢
    have O3 : Own H H3 [] [(l3, .lst [V.bl false, V.bl false, V.bl false, V.bl false, V.bl false])] := O3.drop (.cons₂ _ (List.nil_sublist _))
    clear O1 O2
    walk_at "s"
    intro l4 hl4
    have O4 := O3.new (o := .lst [V.bl false, V.bl true, V.bl false]) hl4
    generalize upd _ l4 _ = H4 at O4 ⊢
    walk_at "s"
    intro l5 hl5
    rw [show (([V.bl false, V.bl false, V.bl false, V.bl false, V.bl false] : List V) ++ [V.bl false, V.bl true, V.bl false]) = [V.bl false, V.bl false, V.bl false, V.bl false, V.bl false, V.bl false, V.bl true, V.bl false] from rfl]
    have O5 := O4.new (o := .lst [V.bl false, V.bl false, V.bl false, V.bl false, V.bl false, V.bl false, V.bl true, V.bl false]) hl5
    generalize upd _ l5 _ = H5 at O5 ⊢
    have O5 : Own H H5 [] [(l5, .lst [V.bl false, V.bl false, V.bl false, V.bl false, V.bl false, V.bl false, V.bl true, V.bl false])] := O5.drop (.cons₂ _ (List.nil_sublist _))
    clear O4 O3
    walk_at "s"
    intro l6 hl6
    have O6 := O5.new (o := .lst [V.bl false, V.bl false]) hl6
    generalize upd _ l6 _ = H6 at O6 ⊢
    walk_at "s"
    intro l7 hl7
    rw [show (([V.bl false, V.bl false, V.bl false, V.bl false, V.bl false, V.bl false, V.bl true, V.bl false] : List V) ++ [V.bl false, V.bl false]) = [V.bl false, V.bl false, V.bl false, V.bl false, V.bl false, V.bl false, V.bl true, V.bl false, V.bl false, V.bl false] from rfl]
    have O7 := O6.new (o := .lst [V.bl false, V.bl false, V.bl false, V.bl false, V.bl false, V.bl false, V.bl true, V.bl false, V.bl false, V.bl false]) hl7
    generalize upd _ l7 _ = H7 at O7 ⊢
    have O7 : Own H H7 [] [(l7, .lst [V.bl false, V.bl false, V.bl false, V.bl false, V.bl false, V.bl false, V.bl true, V.bl false, V.bl false, V.bl false])] := O7.drop (.cons₂ _ (List.nil_sublist _))
    clear O6 O5
    walk_at "s"
    intro l8 hl8
    have O8 := O7.new (o := .lst [V.bl false, V.bl false, V.bl false]) hl8
    generalize upd _ l8 _ = H8 at O8 ⊢
    walk_at "s"
    intro l9 hl9
    rw [show (([V.bl false, V.bl false, V.bl false, V.bl false, V.bl false, V.bl false, V.bl true, V.bl false, V.bl false, V.bl false] : List V) ++ [V.bl false, V.bl false, V.bl false]) = [V.bl false, V.bl false, V.bl false, V.bl false, V.bl false, V.bl false, V.bl true, V.bl false, V.bl false, V.bl false, V.bl false, V.bl false, V.bl false] from rfl]
    have O9 := O8.new (o := .lst [V.bl false, V.bl false, V.bl false, V.bl false, V.bl false, V.bl false, V.bl true, V.bl false, V.bl false, V.bl false, V.bl false, V.bl false, V.bl false]) hl9
    generalize upd _ l9 _ = H9 at O9 ⊢
    have O9 : Own H H9 [] [(l9, .lst [V.bl false, V.bl false, V.bl false, V.bl false, V.bl false, V.bl false, V.bl true, V.bl false, V.bl false, V.bl false, V.bl false, V.bl false, V.bl false])] := O9.drop (.cons₂ _ (List.nil_sublist _))
    clear O8 O7
    walk_at "s"
    refine ⟨by decide +kernel, by decide +kernel, fun b1 hb1 => ?_⟩
    rw [words1]
    have O10 := O9.new (o := .lst (wds1.map V.str)) hb1
    generalize upd _ b1 _ = H10 at O10 ⊢
    walk_at "s"
    refine ⟨by decide +kernel, by decide +kernel, fun b2 hb2 => ?_⟩
    rw [words2]
    have O11 := O10.new (o := .lst (wds2.map V.str)) hb2
    generalize upd _ b2 _ = H11 at O11 ⊢
    walk_at "s"
    intro b3 hb3
    rw [show wds1.map V.str ++ wds2.map V.str = (wds1 ++ wds2).map V.str from rfl]
    have O12 := (O11.new (o := .lst ((wds1 ++ wds2).map V.str)) hb3).drop (cs' := [(b3, .lst ((wds1 ++ wds2).map V.str)), (l9, .lst [V.bl false, V.bl false, V.bl false, V.bl false, V.bl false, V.bl false, V.bl true, V.bl false, V.bl false, V.bl false, V.bl false, V.bl false, V.bl false])]) (.cons₂ _ (.cons _ (.cons _ (.refl _))))
    generalize upd _ b3 _ = H12 at O12 ⊢
    clear O9 O10 O11
    walk_at "s"
    walk_at "b"
    walk_at "s"
    refine ⟨rfl, ?_⟩
    generalize hb : List.countP _ _ = n
    obtain rfl : n = 1 := hb.symm
    clear hb
    walk_at "s"
    refine ⟨rfl, (show ([V.bl false, V.bl false, V.bl false, V.bl false, V.bl false, V.bl false, V.bl true, V.bl false, V.bl false, V.bl false, V.bl false, V.bl false, V.bl false] : List V)[6]? = some (.bl true) from rfl), rfl, fun m z' hm hz => ?_, ?_⟩
    . have hm : m < 6 := hm
      rcases m with _ | _ | _ | _ | _ | _ | _ |  m <;> first | omega | (cases hz; rfl) | (cases hz; decide) | (cases hz; intro h; cases h)
    have hat : atI ((wds1 ++ wds2).map V.str) 6 = some (.str "NoNode") := rfl
    walk_at "s"
    exact k _ (O12.drop (List.nil_sublist _))
  | noSpace =>
    have he : H ea = some (CxO (.ref (He.ga K "NoSpace")) none ea) := he
    have hw : FRf.word .noSpace = "NoSpace" := rfl
    rw [hw] at k
    clear hw hko
    walk_at "s"
    intro l1 hl1
    have O1 := O0.new (o := .lst [V.bl false, V.bl false, V.bl false]) hl1
    generalize upd _ l1 _ = H1 at O1 ⊢
    walk_at "s"
    intro l2 hl2
    have O2 := O1.new (o := .lst [V.bl false, V.bl false]) hl2
    generalize upd _ l2 _ = H2 at O2 ⊢
    walk_at "s"
    intro l3 hl3
    rw [show (([V.bl false, V.bl false, V.bl false] : List V) ++ [V.bl false, V.bl false]) = [V.bl false, V.bl false, V.bl false, V.bl false, V.bl false] from rfl]
    have O3 := O2.new (o := .lst [V.bl false, V.bl false, V.bl false, V.bl false, V.bl false]) hl3
    generalize upd _ l3 _ = H3 at O3 ⊢
    have O3 : Own H H3 [] [(l3, .lst [V.bl false, V.bl false, V.bl false, V.bl false, V.bl false])] := O3.drop (.cons₂ _ (List.nil_sublist _))
    clear O1 O2
    walk_at "s"
    intro l4 hl4
    have O4 := O3.new (o := .lst [V.bl false, V.bl false, V.bl true]) hl4
    generalize upd _ l4 _ = H4 at O4 ⊢
    walk_at "s"
    intro l5 hl5
    rw [show (([V.bl false, V.bl false, V.bl false, V.bl false, V.bl false] : List V) ++ [V.bl false, V.bl false, V.bl true]) = [V.bl false, V.bl false, V.bl false, V.bl false, V.bl false, V.bl false, V.bl false, V.bl true] from rfl]
    have O5 := O4.new (o := .lst [V.bl false, V.bl false, V.bl false, V.bl false, V.bl false, V.bl false, V.bl false, V.bl true]) hl5
    generalize upd _ l5 _ = H5 at O5 ⊢
    have O5 : Own H H5 [] [(l5, .lst [V.bl false, V.bl false, V.bl false, V.bl false, V.bl false, V.bl false, V.bl false, V.bl true])] := O5.drop (.cons₂ _ (List.nil_sublist _))
    clear O4 O3
    walk_at "s"
    intro l6 hl6
    have O6 := O5.new (o := .lst [V.bl false, V.bl false]) hl6
    generalize upd _ l6 _ = H6 at O6 ⊢
    walk_at "s"
    intro l7 hl7
    rw [show (([V.bl false, V.bl false, V.bl false, V.bl false, V.bl false, V.bl false, V.bl false, V.bl true] : List V) ++ [V.bl false, V.bl false]) = [V.bl false, V.bl false, V.bl false, V.bl false, V.bl false, V.bl false, V.bl false, V.bl true, V.bl false, V.bl false] from rfl]
    have O7 := O6.new (o := .lst [V.bl false, V.bl false, V.bl false, V.bl false, V.bl false, V.bl false, V.bl false, V.bl true, V.bl false, V.bl false]) hl7
    generalize upd _ l7 _ = H7 at O7 ⊢
    have O7 : Own H H7 [] [(l7, .lst [V.bl false, V.bl false, V.bl false, V.bl false, V.bl false, V.bl false, V.bl false, V.bl true, V.bl false, V.bl false])] := O7.drop (.cons₂ _ (List.nil_sublist _))
    clear O6 O5
    walk_at "s"
    intro l8 hl8
    have O8 := O7.new (o := .lst [V.bl false, V.bl false, V.bl false]) hl8
    generalize upd _ l8 _ = H8 at O8 ⊢
    walk_at "s"
    intro l9 hl9
    rw [show (([V.bl false, V.bl false, V.bl false, V.bl false, V.bl false, V.bl false, V.bl false, V.bl true, V.bl false, V.bl false] : List V) ++ [V.bl false, V.bl false, V.bl false]) = [V.bl false, V.bl false, V.bl false, V.bl false, V.bl false, V.bl false, V.bl false, V.bl true, V.bl false, V.bl false, V.bl false, V.bl false, V.bl false] from rfl]
    have O9 := O8.new (o := .lst [V.bl false, V.bl false, V.bl false, V.bl false, V.bl false, V.bl false, V.bl false, V.bl true, V.bl false, V.bl false, V.bl false, V.bl false, V.bl false]) hl9
    generalize upd _ l9 _ = H9 at O9 ⊢
    have O9 : Own H H9 [] [(l9, .lst [V.bl false, V.bl false, V.bl false, V.bl false, V.bl false, V.bl false, V.bl false, V.bl true, V.bl false, V.bl false, V.bl false, V.bl false, V.bl false])] := O9.drop (.cons₂ _ (List.nil_sublist _))
    clear O8 O7
    walk_at "s"
    refine ⟨by decide +kernel, by decide +kernel, fun b1 hb1 => ?_⟩
    rw [words1]
    have O10 := O9.new (o := .lst (wds1.map V.str)) hb1
    generalize upd _ b1 _ = H10 at O10 ⊢
    walk_at "s"
    refine ⟨by decide +kernel, by decide +kernel, fun b2 hb2 => ?_⟩
    rw [words2]
    have O11 := O10.new (o := .lst (wds2.map V.str)) hb2
    generalize upd _ b2 _ = H11 at O11 ⊢
    walk_at "s"
    intro b3 hb3
    rw [show wds1.map V.str ++ wds2.map V.str = (wds1 ++ wds2).map V.str from rfl]
    have O12 := (O11.new (o := .lst ((wds1 ++ wds2).map V.str)) hb3).drop (cs' := [(b3, .lst ((wds1 ++ wds2).map V.str)), (l9, .lst [V.bl false, V.bl false, V.bl false, V.bl false, V.bl false, V.bl false, V.bl false, V.bl true, V.bl false, V.bl false, V.bl false, V.bl false, V.bl false])]) (.cons₂ _ (.cons _ (.cons _ (.refl _))))
    generalize upd _ b3 _ = H12 at O12 ⊢
    clear O9 O10 O11
    walk_at "s"
    walk_at "b"
    walk_at "s"
    refine ⟨rfl, ?_⟩
    generalize hb : List.countP _ _ = n
    obtain rfl : n = 1 := hb.symm
    clear hb
    walk_at "s"
    refine ⟨rfl, (show ([V.bl false, V.bl false, V.bl false, V.bl false, V.bl false, V.bl false, V.bl false, V.bl true, V.bl false, V.bl false, V.bl false, V.bl false, V.bl false] : List V)[7]? = some (.bl true) from rfl), rfl, fun m z' hm hz => ?_, ?_⟩
    . have hm : m < 7 := hm
      rcases m with _ | _ | _ | _ | _ | _ | _ | _ |  m <;> first | omega | (cases hz; rfl) | (cases hz; decide) | (cases hz; intro h; cases h)
    have hat : atI ((wds1 ++ wds2).map V.str) 7 = some (.str "NoSpace") := rfl
    walk_at "s"
    exact k _ (O12.drop (List.nil_sublist _))
  | tooMany =>
    have he : H ea = some (CxO (.ref (He.ga K "TooMany")) none ea) := he
    have hw : FRf.word .tooMany = "TooMany" := rfl
    rw [hw] at k
    clear hw hko
    walk_at "s"
    intro l1 hl1
    have O1 := O0.new (o := .lst [V.bl false, V.bl false, V.bl false]) hl1
    generalize upd _ l1 _ = H1 at O1 ⊢
    walk_at "s"
    intro l2 hl2
    have O2 := O1.new (o := .lst [V.bl false, V.bl false]) hl2
    generalize upd _ l2 _ = H2 at O2 ⊢
    walk_at "s"
    intro l3 hl3
    rw [show (([V.bl false, V.bl false, V.bl false] : List V) ++ [V.bl false, V.bl false]) = [V.bl false, V.bl false, V.bl false, V.bl false, V.bl false] from rfl]
    have O3 := O2.new (o := .lst [V.bl false, V.bl false, V.bl false, V.bl false, V.bl false]) hl3
    generalize upd _ l3 _ = H3 at O3 ⊢
    have O3 : Own H H3 [] [(l3, .lst [V.bl false, V.bl false, V.bl false, V.bl false, V.bl false])] := O3.drop (.cons₂ _ (List.nil_sublist _))
    clear O1 O2
    walk_at "s"
    intro l4 hl4
    have O4 := O3.new (o := .lst [V.bl false, V.bl false, V.bl false]) hl4
    generalize upd _ l4 _ = H4 at O4 ⊢
    walk_at "s"
    intro l5 hl5
    rw [show (([V.bl false, V.bl false, V.bl false, V.bl false, V.bl false] : List V) ++ [V.bl false, V.bl false, V.bl false]) = [V.bl false, V.bl false, V.bl false, V.bl false, V.bl false, V.bl false, V.bl false, V.bl false] from rfl]
    have O5 := O4.new (o := .lst [V.bl false, V.bl false, V.bl false, V.bl false, V.bl false, V.bl false, V.bl false, V.bl false]) hl5
    generalize upd _ l5 _ = H5 at O5 ⊢
    have O5 : Own H H5 [] [(l5, .lst [V.bl false, V.bl false, V.bl false, V.bl false, V.bl false, V.bl false, V.bl false, V.bl false])] := O5.drop (.cons₂ _ (List.nil_sublist _))
    clear O4 O3
    walk_at "s"
    intro l6 hl6
    have O6 := O5.new (o := .lst [V.bl true, V.bl false]) hl6
    generalize upd _ l6 _ = H6 at O6 ⊢
    walk_at "s"
    intro l7 hl7
    rw [show (([V.bl false, V.bl false, V.bl false, V.bl false, V.bl false, V.bl false, V.bl false, V.bl false] : List V) ++ [V.bl true, V.bl false]) = [V.bl false, V.bl false, V.bl false, V.bl false, V.bl false, V.bl false, V.bl false, V.bl false, V.bl true, V.bl false] from rfl]
    have O7 := O6.new (o := .lst [V.bl false, V.bl false, V.bl false, V.bl false, V.bl false, V.bl false, V.bl false, V.bl false, V.bl true, V.bl false]) hl7
    generalize upd _ l7 _ = H7 at O7 ⊢
    have O7 : Own H H7 [] [(l7, .lst [V.bl false, V.bl false, V.bl false, V.bl false, V.bl false, V.bl false, V.bl false, V.bl false, V.bl true, V.bl false])] := O7.drop (.cons₂ _ (List.nil_sublist _))
    clear O6 O5
    walk_at "s"
    intro l8 hl8
    have O8 := O7.new (o := .lst [V.bl false, V.bl false, V.bl false]) hl8
    generalize upd _ l8 _ = H8 at O8 ⊢
    walk_at "s"
    intro l9 hl9
    rw [show (([V.bl false, V.bl false, V.bl false, V.bl false, V.bl false, V.bl false, V.bl false, V.bl false, V.bl true, V.bl false] : List V) ++ [V.bl false, V.bl false, V.bl false]) = [V.bl false, V.bl false, V.bl false, V.bl false, V.bl false, V.bl false, V.bl false, V.bl false, V.bl true, V.bl false, V.bl false, V.bl false, V.bl false] from rfl]
    have O9 := O8.new (o := .lst [V.bl false, V.bl false, V.bl false, V.bl false, V.bl false, V.bl false, V.bl false, V.bl false, V.bl true, V.bl false, V.bl false, V.bl false, V.bl false]) hl9
    generalize upd _ l9 _ = H9 at O9 ⊢
    have O9 : Own H H9 [] [(l9, .lst [V.bl false, V.bl false, V.bl false, V.bl false, V.bl false, V.bl false, V.bl false, V.bl false, V.bl true, V.bl false, V.bl false, V.bl false, V.bl false])] := O9.drop (.cons₂ _ (List.nil_sublist _))
    clear O8 O7
    walk_at "s"
    refine ⟨by decide +kernel, by decide +kernel, fun b1 hb1 => ?_⟩
    rw [words1]
    have O10 := O9.new (o := .lst (wds1.map V.str)) hb1
    generalize upd _ b1 _ = H10 at O10 ⊢
    walk_at "s"
    refine ⟨by decide +kernel, by decide +kernel, fun b2 hb2 => ?_⟩
    rw [words2]
    have O11 := O10.new (o := .lst (wds2.map V.str)) hb2
    generalize upd _ b2 _ = H11 at O11 ⊢
    walk_at "s"
    intro b3 hb3
    rw [show wds1.map V.str ++ wds2.map V.str = (wds1 ++ wds2).map V.str from rfl]
    have O12 := (O11.new (o := .lst ((wds1 ++ wds2).map V.str)) hb3).drop (cs' := [(b3, .lst ((wds1 ++ wds2).map V.str)), (l9, .lst [V.bl false, V.bl false, V.bl false, V.bl false, V.bl false, V.bl false, V.bl false, V.bl false, V.bl true, V.bl false, V.bl false, V.bl false, V.bl false])]) (.cons₂ _ (.cons _ (.cons _ (.refl _))))
    generalize upd _ b3 _ = H12 at O12 ⊢
    clear O9 O10 O11
    walk_at "s"
    walk_at "b"
    walk_at "s"
    refine ⟨rfl, ?_⟩
    generalize hb : List.countP _ _ = n
    obtain rfl : n = 1 := hb.symm
    clear hb
    walk_at "s"
    refine ⟨rfl, (show ([V.bl false, V.bl false, V.bl false, V.bl false, V.bl false, V.bl false, V.bl false, V.bl false, V.bl true, V.bl false, V.bl false, V.bl false, V.bl false] : List V)[8]? = some (.bl true) from rfl), rfl, fun m z' hm hz => ?_, ?_⟩
    . have hm : m < 8 := hm
      rcases m with _ | _ | _ | _ | _ | _ | _ | _ | _ |  m <;> first | omega | (cases hz; rfl) | (cases hz; decide) | (cases hz; intro h; cases h)
    have hat : atI ((wds1 ++ wds2).map V.str) 8 = some (.str "TooMany") := rfl
    walk_at "s"
    exact k _ (O12.drop (List.nil_sublist _))
  | tooBig => cases hko
  | notHeld => cases hko
  | notAllowed =>
    have he : H ea = some (CxO (.ref (He.ga K "NotAllowed")) none ea) := he
    have hw : FRf.word .notAllowed = "NotAllowed" := rfl
    rw [hw] at k
    clear hw hko
    walk_at "s"
    intro l1 hl1
    have O1 := O0.new (o := .lst [V.bl false, V.bl false, V.bl false]) hl1
    generalize upd _ l1 _ = H1 at O1 ⊢
    walk_at "s"
    intro l2 hl2
    have O2 := O1.new (o := .lst [V.bl false, V.bl false]) hl2
    generalize upd _ l2 _ = H2 at O2 ⊢
    walk_at "s"
    intro l3 hl3
    rw [show (([V.bl false, V.bl false, V.bl false] : List V) ++ [V.bl false, V.bl false]) = [V.bl false, V.bl false, V.bl false, V.bl false, V.bl false] from rfl]
    have O3 := O2.new (o := .lst [V.bl false, V.bl false, V.bl false, V.bl false, V.bl false]) hl3
    generalize upd _ l3 _ = H3 at O3 ⊢
    have O3 : Own H H3 [] [(l3, .lst [V.bl false, V.bl false, V.bl false, V.bl false, V.bl false])] := O3.drop (.cons₂ _ (List.nil_sublist _))
    clear O1 O2
    walk_at "s"
    intro l4 hl4
    have O4 := O3.new (o := .lst [V.bl false, V.bl false, V.bl false]) hl4
    generalize upd _ l4 _ = H4 at O4 ⊢
    walk_at "s"
    intro l5 hl5
    rw [show (([V.bl false, V.bl false, V.bl false, V.bl false, V.bl false] : List V) ++ [V.bl false, V.bl false, V.bl false]) = [V.bl false, V.bl false, V.bl false, V.bl false, V.bl false, V.bl false, V.bl false, V.bl false] from rfl]
    have O5 := O4.new (o := .lst [V.bl false, V.bl false, V.bl false, V.bl false, V.bl false, V.bl false, V.bl false, V.bl false]) hl5
    generalize upd _ l5 _ = H5 at O5 ⊢
    have O5 : Own H H5 [] [(l5, .lst [V.bl false, V.bl false, V.bl false, V.bl false, V.bl false, V.bl false, V.bl false, V.bl false])] := O5.drop (.cons₂ _ (List.nil_sublist _))
    clear O4 O3
    walk_at "s"
    intro l6 hl6
    have O6 := O5.new (o := .lst [V.bl false, V.bl false]) hl6
    generalize upd _ l6 _ = H6 at O6 ⊢
    walk_at "s"
    intro l7 hl7
    rw [show (([V.bl false, V.bl false, V.bl false, V.bl false, V.bl false, V.bl false, V.bl false, V.bl false] : List V) ++ [V.bl false, V.bl false]) = [V.bl false, V.bl false, V.bl false, V.bl false, V.bl false, V.bl false, V.bl false, V.bl false, V.bl false, V.bl false] from rfl]
    have O7 := O6.new (o := .lst [V.bl false, V.bl false, V.bl false, V.bl false, V.bl false, V.bl false, V.bl false, V.bl false, V.bl false, V.bl false]) hl7
    generalize upd _ l7 _ = H7 at O7 ⊢
    have O7 : Own H H7 [] [(l7, .lst [V.bl false, V.bl false, V.bl false, V.bl false, V.bl false, V.bl false, V.bl false, V.bl false, V.bl false, V.bl false])] := O7.drop (.cons₂ _ (List.nil_sublist _))
    clear O6 O5
    walk_at "s"
    intro l8 hl8
    have O8 := O7.new (o := .lst [V.bl false, V.bl true, V.bl false]) hl8
    generalize upd _ l8 _ = H8 at O8 ⊢
    walk_at "s"
    intro l9 hl9
    rw [show (([V.bl false, V.bl false, V.bl false, V.bl false, V.bl false, V.bl false, V.bl false, V.bl false, V.bl false, V.bl false] : List V) ++ [V.bl false, V.bl true, V.bl false]) = [V.bl false, V.bl false, V.bl false, V.bl false, V.bl false, V.bl false, V.bl false, V.bl false, V.bl false, V.bl false, V.bl false, V.bl true, V.bl false] from rfl]
    have O9 := O8.new (o := .lst [V.bl false, V.bl false, V.bl false, V.bl false, V.bl false, V.bl false, V.bl false, V.bl false, V.bl false, V.bl false, V.bl false, V.bl true, V.bl false]) hl9
    generalize upd _ l9 _ = H9 at O9 ⊢
    have O9 : Own H H9 [] [(l9, .lst [V.bl false, V.bl false, V.bl false, V.bl false, V.bl false, V.bl false, V.bl false, V.bl false, V.bl false, V.bl false, V.bl false, V.bl true, V.bl false])] := O9.drop (.cons₂ _ (List.nil_sublist _))
    clear O8 O7
    walk_at "s"
    refine ⟨by decide +kernel, by decide +kernel, fun b1 hb1 => ?_⟩
    rw [words1]
    have O10 := O9.new (o := .lst (wds1.map V.str)) hb1
    generalize upd _ b1 _ = H10 at O10 ⊢
    walk_at "s"
    refine ⟨by decide +kernel, by decide +kernel, fun b2 hb2 => ?_⟩
    rw [words2]
    have O11 := O10.new (o := .lst (wds2.map V.str)) hb2
    generalize upd _ b2 _ = H11 at O11 ⊢
    walk_at "s"
    intro b3 hb3
    rw [show wds1.map V.str ++ wds2.map V.str = (wds1 ++ wds2).map V.str from rfl]
    have O12 := (O11.new (o := .lst ((wds1 ++ wds2).map V.str)) hb3).drop (cs' := [(b3, .lst ((wds1 ++ wds2).map V.str)), (l9, .lst [V.bl false, V.bl false, V.bl false, V.bl false, V.bl false, V.bl false, V.bl false, V.bl false, V.bl false, V.bl false, V.bl false, V.bl true, V.bl false])]) (.cons₂ _ (.cons _ (.cons _ (.refl _))))
    generalize upd _ b3 _ = H12 at O12 ⊢
    clear O9 O10 O11
    walk_at "s"
    walk_at "b"
    walk_at "s"
    refine ⟨rfl, ?_⟩
    generalize hb : List.countP _ _ = n
    obtain rfl : n = 1 := hb.symm
    clear hb
    walk_at "s"
    refine ⟨rfl, (show ([V.bl false, V.bl false, V.bl false, V.bl false, V.bl false, V.bl false, V.bl false, V.bl false, V.bl false, V.bl false, V.bl false, V.bl true, V.bl false] : List V)[11]? = some (.bl true) from rfl), rfl, fun m z' hm hz => ?_, ?_⟩
    . have hm : m < 11 := hm
      rcases m with _ | _ | _ | _ | _ | _ | _ | _ | _ | _ | _ | _ |  m <;> first | omega | (cases hz; rfl) | (cases hz; decide) | (cases hz; intro h; cases h)
    have hat : atI ((wds1 ++ wds2).map V.str) 11 = some (.str "NotAllowed") := rfl
    walk_at "s"
    exact k _ (O12.drop (List.nil_sublist _))
  | taken =>
    have he : H ea = some (CxO (.ref (He.ga K "Taken")) none ea) := he
    have hw : FRf.word .taken = "Taken" := rfl
    rw [hw] at k
    clear hw hko
    walk_at "s"
    intro l1 hl1
    have O1 := O0.new (o := .lst [V.bl false, V.bl false, V.bl false]) hl1
    generalize upd _ l1 _ = H1 at O1 ⊢
    walk_at "s"
    intro l2 hl2
    have O2 := O1.new (o := .lst [V.bl false, V.bl false]) hl2
    generalize upd _ l2 _ = H2 at O2 ⊢
    walk_at "s"
    intro l3 hl3
    rw [show (([V.bl false, V.bl false, V.bl false] : List V) ++ [V.bl false, V.bl false]) = [V.bl false, V.bl false, V.bl false, V.bl false, V.bl false] from rfl]
    have O3 := O2.new (o := .lst [V.bl false, V.bl false, V.bl false, V.bl false, V.bl false]) hl3
    generalize upd _ l3 _ = H3 at O3 ⊢
    have O3 : Own H H3 [] [(l3, .lst [V.bl false, V.bl false, V.bl false, V.bl false, V.bl false])] := O3.drop (.cons₂ _ (List.nil_sublist _))
    clear O1 O2
    walk_at "s"
    intro l4 hl4
    have O4 := O3.new (o := .lst [V.bl false, V.bl false, V.bl false]) hl4
    generalize upd _ l4 _ = H4 at O4 ⊢
    walk_at "s"
    intro l5 hl5
    rw [show (([V.bl false, V.bl false, V.bl false, V.bl false, V.bl false] : List V) ++ [V.bl false, V.bl false, V.bl false]) = [V.bl false, V.bl false, V.bl false, V.bl false, V.bl false, V.bl false, V.bl false, V.bl false] from rfl]
    have O5 := O4.new (o := .lst [V.bl false, V.bl false, V.bl false, V.bl false, V.bl false, V.bl false, V.bl false, V.bl false]) hl5
    generalize upd _ l5 _ = H5 at O5 ⊢
    have O5 : Own H H5 [] [(l5, .lst [V.bl false, V.bl false, V.bl false, V.bl false, V.bl false, V.bl false, V.bl false, V.bl false])] := O5.drop (.cons₂ _ (List.nil_sublist _))
    clear O4 O3
    walk_at "s"
    intro l6 hl6
    have O6 := O5.new (o := .lst [V.bl false, V.bl false]) hl6
    generalize upd _ l6 _ = H6 at O6 ⊢
    walk_at "s"
    intro l7 hl7
    rw [show (([V.bl false, V.bl false, V.bl false, V.bl false, V.bl false, V.bl false, V.bl false, V.bl false] : List V) ++ [V.bl false, V.bl false]) = [V.bl false, V.bl false, V.bl false, V.bl false, V.bl false, V.bl false, V.bl false, V.bl false, V.bl false, V.bl false] from rfl]
    have O7 := O6.new (o := .lst [V.bl false, V.bl false, V.bl false, V.bl false, V.bl false, V.bl false, V.bl false, V.bl false, V.bl false, V.bl false]) hl7
    generalize upd _ l7 _ = H7 at O7 ⊢
    have O7 : Own H H7 [] [(l7, .lst [V.bl false, V.bl false, V.bl false, V.bl false, V.bl false, V.bl false, V.bl false, V.bl false, V.bl false, V.bl false])] := O7.drop (.cons₂ _ (List.nil_sublist _))
    clear O6 O5
    walk_at "s"
    intro l8 hl8
    have O8 := O7.new (o := .lst [V.bl false, V.bl false, V.bl true]) hl8
    generalize upd _ l8 _ = H8 at O8 ⊢
    walk_at "s"
    intro l9 hl9
    rw [show (([V.bl false, V.bl false, V.bl false, V.bl false, V.bl false, V.bl false, V.bl false, V.bl false, V.bl false, V.bl false] : List V) ++ [V.bl false, V.bl false, V.bl true]) = [V.bl false, V.bl false, V.bl false, V.bl false, V.bl false, V.bl false, V.bl false, V.bl false, V.bl false, V.bl false, V.bl false, V.bl false, V.bl true] from rfl]
    have O9 := O8.new (o := .lst [V.bl false, V.bl false, V.bl false, V.bl false, V.bl false, V.bl false, V.bl false, V.bl false, V.bl false, V.bl false, V.bl false, V.bl false, V.bl true]) hl9
    generalize upd _ l9 _ = H9 at O9 ⊢
    have O9 : Own H H9 [] [(l9, .lst [V.bl false, V.bl false, V.bl false, V.bl false, V.bl false, V.bl false, V.bl false, V.bl false, V.bl false, V.bl false, V.bl false, V.bl false, V.bl true])] := O9.drop (.cons₂ _ (List.nil_sublist _))
    clear O8 O7
    walk_at "s"
    refine ⟨by decide +kernel, by decide +kernel, fun b1 hb1 => ?_⟩
    rw [words1]
    have O10 := O9.new (o := .lst (wds1.map V.str)) hb1
    generalize upd _ b1 _ = H10 at O10 ⊢
    walk_at "s"
    refine ⟨by decide +kernel, by decide +kernel, fun b2 hb2 => ?_⟩
    rw [words2]
    have O11 := O10.new (o := .lst (wds2.map V.str)) hb2
    generalize upd _ b2 _ = H11 at O11 ⊢
    walk_at "s"
    intro b3 hb3
    rw [show wds1.map V.str ++ wds2.map V.str = (wds1 ++ wds2).map V.str from rfl]
    have O12 := (O11.new (o := .lst ((wds1 ++ wds2).map V.str)) hb3).drop (cs' := [(b3, .lst ((wds1 ++ wds2).map V.str)), (l9, .lst [V.bl false, V.bl false, V.bl false, V.bl false, V.bl false, V.bl false, V.bl false, V.bl false, V.bl false, V.bl false, V.bl false, V.bl false, V.bl true])]) (.cons₂ _ (.cons _ (.cons _ (.refl _))))
    generalize upd _ b3 _ = H12 at O12 ⊢
    clear O9 O10 O11
    walk_at "s"
    walk_at "b"
    walk_at "s"
    refine ⟨rfl, ?_⟩
    generalize hb : List.countP _ _ = n
    obtain rfl : n = 1 := hb.symm
    clear hb
    walk_at "s"
    refine ⟨rfl, (show ([V.bl false, V.bl false, V.bl false, V.bl false, V.bl false, V.bl false, V.bl false, V.bl false, V.bl false, V.bl false, V.bl false, V.bl false, V.bl true] : List V)[12]? = some (.bl true) from rfl), rfl, fun m z' hm hz => ?_, ?_⟩
    . have hm : m < 12 := hm
      rcases m with _ | _ | _ | _ | _ | _ | _ | _ | _ | _ | _ | _ | _ |  m <;> first | omega | (cases hz; rfl) | (cases hz; decide) | (cases hz; intro h; cases h)
    have hat : atI ((wds1 ++ wds2).map V.str) 12 = some (.str "Taken") := rfl
    walk_at "s"
    exact k _ (O12.drop (List.nil_sublist _))

open SX (S)
/-! ## which refusals the deeds by names tell -/
theorem kind_walk {ns : Tr} : ∀ {p : List Nm} {e : FRf}, walkA ns p = .error e → kindOk e = true := by
  intro p
  induction p using snoc_ind with
  | h0 => intro e h; cases h
  | h1 p n ih =>
    intro e h
    rw [walkA_snoc] at h
    cases hw : walkA ns p with
    | error x => rw [hw] at h; cases h; exact ih hw
    | ok c =>
      rw [hw] at h
      have h : (stepA ns (lastI c) n).map (fun k => c ++ [k]) = .error e := h
      unfold stepA at h
      cases hl : ns.lookup (lastI c) with
      | none => rw [hl] at h; cases h; rfl
      | some u =>
        rw [hl] at h
        cases u with
        | file l hh cs => cases h; rfl
        | dir ss =>
          have h : (match nodeOf ss n with | some j => .ok j | none => .error .noName : Except FRf Int).map (fun k => c ++ [k]) = .error e := h
          cases hn : nodeOf ss n with
          | none => rw [hn] at h; cases h; rfl
          | some j => rw [hn] at h; cases h
theorem kind_new {ns : Tr} {p : List Nm} {e : FRf} (h : newA ns p = .error e) : kindOk e = true := by
  unfold newA at h
  split at h
  · cases h; rfl
  · cases hw : walkA ns p.dropLast with
    | error x => rw [hw] at h; cases h; exact kind_walk hw
    | ok c =>
      rw [hw] at h
      dsimp only [Except.bind] at h
      split at h
      · split at h
        · cases h; rfl
        · cases h
      · cases h; rfl
theorem kind_with {α : Type} {z : List Nat} {f : List Nm → Except FRf α} {e : FRf} (hf : ∀ n e, f n = .error e → kindOk e = true) (h : withN z f = .error e) : kindOk e = true := by
  unfold withN at h
  split at h
  · cases h; rfl
  · exact hf _ _ h
theorem kind_map {α β : Type} {r : Except FRf α} {f : α → β} {e : FRf} (h : r.map f = .error e) : r = .error e := by
  cases r with
  | error x => cases h; rfl
  | ok x => cases h
theorem kind_sem {room : Int} {ns : Tr} {d : FDeed} {e : FRf} (h : semF room ns d = .error e) : kindOk e = true := by
  have hmk : ∀ {n : List Nm} {new : AN} {e : FRf}, makeA room ns n new = .error e → kindOk e = true := fun {n new e} h => by
    unfold makeA at h
    cases hw : newA ns n with
    | error x => rw [hw] at h; cases h; exact kind_new hw
    | ok c =>
      rw [hw] at h
      dsimp only [Except.bind] at h
      split at h
      · split at h
        · cases h; rfl
        · split at h
          · cases h; rfl
          · split at h
            · cases h; rfl
            · cases h
      · cases h; rfl
  cases d with
  | find z => exact kind_with (fun n e h => kind_walk (kind_map h)) h
  | make z => exact kind_with (fun n e h => hmk (kind_map h)) h
  | mkdir z => exact kind_with (fun n e h => hmk (kind_map h)) h
  | link z y =>
    refine kind_with (fun n e h => kind_with (fun o e h => ?_) h) h
    have h := kind_map h
    unfold linkA at h
    cases hw : walkA ns n with
    | error x => rw [hw] at h; cases h; exact kind_walk hw
    | ok c =>
      rw [hw] at h
      dsimp only [Except.bind] at h
      split at h
      · cases hw2 : newA ns o with
        | error x => rw [hw2] at h; cases h; exact kind_new hw2
        | ok c2 =>
          rw [hw2] at h
          dsimp only at h
          split at h
          · split at h
            · cases h; rfl
            · split at h
              · cases h; rfl
              · cases h
          · cases h; rfl
      · cases h; rfl
  | unlink z =>
    refine kind_with (fun n e h => ?_) h
    have h := kind_map h
    unfold unlinkA at h
    cases hw : walkA ns n with
    | error x => rw [hw] at h; cases h; exact kind_walk hw
    | ok c =>
      rw [hw] at h
      dsimp only [Except.bind] at h
      split at h
      · cases h
      · cases h; rfl
  | rmdir z =>
    refine kind_with (fun n e h => ?_) h
    have h := kind_map h
    unfold removeA at h
    cases hw : walkA ns n with
    | error x => rw [hw] at h; cases h; exact kind_walk hw
    | ok c =>
      rw [hw] at h
      dsimp only [Except.bind] at h
      split at h
      · split at h
        · cases h; rfl
        · split at h
          · cases h; rfl
          · cases h
      · cases h; rfl
  | move z y =>
    refine kind_with (fun n e h => kind_with (fun o e h => ?_) h) h
    have h := kind_map h
    unfold moveA at h
    split at h
    · cases h; rfl
    · cases hw : walkA ns n with
      | error x => rw [hw] at h; cases h; exact kind_walk hw
      | ok c =>
        rw [hw] at h
        dsimp only [Except.bind] at h
        cases hw2 : newA ns o with
        | error x => rw [hw2] at h; cases h; exact kind_new hw2
        | ok c2 =>
          rw [hw2] at h
          dsimp only at h
          split at h
          · cases h; rfl
          · split at h
            · split at h
              · cases h; rfl
              · split at h
                · cases h; rfl
                · cases h
            · cases h; rfl
  | names z =>
    refine kind_with (fun n e h => ?_) h
    have h := kind_map h
    unfold namesA at h
    cases hw : walkA ns n with
    | error x => rw [hw] at h; cases h; exact kind_walk hw
    | ok c =>
      rw [hw] at h
      dsimp only [Except.bind] at h
      split at h
      · cases h
      · cases h; rfl
  | stat k =>
    have h : (match ns.lookup k with | none => .error .noNode | some n => .ok (ns, toldA n) : Except FRf (Tr × FAns)) = .error e := h
    split at h
    · cases h; rfl
    · cases h
  | free => cases h

open SX (S)
/-- an answer, as it stands -/
def AnV (H : Hp) (a : FAns) (v : V) (cs : Cells) : Prop := match a with
  | .non => v = .non ∧ cs = []
  | .int i => v = .int i ∧ cs = []
  | .names l => ∃ b ys, v = .ref b ∧ cs = [(b, .lst (ys.map V.str))] ∧ ys.Perm (l.map S) ∧ PyProof.Rows.sortedS ys = true
  | .told d l s => ∃ T, v = .ref T ∧ cs = [] ∧ H T = some (.tup [.str d, .int l, .int s])
  | .pair a b => ∃ T, v = .ref T ∧ cs = [] ∧ H T = some (.tup [.int a, .int b])
theorem AnV.mono {H H' : Hp} {A : List Addr} {cs ds : Cells} {a : FAns} {v : V} (h : AnV H a v cs) (O : Own H H' A ds) : AnV H' a v cs := by
  cases a with
  | non => exact h
  | int i => exact h
  | names l => exact h
  | told d l s => obtain ⟨T, h1, h2, h3⟩ := h; exact ⟨T, h1, h2, O.tp _ _ h3⟩
  | pair a b => obtain ⟨T, h1, h2, h3⟩ := h; exact ⟨T, h1, h2, O.tp _ _ h3⟩
/-- what is told: a refusal's word, or an answer -/
def TAn (K : PySem.W.Frag) (H : Hp) (g : PfG) (r : Except FRf (Tr × FAns)) (Q : VK) : Prop := (∀ e, r = .error e → ∀ H' L, Own H H' (adr (cPf K g)) ((L, .lst [.str "refused", .str e.word]) :: cPf K g) → Q (.ref L) H') ∧
  (∀ t a, r = .ok (t, a) → ∀ H' L v g' cs, Own H H' (adr (cPf K g)) ((L, .lst [.str "told", v]) :: (cs ++ cPf K g')) → NsS H' g'.ns → Gk g g' t → AnV H' a v cs → Q (.ref L) H')
def sp__law_told (K : PySem.W.Frag) : Sp := sp2 fun x y H Q _ => ∃ g T, ∃ d : FDeed, x = .ref g.p ∧ y = .ref T ∧ H T = some (.tup d.vs) ∧ d.fine ∧ FPre K H g ∧ TAn K H g (semF g.room (anS g.ns) d) Q
theorem sc__law_told : FnScope ["_law_files", "_law_deed", "_law_caught", "_law_found_here", "_law_error"] ["_law_files", "_law_deed"] (defScope s__law_told) := ⟨rfl, rfl, rfl, by decide +kernel, rfl, by decide +kernel, by decide +kernel⟩
theorem ok__law_told {P : Program} {w : World} {K : PySem.W.Frag} {mg : Str → Option Value} {base : Heap} (T : Txt K mg) : Cee P w K mg base 8 (He.fAd K ("_law_told", none)) ["_law_files", "_law_deed"] (sp__law_told K) := by
  have c__law_done : Cee P w K mg base 7 (He.fAd K ("_law_done", none)) ["_law_files", "_law_deed"] (sp__law_done K) := ok__law_done T
  have c__law_kind : Cee P w K mg base 1 (He.fAd K ("_law_kind", none)) ["_law_error"] (sp__law_kind K) := ok__law_kind T
  refine cee_of T.d__law_told sc__law_told (fun _ _ _ _ _ _ us hl => match us, hl with | [_, _], _ => rfl) (fun vs H Q E h => sp2_len h) (fun cdv A outer s H vs Q E hr h => ⟨_, (pss_cons (ps_set (i := 2) sc__law_told.nd rfl (Or.inl rfl) pe_non) (pss_cons (ps_set (i := 3) sc__law_told.nd rfl (Or.inl rfl) pe_non) (pss_cons (PS.box (ps_tryX (i := 4) rfl rfl rfl sc__law_told.nd rfl rfl ⟨rfl, by decide, .inl T.g_KernelError⟩ (takes_of rfl rfl rfl rfl) (fun W pn xe tk pe => (pss_one (ps_set (i := 3) sc__law_told.nd rfl (Or.inl rfl) (pe_f c__law_done (hr.mono (by decide)) tk (by rfl) T.g__law_done (pa_cons (pv 0) (pa_cons (pv 1) pa_nil)))))) (fun a pn => (pss_one (ps_set (i := 2) sc__law_told.nd rfl (Or.inl rfl) (pv 4)))))) (pss_cons (ps_if (pt_cmpR op_notN (pv 2) pe_non (nomark _)) (pss_one (ps_ret (pe_lst (pa_cons pe_str (pa_cons (pe_f c__law_kind (hr.mono (by decide)) (takes_of rfl rfl rfl rfl) (by rfl) T.g__law_kind (pa_cons (pv 2) pa_nil)) pa_nil))))) pss_nil) (pss_one (ps_ret (pe_lst (pa_cons pe_str (pa_cons (pv 3) pa_nil))))))))), ?_⟩)
  obtain ⟨v0, v1, rfl, h⟩ := h
  dsimp only [cxOf, L2.start]
  obtain ⟨g, T, d, rfl, rfl, hT, hf, ⟨O, N⟩, ke, k⟩ := h
  walk_at "s"
  refine cutS (fun σ' H2 => (∃ t a v g' cs, σ' = [some (.ref g.p), some (.ref T), some .non, some v, none] ∧ semF g.room (anS g.ns) d = .ok (t, a) ∧ Own H H2 (adr (cPf K g)) (cs ++ cPf K g') ∧ NsS H2 g'.ns ∧ Gk g g' t ∧ AnV H2 a v cs) ∨
    ∃ e ea, σ' = [some (.ref g.p), some (.ref T), some (.ref ea), some .non, none] ∧ semF g.room (anS g.ns) d = .error e ∧ Own H H2 (adr (cPf K g)) ((ea, CxO (e.cls K) none ea) :: cPf K g)) (fun nx hn => ?_) ?_
  · walk_at "s"
    refine ask2 ⟨g, T, d, rfl, rfl, hT, hf, ⟨O, N⟩, ?_⟩
    cases hs : semF g.room (anS g.ns) d with
    | error e =>
      have hko := kind_sem hs
      intro H2 O2
      cases e
      case tooBig => cases hko
      case notHeld => cases hko
      all_goals
        dsimp only [FRf.cls, FRf.word]
        walk_at "s"
        refine ⟨fun _ ea he => ?_, nofun⟩
        walk_at "s"
        exact hn _ _ (.inr ⟨_, ea, rfl, hs, O2.new he⟩)
    | ok x =>
      obtain ⟨t, a⟩ := x
      cases a with
      | non =>
        intro H2 g' O2 S2 G2
        walk_at "s"
        exact hn _ _ (.inl ⟨t, _, _, g', [], rfl, hs, O2, S2, G2, rfl, rfl⟩)
      | int i =>
        intro H2 g' O2 S2 G2
        walk_at "s"
        exact hn _ _ (.inl ⟨t, _, _, g', [], rfl, hs, O2, S2, G2, rfl, rfl⟩)
      | names l =>
        intro H2 g' b ys O2 S2 G2 h1 h2
        walk_at "s"
        exact hn _ _ (.inl ⟨t, _, _, g', [(b, .lst (ys.map V.str))], rfl, hs, O2, S2, G2, b, ys, rfl, rfl, h1, h2⟩)
      | told d l s =>
        intro H2 g' T2 O2 S2 G2 hT2
        walk_at "s"
        exact hn _ _ (.inl ⟨t, _, _, g', [], rfl, hs, O2, S2, G2, T2, rfl, rfl, hT2⟩)
      | pair a b =>
        intro H2 g' T2 O2 S2 G2 hT2
        walk_at "s"
        exact hn _ _ (.inl ⟨t, _, _, g', [], rfl, hs, O2, S2, G2, T2, rfl, rfl, hT2⟩)
  · rintro σ' H2 (⟨t, a, v, g', cs, rfl, hs, O2, S2, G2, hv⟩ | ⟨e, ea, rfl, hs, O2⟩)
    · walk_at "s"
      intro L hL
      have O3 := O2.new (o := .lst [.str "told", v]) hL
      exact k t a hs _ L v g' cs O3 (S2.mono (O2.self.new hL)) G2 (hv.mono (O2.self.new hL))
    · have hko := kind_sem hs
      have hea := O2.get (.head _)
      walk_at "s"
      refine ask1 ⟨ea, e, hko, rfl, hea, fun H3 O3 => ?_⟩
      walk_at "s"
      intro L hL
      exact ke e hs _ L (((O2.callN O3).new hL).drop (.cons₂ _ (.cons _ (.refl _))))

/-! ## draws -/
open SX (S)
/-- a text of few signs, each below 128 -/
structure A8 (n : Nat) (z : Str) : Prop where
  len : z.length ≤ n
  low : ∀ c ∈ z.cps.toList, c < 128
theorem A8.sto {n : Nat} {z : Str} (h : A8 n z) : StO n z := ⟨h.len, fun c hc => Nat.lt_trans (h.low c hc) (by decide)⟩
theorem A8.cat {a b : Str} {n m : Nat} (h : A8 n a) (k : A8 m b) : A8 (n + m) (a ++ b) := by
  refine ⟨by rw [Str.length_append]; have := h.len; have := k.len; omega, fun c hc => ?_⟩
  have e : (a ++ b).cps.toList = a.cps.toList ++ b.cps.toList := by
    show (a.cps ++ b.cps).toList = _
    simp
  rw [e] at hc
  rcases List.mem_append.mp hc with q | q
  · exact h.low c q
  · exact k.low c q
theorem A8.lit (z : Str) (n : Nat) (h : (decide (z.length ≤ n) && z.cps.toList.all fun c => decide (c < 128)) = true) : A8 n z := by
  rw [Bool.and_eq_true] at h
  exact ⟨of_decide_eq_true h.1, fun c hc => of_decide_eq_true (List.all_eq_true.mp h.2 c hc)⟩
theorem A8.mono {a : Str} {n m : Nat} (h : A8 n a) (hn : n ≤ m) : A8 m a := ⟨Nat.le_trans h.len hn, h.low⟩
theorem A8.lits {xs : List Str} {n : Nat} (h : (xs.all fun z => decide (z.length ≤ n) && z.cps.toList.all fun c => decide (c < 128)) = true) : ∀ z ∈ xs, A8 n z := fun z hz => A8.lit z n (List.all_eq_true.mp h z hz)
theorem pick_a8 {xs : List Str} {u : Int} {n : Nat} (h0 : 0 ≤ u) (h1 : u < (xs.length : Nat)) (h : ∀ z ∈ xs, A8 n z) : ∃ z, atI (xs.map V.str) u = some (.str z) ∧ A8 n z := by
  obtain ⟨j, rfl⟩ : ∃ j : Nat, u = j := ⟨u.toNat, (Int.toNat_of_nonneg h0).symm⟩
  have hj : j < xs.length := by omega
  exact ⟨xs[j], atI_nat (by rw [List.getElem?_map, List.getElem?_eq_getElem hj]; rfl), h _ (List.getElem_mem hj)⟩
theorem A8.ast {n : Nat} {z : Str} (h : A8 n z) (hn : n ≤ 5000) : ∃ l, z = S l ∧ AsT l := by
  refine ⟨z.cps.toList, (SX.S_tl z).symm, ⟨?_, fun c hc => Nat.lt_trans (h.low c hc) (by decide)⟩, h.low⟩
  have := h.len
  rw [show z.length = z.cps.toList.length from (Array.length_toList ..).symm] at this
  omega
def sp__law_mixed (K : PySem.W.Frag) : Sp := sp2 fun x k H Q _ => ∃ i j : Int, x = .int i ∧ k = .int j ∧ 0 ≤ j ∧ j < 1000 ∧ ∀ r : Int, 0 ≤ r → r < 998244353 → Q (.int r) H
def sp__law_digit (K : PySem.W.Frag) : Sp := sp2 fun x y H Q _ => ∃ (p : Addr) (u m : Int), x = .ref p ∧ y = .int m ∧ Own H H [p] [(p, .lst [.int u])] ∧ 0 ≤ u ∧ 0 < m ∧ m ≤ 1000 ∧ ∀ H' u', Own H H' [p] [(p, .lst [.int u'])] → 0 ≤ u' → ∀ r : Int, 0 ≤ r → r < m → Q (.int r) H'
def sp__law_left (K : PySem.W.Frag) : Sp := sp2 fun x y H Q _ => ∃ (a : Addr) (xs : List Int) (k : Int), x = .ref a ∧ y = .int k ∧ SqL K H a (xs.map V.int) ∧ xs.length ≤ 63 ∧ 0 ≤ k ∧ k < xs.length ∧ ∀ H' p u, Own H H' [] [(p, .lst [.int u])] → 0 ≤ u → Q (.ref p) H'
def sp__law_node (K : PySem.W.Frag) : Sp := sp1 fun x H Q _ => ∃ (p : Addr) (u : Int), x = .ref p ∧ Own H H [p] [(p, .lst [.int u])] ∧ 0 ≤ u ∧ ∀ H' u', Own H H' [p] [(p, .lst [.int u'])] → 0 ≤ u' → ∀ r : Int, Q (.int r) H'
def sp__law_letters (K : PySem.W.Frag) : Sp := sp1 fun x H Q _ => ∃ k : Int, x = .int k ∧ 0 ≤ k ∧ k < 60 ∧ ∀ z, A8 3 z → Q (.str z) H
def sp__law_path (K : PySem.W.Frag) : Sp := sp1 fun x H Q _ => ∃ (p : Addr) (u : Int), x = .ref p ∧ Own H H [p] [(p, .lst [.int u])] ∧ 0 ≤ u ∧ ∀ H' u' z, Own H H' [p] [(p, .lst [.int u'])] → 0 ≤ u' → A8 60 z → Q (.str z) H'
theorem letter_at {k : Int} (h0 : 0 ≤ k) (h1 : k < 26) : ∃ c, atI ("abcdefghijklmnopqrstuvwxyz" : Str).cps.toList k = some c ∧ c < 128 := by
  obtain ⟨j, rfl⟩ : ∃ j : Nat, k = j := ⟨k.toNat, (Int.toNat_of_nonneg h0).symm⟩
  have hj : j < 26 := by omega
  have e : ("abcdefghijklmnopqrstuvwxyz" : Str).cps.toList = smallL := by rw [small_eq]
  rw [e]
  have key : ∀ j : Nat, j < 26 → ∃ c, smallL[j]? = some c ∧ c < 128 := by decide
  obtain ⟨c, hc, h⟩ := key j hj
  refine ⟨c, ?_, h⟩
  unfold atI ixN
  rw [if_pos (by omega), if_pos (by show (j : Int) < (26 : Nat); omega)]
  exact hc
theorem one_a8 {c : Nat} (h : c < 128) : A8 1 ({ cps := #[c] } : Str) := ⟨by show 1 ≤ 1; omega, fun d hd => by
  have : d = c := by simpa using hd
  rw [this]; exact h⟩
abbrev bads : List Str := [("" : Str), ("a" : Str), ("/A" : Str), ("//" : Str), ("/a/" : Str), ("/abcdefg" : Str), ("/a b" : Str), ("a/b" : Str), ("/1" : Str), ("/a//b" : Str), ("/a.b" : Str)]
abbrev goods : List Str := [("a" : Str), ("b" : Str), ("cc" : Str), ("zzzzzz" : Str)]
theorem sc__law_mixed : FnScope ["_law_cell", "_law_k", "_law_once"] ["_law_cell", "_law_k"] (defScope s__law_mixed) := ⟨rfl, rfl, rfl, by decide +kernel, rfl, by decide +kernel, by decide +kernel⟩
theorem ok__law_mixed {P : Program} {w : World} {K : PySem.W.Frag} {mg : Str → Option Value} {base : Heap} (T : Txt K mg) : Cee P w K mg base 1 (He.fAd K ("_law_mixed", none)) ["_law_cell", "_law_k"] (sp__law_mixed K) := by
  refine cee_of T.d__law_mixed sc__law_mixed (fun _ _ _ _ _ _ us hl => match us, hl with | [_, _], _ => rfl) (fun vs H Q E h => sp2_len h) (fun cdv A outer s H vs Q E hr h => ⟨_, (pss_cons (ps_set (i := 2) sc__law_mixed.nd rfl (Or.inl rfl) (pe_op op_mod (pe_op op_mul (pe_op op_add (pe_op op_add (pe_op op_mod (pv 0) pe_int) (pe_op op_mul pe_int (pv 1))) pe_int) pe_int) pe_int)) (pss_one (ps_ret (pe_op op_mod (pe_op op_mul (pv 2) (pe_op op_add (pe_op op_add (pe_op op_mod (pv 2) pe_int) (pv 1)) pe_int)) pe_int)))), ?_⟩)
  obtain ⟨v0, v1, rfl, h⟩ := h
  dsimp only [cxOf, L2.start]
  obtain ⟨i, j, rfl, rfl, h0, h1, k⟩ := h
  walk_at "s"
  exact k _ (Int.emod_nonneg _ (by decide)) (Int.emod_lt_of_pos _ (by decide))
theorem sc__law_digit : FnScope ["_law_left_here", "_law_many", "_law_told_here"] ["_law_left_here", "_law_many"] (defScope s__law_digit) := ⟨rfl, rfl, rfl, by decide +kernel, rfl, by decide +kernel, by decide +kernel⟩
theorem ok__law_digit {P : Program} {w : World} {K : PySem.W.Frag} {mg : Str → Option Value} {base : Heap} (T : Txt K mg) : Cee P w K mg base 1 (He.fAd K ("_law_digit", none)) ["_law_left_here", "_law_many"] (sp__law_digit K) := by
  refine cee_of T.d__law_digit sc__law_digit (fun _ _ _ _ _ _ us hl => match us, hl with | [_, _], _ => rfl) (fun vs H Q E h => sp2_len h) (fun cdv A outer s H vs Q E hr h => ⟨_, (pss_cons (ps_set (i := 2) sc__law_digit.nd rfl (Or.inl rfl) (pe_op op_mod (pe_ix ix_list (pv 0) pe_int (fun _ _ => rfl)) (pv 1))) (pss_cons (ps_asg (pe_op op_fdiv (pe_ix ix_list (pv 0) pe_int (fun _ _ => rfl)) (pv 1)) (pg_sub (pv 0) pe_int set_list)) (pss_one (ps_ret (pv 2))))), ?_⟩)
  obtain ⟨v0, v1, rfl, h⟩ := h
  dsimp only [cxOf, L2.start]
  obtain ⟨p, u, m, rfl, rfl, O, hu, hm, hm2, k⟩ := h
  have hs := O.get (.head _)
  have hd : 0 < m ∧ m < 1073741824 := ⟨hm, by omega⟩
  walk_at "s"
  exact k _ (u / m) (O.wr .here) (Int.ediv_nonneg hu (Int.le_of_lt hm)) _ (Int.emod_nonneg _ (by omega)) (Int.emod_lt_of_pos _ hm)
theorem sc__law_left : FnScope ["_law_script", "_law_k", "_law_left_here", "_law_j"] ["_law_script", "_law_k"] (defScope s__law_left) := ⟨rfl, rfl, rfl, by decide +kernel, rfl, by decide +kernel, by decide +kernel⟩
theorem ok__law_left {P : Program} {w : World} {K : PySem.W.Frag} {mg : Str → Option Value} {base : Heap} (T : Txt K mg) : Cee P w K mg base 2 (He.fAd K ("_law_left", none)) ["_law_script", "_law_k"] (sp__law_left K) := by
  have c__law_mixed : Cee P w K mg base 1 (He.fAd K ("_law_mixed", none)) ["_law_cell", "_law_k"] (sp__law_mixed K) := ok__law_mixed T
  refine cee_of T.d__law_left sc__law_left (fun _ _ _ _ _ _ us hl => match us, hl with | [_, _], _ => rfl) (fun vs H Q E h => sp2_len h) (fun cdv A outer s H vs Q E hr h => ⟨_, (pss_cons (ps_if (pt_cmpR op_eq (pe_op op_mod (pe_callB call_len_seq (by rfl) T.n_len (by decide +kernel) (pa_cons (pv 0) pa_nil)) pe_int) pe_int (nomark _)) (pss_one (ps_ret (pe_lst (pa_cons (pe_callB call_abs (by rfl) T.n_abs (by decide +kernel) (pa_cons (pe_ix ix_list (pv 0) (pv 1) (fun _ _ => rfl)) pa_nil)) pa_nil)))) pss_nil) (pss_cons (ps_set (i := 2) sc__law_left.nd rfl (Or.inl rfl) pe_int) (pss_cons (ps_for (passes_of rfl) rfl (PI.box (pi_range1 (by rfl) T.n_range (pa_cons pe_int pa_nil))) (pg_name (i := 3) sc__law_left.nd rfl (Or.inl rfl)) (pss_one (ps_set (i := 2) sc__law_left.nd rfl (Or.inl rfl) (pe_op op_add (pe_op op_mul (pv 2) pe_int) (pe_f c__law_mixed (hr.mono (by decide)) (takes_of rfl rfl rfl rfl) (by rfl) T.g__law_mixed (pa_cons (pe_op op_add (pe_f c__law_mixed (hr.mono (by decide)) (takes_of rfl rfl rfl rfl) (by rfl) T.g__law_mixed (pa_cons (pe_ix ix_list (pv 0) (pv 1) (fun _ _ => rfl)) (pa_cons (pe_op op_add pe_int (pv 1)) pa_nil))) (pv 3)) (pa_cons (pe_op op_add pe_int (pv 3)) pa_nil))))))) (pss_one (ps_ret (pe_lst (pa_cons (pv 2) pa_nil))))))), ?_⟩)
  obtain ⟨v0, v1, rfl, h⟩ := h
  dsimp only [cxOf, L2.start]
  obtain ⟨a, xs, k0, rfl, rfl, ha, hl, h0, h1, k⟩ := h
  obtain ⟨c, hc, hat⟩ := at_ints (ns := xs) (n := k0) h0 (by rw [List.length_map]; exact h1)
  walk_at "s"
  refine if_d (fun hd => ?_) (fun hd => ?_)
  · walk_at "s"
    intro p hp
    refine k _ p _ (Own.start.new hp) ?_
    split <;> omega
  · walk_at "s"
    refine forR (lo := 0) (n := 4) (fun i σ H' => ∃ (v3 : Option V) (u : Int), σ = [some (.ref a), some (.int k0), some (.int u), v3] ∧ H' = H ∧ 0 ≤ u ∧ u < 1000000000 ^ i) ⟨_, 0, rfl, rfl, by omega, by decide⟩ ?_ ?_
    · rintro i σ H' hi ⟨v3, u, rfl, rfl, hu0, hu1⟩
      walk_at "s"
      refine ask2 ⟨c, 131 + k0, rfl, rfl, by omega, by omega, fun r1 hr1 hr2 => ?_⟩
      walk_at "s"
      refine ask2 ⟨r1 + (0 + (i : Int)), 200 + (0 + (i : Int)), rfl, rfl, by omega, by omega, fun r2 hr3 hr4 => ?_⟩
      walk_at "s"
      refine ⟨⟨_, _, rfl, rfl, by omega, ?_⟩⟩
      rw [Int.pow_succ]
      generalize (1000000000 : Int) ^ i = P at hu1 ⊢
      omega
    · rintro σ H' ⟨v3, u, rfl, rfl, hu0, hu1⟩
      walk_at "s"
      intro p hp
      exact k _ p u (Own.start.new hp) hu0
theorem sc__law_node : FnScope ["_law_left_here"] ["_law_left_here"] (defScope s__law_node) := ⟨rfl, rfl, rfl, by decide +kernel, rfl, by decide +kernel, by decide +kernel⟩
theorem ok__law_node {P : Program} {w : World} {K : PySem.W.Frag} {mg : Str → Option Value} {base : Heap} (T : Txt K mg) : Cee P w K mg base 2 (He.fAd K ("_law_node", none)) ["_law_left_here"] (sp__law_node K) := by
  have c__law_digit : Cee P w K mg base 1 (He.fAd K ("_law_digit", none)) ["_law_left_here", "_law_many"] (sp__law_digit K) := ok__law_digit T
  refine cee_of T.d__law_node sc__law_node (fun _ _ _ _ _ _ us hl => match us, hl with | [_], _ => rfl) (fun vs H Q E h => sp1_len h) (fun cdv A outer s H vs Q E hr h => ⟨_, (pss_cons (ps_if (pt_cmpR op_eq (pe_f c__law_digit (hr.mono (by decide)) (takes_of rfl rfl rfl rfl) (by rfl) T.g__law_digit (pa_cons (pv 0) (pa_cons pe_int pa_nil))) pe_int (nomark _)) (pss_one (ps_ret (pe_op op_sub (pe_f c__law_digit (hr.mono (by decide)) (takes_of rfl rfl rfl rfl) (by rfl) T.g__law_digit (pa_cons (pv 0) (pa_cons pe_int pa_nil))) pe_int))) pss_nil) (pss_one (ps_ret (pe_f c__law_digit (hr.mono (by decide)) (takes_of rfl rfl rfl rfl) (by rfl) T.g__law_digit (pa_cons (pv 0) (pa_cons pe_int pa_nil)))))), ?_⟩)
  obtain ⟨v0, rfl, h⟩ := h
  dsimp only [cxOf, L2.start]
  obtain ⟨p, u, rfl, O, hu, k⟩ := h
  walk_at "s"
  refine ask2 ⟨p, u, 6, rfl, rfl, O, hu, by decide, by decide, fun H1 u1 O1 hu1 r hr0 hr1 => ?_⟩
  walk_at "s"
  refine if_ii (fun h1 => ?_) (fun h1 => ?_)
  · walk_at "s"
    refine ask2 ⟨p, u1, 27, rfl, rfl, O1.self, hu1, by decide, by decide, fun H2 u2 O2 hu2 r2 hr20 hr21 => ?_⟩
    walk_at "s"
    exact k _ u2 (O1.call .all O2) hu2 _
  · walk_at "s"
    refine ask2 ⟨p, u1, 5, rfl, rfl, O1.self, hu1, by decide, by decide, fun H2 u2 O2 hu2 r2 hr20 hr21 => ?_⟩
    walk_at "s"
    exact k _ u2 (O1.call .all O2) hu2 _
theorem sc__law_letters : FnScope ["_law_k", "_law_letters_here"] ["_law_k"] (defScope s__law_letters) := ⟨rfl, rfl, rfl, by decide +kernel, rfl, by decide +kernel, by decide +kernel⟩
theorem ok__law_letters {P : Program} {w : World} {K : PySem.W.Frag} {mg : Str → Option Value} {base : Heap} (T : Txt K mg) : Cee P w K mg base 1 (He.fAd K ("_law_letters", none)) ["_law_k"] (sp__law_letters K) := by
  refine cee_of T.d__law_letters sc__law_letters (fun _ _ _ _ _ _ us hl => match us, hl with | [_], _ => rfl) (fun vs H Q E h => sp1_len h) (fun cdv A outer s H vs Q E hr h => ⟨_, (pss_cons (ps_set (i := 1) sc__law_letters.nd rfl (Or.inl rfl) pe_str) (pss_one (ps_ret (pe_op op_add_str (pe_op op_add_str pe_str (pe_ix ix_str (pv 1) (pe_op op_fdiv (pv 0) pe_int) (fun _ _ => rfl))) (pe_ix ix_str (pv 1) (pe_op op_mod (pv 0) pe_int) (fun _ _ => rfl)))))), ?_⟩)
  obtain ⟨v0, rfl, h⟩ := h
  dsimp only [cxOf, L2.start]
  obtain ⟨k0, rfl, h0, h1, k⟩ := h
  obtain ⟨c1, hc1, hl1⟩ := letter_at (k := k0 / 26) (by omega) (by omega)
  obtain ⟨c2, hc2, hl2⟩ := letter_at (k := k0 % 26) (by omega) (by omega)
  have hq : A8 1 ("q" : Str) := A8.lit "q" 1 (by decide +kernel)
  have hz1 : ("q" : Str).length + ({ cps := #[c1] } : Str).length ≤ sizeLine := hq.sto.fit (one_a8 hl1).sto (by decide)
  have hz2 : (("q" : Str) ++ { cps := #[c1] }).length + ({ cps := #[c2] } : Str).length ≤ sizeLine := (hq.cat (one_a8 hl1)).sto.fit (one_a8 hl2).sto (by decide)
  walk_at "s"
  exact k _ ((hq.cat (one_a8 hl1)).cat (one_a8 hl2))
theorem sc__law_path : FnScope ["_law_left_here", "_law_how", "_law_bad", "_law_text", "_law_k"] ["_law_left_here"] (defScope s__law_path) := ⟨rfl, rfl, rfl, by decide +kernel, rfl, by decide +kernel, by decide +kernel⟩
theorem ok__law_path {P : Program} {w : World} {K : PySem.W.Frag} {mg : Str → Option Value} {base : Heap} (T : Txt K mg) : Cee P w K mg base 2 (He.fAd K ("_law_path", none)) ["_law_left_here"] (sp__law_path K) := by
  have c__law_digit : Cee P w K mg base 1 (He.fAd K ("_law_digit", none)) ["_law_left_here", "_law_many"] (sp__law_digit K) := ok__law_digit T
  refine cee_of T.d__law_path sc__law_path (fun _ _ _ _ _ _ us hl => match us, hl with | [_], _ => rfl) (fun vs H Q E h => sp1_len h) (fun cdv A outer s H vs Q E hr h => ⟨_, (pss_cons (ps_set (i := 1) sc__law_path.nd rfl (Or.inl rfl) (pe_f c__law_digit (hr.mono (by decide)) (takes_of rfl rfl rfl rfl) (by rfl) T.g__law_digit (pa_cons (pv 0) (pa_cons pe_int pa_nil)))) (pss_cons (ps_if (pt_cmpR op_eq (pv 1) pe_int (nomark _)) (pss_cons (ps_set (i := 2) sc__law_path.nd rfl (Or.inl rfl) (pe_lst (pa_cons pe_str (pa_cons pe_str (pa_cons pe_str (pa_cons pe_str (pa_cons pe_str (pa_cons pe_str (pa_cons pe_str (pa_cons pe_str (pa_cons pe_str (pa_cons pe_str (pa_cons pe_str pa_nil))))))))))))) (pss_one (ps_ret (pe_ix ix_list (pv 2) (pe_f c__law_digit (hr.mono (by decide)) (takes_of rfl rfl rfl rfl) (by rfl) T.g__law_digit (pa_cons (pv 0) (pa_cons pe_int pa_nil))) (fun _ _ => rfl))))) pss_nil) (pss_cons (ps_if (pt_cmpR op_eq (pv 1) pe_int (nomark _)) (pss_one (ps_ret pe_str)) pss_nil) (pss_cons (ps_set (i := 3) sc__law_path.nd rfl (Or.inl rfl) pe_str) (pss_cons (ps_for (passes_of rfl) rfl (PI.box (pi_range1 (by rfl) T.n_range (pa_cons (pe_ix ix_list (pe_lst (pa_cons pe_int (pa_cons pe_int (pa_cons pe_int (pa_cons pe_int (pa_cons pe_int (pa_cons pe_int pa_nil))))))) (pe_f c__law_digit (hr.mono (by decide)) (takes_of rfl rfl rfl rfl) (by rfl) T.g__law_digit (pa_cons (pv 0) (pa_cons pe_int pa_nil))) (fun _ _ => rfl)) pa_nil))) (pg_name (i := 4) sc__law_path.nd rfl (Or.inl rfl)) (pss_one (ps_set (i := 3) sc__law_path.nd rfl (Or.inl rfl) (pe_op op_add_str (pe_op op_add_str (pv 3) pe_str) (pe_ix ix_list (pe_lst (pa_cons pe_str (pa_cons pe_str (pa_cons pe_str (pa_cons pe_str pa_nil))))) (pe_f c__law_digit (hr.mono (by decide)) (takes_of rfl rfl rfl rfl) (by rfl) T.g__law_digit (pa_cons (pv 0) (pa_cons pe_int pa_nil))) (fun _ _ => rfl)))))) (pss_one (ps_ret (pv 3)))))))), ?_⟩)
  obtain ⟨v0, rfl, h⟩ := h
  dsimp only [cxOf, L2.start]
  obtain ⟨p, u, rfl, O, hu, k⟩ := h
  walk_at "s"
  refine ask2 ⟨p, u, 24, rfl, rfl, O, hu, by decide, by decide, fun H1 u1 O1 hu1 r hr0 hr1 => ?_⟩
  walk_at "s"
  refine if_ii (fun h1 => ?_) (fun h1 => ?_)
  · walk_at "s"
    intro b hb
    have O2 := O1.new (o := .lst (bads.map V.str)) hb
    show gName 2 (V.ref b) _ (upd H1 b (.lst (bads.map V.str))) _
    generalize upd H1 b _ = H2 at O2 ⊢
    walk_at "s"
    refine ask2 ⟨p, u1, 11, rfl, rfl, O2.blk (s' := []) (.there .all), hu1, by decide, by decide, fun H3 u2 O3 hu2 r2 hr20 hr21 => ?_⟩
    have O4 := O2.call (.there .all) O3
    obtain ⟨z, hz, hz2⟩ := pick_a8 (xs := bads) (n := 8) hr20 hr21 (A8.lits (by decide +kernel))
    have hbs : SqL K H3 b (bads.map V.str) := SqL.of (O4.get (.head _))
    walk_at "s"
    exact k _ u2 z (O4.drop (.cons _ (.refl _))) hu2 (hz2.mono (by decide))
  · walk_at "s"
    refine if_ii (fun h2 => ?_) (fun h2 => ?_)
    · walk_at "s"
      exact k _ u1 _ O1 hu1 ((A8.lit "/" 1 (by decide +kernel)).mono (by decide))
    · walk_at "s"
      intro b hb
      have O2 := O1.new (o := .lst (([1, 1, 1, 2, 2, 3] : List Int).map V.int)) hb
      show tCallS _ _ _ _ (upd H1 b (.lst (([1, 1, 1, 2, 2, 3] : List Int).map V.int))) _
      generalize upd H1 b _ = H2 at O2 ⊢
      walk_at "s"
      refine ask2 ⟨p, u1, 6, rfl, rfl, O2.blk (s' := []) (.there .all), hu1, by decide, by decide, fun H3 u2 O3 hu2 r2 hr20 hr21 => ?_⟩
      have O4 := O2.call (.there .all) O3
      have hbs : SqL K H3 b (([1, 1, 1, 2, 2, 3] : List Int).map V.int) := SqL.of (O4.get (.head _))
      obtain ⟨n, hn, hat⟩ := at_ints (ns := [1, 1, 1, 2, 2, 3]) (n := r2) hr20 hr21
      have hn3 : 0 ≤ n ∧ n ≤ 3 := by
        have hk : ∀ n ∈ ([1, 1, 1, 2, 2, 3] : List Int), 0 ≤ n ∧ n ≤ 3 := by decide
        exact hk n (List.mem_of_getElem? hn)
      obtain ⟨n', rfl⟩ : ∃ n' : Nat, n = n' := ⟨n.toNat, (Int.toNat_of_nonneg hn3.1).symm⟩
      have O5 := O4.drop (cs' := [(p, .lst [.int u2])]) (.cons _ (.refl _))
      clear O4 O3 O2
      walk_at "s"
      refine forR (lo := 0) (n := n') (fun i σ H' => ∃ (v4 : Option V) (u : Int) (z : Str), σ = [some (.ref p), some (.int r), none, some (.str z), v4] ∧ Own H H' [p] [(p, .lst [.int u])] ∧ 0 ≤ u ∧ A8 (10 * i) z) ⟨_, u2, _, rfl, O5, hu2, A8.lit "" 0 (by decide +kernel)⟩ ?_ ?_
      · rintro i σ H' hi ⟨v4, u3, z, rfl, O6, hu3, hz⟩
        have hst : A8 1 ("/" : Str) := A8.lit "/" 1 (by decide +kernel)
        have hz1 : z.length + ("/" : Str).length ≤ sizeLine := hz.sto.fit hst.sto (by omega)
        walk_at "s"
        intro b2 hb2
        have O7 := O6.new (o := .lst (goods.map V.str)) hb2
        show tCallS _ _ _ _ (upd H' b2 (.lst (goods.map V.str))) _
        generalize upd H' b2 _ = H5 at O7 ⊢
        walk_at "s"
        refine ask2 ⟨p, u3, 4, rfl, rfl, O7.blk (s' := []) (.there .all), hu3, by decide, by decide, fun H6 u4 O8 hu4 r3 hr30 hr31 => ?_⟩
        have O9 := O7.call (.there .all) O8
        obtain ⟨y, hy, hy2⟩ := pick_a8 (xs := goods) (n := 6) hr30 hr31 (A8.lits (by decide +kernel))
        have hbs2 : SqL K H6 b2 (goods.map V.str) := SqL.of (O9.get (.head _))
        have hz2 : (z ++ ("/" : Str)).length + y.length ≤ sizeLine := (hz.cat hst).sto.fit hy2.sto (by omega)
        walk_at "s"
        exact ⟨⟨_, u4, _, rfl, O9.drop (.cons _ (.refl _)), hu4, ((hz.cat hst).cat hy2).mono (by omega)⟩⟩
      · rintro σ H' ⟨v4, u3, z, rfl, O6, hu3, hz⟩
        walk_at "s"
        exact k _ u3 z O6 hu3 (hz.mono (by omega))

/-! ## deeds drawn -/
open SX (S)
structure DsAt (H : Hp) (vs : List V) (ds : List FDeed) : Prop where
  len : vs.length = ds.length
  at_ : ∀ (i : Nat) (v : V) (d : FDeed), vs[i]? = some v → ds[i]? = some d → ∃ T, v = .ref T ∧ H T = some (.tup d.vs) ∧ d.fine
theorem DsAt.nil {H : Hp} : DsAt H [] [] := ⟨rfl, nofun⟩
theorem DsAt.mono {H H' : Hp} {A : List Addr} {cs : Cells} {vs : List V} {ds : List FDeed} (h : DsAt H vs ds) (O : Own H H' A cs) : DsAt H' vs ds := ⟨h.len, fun i v d h1 h2 => by
  obtain ⟨T, e1, e2, e3⟩ := h.at_ i v d h1 h2
  exact ⟨T, e1, O.tp _ _ e2, e3⟩⟩
theorem DsAt.snoc {H : Hp} {vs : List V} {ds : List FDeed} (h : DsAt H vs ds) {T : Addr} {d : FDeed} (hT : H T = some (.tup d.vs)) (hf : d.fine) : DsAt H (vs ++ [.ref T]) (ds ++ [d]) := by
  have hl := h.len
  refine ⟨by rw [List.length_append, List.length_append, hl]; rfl, fun i v s h1 h2 => ?_⟩
  by_cases e : i < vs.length
  · rw [List.getElem?_append_left e] at h1
    rw [List.getElem?_append_left (by omega)] at h2
    exact h.at_ i v s h1 h2
  · rw [List.getElem?_append_right (by omega)] at h1
    rw [List.getElem?_append_right (by omega)] at h2
    have hi : i - vs.length = 0 := by
      have := (List.getElem?_eq_some_iff.mp h1).1
      rw [List.length_singleton] at this
      omega
    rw [hi] at h1
    rw [show i - ds.length = 0 by omega] at h2
    cases h1; cases h2
    exact ⟨T, rfl, hT, hf⟩
theorem DsAt.app {H : Hp} {vs us : List V} {ds es : List FDeed} (h : DsAt H vs ds) (k : DsAt H us es) : DsAt H (vs ++ us) (ds ++ es) := by
  have hl := h.len
  refine ⟨by rw [List.length_append, List.length_append, hl, k.len], fun i v s h1 h2 => ?_⟩
  by_cases e : i < vs.length
  · rw [List.getElem?_append_left e] at h1
    rw [List.getElem?_append_left (by omega)] at h2
    exact h.at_ i v s h1 h2
  · rw [List.getElem?_append_right (by omega)] at h1
    rw [List.getElem?_append_right (by omega)] at h2
    rw [show i - ds.length = i - vs.length by omega] at h2
    exact k.at_ _ v s h1 h2
def sp__law_deeds (K : PySem.W.Frag) : Sp := sp1 fun x H Q _ => ∃ (p : Addr) (u : Int), x = .ref p ∧ Own H H [p] [(p, .lst [.int u])] ∧ 0 ≤ u ∧ ∀ H' L vs ds, Own H H' [p] [(L, .lst vs)] → DsAt H' vs ds → vs.length ≤ 60 → Q (.ref L) H'
abbrev kinds : List Str := [("make" : Str), ("make_dir" : Str), ("make" : Str), ("make_dir" : Str), ("unlink" : Str), ("remove_dir" : Str), ("names" : Str), ("find" : Str), ("link" : Str), ("move" : Str)]
abbrev kinds1 : List Str := kinds ++ [("move" : Str)]
theorem kind_one {r : Int} (h0 : 0 ≤ r) (h1 : r ≤ 7) : ∃ w, atI (kinds1.map V.str) r = some (.str w) ∧ ∃ f : List Nat → FDeed, ∀ z, (f z).vs = [.str w, .str (S z)] ∧ (AsT z → (f z).fine) := by
  have h : r = 0 ∨ r = 1 ∨ r = 2 ∨ r = 3 ∨ r = 4 ∨ r = 5 ∨ r = 6 ∨ r = 7 := by omega
  rcases h with rfl | rfl | rfl | rfl | rfl | rfl | rfl | rfl
  · exact ⟨_, rfl, .make, fun z => ⟨rfl, id⟩⟩
  · exact ⟨_, rfl, .mkdir, fun z => ⟨rfl, id⟩⟩
  · exact ⟨_, rfl, .make, fun z => ⟨rfl, id⟩⟩
  · exact ⟨_, rfl, .mkdir, fun z => ⟨rfl, id⟩⟩
  · exact ⟨_, rfl, .unlink, fun z => ⟨rfl, id⟩⟩
  · exact ⟨_, rfl, .rmdir, fun z => ⟨rfl, id⟩⟩
  · exact ⟨_, rfl, .names, fun z => ⟨rfl, id⟩⟩
  · exact ⟨_, rfl, .find, fun z => ⟨rfl, id⟩⟩
theorem kind_two {r : Int} (h0 : 7 < r) (h1 : r < 11) : ∃ w, atI (kinds1.map V.str) r = some (.str w) ∧ ∃ f : List Nat → List Nat → FDeed, ∀ z y, (f z y).vs = [.str w, .str (S z), .str (S y)] ∧ (AsT z → AsT y → (f z y).fine) := by
  have h : r = 8 ∨ r = 9 ∨ r = 10 := by omega
  rcases h with rfl | rfl | rfl
  · exact ⟨_, rfl, .link, fun z y => ⟨rfl, fun a b => ⟨a, b⟩⟩⟩
  · exact ⟨_, rfl, .move, fun z y => ⟨rfl, fun a b => ⟨a, b⟩⟩⟩
  · exact ⟨_, rfl, .move, fun z y => ⟨rfl, fun a b => ⟨a, b⟩⟩⟩
theorem sc__law_deeds : FnScope ["_law_left_here", "_law_sort", "_law_words", "_law_deed", "_law_path_here", "_law_many", "_law_place", "_law_k", "_law_word"] ["_law_left_here"] (defScope s__law_deeds) := ⟨rfl, rfl, rfl, by decide +kernel, rfl, by decide +kernel, by decide +kernel⟩
theorem ok__law_deeds {P : Program} {w : World} {K : PySem.W.Frag} {mg : Str → Option Value} {base : Heap} (T : Txt K mg) : Cee P w K mg base 3 (He.fAd K ("_law_deeds", none)) ["_law_left_here"] (sp__law_deeds K) := by
  have c__law_digit : Cee P w K mg base 1 (He.fAd K ("_law_digit", none)) ["_law_left_here", "_law_many"] (sp__law_digit K) := ok__law_digit T
  have c__law_path : Cee P w K mg base 2 (He.fAd K ("_law_path", none)) ["_law_left_here"] (sp__law_path K) := ok__law_path T
  have c__law_node : Cee P w K mg base 2 (He.fAd K ("_law_node", none)) ["_law_left_here"] (sp__law_node K) := ok__law_node T
  have c__law_letters : Cee P w K mg base 1 (He.fAd K ("_law_letters", none)) ["_law_k"] (sp__law_letters K) := ok__law_letters T
  refine cee_of T.d__law_deeds sc__law_deeds (fun _ _ _ _ _ _ us hl => match us, hl with | [_], _ => rfl) (fun vs H Q E h => sp1_len h) (fun cdv A outer s H vs Q E hr h => ⟨_, (pss_cons (ps_set (i := 1) sc__law_deeds.nd rfl (Or.inl rfl) (pe_f c__law_digit (hr.mono (by decide)) (takes_of rfl rfl rfl rfl) (by rfl) T.g__law_digit (pa_cons (pv 0) (pa_cons pe_int pa_nil)))) (pss_cons (ps_if (pt_cmpR op_lt (pv 1) pe_int (nomark _)) (pss_cons (ps_set (i := 2) sc__law_deeds.nd rfl (Or.inl rfl) (pe_lst (pa_cons pe_str (pa_cons pe_str (pa_cons pe_str (pa_cons pe_str (pa_cons pe_str (pa_cons pe_str (pa_cons pe_str (pa_cons pe_str (pa_cons pe_str (pa_cons pe_str pa_nil)))))))))))) (pss_cons (ps_set (i := 3) sc__law_deeds.nd rfl (Or.inl rfl) (pe_tup (pa_cons (pe_ix ix_list (pe_op op_cat (pv 2) (pe_lst (pa_cons pe_str pa_nil))) (pv 1) (fun _ _ => rfl)) (pa_cons (pe_f c__law_path (hr.mono (by decide)) (takes_of rfl rfl rfl rfl) (by rfl) T.g__law_path (pa_cons (pv 0) pa_nil)) pa_nil)))) (pss_cons (PS.box (ps_if (pt_cmpR op_gt (pv 1) pe_int (nomark _)) (pss_one (ps_set (i := 3) sc__law_deeds.nd rfl (Or.inl rfl) (pe_op op_catT (pv 3) (pe_tup (pa_cons (pe_f c__law_path (hr.mono (by decide)) (takes_of rfl rfl rfl rfl) (by rfl) T.g__law_path (pa_cons (pv 0) pa_nil)) pa_nil))))) pss_nil)) (pss_one (ps_ret (pe_lst (pa_cons (pv 3) pa_nil))))))) pss_nil) (pss_cons (ps_if (pt_cmpR op_eq (pv 1) pe_int (nomark _)) (pss_one (ps_ret (pe_lst (pa_cons (pe_tup (pa_cons pe_str (pa_cons (pe_f c__law_node (hr.mono (by decide)) (takes_of rfl rfl rfl rfl) (by rfl) T.g__law_node (pa_cons (pv 0) pa_nil)) pa_nil))) (pa_cons (pe_tup (pa_cons pe_str pa_nil)) pa_nil))))) pss_nil) (pss_cons (ps_set (i := 4) sc__law_deeds.nd rfl (Or.inr rfl) (pe_f c__law_path (hr.mono (by decide)) (takes_of rfl rfl rfl rfl) (by rfl) T.g__law_path (pa_cons (pv 0) pa_nil))) (pss_cons (ps_set (i := 5) sc__law_deeds.nd rfl (Or.inl rfl) (pe_f c__law_digit (hr.mono (by decide)) (takes_of rfl rfl rfl rfl) (by rfl) T.g__law_digit (pa_cons (pv 0) (pa_cons pe_int pa_nil)))) (pss_cons (ps_if (pt_cmpR op_eq (pv 1) pe_int (nomark _)) (pss_cons (ps_set (i := 6) sc__law_deeds.nd rfl (Or.inr rfl) (pe_ix ix_list (pe_lst (pa_cons pe_str (pa_cons (pe_f c__law_path (hr.mono (by decide)) (takes_of rfl rfl rfl rfl) (by rfl) T.g__law_path (pa_cons (pv 0) pa_nil)) pa_nil))) (pe_f c__law_digit (hr.mono (by decide)) (takes_of rfl rfl rfl rfl) (by rfl) T.g__law_digit (pa_cons (pv 0) (pa_cons pe_int pa_nil))) (fun _ _ => rfl))) (pss_one (ps_ret (pe_op op_cat (pe_lst (pa_cons (pe_tup (pa_cons pe_str (pa_cons (pv 4) pa_nil))) pa_nil)) (pe_lc (own := [("_law_k", 7)]) (by rfl) sc__law_deeds.nd (PI.box (pi_range1 (by rfl) T.n_range (pa_cons (pv 5) pa_nil))) (blkOk_by (own := [("_law_k", 7)]) (N := ["_law_left_here", "_law_sort", "_law_words", "_law_deed", "_law_path_here", "_law_many", "_law_place", "_law_k", "_law_word"]) (sc := defScope s__law_deeds) (by decide +kernel)) (fun _ _ _ _ _ => (pg_name (i := 7) sc__law_deeds.nd rfl (Or.inl rfl))) (fun _ _ _ _ _ => pts_nil) (fun _ _ _ _ _ => (pe_tup (pa_cons pe_str (pa_cons (pv 4) (pa_cons (pe_op op_add_str (pe_op op_add_str (pv 6) pe_str) (pe_f c__law_letters (hr.mono (by decide)) takes0 (by rfl) T.g__law_letters (pa_cons (pv 7) pa_nil))) pa_nil)))))))))) pss_nil) (pss_cons (ps_set (i := 8) sc__law_deeds.nd rfl (Or.inr rfl) (pe_ix ix_list (pe_lst (pa_cons pe_str (pa_cons pe_str pa_nil))) (pe_f c__law_digit (hr.mono (by decide)) (takes_of rfl rfl rfl rfl) (by rfl) T.g__law_digit (pa_cons (pv 0) (pa_cons pe_int pa_nil))) (fun _ _ => rfl))) (pss_one (ps_ret (pe_lc (own := [("_law_k", 7)]) (by rfl) sc__law_deeds.nd (PI.box (pi_range1 (by rfl) T.n_range (pa_cons (pe_op op_mod (pv 5) pe_int) pa_nil))) (blkOk_by (own := [("_law_k", 7)]) (N := ["_law_left_here", "_law_sort", "_law_words", "_law_deed", "_law_path_here", "_law_many", "_law_place", "_law_k", "_law_word"]) (sc := defScope s__law_deeds) (by decide +kernel)) (fun _ _ _ _ _ => (pg_name (i := 7) sc__law_deeds.nd rfl (Or.inl rfl))) (fun _ _ _ _ _ => pts_nil) (fun _ _ _ _ _ => (pe_tup (pa_cons (pv 8) (pa_cons (pe_op op_add_str (pe_op op_add_str (pv 4) pe_str) (pe_f c__law_letters (hr.mono (by decide)) takes0 (by rfl) T.g__law_letters (pa_cons (pv 7) pa_nil))) pa_nil)))))))))))))), ?_⟩)
  obtain ⟨v0, rfl, h⟩ := h
  dsimp only [cxOf, L2.start]
  obtain ⟨p, u, rfl, O, hu, k⟩ := h
  walk_at "s"
  refine ask2 ⟨p, u, 14, rfl, rfl, O, hu, by decide, by decide, fun H1 u1 O1 hu1 r hr0 hr1 => ?_⟩
  walk_at "s"
  refine if_d (fun h1 => ?_) (fun h1 => ?_)
  · walk_at "s"
    intro b hb
    have O2 := O1.new (o := .lst (kinds.map V.str)) hb
    show gName 2 (V.ref b) _ (upd H1 b (.lst (kinds.map V.str))) _
    generalize upd H1 b _ = H2 at O2 ⊢
    walk_at "s"
    intro b2 hb2
    have O3 := O2.new (o := .lst [.str "move"]) hb2
    generalize upd H2 b2 _ = H3 at O3 ⊢
    refine ⟨b, b2, _, _, rfl, rfl, O3.get (.tail _ (.head _)), O3.get (.head _), by decide, fun b3 hb3 => ?_⟩
    rw [show kinds.map V.str ++ [V.str "move"] = kinds1.map V.str from rfl]
    have O4 := (O3.new (o := .lst (kinds1.map V.str)) hb3).drop (cs' := [(b3, .lst (kinds1.map V.str)), (p, .lst [.int u1])]) (.cons₂ _ (.cons _ (.cons _ (.refl _))))
    generalize upd H3 b3 _ = H4 at O4 ⊢
    clear O2 O3
    have hbs : SqL K H4 b3 (kinds1.map V.str) := SqL.of (O4.get (.head _))
    by_cases h3 : r ≤ 7
    · obtain ⟨w, hat, f, hf⟩ := kind_one hr0 h3
      walk_at "s"
      refine ask1 ⟨p, u1, rfl, O4.blk (s' := []) (.there .all), hu1, fun H5 u2 z O5 hu2 hz => ?_⟩
      have O6 := (O4.call (.there .all) O5).drop (cs' := [(p, .lst [.int u2])]) (.cons _ (.refl _))
      obtain ⟨zl, rfl, hzl⟩ := hz.ast (by decide)
      walk_at "s"
      intro T hT
      generalize hg : upd H5 T _ = H6
      have T6 : H6 T = some (.tup [.str w, .str (S zl)]) := (congrFun hg T).symm.trans upd_same
      have O7 : Own H H6 [p] [(p, .lst [.int u2])] := by rw [← hg]; exact O6.newT hT
      clear hg
      walk_at "s"
      walk_at "b"
      refine if_d (fun q => absurd q (by omega)) (fun _ => ?_)
      walk_at "s"
      intro L hL
      exact k _ L [.ref T] [f zl] ((O7.new hL).drop (.cons₂ _ (.cons _ (.refl _)))) (DsAt.nil.snoc (by rw [(hf zl).1]; exact (Own.start.new hL).tp _ _ T6) ((hf zl).2 hzl)) (by simp)
    · obtain ⟨w, hat, f, hf⟩ := kind_two (by omega) h1
      walk_at "s"
      refine ask1 ⟨p, u1, rfl, O4.blk (s' := []) (.there .all), hu1, fun H5 u2 z O5 hu2 hz => ?_⟩
      have O6 := (O4.call (.there .all) O5).drop (cs' := [(p, .lst [.int u2])]) (.cons _ (.refl _))
      obtain ⟨zl, rfl, hzl⟩ := hz.ast (by decide)
      walk_at "s"
      intro T hT
      generalize hg : upd H5 T _ = H6
      have T6 : H6 T = some (.tup [.str w, .str (S zl)]) := (congrFun hg T).symm.trans upd_same
      have O7 : Own H H6 [p] [(p, .lst [.int u2])] := by rw [← hg]; exact O6.newT hT
      clear hg
      walk_at "s"
      walk_at "b"
      refine if_d (fun _ => ?_) (fun q => absurd q (by omega))
      walk_at "s"
      refine ask1 ⟨p, u2, rfl, O7.self, hu2, fun H8 u3 z2 O8 hu3 hz2 => ?_⟩
      have O9 := O7.call .all O8
      have T8 := O8.tp _ _ T6
      obtain ⟨yl, rfl, hyl⟩ := hz2.ast (by decide)
      walk_at "s"
      intro T2 hT2
      generalize hg : upd H8 T2 _ = H9
      have T9 : H9 T2 = some (.tup [.str (S yl)]) := (congrFun hg T2).symm.trans upd_same
      have O10 : Own H H9 [p] [(p, .lst [.int u3])] := by rw [← hg]; exact O9.newT hT2
      have T92 : H9 T = some (.tup [.str w, .str (S zl)]) := by rw [← hg]; exact (O9.self.newT hT2).tp _ _ T8
      clear hg
      walk_at "s"
      refine ⟨nofun, by simp [sizeLine], fun e => absurd e nofun, fun _ T3 hT3 => ?_⟩
      generalize hg : upd H9 T3 _ = H10
      have T10 : H10 T3 = some (.tup [.str w, .str (S zl), .str (S yl)]) := (congrFun hg T3).symm.trans upd_same
      have O11 : Own H H10 [p] [(p, .lst [.int u3])] := by rw [← hg]; exact O10.newT hT3
      clear hg
      walk_at "s"
      intro L hL
      exact k _ L [.ref T3] [f zl yl] ((O11.new hL).drop (.cons₂ _ (.cons _ (.refl _)))) (DsAt.nil.snoc (by rw [(hf zl yl).1]; exact (Own.start.new hL).tp _ _ T10) ((hf zl yl).2 hzl hyl)) (by simp)
  · walk_at "s"
    refine if_ii (fun h2 => ?_) (fun h2 => ?_)
    · walk_at "s"
      refine ask1 ⟨p, u1, rfl, O1.self, hu1, fun H5 u2 O5 hu2 n => ?_⟩
      have O6 := O1.call .all O5
      walk_at "s"
      intro T hT
      generalize hg : upd H5 T _ = H6
      have T6 : H6 T = some (.tup [.str "stat", .int n]) := (congrFun hg T).symm.trans upd_same
      have O7 : Own H H6 [p] [(p, .lst [.int u2])] := by rw [← hg]; exact O6.newT hT
      clear hg
      walk_at "s"
      intro T2 hT2
      generalize hg : upd H6 T2 _ = H7
      have T7 : H7 T2 = some (.tup [.str "free"]) := (congrFun hg T2).symm.trans upd_same
      have O8 : Own H H7 [p] [(p, .lst [.int u2])] := by rw [← hg]; exact O7.newT hT2
      have T72 : H7 T = some (.tup [.str "stat", .int n]) := by rw [← hg]; exact O7.self.newT hT2 |>.tp _ _ T6
      clear hg
      walk_at "s"
      intro L hL
      exact k _ L [.ref T, .ref T2] [.stat n, .free] ((O8.new hL).drop (.cons₂ _ (.cons _ (.refl _)))) ((DsAt.nil.snoc (d := .stat n) ((Own.start.new hL).tp _ _ T72) True.intro).snoc (d := .free) ((Own.start.new hL).tp _ _ T7) True.intro) (by simp)
    · walk_at "s"
      refine ask1 ⟨p, u1, rfl, O1.self, hu1, fun H5 u2 z O5 hu2 hz => ?_⟩
      have O6 := O1.call .all O5
      walk_at "s"
      refine ask2 ⟨p, u2, 41, rfl, rfl, O6.self, hu2, by decide, by decide, fun H7 u3 O7 hu3 m hm0 hm1 => ?_⟩
      have O8 := O6.call .all O7
      obtain ⟨n, rfl⟩ : ∃ n : Nat, m = n := ⟨m.toNat, (Int.toNat_of_nonneg hm0).symm⟩
      walk_at "s"
      refine if_ii (fun h3 => ?_) (fun h3 => ?_)
      · walk_at "s"
        refine ask1 ⟨p, u3, rfl, O8.self, hu3, fun H9 u4 z2 O9 hu4 hz2 => ?_⟩
        have O10 := O8.call .all O9
        walk_at "s"
        intro b hb
        have O11 := O10.new (o := .lst [.str "", .str z2]) hb
        generalize upd H9 b _ = H10 at O11 ⊢
        walk_at "s"
        refine ask2 ⟨p, u4, 2, rfl, rfl, O11.blk (s' := []) (.there .all), hu4, by decide, by decide, fun H11 u5 O12 hu5 r2 hr20 hr21 => ?_⟩
        have O13 := O11.call (.there .all) O12
        have hbs : SqL K H11 b [.str "", .str z2] := SqL.of (O13.get (.head _))
        obtain ⟨y, hy, hy2⟩ : ∃ y, atI [V.str "", V.str z2] r2 = some (.str y) ∧ A8 60 y := by
          have h : r2 = 0 ∨ r2 = 1 := by omega
          rcases h with rfl | rfl
          · exact ⟨_, rfl, (A8.lit "" 0 (by decide +kernel)).mono (by decide)⟩
          · exact ⟨_, rfl, hz2⟩
        obtain ⟨zl, rfl, hzl⟩ := hz.ast (by decide)
        have O14 := O13.drop (cs' := [(p, .lst [.int u5])]) (.cons _ (.refl _))
        clear O8 O10 O11 O12 O13
        walk_at "s"
        intro T hT
        generalize hg : upd H11 T _ = H12
        have T12 : H12 T = some (.tup (FDeed.vs (.make zl))) := (congrFun hg T).symm.trans upd_same
        have O15 : Own H H12 [p] [(p, .lst [.int u5])] := by rw [← hg]; exact O14.newT hT
        clear hg
        walk_at "s"
        intro L hL
        have O16 := O15.new (o := .lst [.ref T]) hL
        have T16 := (O15.self.new (o := .lst [.ref T]) hL).tp _ _ T12
        generalize upd H12 L _ = H13 at O16 T16 ⊢
        clear O14 O15 T12
        have hst : A8 1 ("/" : Str) := A8.lit "/" 1 (by decide +kernel)
        have hz1 : y.length + ("/" : Str).length ≤ sizeLine := hy2.sto.fit hst.sto (by decide)
        walk_at "s"
        refine lcR (lo := 0) (n := n) (fun D i H' => ∃ vs ds, Own H13 H' [] [(D, .lst vs)] ∧ DsAt H' vs ds ∧ vs.length = i) ?_ ?_ ?_
        · intro D hD
          exact ⟨[], [], Own.start.new hD, .nil, rfl⟩
        · rintro D i H' hi ⟨vs, ds, O17, hds, hvl⟩
          have hD := O17.get (.head _)
          walk_at "s"
          refine ask1 ⟨0 + (i : Int), rfl, by omega, by omega, fun lt hlt => ?_⟩
          have hz2 : (y ++ ("/" : Str)).length + lt.length ≤ sizeLine := (hy2.cat hst).sto.fit hlt.sto (by decide)
          walk_at "s"
          obtain ⟨yl, hyl, hyl2⟩ := ((hy2.cat hst).cat hlt).ast (by decide)
          intro T2 hT2
          generalize hg : upd H' T2 _ = H2
          have T2' : H2 T2 = some (.tup (FDeed.vs (.link zl yl))) := by
            have e : H2 T2 = some (.tup [.str "link", .str (S zl), .str (y ++ ("/" : Str) ++ lt)]) := (congrFun hg T2).symm.trans upd_same
            rw [hyl] at e
            exact e
          have O18 : Own H13 H2 [] [(D, .lst vs)] := by rw [← hg]; exact O17.newT hT2
          have hds2 : DsAt H2 vs ds := by rw [← hg]; exact hds.mono (O17.self.newT hT2)
          clear hg
          have hD2 := O18.get (.head _)
          refine ⟨vs, hD2, by exact sz_lt (by omega), ⟨vs ++ [.ref T2], ds ++ [.link zl yl], O18.wr .here, ?_, by rw [List.length_append, hvl]; rfl⟩⟩
          exact (hds2.mono (O18.self.wr (a := D) (o' := .lst (vs ++ [.ref T2])) .here)).snoc ((O18.self.wr (a := D) (o' := .lst (vs ++ [.ref T2])) .here).tp _ _ T2') (show FDeed.fine (.link zl yl) from ⟨hzl, hyl2⟩)
        · rintro D H' ⟨vs, ds, O17, hds, hvl⟩
          have O18 := O16.callN O17
          walk_at "s"
          intro L2 hL2
          refine k _ L2 ([.ref T] ++ vs) ([.make zl] ++ ds) ((O18.new hL2).drop (.cons₂ _ (List.nil_sublist _))) ?_ (by rw [List.length_append, hvl]; show 1 + n ≤ 60; omega)
          exact ((DsAt.nil.snoc (d := .make zl) (O17.tp _ _ T16) hzl).app hds).mono (Own.start.new hL2)
      · walk_at "s"
        intro b hb
        have O11 := O8.new (o := .lst [.str "make", .str "make_dir"]) hb
        generalize upd H7 b _ = H10 at O11 ⊢
        walk_at "s"
        refine ask2 ⟨p, u3, 2, rfl, rfl, O11.blk (s' := []) (.there .all), hu3, by decide, by decide, fun H11 u5 O12 hu5 r2 hr20 hr21 => ?_⟩
        have O13 := O11.call (.there .all) O12
        have hbs : SqL K H11 b [.str "make", .str "make_dir"] := SqL.of (O13.get (.head _))
        obtain ⟨y, hy, f, hf⟩ : ∃ y, atI [V.str "make", V.str "make_dir"] r2 = some (.str y) ∧ ∃ f : List Nat → FDeed, ∀ z, (f z).vs = [.str y, .str (S z)] ∧ (AsT z → (f z).fine) := by
          have h : r2 = 0 ∨ r2 = 1 := by omega
          rcases h with rfl | rfl
          · exact ⟨_, rfl, .make, fun z => ⟨rfl, id⟩⟩
          · exact ⟨_, rfl, .mkdir, fun z => ⟨rfl, id⟩⟩
        obtain ⟨zl, rfl, hzl⟩ := hz.ast (by decide)
        have O14 := O13.drop (cs' := [(p, .lst [.int u5])]) (.cons _ (.refl _))
        clear O8 O11 O12
        have hst : A8 1 ("/" : Str) := A8.lit "/" 1 (by decide +kernel)
        have hz1 : (S zl).length + ("/" : Str).length ≤ sizeLine := hz.sto.fit hst.sto (by decide)
        walk_at "s"
        have hn25 : ((n : Int) % 25).toNat < 25 := by omega
        generalize ((n : Int) % 25).toNat = n2 at hn25 ⊢
        refine lcR (lo := 0) (n := n2) (fun D i H' => ∃ vs ds, Own H11 H' [] [(D, .lst vs)] ∧ DsAt H' vs ds ∧ vs.length = i) ?_ ?_ ?_
        · intro D hD
          exact ⟨[], [], Own.start.new hD, .nil, rfl⟩
        · rintro D i H' hi ⟨vs, ds, O17, hds, hvl⟩
          have hD := O17.get (.head _)
          walk_at "s"
          refine ask1 ⟨0 + (i : Int), rfl, by omega, by omega, fun lt hlt => ?_⟩
          have hz2 : ((S zl) ++ ("/" : Str)).length + lt.length ≤ sizeLine := (hz.cat hst).sto.fit hlt.sto (by decide)
          walk_at "s"
          obtain ⟨yl, hyl, hyl2⟩ := ((hz.cat hst).cat hlt).ast (by decide)
          intro T2 hT2
          generalize hg : upd H' T2 _ = H2
          have T2' : H2 T2 = some (.tup (FDeed.vs (f yl))) := by
            have e : H2 T2 = some (.tup [.str y, .str ((S zl) ++ ("/" : Str) ++ lt)]) := (congrFun hg T2).symm.trans upd_same
            rw [hyl] at e
            rw [(hf yl).1]
            exact e
          have O18 : Own H11 H2 [] [(D, .lst vs)] := by rw [← hg]; exact O17.newT hT2
          have hds2 : DsAt H2 vs ds := by rw [← hg]; exact hds.mono (O17.self.newT hT2)
          clear hg
          have hD2 := O18.get (.head _)
          refine ⟨vs, hD2, by exact sz_lt (by omega), ⟨vs ++ [.ref T2], ds ++ [f yl], O18.wr .here, ?_, by rw [List.length_append, hvl]; rfl⟩⟩
          exact (hds2.mono (O18.self.wr (a := D) (o' := .lst (vs ++ [.ref T2])) .here)).snoc ((O18.self.wr (a := D) (o' := .lst (vs ++ [.ref T2])) .here).tp _ _ T2') ((hf yl).2 hyl2)
        · rintro D H' ⟨vs, ds, O17, hds, hvl⟩
          have O18 := O14.callN O17
          exact k _ D vs ds (O18.drop (.cons₂ _ (List.nil_sublist _))) hds (by omega)

/-! ## found and due, told alike -/
open SX (S)
def flA (v : V) : Prop := (∃ i, v = .int i) ∨ ∃ z, v = .str z ∧ PyData.strOk z = true
def sp__law_alike_0 (K : PySem.W.Frag) : Sp := sp2 fun x y H Q _ => ∃ v, x = v ∧ y = v ∧ flA v ∧ ∀ H', Own H H' [] [] → Q (.bl true) H'
def sp__law_alike_1 (K : PySem.W.Frag) : Sp := sp2 fun x y H Q _ => ((∃ v, x = v ∧ y = v ∧ (v = .non ∨ flA v)) ∨ ∃ a b xs, x = .ref a ∧ y = .ref b ∧ (H a = some (.lst xs) ∧ H b = some (.lst xs) ∨ H a = some (.tup xs) ∧ H b = some (.tup xs)) ∧ (∀ v ∈ xs, flA v) ∧ xs.length ≤ 100) ∧ ∀ H', Own H H' [] [] → Q (.bl true) H'
theorem walk_zipT {K : PySem.W.Frag} {a b : Addr} {xs ys : List V} {n : Nat} (hn : n = min xs.length ys.length) : Walk (RZ.ItzT K a b) n (fun H => SqT K H a xs ∧ SqT K H b ys) (YPair (fun i => xs[i]?) (fun i => ys[i]?)) := by
  subst hn
  refine ⟨fun i _ hi q => ?_, fun _ q => ⟨xs, ys, q.1, q.2, by omega⟩, fun i H v H' _ q y => ?_⟩
  · have h1 : i < xs.length := by omega
    have h2 : i < ys.length := by omega
    exact ⟨xs, ys, xs[i], ys[i], q.1, q.2, by simp [h1], by simp [h2]⟩
  · obtain ⟨T, x, z, h1, h2, h3, h4, h5⟩ := y
    exact ⟨T, x, z, h1, h2, h3, h4 xs q.1, h5 ys q.2⟩
theorem eq_intA {K : PySem.W.Frag} {H : Hp} {i : Int} {Q : VK} (k : Q (.bl true) H) : rEqD K (.int i) (.int i) H Q := ⟨.int i, .int i, .int i, .int i, rfl, rfl, by rw [show PyData.eqv (.int i) (.int i) = true by simp [PyData.eqv]]; exact k⟩
theorem sc__law_alike : FnScope ["_law_found_here", "_law_due_here", "_law_one", "_law_other"] ["_law_found_here", "_law_due_here"] (defScope s__law_alike) := ⟨rfl, rfl, rfl, by decide +kernel, rfl, by decide +kernel, by decide +kernel⟩
theorem okW__law_alike {P : Program} {w : World} {K : PySem.W.Frag} {mg : Str → Option Value} {base : Heap} (T : Txt K mg) : Cee P w K mg base 1 (He.fAd K ("_law_alike", none)) ["_law_found_here", "_law_due_here"] spWall :=
  cee_of T.d__law_alike sc__law_alike (fun _ _ _ _ _ _ us hl => match us, hl with | [_, _], _ => rfl) (fun vs H Q E h => h.elim) (fun cdv A outer s H vs Q E hr h => h.elim)
theorem ok__law_alike_0 {P : Program} {w : World} {K : PySem.W.Frag} {mg : Str → Option Value} {base : Heap} (T : Txt K mg) : Cee P w K mg base 2 (He.fAd K ("_law_alike", none)) ["_law_found_here", "_law_due_here"] (sp__law_alike_0 K) := by
  have c__law_alike : Cee P w K mg base 1 (He.fAd K ("_law_alike", none)) ["_law_found_here", "_law_due_here"] spWall := okW__law_alike T
  refine cee_of T.d__law_alike sc__law_alike (fun _ _ _ _ _ _ us hl => match us, hl with | [_, _], _ => rfl) (fun vs H Q E h => sp2_len h) (fun cdv A outer s H vs Q E hr h => ⟨_, (pss_cons (ps_if (pt_val (pe_callB call_isiT (by rfl) T.n_isinstance (by decide +kernel) (pa_cons (pv 1) (pa_cons (pe_tup (pa_cons (pe_bltn (v := .ty "list") rfl T.n_list (by decide +kernel) rfl) (pa_cons (pe_bltn (v := .ty "tuple") rfl T.n_tuple (by decide +kernel) rfl) pa_nil))) pa_nil)))) (pss_cons (PS.box (ps_if (PW.pt (pw_or (pt_cmpR op_ne (pe_callB call_isi (by rfl) T.n_isinstance (by decide +kernel) (pa_cons (pv 0) (pa_cons (pe_bltn (v := .ty "list") rfl T.n_list (by decide +kernel) rfl) pa_nil))) (pe_callB call_isi (by rfl) T.n_isinstance (by decide +kernel) (pa_cons (pv 1) (pa_cons (pe_bltn (v := .ty "list") rfl T.n_list (by decide +kernel) rfl) pa_nil))) (nomark _)) (pw_or1 (pt_cmpR op_ne (pe_callB call_isi (by rfl) T.n_isinstance (by decide +kernel) (pa_cons (pv 0) (pa_cons (pe_bltn (v := .ty "tuple") rfl T.n_tuple (by decide +kernel) rfl) pa_nil))) (pe_callB call_isi (by rfl) T.n_isinstance (by decide +kernel) (pa_cons (pv 1) (pa_cons (pe_bltn (v := .ty "tuple") rfl T.n_tuple (by decide +kernel) rfl) pa_nil))) (nomark _))))) (pss_one (ps_ret pe_bl)) pss_nil)) (pss_cons (ps_if (pt_cmpR op_ne (pe_callB call_len (by rfl) T.n_len (by decide +kernel) (pa_cons (pv 0) pa_nil)) (pe_callB call_len (by rfl) T.n_len (by decide +kernel) (pa_cons (pv 1) pa_nil)) (nomark _)) (pss_one (ps_ret pe_bl)) pss_nil) (pss_one (ps_ret (pe_callB (cr_all rfl) (by rfl) T.n_all (by decide +kernel) (pa_cons (pe_lc (own := [("_law_one", 2), ("_law_other", 3)]) (by rfl) sc__law_alike.nd (PI.box (RZ.pi_zipA (by rfl) T.n_zip (pa_cons (pv 0) (pa_cons (pv 1) pa_nil)))) (blkOk_by (own := [("_law_one", 2), ("_law_other", 3)]) (N := ["_law_found_here", "_law_due_here", "_law_one", "_law_other"]) (sc := defScope s__law_alike) (by decide +kernel)) (fun _ _ _ _ _ => (show PG _ _ (gTup K 2 (gCons (gName 2) (gCons (gName 3) gNil))) from (pg_tup rfl (pgs_cons (pg_name (i := 2) sc__law_alike.nd rfl (Or.inl rfl)) (pgs_cons (pg_name (i := 3) sc__law_alike.nd rfl (Or.inl rfl)) pgs_nil))))) (fun _ _ _ _ _ => pts_nil) (fun _ _ _ _ _ => (pe_f c__law_alike (hr.mono (by decide)) takes0 (by rfl) T.g__law_alike (pa_cons (pv 2) (pa_cons (pv 3) pa_nil))))) pa_nil)))))) pss_nil) (pss_cons (ps_if (pt_cmpR op_isN (pv 1) pe_non (nomark _)) (pss_one (ps_ret (pe_cmpR op_isN (pv 0) pe_non (nomark _)))) pss_nil) (pss_cons (ps_if (pt_val (pe_callB call_isi (by rfl) T.n_isinstance (by decide +kernel) (pa_cons (pv 1) (pa_cons (pe_bltn (v := .ty "str") rfl T.n_str (by decide +kernel) rfl) pa_nil)))) (pss_one (ps_ret (pe_and (pe_callB call_isi (by rfl) T.n_isinstance (by decide +kernel) (pa_cons (pv 0) (pa_cons (pe_bltn (v := .ty "str") rfl T.n_str (by decide +kernel) rfl) pa_nil))) (pe_one (pe_cmpR (op_eqD hr.units) (pv 0) (pv 1) (nomark _)))))) pss_nil) (pss_one (ps_ret (pe_and (pe_callB call_isi (by rfl) T.n_isinstance (by decide +kernel) (pa_cons (pv 0) (pa_cons (pe_bltn (v := .ty "int") rfl T.n_int (by decide +kernel) rfl) pa_nil))) (pe_and (pe_not (pe_callB call_isi (by rfl) T.n_isinstance (by decide +kernel) (pa_cons (pv 0) (pa_cons (pe_bltn (v := .ty "bool") rfl T.n_bool (by decide +kernel) rfl) pa_nil)))) (pe_one (pe_cmpR (op_eqD hr.units) (pv 0) (pv 1) (nomark _)))))))))), ?_⟩)
  obtain ⟨v0, v1, rfl, h⟩ := h
  dsimp only [cxOf, L2.start]
  obtain ⟨v, rfl, rfl, hv, k⟩ := h
  rcases hv with ⟨i, rfl⟩ | ⟨z, rfl, hz⟩
  · walk_at "s"
    intro T1 hT1
    have O1 := (Own.start (H := H)).newT (o := .tup [V.ty "list", V.ty "tuple"]) hT1
    have hT1' : (upd H T1 (.tup [V.ty "list", V.ty "tuple"])) T1 = some (.tup [V.ty "list", V.ty "tuple"]) := upd_same
    generalize upd H T1 _ = H1 at O1 hT1' ⊢
    walk_at "s"
    refine eq_intA ?_
    exact k _ O1
  · walk_at "s"
    intro T1 hT1
    have O1 := (Own.start (H := H)).newT (o := .tup [V.ty "list", V.ty "tuple"]) hT1
    have hT1' : (upd H T1 (.tup [V.ty "list", V.ty "tuple"])) T1 = some (.tup [V.ty "list", V.ty "tuple"]) := upd_same
    generalize upd H T1 _ = H1 at O1 hT1' ⊢
    walk_at "s"
    refine eq_word hz hz ?_
    rw [decide_eq_true rfl]
    exact k _ O1
theorem ok__law_alike_1 {P : Program} {w : World} {K : PySem.W.Frag} {mg : Str → Option Value} {base : Heap} (T : Txt K mg) : Cee P w K mg base 3 (He.fAd K ("_law_alike", none)) ["_law_found_here", "_law_due_here"] (sp__law_alike_1 K) := by
  have c__law_alike : Cee P w K mg base 2 (He.fAd K ("_law_alike", none)) ["_law_found_here", "_law_due_here"] (sp__law_alike_0 K) := ok__law_alike_0 T
  refine cee_of T.d__law_alike sc__law_alike (fun _ _ _ _ _ _ us hl => match us, hl with | [_, _], _ => rfl) (fun vs H Q E h => sp2_len h) (fun cdv A outer s H vs Q E hr h => ⟨_, (pss_cons (ps_if (pt_val (pe_callB call_isiT (by rfl) T.n_isinstance (by decide +kernel) (pa_cons (pv 1) (pa_cons (pe_tup (pa_cons (pe_bltn (v := .ty "list") rfl T.n_list (by decide +kernel) rfl) (pa_cons (pe_bltn (v := .ty "tuple") rfl T.n_tuple (by decide +kernel) rfl) pa_nil))) pa_nil)))) (pss_cons (PS.box (ps_if (PW.pt (pw_or (pt_cmpR op_ne (pe_callB call_isi (by rfl) T.n_isinstance (by decide +kernel) (pa_cons (pv 0) (pa_cons (pe_bltn (v := .ty "list") rfl T.n_list (by decide +kernel) rfl) pa_nil))) (pe_callB call_isi (by rfl) T.n_isinstance (by decide +kernel) (pa_cons (pv 1) (pa_cons (pe_bltn (v := .ty "list") rfl T.n_list (by decide +kernel) rfl) pa_nil))) (nomark _)) (pw_or1 (pt_cmpR op_ne (pe_callB call_isi (by rfl) T.n_isinstance (by decide +kernel) (pa_cons (pv 0) (pa_cons (pe_bltn (v := .ty "tuple") rfl T.n_tuple (by decide +kernel) rfl) pa_nil))) (pe_callB call_isi (by rfl) T.n_isinstance (by decide +kernel) (pa_cons (pv 1) (pa_cons (pe_bltn (v := .ty "tuple") rfl T.n_tuple (by decide +kernel) rfl) pa_nil))) (nomark _))))) (pss_one (ps_ret pe_bl)) pss_nil)) (pss_cons (ps_if (pt_cmpR op_ne (pe_callB call_len (by rfl) T.n_len (by decide +kernel) (pa_cons (pv 0) pa_nil)) (pe_callB call_len (by rfl) T.n_len (by decide +kernel) (pa_cons (pv 1) pa_nil)) (nomark _)) (pss_one (ps_ret pe_bl)) pss_nil) (pss_one (ps_ret (pe_callB (cr_all rfl) (by rfl) T.n_all (by decide +kernel) (pa_cons (pe_lc (own := [("_law_one", 2), ("_law_other", 3)]) (by rfl) sc__law_alike.nd (PI.box (RZ.pi_zipA (by rfl) T.n_zip (pa_cons (pv 0) (pa_cons (pv 1) pa_nil)))) (blkOk_by (own := [("_law_one", 2), ("_law_other", 3)]) (N := ["_law_found_here", "_law_due_here", "_law_one", "_law_other"]) (sc := defScope s__law_alike) (by decide +kernel)) (fun _ _ _ _ _ => (show PG _ _ (gTup K 2 (gCons (gName 2) (gCons (gName 3) gNil))) from (pg_tup rfl (pgs_cons (pg_name (i := 2) sc__law_alike.nd rfl (Or.inl rfl)) (pgs_cons (pg_name (i := 3) sc__law_alike.nd rfl (Or.inl rfl)) pgs_nil))))) (fun _ _ _ _ _ => pts_nil) (fun _ _ _ _ _ => (pe_f c__law_alike (hr.mono (by decide)) takes0 (by rfl) T.g__law_alike (pa_cons (pv 2) (pa_cons (pv 3) pa_nil))))) pa_nil)))))) pss_nil) (pss_cons (ps_if (pt_cmpR op_isN (pv 1) pe_non (nomark _)) (pss_one (ps_ret (pe_cmpR op_isN (pv 0) pe_non (nomark _)))) pss_nil) (pss_cons (ps_if (pt_val (pe_callB call_isi (by rfl) T.n_isinstance (by decide +kernel) (pa_cons (pv 1) (pa_cons (pe_bltn (v := .ty "str") rfl T.n_str (by decide +kernel) rfl) pa_nil)))) (pss_one (ps_ret (pe_and (pe_callB call_isi (by rfl) T.n_isinstance (by decide +kernel) (pa_cons (pv 0) (pa_cons (pe_bltn (v := .ty "str") rfl T.n_str (by decide +kernel) rfl) pa_nil))) (pe_one (pe_cmpR (op_eqD hr.units) (pv 0) (pv 1) (nomark _)))))) pss_nil) (pss_one (ps_ret (pe_and (pe_callB call_isi (by rfl) T.n_isinstance (by decide +kernel) (pa_cons (pv 0) (pa_cons (pe_bltn (v := .ty "int") rfl T.n_int (by decide +kernel) rfl) pa_nil))) (pe_and (pe_not (pe_callB call_isi (by rfl) T.n_isinstance (by decide +kernel) (pa_cons (pv 0) (pa_cons (pe_bltn (v := .ty "bool") rfl T.n_bool (by decide +kernel) rfl) pa_nil)))) (pe_one (pe_cmpR (op_eqD hr.units) (pv 0) (pv 1) (nomark _)))))))))), ?_⟩)
  obtain ⟨v0, v1, rfl, h⟩ := h
  dsimp only [cxOf, L2.start]
  obtain ⟨h, k⟩ := h
  rcases h with ⟨v, rfl, rfl, rfl | ⟨i, rfl⟩ | ⟨z, rfl, hz⟩⟩ | ⟨a, b, xs, rfl, rfl, ⟨ha, hb⟩ | ⟨ha, hb⟩, hxs, hl⟩
  · walk_at "s"
    intro T1 hT1
    have O1 := (Own.start (H := H)).newT (o := .tup [V.ty "list", V.ty "tuple"]) hT1
    have hT1' : (upd H T1 (.tup [V.ty "list", V.ty "tuple"])) T1 = some (.tup [V.ty "list", V.ty "tuple"]) := upd_same
    generalize upd H T1 _ = H1 at O1 hT1' ⊢
    walk_at "s"
    exact k _ O1
  · walk_at "s"
    intro T1 hT1
    have O1 := (Own.start (H := H)).newT (o := .tup [V.ty "list", V.ty "tuple"]) hT1
    have hT1' : (upd H T1 (.tup [V.ty "list", V.ty "tuple"])) T1 = some (.tup [V.ty "list", V.ty "tuple"]) := upd_same
    generalize upd H T1 _ = H1 at O1 hT1' ⊢
    walk_at "s"
    refine eq_intA ?_
    exact k _ O1
  · walk_at "s"
    intro T1 hT1
    have O1 := (Own.start (H := H)).newT (o := .tup [V.ty "list", V.ty "tuple"]) hT1
    have hT1' : (upd H T1 (.tup [V.ty "list", V.ty "tuple"])) T1 = some (.tup [V.ty "list", V.ty "tuple"]) := upd_same
    generalize upd H T1 _ = H1 at O1 hT1' ⊢
    walk_at "s"
    refine eq_word hz hz ?_
    rw [decide_eq_true rfl]
    exact k _ O1
  · walk_at "s"
    intro T1 hT1
    have O1 := (Own.start (H := H)).newT (o := .tup [V.ty "list", V.ty "tuple"]) hT1
    have hT1' : (upd H T1 (.tup [V.ty "list", V.ty "tuple"])) T1 = some (.tup [V.ty "list", V.ty "tuple"]) := upd_same
    have ha1 := O1.fr0 ha
    have hb1 := O1.fr0 hb
    generalize upd H T1 _ = H1 at O1 hT1' ha1 hb1 ⊢
    have ha0 : H a = _ := ha
    have hb0 : H b = _ := hb
    clear ha hb
    have la : LenV K (V.ref a) H1 xs.length := .inl ⟨_, SqL.of ha1, rfl⟩
    have lb : LenV K (V.ref b) H1 xs.length := .inl ⟨_, SqL.of hb1, rfl⟩
    walk_at "s"
    refine if_t rfl ?_
    walk_at "s"
    walk_at "b"
    walk_at "s"
    refine if_f (by rw [decide_eq_true rfl]; rfl) ?_
    walk_at "s"
    refine .inl ⟨SqL.of ha1, SqL.of hb1, ?_⟩
    refine lcW (walk_zip (K := K) (a := a) (b := b) (xs := xs) (ys := xs) (n := xs.length) (by simp)) (fun D n H2 => Own H H2 [] [(D, .lst ((List.replicate n true).map V.bl))]) (fun D hD => O1.new hD) (fun D n H2 _ O => ⟨SqL.of (O.fr0 ha0), SqL.of (O.fr0 hb0)⟩) ?_ ?_
    · rintro D n x H2 H3 hj O ⟨T, u, v, rfl, hT, rfl, hu, hv⟩
      have hv : v = u := Option.some.inj (hv.symm.trans hu)
      subst hv
      have O2 := O.newT (o := .tup [v, v]) hT
      have hT2 : (upd H2 T (.tup [v, v])) T = some (.tup [v, v]) := upd_same
      generalize upd H2 T _ = H4 at O2 hT2 ⊢
      walk_at "s"
      refine ask2 ⟨v, rfl, rfl, hxs v (List.mem_of_getElem? hu), fun H5 O3 => ?_⟩
      have O4 := O2.callN O3
      have hD4 := O4.get (.head _)
      have hll : ((List.replicate n true).map V.bl).length < 100000 := by rw [List.length_map, List.length_replicate]; omega
      walk_at "s"
      rw [List.replicate_succ', List.map_append]
      exact ⟨O4.wr .here⟩
    · rintro D H2 O
      have hD4 := O.get (.head _)
      have hD6 := SqL.of (K := K) hD4
      walk_at "s"
      rw [show (List.replicate xs.length true).all id = true by simp]
      exact k _ (O.drop (List.nil_sublist _))
  · walk_at "s"
    intro T1 hT1
    have O1 := (Own.start (H := H)).newT (o := .tup [V.ty "list", V.ty "tuple"]) hT1
    have hT1' : (upd H T1 (.tup [V.ty "list", V.ty "tuple"])) T1 = some (.tup [V.ty "list", V.ty "tuple"]) := upd_same
    have ha1 := O1.tp _ _ ha
    have hb1 := O1.tp _ _ hb
    generalize upd H T1 _ = H1 at O1 hT1' ha1 hb1 ⊢
    have ha0 : H a = _ := ha
    have hb0 : H b = _ := hb
    clear ha hb
    have la : LenV K (V.ref a) H1 xs.length := .inr ⟨_, SqT.of ha1, rfl⟩
    have lb : LenV K (V.ref b) H1 xs.length := .inr ⟨_, SqT.of hb1, rfl⟩
    walk_at "s"
    refine if_t rfl ?_
    walk_at "s"
    walk_at "b"
    walk_at "s"
    refine if_f (by rw [decide_eq_true rfl]; rfl) ?_
    walk_at "s"
    refine .inr ⟨SqT.of ha1, SqT.of hb1, ?_⟩
    refine lcW (walk_zipT (K := K) (a := a) (b := b) (xs := xs) (ys := xs) (n := xs.length) (by simp)) (fun D n H2 => Own H H2 [] [(D, .lst ((List.replicate n true).map V.bl))]) (fun D hD => O1.new hD) (fun D n H2 _ O => ⟨SqT.of (O.tp _ _ ha0), SqT.of (O.tp _ _ hb0)⟩) ?_ ?_
    · rintro D n x H2 H3 hj O ⟨T, u, v, rfl, hT, rfl, hu, hv⟩
      have hv : v = u := Option.some.inj (hv.symm.trans hu)
      subst hv
      have O2 := O.newT (o := .tup [v, v]) hT
      have hT2 : (upd H2 T (.tup [v, v])) T = some (.tup [v, v]) := upd_same
      generalize upd H2 T _ = H4 at O2 hT2 ⊢
      walk_at "s"
      refine ask2 ⟨v, rfl, rfl, hxs v (List.mem_of_getElem? hu), fun H5 O3 => ?_⟩
      have O4 := O2.callN O3
      have hD4 := O4.get (.head _)
      have hll : ((List.replicate n true).map V.bl).length < 100000 := by rw [List.length_map, List.length_replicate]; omega
      walk_at "s"
      rw [List.replicate_succ', List.map_append]
      exact ⟨O4.wr .here⟩
    · rintro D H2 O
      have hD4 := O.get (.head _)
      have hD6 := SqL.of (K := K) hD4
      walk_at "s"
      rw [show (List.replicate xs.length true).all id = true by simp]
      exact k _ (O.drop (List.nil_sublist _))
abbrev sp__law_alike (K : PySem.W.Frag) : Sp := sp__law_alike_1 K
theorem ok__law_alike {P : Program} {w : World} {K : PySem.W.Frag} {mg : Str → Option Value} {base : Heap} (T : Txt K mg) : Cee P w K mg base 3 (He.fAd K ("_law_alike", none)) ["_law_found_here", "_law_due_here"] (sp__law_alike K) := ok__law_alike_1 T

/-! ## a deed done in both, told alike -/
open SX (S)
theorem rising_le : ∀ (l : List Str) (p : Str), PyProof.Rows.risingS p l = true → ∀ x ∈ l, ¬ x.cps.toList < p.cps.toList
  | [], _, _ => nofun
  | y :: r, p, h => by
    have h : (!PySem.Spec.ltCps y.cps.toList p.cps.toList && PyProof.Rows.risingS y r) = true := h
    rw [Bool.and_eq_true, PyProof.Rows.ltCps_eq] at h
    have h1 : ¬ y.cps.toList < p.cps.toList := by simpa using h.1
    intro x hx
    rcases List.mem_cons.mp hx with rfl | hx
    · exact h1
    · exact List.le_trans h1 (rising_le r y h.2 x hx)
theorem rising_pw : ∀ (l : List Str) (p : Str), PyProof.Rows.risingS p l = true → (p :: l).Pairwise fun a b => ¬ b.cps.toList < a.cps.toList
  | [], _, _ => by simp
  | y :: r, p, h => by
    refine List.pairwise_cons.mpr ⟨rising_le _ _ h, ?_⟩
    have h : (!PySem.Spec.ltCps y.cps.toList p.cps.toList && PyProof.Rows.risingS y r) = true := h
    rw [Bool.and_eq_true] at h
    exact rising_pw r y h.2
theorem sortS_pw {l : List Str} (h : PyProof.Rows.sortedS l = true) : l.Pairwise fun a b => ¬ b.cps.toList < a.cps.toList := by
  cases l with
  | nil => exact .nil
  | cons p r => exact rising_pw r p h
theorem sortS_same {a b : List Str} (hp : a.Perm b) (ha : PyProof.Rows.sortedS a = true) (hb : PyProof.Rows.sortedS b = true) : a = b := by
  refine List.Perm.eq_of_pairwise (fun x y _ _ h1 h2 => ?_) (sortS_pw ha) (sortS_pw hb) hp
  have e := List.le_antisymm h1 h2
  rw [← SX.S_tl x, ← SX.S_tl y, e]
theorem word_ok (e : FRf) : PyData.strOk e.word = true := by cases e <;> decide +kernel
theorem names_good {room : Int} {ns : Tr} {m : MW} {d : FDeed} {t : Tr} {l : List Nm} (R : RX (-1) room ns m) (h : semF room ns d = .ok (t, .names l)) : l.length ≤ 40 ∧ ∀ n ∈ l, nameB n = true := by
  have hw : ∀ {α : Type} {z : List Nat} {f : List Nm → Except FRf α} {g : α → Tr × FAns} {x : Tr × FAns}, (withN z fun n => (f n).map g) = .ok x → ∃ n a, f n = .ok a ∧ g a = x := fun {α z f g x} h => by
    unfold withN at h
    split at h
    · cases h
    · rename_i n _
      dsimp only at h
      cases hf : f n with
      | error e => rw [hf] at h; cases h
      | ok a => rw [hf] at h; cases h; exact ⟨n, a, hf, rfl⟩
  have hw2 : ∀ {α : Type} {z y : List Nat} {f : List Nm → List Nm → Except FRf α} {g : α → Tr × FAns} {x : Tr × FAns}, (withN z fun n => withN y fun o => (f n o).map g) = .ok x → ∃ a, g a = x := fun {α z y f g x} h => by
    unfold withN at h
    split at h
    · cases h
    · rename_i n hn
      dsimp only at h
      split at h
      · cases h
      · rename_i o ho
        cases hf : f n o with
        | error e => rw [hf] at h; cases h
        | ok a => rw [hf] at h; cases h; exact ⟨a, rfl⟩
  cases d with
  | find z => obtain ⟨n, a, _, e⟩ := hw h; cases e
  | make z => obtain ⟨n, a, _, e⟩ := hw h; cases e
  | mkdir z => obtain ⟨n, a, _, e⟩ := hw h; cases e
  | link z y => obtain ⟨a, e⟩ := hw2 h; cases e
  | unlink z => obtain ⟨n, a, _, e⟩ := hw h; cases e
  | rmdir z => obtain ⟨n, a, _, e⟩ := hw h; cases e
  | move z y => obtain ⟨a, e⟩ := hw2 h; cases e
  | names z =>
    obtain ⟨n, a, hf, e⟩ := hw h
    cases e
    unfold namesA at hf
    cases hc : walkA ns n with
    | error e => rw [hc] at hf; cases hf
    | ok c =>
      rw [hc] at hf
      dsimp only [Except.bind] at hf
      split at hf
      · rename_i ss hl
        cases hf
        exact ⟨Nat.le_trans (namesIn_len ss) (R.ok.dir _ _ hl).1, (R.nm _ _ hl).2⟩
      · cases hf
  | stat k =>
    have h : (match ns.lookup k with | none => .error .noNode | some n => .ok (ns, toldA n) : Except FRf (Tr × FAns)) = .ok (t, .names l) := h
    split at h
    · cases h
    · rename_i n _
      cases n <;> cases h
  | free => cases h
theorem pair_fl {a b : Int} {v : V} (hv : v ∈ [V.int a, V.int b]) : flA v := by
  rcases List.mem_cons.mp hv with rfl | hv
  · exact .inl ⟨_, rfl⟩
  · rw [List.mem_singleton.mp hv]; exact .inl ⟨_, rfl⟩
theorem told_word {room : Int} {ns : Tr} {d : FDeed} {t : Tr} {w : Str} {l s : Int} (h : semF room ns d = .ok (t, .told w l s)) : PyData.strOk w = true := by
  have hw : ∀ {α : Type} {z : List Nat} {f : List Nm → Except FRf α} {g : α → Tr × FAns} {x : Tr × FAns}, (withN z fun n => (f n).map g) = .ok x → ∃ a, g a = x := fun {α z f g x} h => by
    unfold withN at h
    split at h
    · cases h
    · rename_i n _
      dsimp only at h
      cases hf : f n with
      | error e => rw [hf] at h; cases h
      | ok a => rw [hf] at h; cases h; exact ⟨a, rfl⟩
  have hw2 : ∀ {α : Type} {z y : List Nat} {f : List Nm → List Nm → Except FRf α} {g : α → Tr × FAns} {x : Tr × FAns}, (withN z fun n => withN y fun o => (f n o).map g) = .ok x → ∃ a, g a = x := fun {α z y f g x} h => by
    unfold withN at h
    split at h
    · cases h
    · rename_i n hn
      dsimp only at h
      split at h
      · cases h
      · rename_i o ho
        cases hf : f n o with
        | error e => rw [hf] at h; cases h
        | ok a => rw [hf] at h; cases h; exact ⟨a, rfl⟩
  cases d with
  | find z => obtain ⟨a, e⟩ := hw h; cases e
  | make z => obtain ⟨a, e⟩ := hw h; cases e
  | mkdir z => obtain ⟨a, e⟩ := hw h; cases e
  | link z y => obtain ⟨a, e⟩ := hw2 h; cases e
  | unlink z => obtain ⟨a, e⟩ := hw h; cases e
  | rmdir z => obtain ⟨a, e⟩ := hw h; cases e
  | move z y => obtain ⟨a, e⟩ := hw2 h; cases e
  | names z => obtain ⟨a, e⟩ := hw h; cases e
  | stat k =>
    have h : (match ns.lookup k with | none => .error .noNode | some n => .ok (ns, toldA n) : Except FRf (Tr × FAns)) = .ok (t, .told w l s) := h
    split at h
    · cases h
    · rename_i n _
      cases n <;> cases h <;> decide +kernel
  | free => cases h
theorem told_fl {room : Int} {ns : Tr} {d : FDeed} {t : Tr} {w : Str} {l s : Int} (h : semF room ns d = .ok (t, .told w l s)) {v : V} (hv : v ∈ [V.str w, V.int l, V.int s]) : flA v := by
  rcases List.mem_cons.mp hv with rfl | hv
  · exact .inr ⟨_, rfl, told_word h⟩
  · exact pair_fl hv
def sp__law_right (K : PySem.W.Frag) : Sp := sp3 fun x y z H Q _ => ∃ g W T, ∃ d : FDeed, x = .ref g.p ∧ y = .ref W.D ∧ z = .ref T ∧ H T = some (.tup d.vs) ∧ d.fine ∧ Own H H (adr (cPf K g ++ cMW W)) (cPf K g ++ cMW W) ∧ NsS H g.ns ∧ RX (-1) g.room (anS g.ns) W.abs ∧
  ∀ H' g' W', Own H H' (adr (cPf K g ++ cMW W)) (cPf K g' ++ cMW W') → NsS H' g'.ns → g'.p = g.p → W'.D = W.D → RX (-1) g'.room (anS g'.ns) W'.abs → Q (.bl true) H'
theorem sc__law_right : FnScope ["_law_files", "_law_world", "_law_deed", "_law_found_here", "_law_due_here"] ["_law_files", "_law_world", "_law_deed"] (defScope s__law_right) := ⟨rfl, rfl, rfl, by decide +kernel, rfl, by decide +kernel, by decide +kernel⟩
theorem ok__law_right {P : Program} {w : World} {K : PySem.W.Frag} {mg : Str → Option Value} {base : Heap} (T : Txt K mg) : Cee P w K mg base 9 (He.fAd K ("_law_right", none)) ["_law_files", "_law_world", "_law_deed"] (sp__law_right K) := by
  have c__law_told : Cee P w K mg base 8 (He.fAd K ("_law_told", none)) ["_law_files", "_law_deed"] (sp__law_told K) := ok__law_told T
  have c__law_due : Cee P w K mg base 6 (He.fAd K ("_law_due", none)) ["_law_world", "_law_deed"] (sp__law_due K) := ok__law_due T
  have c__law_alike : Cee P w K mg base 3 (He.fAd K ("_law_alike", none)) ["_law_found_here", "_law_due_here"] (sp__law_alike K) := ok__law_alike T
  refine cee_of T.d__law_right sc__law_right (fun _ _ _ _ _ _ us hl => match us, hl with | [_, _, _], _ => rfl) (fun vs H Q E h => sp3_len h) (fun cdv A outer s H vs Q E hr h => ⟨_, (pss_cons (ps_set (i := 3) sc__law_right.nd rfl (Or.inl rfl) (pe_f c__law_told (hr.mono (by decide)) (takes_of rfl rfl rfl rfl) (by rfl) T.g__law_told (pa_cons (pv 0) (pa_cons (pv 2) pa_nil)))) (pss_cons (ps_set (i := 4) sc__law_right.nd rfl (Or.inl rfl) (pe_f c__law_due (hr.mono (by decide)) (takes_of rfl rfl rfl rfl) (by rfl) T.g__law_due (pa_cons (pv 1) (pa_cons (pv 2) pa_nil)))) (pss_cons (ps_if (pt_val (pe_callB call_isi (by rfl) T.n_isinstance (by decide +kernel) (pa_cons (pv 4) (pa_cons (pe_bltn (v := .ty "str") rfl T.n_str (by decide +kernel) rfl) pa_nil)))) (pss_one (ps_ret (pe_f c__law_alike (hr.mono (by decide)) (takes_of rfl rfl rfl rfl) (by rfl) T.g__law_alike (pa_cons (pv 3) (pa_cons (pe_lst (pa_cons pe_str (pa_cons (pv 4) pa_nil))) pa_nil))))) pss_nil) (pss_cons (PS.box (ps_if (PW.pt (pw_or (pt_cmpR op_ne (pe_ix ix_list (pv 3) pe_int (fun _ _ => rfl)) pe_str (nomark _)) (pw_or1 (pt_not (pt_val (pe_f c__law_alike (hr.mono (by decide)) (takes_of rfl rfl rfl rfl) (by rfl) T.g__law_alike (pa_cons (pe_ix ix_list (pv 3) pe_int (fun _ _ => rfl)) (pa_cons (pv 4) pa_nil)))))))) (pss_one (ps_ret pe_bl)) pss_nil)) (pss_cons (PS.box (ps_if (pt_val (pe_callB call_isi (by rfl) T.n_isinstance (by decide +kernel) (pa_cons (pe_ix ix_list (pv 3) pe_int (fun _ _ => rfl)) (pa_cons (pe_bltn (v := .ty "list") rfl T.n_list (by decide +kernel) rfl) pa_nil)))) (pss_one (ps_expr (pe_bm PySem.F.plainAttrs_list PySem.F.slot_list_append PySem.F.type_list_append mt_append (pe_ix ix_list (pv 3) pe_int (fun _ _ => rfl)) (pa_cons pe_int pa_nil)))) pss_nil)) (pss_one (ps_ret pe_bl))))))), ?_⟩)
  obtain ⟨v0, v1, v2, rfl, h⟩ := h
  dsimp only [cxOf, L2.start]
  obtain ⟨g, W, T, d, rfl, rfl, rfl, hT, hf, O, N, R, k⟩ := h
  have hsame := R.same (fun z names h => namesL_all h) d
  unfold Sm at hsame
  have M := R.mok
  have U := R.mup
  walk_at "s"
  refine ask2 ⟨g, T, d, rfl, rfl, hT, hf, ⟨O.blk (s' := []) .here, N, R.ok⟩, fun e he H1 L O1 => ?_, fun t a he H1 L v g1 cs O1 N1 G1 hv => ?_⟩
  · rw [he] at hsame
    have O2 := O.call .here O1
    have hT1 := O1.tp _ _ hT
    walk_at "s"
    refine ask2 ⟨W, T, d, rfl, rfl, ⟨hT1, hf, O2.blk (s' := []) (.app .all), M, U⟩, ?_⟩
    have hsame : semM W.abs d = .error e := hsame
    rw [hsame]
    intro H2 O3
    have O4 := O2.call (.app .all) O3
    walk_at "s"
    intro L2 hL2
    have O5 := O4.new (o := .lst [.str "refused", .str e.word]) hL2
    have N5 := ((N.mono (H := H) O1).mono (H := H1) O3).mono (O4.self.new (o := .lst [.str "refused", .str e.word]) hL2)
    generalize upd H2 L2 _ = H3 at O5 N5 ⊢
    refine ask2 ⟨.inr ⟨L, L2, [.str "refused", .str e.word], rfl, rfl, .inl ⟨O5.get (.tail _ (.head _)), O5.get (.head _)⟩, fun v hv => ?_, by simp⟩, fun H6 O6 => ?_⟩
    · rcases List.mem_cons.mp hv with rfl | hv
      · exact .inr ⟨_, rfl, by decide +kernel⟩
      · rw [List.mem_singleton.mp hv]
        exact .inr ⟨_, rfl, word_ok e⟩
    · exact k _ g W ((O5.callN O6).drop (.cons _ (.cons _ (.refl _)))) (N5.mono O6) rfl rfl R
  · rw [he] at hsame
    obtain ⟨m', hm, R2⟩ := hsame
    have O2 := O.call .here O1
    have hT1 := O1.tp _ _ hT
    have R3 : RX (-1) g1.room (anS g1.ns) m' := by rw [G1.room, G1.ns]; exact R2
    walk_at "s"
    refine ask2 ⟨W, T, d, rfl, rfl, ⟨hT1, hf, O2.blk (s' := []) (.app .all), M, U⟩, ?_⟩
    rw [hm]
    cases a with
    | non =>
      obtain ⟨rfl, rfl⟩ := hv
      intro H2 W2 O3 e1 e2
      have O4 := O2.call (.app .all) O3
      have hL := O4.get (a := L) (o := .lst [.str "told", .non]) (.head _)
      have N4 := N1.mono (H := H1) O3
      have hLs : SqL K H2 L [.str "told", .non] := SqL.of hL
      have at0 : atI [V.str "told", .non] 0 = some (.str "told") := rfl
      have at1 : atI [V.str "told", .non] 1 = some (.non) := rfl
      walk_at "s"
      refine if_f rfl ?_
      walk_at "s"
      walk_at "b"
      walk_at "s"
      refine ask2 ⟨.inl ⟨.non, rfl, rfl, .inl rfl⟩, fun H5 O5 => ?_⟩
      have O6 := O4.callN O5
      have hL5 : SqL K H5 L [.str "told", .non] := SqL.of (O6.get (.head _))
      have N5 := N4.mono (H := H2) O5
      walk_at "s"
      walk_at "b"
      walk_at "s"
      exact k _ g1 W2 (O6.drop (.cons _ (.refl _))) N5 G1.p e2 (by rw [e1]; exact R3)
    | int i =>
      obtain ⟨rfl, rfl⟩ := hv
      intro H2 W2 O3 e1 e2
      have O4 := O2.call (.app .all) O3
      have hL := O4.get (a := L) (o := .lst [.str "told", .int i]) (.head _)
      have N4 := N1.mono (H := H1) O3
      have hLs : SqL K H2 L [.str "told", .int i] := SqL.of hL
      have at0 : atI [V.str "told", .int i] 0 = some (.str "told") := rfl
      have at1 : atI [V.str "told", .int i] 1 = some (.int i) := rfl
      walk_at "s"
      refine if_f rfl ?_
      walk_at "s"
      walk_at "b"
      walk_at "s"
      refine ask2 ⟨.inl ⟨.int i, rfl, rfl, .inr (.inl ⟨i, rfl⟩)⟩, fun H5 O5 => ?_⟩
      have O6 := O4.callN O5
      have hL5 : SqL K H5 L [.str "told", .int i] := SqL.of (O6.get (.head _))
      have N5 := N4.mono (H := H2) O5
      walk_at "s"
      walk_at "b"
      walk_at "s"
      exact k _ g1 W2 (O6.drop (.cons _ (.refl _))) N5 G1.p e2 (by rw [e1]; exact R3)
    | told d l s =>
      obtain ⟨T1, rfl, rfl, hT2⟩ := hv
      intro H2 W2 T3 O3 e1 e2 hT3
      have hT4 := O3.tp _ _ hT2
      have O4 := O2.call (.app .all) O3
      have hL := O4.get (a := L) (o := .lst [.str "told", .ref T1]) (.head _)
      have N4 := N1.mono (H := H1) O3
      have hLs : SqL K H2 L [.str "told", .ref T1] := SqL.of hL
      have at0 : atI [V.str "told", .ref T1] 0 = some (.str "told") := rfl
      have at1 : atI [V.str "told", .ref T1] 1 = some (.ref T1) := rfl
      walk_at "s"
      refine if_f rfl ?_
      walk_at "s"
      walk_at "b"
      walk_at "s"
      refine ask2 ⟨.inr ⟨T1, T3, [.str d, .int l, .int s], rfl, rfl, .inr ⟨hT4, hT3⟩, fun v hv => told_fl he hv, by simp⟩, fun H5 O5 => ?_⟩
      have O6 := O4.callN O5
      have hL5 : SqL K H5 L [.str "told", .ref T1] := SqL.of (O6.get (.head _))
      have N5 := N4.mono (H := H2) O5
      walk_at "s"
      walk_at "b"
      walk_at "s"
      exact k _ g1 W2 (O6.drop (.cons _ (.refl _))) N5 G1.p e2 (by rw [e1]; exact R3)
    | pair a b =>
      obtain ⟨T1, rfl, rfl, hT2⟩ := hv
      intro H2 W2 T3 O3 e1 e2 hT3
      have hT4 := O3.tp _ _ hT2
      have O4 := O2.call (.app .all) O3
      have hL := O4.get (a := L) (o := .lst [.str "told", .ref T1]) (.head _)
      have N4 := N1.mono (H := H1) O3
      have hLs : SqL K H2 L [.str "told", .ref T1] := SqL.of hL
      have at0 : atI [V.str "told", .ref T1] 0 = some (.str "told") := rfl
      have at1 : atI [V.str "told", .ref T1] 1 = some (.ref T1) := rfl
      walk_at "s"
      refine if_f rfl ?_
      walk_at "s"
      walk_at "b"
      walk_at "s"
      refine ask2 ⟨.inr ⟨T1, T3, [.int a, .int b], rfl, rfl, .inr ⟨hT4, hT3⟩, fun v hv => pair_fl hv, by simp⟩, fun H5 O5 => ?_⟩
      have O6 := O4.callN O5
      have hL5 : SqL K H5 L [.str "told", .ref T1] := SqL.of (O6.get (.head _))
      have N5 := N4.mono (H := H2) O5
      walk_at "s"
      walk_at "b"
      walk_at "s"
      exact k _ g1 W2 (O6.drop (.cons _ (.refl _))) N5 G1.p e2 (by rw [e1]; exact R3)
    | names l =>
      obtain ⟨b, ys, rfl, rfl, hp1, hs1⟩ := hv
      intro H2 W2 b2 ys2 O3 e1 e2 hp2 hs2
      have hys : ys2 = ys := sortS_same (hp2.trans hp1.symm) hs2 hs1
      subst hys
      obtain ⟨hl40, hlB⟩ := names_good R he
      have hyl : ys2.length ≤ 40 := by rw [hp1.length_eq, List.length_map]; exact hl40
      have hyo : ∀ v ∈ ys2.map V.str, flA v := fun v hv => by
        obtain ⟨y, hy, rfl⟩ := List.mem_map.mp hv
        obtain ⟨n, hn, rfl⟩ := List.mem_map.mp (hp1.mem_iff.mp hy)
        exact .inr ⟨_, rfl, strOk_S (fun c hc => Nat.lt_trans ((nameB_low (hlB n hn)).2.1 c hc) (by decide))⟩
      have O4 := O2.call (.app .all) O3
      have hL := O4.get (a := L) (o := .lst [.str "told", .ref b]) (.head _)
      have N4 := N1.mono (H := H1) O3
      have hLs : SqL K H2 L [.str "told", .ref b] := SqL.of hL
      have at0 : atI [V.str "told", .ref b] 0 = some (.str "told") := rfl
      have at1 : atI [V.str "told", .ref b] 1 = some (.ref b) := rfl
      have hb1 := O4.get (a := b) (o := .lst (ys2.map V.str)) (.tail _ (.head _))
      have hb2 := O4.get (a := b2) (o := .lst (ys2.map V.str)) (by simp)
      walk_at "s"
      refine if_f rfl ?_
      walk_at "s"
      walk_at "b"
      walk_at "s"
      refine ask2 ⟨.inr ⟨b, b2, ys2.map V.str, rfl, rfl, .inl ⟨hb1, hb2⟩, hyo, by rw [List.length_map]; omega⟩, fun H5 O5 => ?_⟩
      have O6 := O4.callN O5
      have hL5 : SqL K H5 L [.str "told", .ref b] := SqL.of (O6.get (.head _))
      have N5 := N4.mono (H := H2) O5
      walk_at "s"
      walk_at "b"
      walk_at "s"
      walk_at "s"
      have O7 := O6.wr (a := b) (o' := .lst (ys2.map V.str ++ [.int 0])) (.there .here)
      exact k _ g1 W2 (O7.drop (.cons _ (.cons _ (.append (.refl _) (.cons _ (.refl _)))))) (N5.mono (O6.self.wr (a := b) (o' := .lst (ys2.map V.str ++ [.int 0])) (.there .here))) G1.p e2 (by rw [e1]; exact R3)

/-! ## the law -/
open SX (S)
structure LI (K : PySem.W.Frag) (H H' : Hp) (gp wD : Addr) (g : PfG) (W : MG) : Prop where
  own : Own H H' [] (cPf K g ++ cMW W)
  n : NsS H' g.ns
  gp : g.p = gp
  wd : W.D = wD
  r : RX (-1) g.room (anS g.ns) W.abs
theorem LI.step {K : PySem.W.Frag} {H H1 H2 : Hp} {gp wD : Addr} {g g' : PfG} {W W' : MG} (I : LI K H H1 gp wD g W) (O : Own H1 H2 (adr (cPf K g ++ cMW W)) (cPf K g' ++ cMW W')) (N : NsS H2 g'.ns) (e1 : g'.p = g.p) (e2 : W'.D = W.D) (R : RX (-1) g'.room (anS g'.ns) W'.abs) : LI K H H2 gp wD g' W' :=
  ⟨I.own.call (s := cPf K g ++ cMW W) .all O, N, e1.trans I.gp, e2.trans I.wd, R⟩
structure LJ (K : PySem.W.Frag) (H H' : Hp) (gp wD : Addr) (g : PfG) (W : MG) (L : Addr) (vs : List V) : Prop where
  own : Own H H' [] ((L, .lst vs) :: (cPf K g ++ cMW W))
  n : NsS H' g.ns
  gp : g.p = gp
  wd : W.D = wD
  r : RX (-1) g.room (anS g.ns) W.abs
theorem LJ.step {K : PySem.W.Frag} {H H1 H2 : Hp} {gp wD : Addr} {g g' : PfG} {W W' : MG} {L : Addr} {vs : List V} (I : LJ K H H1 gp wD g W L vs) (O : Own H1 H2 (adr (cPf K g ++ cMW W)) (cPf K g' ++ cMW W')) (N : NsS H2 g'.ns) (e1 : g'.p = g.p) (e2 : W'.D = W.D) (R : RX (-1) g'.room (anS g'.ns) W'.abs) : LJ K H H2 gp wD g' W' L vs :=
  ⟨I.own.call (.there .all) O, N, e1.trans I.gp, e2.trans I.wd, R⟩
theorem LJ.li {K : PySem.W.Frag} {H H1 : Hp} {gp wD : Addr} {g : PfG} {W : MG} {L : Addr} {vs : List V} (I : LJ K H H1 gp wD g W L vs) : LI K H H1 gp wD g W := ⟨I.own.drop (.cons _ (.refl _)), I.n, I.gp, I.wd, I.r⟩
theorem DsAt.get {H : Hp} {vs : List V} {ds : List FDeed} (h : DsAt H vs ds) {i : Nat} {v : V} (hv : vs[i]? = some v) : ∃ T, ∃ d : FDeed, v = .ref T ∧ H T = some (.tup d.vs) ∧ d.fine := by
  have hi := (List.getElem?_eq_some_iff.mp hv).1
  have hs : ds[i]? = some (ds[i]'(by have := h.len; omega)) := List.getElem?_eq_getElem _
  obtain ⟨T, e1, e2, e3⟩ := h.at_ _ _ _ hv hs
  exact ⟨T, _, e1, e2, e3⟩
theorem DsAt.take {H : Hp} {vs : List V} {ds : List FDeed} (h : DsAt H vs ds) (n : Nat) : DsAt H (vs.take n) (ds.take n) := by
  refine ⟨by rw [List.length_take, List.length_take, h.len], fun i v d h1 h2 => ?_⟩
  rw [List.getElem?_take] at h1 h2
  split at h1
  · rename_i hlt
    rw [if_pos hlt] at h2
    exact h.at_ i v d h1 h2
  · cases h1
def sp_law (K : PySem.W.Frag) : Sp := sp1 fun x H Q _ => ∃ (a : Addr) (xs : List Int), x = .ref a ∧ SqL K H a (xs.map V.int) ∧ xs.length ≤ 63 ∧ ∀ H', Q (.bl true) H'
theorem sc_law : FnScope ["_law_script", "_law_first", "_law_room", "_law_files", "_law_world", "_law_k", "_law_deeds_here", "_law_deed"] ["_law_script"] (defScope s_law) := ⟨rfl, rfl, rfl, by decide +kernel, rfl, by decide +kernel, by decide +kernel⟩
theorem law_in {K : PySem.W.Frag} (H : Hp) (a : Addr) (ns : List Int) (hl : ns.length ≤ 63) (hz : ∀ z ∈ ns, Builtin.Int.intBits z ≤ 1048576) (hS : SqL K H a (ns.map V.int)) :
    ∃ (a' : Addr) (xs : List Int), V.ref a = .ref a' ∧ SqL K H a' (xs.map V.int) ∧ xs.length ≤ 63 ∧ ∀ H' : Hp, (fun (v : V) (_ : Hp) => v = .bl true) (.bl true) H' := ⟨a, ns, rfl, hS, hl, fun _ => rfl⟩
theorem ok_law {P : Program} {w : World} {K : PySem.W.Frag} {mg : Str → Option Value} {base : Heap} (T : Txt K mg) {fd : FuncData} (F : FunD K "law" "law" (defArgs s_law) (defBody s_law) (defScope s_law) [] [] (He.fAd K ("law", none)) fd) : FnOk P w K mg base (L2.CX P w) 10 (He.fAd K ("law", none)) fd ["_law_script"] (bx (sp_law K)) := by
  have c__law_mixed : Cee P w K mg base 1 (He.fAd K ("_law_mixed", none)) ["_law_cell", "_law_k"] (sp__law_mixed K) := ok__law_mixed T
  have c_PlainFiles___init__ : Cee P w K mg base 3 (He.fAd K ("PlainFiles", some "__init__")) ["self", "blocks"] (sp_PlainFiles___init__ K) := ok_PlainFiles___init__ T
  have c__law_begun : Cee P w K mg base 1 (He.fAd K ("_law_begun", none)) ["_law_room"] (sp__law_begun K) := ok__law_begun T
  have c__law_deeds : Cee P w K mg base 3 (He.fAd K ("_law_deeds", none)) ["_law_left_here"] (sp__law_deeds K) := ok__law_deeds T
  have c__law_left : Cee P w K mg base 2 (He.fAd K ("_law_left", none)) ["_law_script", "_law_k"] (sp__law_left K) := ok__law_left T
  have c__law_right : Cee P w K mg base 9 (He.fAd K ("_law_right", none)) ["_law_files", "_law_world", "_law_deed"] (sp__law_right K) := ok__law_right T
  refine fn_of F sc_law (fun vs H Q E h => sp1_len h) (fun cdv A outer s H vs Q E hr h => ⟨_, (pss_cons (ps_set (i := 1) sc_law.nd rfl (Or.inl rfl) (pe_f c__law_mixed (hr.mono (by decide)) (takes_of rfl rfl rfl rfl) (by rfl) T.g__law_mixed (pa_cons (pe_callB call_len_seq (by rfl) T.n_len (by decide +kernel) (pa_cons (pv 0) pa_nil)) (pa_cons pe_int pa_nil)))) (pss_cons (ps_set (i := 2) sc_law.nd rfl (Or.inl rfl) (pe_ix ix_list (pe_lst (pa_cons (pe_op op_add pe_int (pe_op op_mod (pe_op op_fdiv (pv 1) pe_int) pe_int)) (pa_cons pe_int (pa_cons pe_int pa_nil)))) (pe_op op_mod (pv 1) pe_int) (fun _ _ => rfl))) (pss_cons (ps_set (i := 3) sc_law.nd rfl (Or.inr rfl) (pe_n T.m_PlainFiles c_PlainFiles___init__ (hr.mono (by decide)) (by rfl) T.g_PlainFiles (pa_cons (pv 2) pa_nil))) (pss_cons (ps_set (i := 4) sc_law.nd rfl (Or.inr rfl) (pe_f c__law_begun (hr.mono (by decide)) (takes_of rfl rfl rfl rfl) (by rfl) T.g__law_begun (pa_cons (pv 2) pa_nil))) (pss_cons (ps_for (passes_of rfl) rfl (PI.box (pi_range1 (by rfl) T.n_range (pa_cons (pe_callB (call_min2 rfl) (by rfl) T.n_min (by decide +kernel) (pa_cons pe_int (pa_cons (pe_callB call_len_seq (by rfl) T.n_len (by decide +kernel) (pa_cons (pv 0) pa_nil)) pa_nil))) pa_nil))) (pg_name (i := 5) sc_law.nd rfl (Or.inl rfl)) (pss_cons (ps_set (i := 6) sc_law.nd rfl (Or.inl rfl) (pe_f c__law_deeds (hr.mono (by decide)) (takes_of rfl rfl rfl rfl) (by rfl) T.g__law_deeds (pa_cons (pe_f c__law_left (hr.mono (by decide)) (takes_of rfl rfl rfl rfl) (by rfl) T.g__law_left (pa_cons (pv 0) (pa_cons (pv 5) pa_nil))) pa_nil))) (pss_cons (PS.box (ps_if (PW.pt (pw_and (pt_cmpR op_gt (pe_callB call_len_seq (by rfl) T.n_len (by decide +kernel) (pa_cons (pv 6) pa_nil)) pe_int (nomark _)) (pw_and1 (pt_cmpR op_gt (pv 5) pe_int (nomark _))))) (pss_one (ps_set (i := 6) sc_law.nd rfl (Or.inl rfl) (pe_slice sl_list (pv 6) po_none (po_some pe_int)))) pss_nil)) (pss_one (ps_for (passes_of rfl) rfl (PI.box (pi_list (pv 6))) (pg_name (i := 7) sc_law.nd rfl (Or.inl rfl)) (pss_one (ps_if (pt_not (pt_val (pe_f c__law_right (hr.mono (by decide)) (takes_of rfl rfl rfl rfl) (by rfl) T.g__law_right (pa_cons (pv 3) (pa_cons (pv 4) (pa_cons (pv 7) pa_nil)))))) (pss_one (ps_ret pe_bl)) pss_nil))))))) (pss_one (ps_ret (pe_callB (cr_all rfl) (by rfl) T.n_all (by decide +kernel) (pa_cons (pe_lc (own := [("_law_deed", 7)]) (by rfl) sc_law.nd (PI.box (pi_list (pe_lst (pa_cons (pe_tup (pa_cons pe_str (pa_cons pe_str pa_nil))) (pa_cons (pe_tup (pa_cons pe_str pa_nil)) (pa_cons (pe_tup (pa_cons pe_str (pa_cons pe_int pa_nil))) pa_nil)))))) (blkOk_by (own := [("_law_deed", 7)]) (N := ["_law_script", "_law_first", "_law_room", "_law_files", "_law_world", "_law_k", "_law_deeds_here", "_law_deed"]) (sc := defScope s_law) (by decide +kernel)) (fun _ _ _ _ _ => (pg_name (i := 7) sc_law.nd rfl (Or.inl rfl))) (fun _ _ _ _ _ => pts_nil) (fun _ _ _ _ _ => (pe_f c__law_right (hr.mono (by decide)) takes0 (by rfl) T.g__law_right (pa_cons (pv 3) (pa_cons (pv 4) (pa_cons (pv 7) pa_nil)))))) pa_nil))))))))), ?_⟩)
  obtain ⟨v0, rfl, h⟩ := h
  dsimp only [cxOf, L2.start]
  obtain ⟨a, xs, rfl, ha, hl, k⟩ := h
  walk_at "s"
  refine ask2 ⟨(((xs.map V.int).length : Nat) : Int), 1, rfl, rfl, by decide, by decide, fun f hf0 hf1 => ?_⟩
  walk_at "s"
  intro b hb
  have O1 := (Own.start (H := H)).new (o := .lst ([1 + f / 3 % 9, 40, 192].map V.int)) hb
  show tOp _ _ _ _ (upd H b (.lst ([1 + f / 3 % 9, 40, 192].map V.int))) _
  generalize upd H b _ = H1 at O1 ⊢
  obtain ⟨rm, _, hat⟩ := at_ints (ns := [1 + f / 3 % 9, 40, 192]) (n := f % 3) (by omega) (by show f % 3 < ((3 : Nat) : Int); omega)
  have hbs : SqL K H1 b ([1 + f / 3 % 9, 40, 192].map V.int) := SqL.of (O1.get (.head _))
  walk_at "s"
  intro x1 dx1 h1 h2 hne1
  have O2 := (O1.inst (C := He.ga K "PlainFiles") h1 h2 hne1).drop (cs' := [(x1, .ins (He.ga K "PlainFiles") dx1 [])]) (by simp)
  refine ask2 ⟨x1, dx1, rm, rfl, rfl, O2.blk (s' := []) .all, fun H3 g O3 N3 e1 e2 e3 => ?_⟩
  have O4 := O2.call .all O3
  clear O1 O2 h1 h2 hbs
  walk_at "s"
  refine ask1 ⟨rm, rfl, fun H5 W O5 e4 => ?_⟩
  have O6 : Own H H5 [] (cPf K g ++ cMW W) := (O4.callN O5).perm List.perm_append_comm
  have N6 := N3.mono (H := H3) O5
  have R : RX (-1) g.room (anS g.ns) W.abs := by rw [e2, e3, e4]; exact RX.start rm
  generalize hgp : g.p = gp at *
  generalize hwp : W.D = wD at *
  subst e1
  have I : LI K H H5 gp wD g W := ⟨O6, N6, hgp, hwp, R⟩
  clear O3 O4 O5 O6 N3 N6 R e2 e3 e4
  have hxl : (xs.map V.int).length = xs.length := List.length_map ..
  have ha5 : SqL K H5 a (xs.map V.int) := I.own.sq ha
  walk_at "s"
  have hn : (if (((xs.map V.int).length : Nat) : Int) < 63 then (((xs.map V.int).length : Nat) : Int) else 63).toNat = xs.length := by
    rw [hxl]
    split <;> omega
  rw [hn]
  refine forR (lo := 0) (n := xs.length) (fun i σ H' => ∃ (v5 v6 v7 : Option V) (g : PfG) (W : MG), σ = [some (.ref a), some (.int f), some (.int rm), some (.ref gp), some (.ref wD), v5, v6, v7] ∧ LI K H H' gp wD g W) ⟨_, _, _, g, W, rfl, I⟩ ?_ ?_
  · clear I hgp hwp
    rintro i σ H' hi ⟨v5, v6, v7, g, W, rfl, I⟩
    have ha1 : SqL K H' a (xs.map V.int) := I.own.sq ha
    walk_at "s"
    refine ask2 ⟨a, xs, 0 + (i : Int), rfl, rfl, ha1, hl, by omega, by omega, fun H6 p u O6 hu => ?_⟩
    have O7 := I.own.callN O6
    have N7 := I.n.mono (H := H') O6
    walk_at "s"
    refine ask1 ⟨p, u, rfl, O7.blk (s' := []) .one, hu, fun H8 L vs ds O8 hds hvl => ?_⟩
    have O9 := O7.call .one O8
    have J : LJ K H H8 gp wD g W L vs := ⟨O9, N7.mono (H := H6) O8, I.gp, I.wd, I.r⟩
    clear O6 O7 O8 O9 N7 I ha1
    have hLs : SqL K H8 L vs := SqL.of (J.own.get (.head _))
    walk_at "s"
    refine cutS (fun σ' H2 => ∃ L vs ds, σ' = [some (.ref a), some (.int f), some (.int rm), some (.ref gp), some (.ref wD), some (.int (0 + (i : Int))), some (.ref L), v7] ∧ LJ K H H2 gp wD g W L vs ∧ DsAt H2 vs ds ∧ vs.length ≤ 60) (fun nx hn => ?_) ?_
    · walk_at "s"
      refine if_d (fun h1 => ?_) (fun h1 => ?_)
      · walk_at "s"
        refine if_d (fun h2 => ?_) (fun h2 => ?_)
        · walk_at "s"
          rw [show cutV vs none (some 2) = vs.take 2 from cutV_to _ 2]
          intro L2 hL2
          have J2 : LJ K H (upd H8 L2 (.lst (vs.take 2))) gp wD g W L2 (vs.take 2) := ⟨(J.own.new hL2).drop (.cons₂ _ (.cons _ (.refl _))), J.n.mono (J.own.self.new hL2), J.gp, J.wd, J.r⟩
          exact hn _ _ ⟨L2, _, _, rfl, J2, (hds.take 2).mono (J.own.self.new hL2), by rw [List.length_take]; omega⟩
        · exact hn _ _ ⟨L, vs, ds, rfl, J, hds, hvl⟩
      · exact hn _ _ ⟨L, vs, ds, rfl, J, hds, hvl⟩
    clear J hds hvl hLs
    rintro σ' H2 ⟨L, vs, ds, rfl, J, hds, hvl⟩
    have hLs : SqL K H2 L vs := SqL.of (J.own.get (.head _))
    walk_at "s"
    refine forL (xs := vs) (fun j σ H' => ∃ (v7 : Option V) (g : PfG) (W : MG), σ = [some (.ref a), some (.int f), some (.int rm), some (.ref gp), some (.ref wD), some (.int (0 + (i : Int))), some (.ref L), v7] ∧ LJ K H H' gp wD g W L vs ∧ DsAt H' vs ds) ⟨_, g, W, rfl, J, hds⟩ (fun j σ H' _ ⟨_, _, _, _, J, _⟩ => SqL.of (J.own.get (.head _))) ?_ ?_
    · clear J hds hLs
      rintro j x σ H3 hx ⟨v7, g, W, rfl, J, hds⟩
      obtain ⟨T, d, rfl, hT, hf⟩ := hds.get hx
      walk_at "s"
      have O3 : Own H3 H3 (adr (cPf K g ++ cMW W)) (cPf K g ++ cMW W) := J.own.blk (s' := []) (.there .all)
      refine ask3 ⟨g, W, T, d, by rw [J.gp], by rw [J.wd], rfl, hT, hf, O3, J.n, J.r, fun H4 g2 W2 O4 N4 e1 e2 R4 => ?_⟩
      walk_at "s"
      refine if_f rfl ?_
      exact ⟨⟨_, g2, W2, rfl, J.step O4 N4 e1 e2 R4, hds.mono (A := adr (cPf K g ++ cMW W)) O4⟩⟩
    · rintro σ H3 ⟨v7, g, W, rfl, J, _⟩
      exact ⟨⟨_, _, _, g, W, rfl, J.li⟩⟩
  · clear I hgp hwp
    rintro σ H' ⟨v5, v6, v7, g, W, rfl, I⟩
    have hst : AsT [47] := ⟨⟨by decide, by decide⟩, by decide⟩
    have e47 : ("/" : Str) = S [47] := by decide +kernel
    walk_at "s"
    intro T1 hT1
    have O1 := I.own.newT (o := .tup [.str "names", .str "/"]) hT1
    have N1 := I.n.mono (I.own.self.newT (o := .tup [.str "names", .str "/"]) hT1)
    have h11 : upd H' T1 (.tup [.str "names", .str "/"]) T1 = some (.tup (FDeed.vs (.names [47]))) := by rw [upd_same, e47]; rfl
    generalize upd H' T1 _ = H1 at O1 N1 h11 ⊢
    walk_at "s"
    intro T2 hT2
    have O2 := O1.newT (o := .tup [.str "free"]) hT2
    have N2 := N1.mono (O1.self.newT (o := .tup [.str "free"]) hT2)
    have h21 := (O1.self.newT (o := .tup [.str "free"]) hT2).tp _ _ h11
    have h22 : upd H1 T2 (.tup [.str "free"]) T2 = some (.tup (FDeed.vs .free)) := upd_same
    generalize upd H1 T2 _ = H2 at O2 N2 h21 h22 ⊢
    walk_at "s"
    intro T3 hT3
    have O3 := O2.newT (o := .tup [.str "stat", .int 0]) hT3
    have N3 := N2.mono (O2.self.newT (o := .tup [.str "stat", .int 0]) hT3)
    have h31 := (O2.self.newT (o := .tup [.str "stat", .int 0]) hT3).tp _ _ h21
    have h32 := (O2.self.newT (o := .tup [.str "stat", .int 0]) hT3).tp _ _ h22
    have h33 : upd H2 T3 (.tup [.str "stat", .int 0]) T3 = some (.tup (FDeed.vs (.stat 0))) := upd_same
    generalize upd H2 T3 _ = H3 at O3 N3 h31 h32 h33 ⊢
    clear O1 O2 N1 N2 h11 h21 h22
    walk_at "s"
    intro L hL
    have J : LJ K H (upd H3 L (.lst [.ref T1, .ref T2, .ref T3])) gp wD g W L [.ref T1, .ref T2, .ref T3] := ⟨O3.new hL, N3.mono (O3.self.new hL), I.gp, I.wd, I.r⟩
    have hds : DsAt (upd H3 L (.lst [.ref T1, .ref T2, .ref T3])) [.ref T1, .ref T2, .ref T3] [.names [47], .free, .stat 0] := ((DsAt.nil.snoc (d := .names [47]) ((O3.self.new hL).tp _ _ h31) hst).snoc (d := .free) ((O3.self.new hL).tp _ _ h32) True.intro).snoc (d := .stat 0) ((O3.self.new hL).tp _ _ h33) True.intro
    generalize upd H3 L _ = H4 at J hds ⊢
    clear O3 N3 h31 h32 h33 I
    have hLs : SqL K H4 L [.ref T1, .ref T2, .ref T3] := SqL.of (J.own.get (.head _))
    walk_at "s"
    refine lcL (xs := [.ref T1, .ref T2, .ref T3]) (fun D i H' => ∃ g W, Own H H' [] ((D, .lst ((List.replicate i true).map V.bl)) :: (L, .lst [.ref T1, .ref T2, .ref T3]) :: (cPf K g ++ cMW W)) ∧ LJ K H H' gp wD g W L [.ref T1, .ref T2, .ref T3] ∧ DsAt H' [.ref T1, .ref T2, .ref T3] [.names [47], .free, .stat 0]) ?_ ?_ ?_ ?_
    · intro D hD
      have O5 := J.own.new (o := .lst []) hD
      have O6 := J.own.self.new (o := .lst []) hD
      exact ⟨g, W, O5, ⟨O5.drop (.cons _ (.refl _)), J.n.mono O6, J.gp, J.wd, J.r⟩, hds.mono O6⟩
    · rintro D i H' _ ⟨g, W, O, J, _⟩
      exact SqL.of (J.own.get (.head _))
    · clear J hds hLs
      rintro D i x H' hx ⟨g, W, O, J, hds⟩
      obtain ⟨T, d, rfl, hT, hf⟩ := hds.get hx
      have hi3 : i < 3 := (List.getElem?_eq_some_iff.mp hx).1
      walk_at "s"
      refine ask3 ⟨g, W, T, d, by rw [J.gp], by rw [J.wd], rfl, hT, hf, O.blk (s' := []) (.there (.there .all)), J.n, J.r, fun H5 g2 W2 O5 N5 e1 e2 R5 => ?_⟩
      have O6 := O.call (.there (.there .all)) O5
      have J2 := J.step O5 N5 e1 e2 R5
      have hds2 := hds.mono O5
      have hD := O6.get (.head _)
      have hll : ((List.replicate i true).map V.bl).length < 100000 := by rw [List.length_map, List.length_replicate]; omega
      walk_at "s"
      rw [List.replicate_succ', List.map_append]
      have O7 := O6.wr (a := D) (o' := .lst ((List.replicate i true).map V.bl ++ [true].map V.bl)) .here
      have O8 := O6.self.wr (a := D) (o' := .lst ((List.replicate i true).map V.bl ++ [true].map V.bl)) .here
      exact ⟨⟨g2, W2, O7, ⟨O7.drop (.cons _ (.refl _)), J2.n.mono O8, J2.gp, J2.wd, J2.r⟩, hds2.mono O8⟩⟩
    · rintro D H' ⟨g, W, O, J, hds⟩
      have hD6 : SqL K H' D ((List.replicate 3 true).map V.bl) := SqL.of (O.get (.head _))
      walk_at "s"
      exact k _

end Ow
open PySem PySem.W PySem.Calls PyProof.Rows
set_option maxHeartbeats 0
set_option maxRecDepth 100000 in
theorem PySem.Challenge.cw_ownroom_k45_plain_names_holds : PySem.Challenge.rw_ownroom_k45_plain_names.Holds := by
  w_on; o_law
  refine HandSHeadRun.head_any (r := OpenLaw.row PySem.Challenge.rw_ownroom_k45_plain_names) (q := view (OpenLaw.row PySem.Challenge.rw_ownroom_k45_plain_names).prog [76]) (H := Ow.hk) (ob := Ow.ob) (M := 60000) (loose := Ow.loose) (d := HandSHeadRun.topDef (OpenLaw.row PySem.Challenge.rw_ownroom_k45_plain_names).prog 76) (kwd := []) Ow.ob_eq
    (by kernel_rfl) (fun s => by kernel_rfl) Ow.run (by kernel_rfl) (by kernel_rfl) (by kernel_rfl) (by rfl) (by first | assumption | decide +kernel) (by decide +kernel) ⟨rfl, rfl, rfl, rfl, rfl, by decide +kernel⟩ ?hw ?hc
  case hw => w_witness2
  case hc =>
    refine Ow.walk_end (l := PySem.Challenge.rw_ownroom_k45_plain_names) (n := 63) (k := 10) (x := "_law_script") rfl (by decide) (by kernel_rfl) ⟨rfl, by decide, by decide⟩ ?F
    intro w mg fa h Y G hmg0
    obtain ⟨K, KX, c⟩ := Y
    have hmg : mg ("law" : PySem.Str) = some (.ref fa) := by
      have e : (HandSHeadRun.topDef (OpenLaw.row PySem.Challenge.rw_ownroom_k45_plain_names).prog 76).name = ("law" : PySem.Str) := by kernel_rfl
      rw [← e]
      exact hmg0
    have T := Ow.txt_mk KX G c.t.d c.more
    have e := hmg.symm.trans T.g_law
    cases e
    obtain ⟨fd, F⟩ := T.d_law
    have b := L2.FunD.bindsA (ps := ["_law_script"]) F fun _ _ _ _ _ _ us hl => match us, hl with | [_], _ => rfl
    exact ⟨K, fd, Ow.bx (Ow.sp_law K), KX, fun s v => b s [v] rfl, fun H a ns hl hz hS => ⟨⟨_, rfl, Ow.law_in H a ns hl hz hS⟩⟩, fun base _ _ => Ow.ok_law T F⟩
