import PyProof.Rows.All
import Wide.All
import OpenK.AllK
import Wide.FinOn
import HandS.ForMost
import HandS.ForExc
import HandS.More
import HandS.SortInts
import HandS.Conv
import HandS.Defaults
import HandS.IsInst
import HandS.ExcValue
import HandS.ExcIs
import HandS.Flow
import HandS.Codes
import HandS.TupLen
import HandS.StrMore
import HandS.SetFor
import HandS.Style
import HandS.DictTup
import HandS.ListItems
import HandS.TupAny
import HandS.Finally
import HandS.Wide
import HandS.Replace
import HandS.Zip
import HandS.Walk
import HandS.DeepEq
import HandS.Deep
import HandS.Head0
import HandS.Head1
import HandS.Head2
import HandS.HeadEnd
import HandS.HeadHook1
import HandS.HeadHook2
import HandS.HeadHook3
import HandS.HeadHook4
import HandS.EndBits
import HandS.HotCalls
import HandS.ExcCtx
import HandS.Small
import HandS.Strs
import HandS.Sort
import PyProof.LongRange
import PySem.Challenge.RW_ownroom_k11_rooms_refused
set_option Elab.async false
set_option linter.all false
set_option maxRecDepth 100000
set_option pp.mvars false
set_option pp.deepTerms false
set_option pp.deepTerms.threshold 10
set_option pp.maxSteps 1500
set_option maxHeartbeats 4000000
namespace Ow
open PySem PySem.Spec PyProof.Rows L2
def excB (K : PySem.W.Frag) (D : Addr) : Bool := [PySem.W.findIn K (.ref D) "__getattribute__" == some (some (.builtin "BaseException.__getattribute__")), PySem.W.findIn K (.ref D) "__getattr__" == some none, PySem.W.subIn K (.ref D) (.type "BaseException") == some true, PySem.W.hasDictIn K D,
  PySem.W.findIn K (.ref D) "__class__" == some (some (.builtin "object.__class__")), PySem.W.specialIn K (.builtin "object.__class__") "__get__" == some (some (.builtin "getset_descriptor.__get__")), PySem.W.takesIn K (.builtin "object.__class__") == some true, PySem.W.mroIn K D (.type "object") == some true].all id
def clsOk (K : PySem.W.Frag) (C : Addr) : Bool := (PySem.W.clsIn K C).isSome && PySem.W.typeIn K (.ref C) == some (.type "type")
def mroB (K : PySem.W.Frag) (D : Addr) (cs : List Value) (bs : List Bool) : Bool := match PySem.W.clsIn K D with
  | some cd => !cd.mro.isEmpty && (cd.mro.contains (.ref D) && (cs.map fun c => cd.mro.contains c) == bs)
  | none => false
def top (i : Nat) : Stmt := PySem.Challenge.pw_ownroom_k11_rooms_refused.main.body.getD i (.Pass ⟨0, 0, 0, 0⟩)
abbrev s_BadRow___init__ : Stmt := inClass (top 28) 0
abbrev s_Store___init__ : Stmt := inClass (top 31) 0
abbrev s_Store_take : Stmt := inClass (top 31) 1
abbrev s_Store_look_taken : Stmt := inClass (top 31) 2
abbrev s_Store_more : Stmt := inClass (top 31) 3
abbrev s_Store_less : Stmt := inClass (top 31) 4
abbrev s_Store_count : Stmt := inClass (top 31) 5
abbrev s_Store_cells : Stmt := inClass (top 31) 6
abbrev s_Store_put : Stmt := inClass (top 31) 7
abbrev s_Store_free : Stmt := inClass (top 31) 8
abbrev s_Paging___init__ : Stmt := inClass (top 34) 0
abbrev s_Paging_entry : Stmt := inClass (top 34) 1
abbrev s_Paging_lay : Stmt := inClass (top 34) 2
abbrev s_Paging_share : Stmt := inClass (top 34) 3
abbrev s_Paging_leave : Stmt := inClass (top 34) 4
abbrev s_Paging_lifted : Stmt := inClass (top 34) 5
abbrev s_Paging_settle : Stmt := inClass (top 34) 6
abbrev s_Paging_put_out : Stmt := inClass (top 34) 7
abbrev s_Paging_frame_taken : Stmt := inClass (top 34) 8
abbrev s_Paging_fetch : Stmt := inClass (top 34) 9
abbrev s_Paging_part : Stmt := inClass (top 34) 10
abbrev s_Paging_cells : Stmt := inClass (top 34) 11
abbrev s_Paging_put : Stmt := inClass (top 34) 12
abbrev s_Paging_counts : Stmt := inClass (top 34) 13
abbrev s_Table___init__ : Stmt := inClass (top 37) 0
abbrev s_Table_get : Stmt := inClass (top 37) 1
abbrev s_Table_lay : Stmt := inClass (top 37) 2
abbrev s_Table_clear : Stmt := inClass (top 37) 3
abbrev s_Table_pages : Stmt := inClass (top 37) 4
abbrev s_pages_asked : Stmt := top 40
abbrev s_stretches_of : Stmt := top 41
abbrev s_Rooms___init__ : Stmt := inClass (top 42) 0
abbrev s_Rooms_begin : Stmt := inClass (top 42) 1
abbrev s_Rooms_table_of : Stmt := inClass (top 42) 2
abbrev s_Rooms_close : Stmt := inClass (top 42) 3
abbrev s_Rooms_held : Stmt := inClass (top 42) 4
abbrev s_Rooms_ask_room : Stmt := inClass (top 42) 5
abbrev s_Rooms_map : Stmt := inClass (top 42) 6
abbrev s_Rooms_look_mapped : Stmt := inClass (top 42) 7
abbrev s_Rooms_drop : Stmt := inClass (top 42) 8
abbrev s_Rooms_stretches : Stmt := inClass (top 42) 9
abbrev s_Rooms_peek : Stmt := inClass (top 42) 10
abbrev s_Rooms_poke : Stmt := inClass (top 42) 11
abbrev s_Rooms_copy : Stmt := inClass (top 42) 12
abbrev s_Rooms_place : Stmt := inClass (top 42) 13
abbrev s_Rooms_counts : Stmt := inClass (top 42) 14
abbrev s__law_mixed : Stmt := top 44
abbrev s__law_number : Stmt := top 45
abbrev s__law_cells : Stmt := top 47
abbrev s__law_deed : Stmt := top 48
abbrev s__law_model : Stmt := top 49
abbrev s__law_held : Stmt := top 50
abbrev s__law_stretch : Stmt := top 51
abbrev s__law_due : Stmt := top 52
abbrev s__law_done : Stmt := top 53
abbrev s__law_called : Stmt := top 54
abbrev s__law_sizes : Stmt := top 55
abbrev s__law_tasks : Stmt := top 56
abbrev s__law_state : Stmt := top 57
abbrev s__law_refusal : Stmt := top 58
abbrev s__law_far : Stmt := top 59
abbrev s__law_bad : Stmt := top 60
abbrev s__law_none_asked : Stmt := top 61
abbrev s_law : Stmt := top 62
def fns0 : List He.DefD := [⟨("BadRow", some "__init__"), "__init__", "BadRow.__init__", defArgs (inClass (top 28) 0), defBody (inClass (top 28) 0), defScope (inClass (top 28) 0), [], []⟩, ⟨("Store", some "__init__"), "__init__", "Store.__init__", defArgs (inClass (top 31) 0), defBody (inClass (top 31) 0), defScope (inClass (top 31) 0), [], []⟩, ⟨("Store", some "take"), "take", "Store.take", defArgs (inClass (top 31) 1), defBody (inClass (top 31) 1), defScope (inClass (top 31) 1), [], []⟩, ⟨("Store", some "look_taken"), "look_taken", "Store.look_taken", defArgs (inClass (top 31) 2), defBody (inClass (top 31) 2), defScope (inClass (top 31) 2), [], []⟩, ⟨("Store", some "more"), "more", "Store.more", defArgs (inClass (top 31) 3), defBody (inClass (top 31) 3), defScope (inClass (top 31) 3), [], []⟩, ⟨("Store", some "less"), "less", "Store.less", defArgs (inClass (top 31) 4), defBody (inClass (top 31) 4), defScope (inClass (top 31) 4), [], []⟩, ⟨("Store", some "count"), "count", "Store.count", defArgs (inClass (top 31) 5), defBody (inClass (top 31) 5), defScope (inClass (top 31) 5), [], []⟩, ⟨("Store", some "cells"), "cells", "Store.cells", defArgs (inClass (top 31) 6), defBody (inClass (top 31) 6), defScope (inClass (top 31) 6), [], []⟩, ⟨("Store", some "put"), "put", "Store.put", defArgs (inClass (top 31) 7), defBody (inClass (top 31) 7), defScope (inClass (top 31) 7), [], []⟩, ⟨("Store", some "free"), "free", "Store.free", defArgs (inClass (top 31) 8), defBody (inClass (top 31) 8), defScope (inClass (top 31) 8), [], []⟩, ⟨("Paging", some "__init__"), "__init__", "Paging.__init__", defArgs (inClass (top 34) 0), defBody (inClass (top 34) 0), defScope (inClass (top 34) 0), [], []⟩, ⟨("Paging", some "entry"), "entry", "Paging.entry", defArgs (inClass (top 34) 1), defBody (inClass (top 34) 1), defScope (inClass (top 34) 1), [], []⟩, ⟨("Paging", some "lay"), "lay", "Paging.lay", defArgs (inClass (top 34) 2), defBody (inClass (top 34) 2), defScope (inClass (top 34) 2), [], []⟩, ⟨("Paging", some "share"), "share", "Paging.share", defArgs (inClass (top 34) 3), defBody (inClass (top 34) 3), defScope (inClass (top 34) 3), [], []⟩, ⟨("Paging", some "leave"), "leave", "Paging.leave", defArgs (inClass (top 34) 4), defBody (inClass (top 34) 4), defScope (inClass (top 34) 4), [], []⟩, ⟨("Paging", some "lifted"), "lifted", "Paging.lifted", defArgs (inClass (top 34) 5), defBody (inClass (top 34) 5), defScope (inClass (top 34) 5), [], []⟩, ⟨("Paging", some "settle"), "settle", "Paging.settle", defArgs (inClass (top 34) 6), defBody (inClass (top 34) 6), defScope (inClass (top 34) 6), [], []⟩, ⟨("Paging", some "put_out"), "put_out", "Paging.put_out", defArgs (inClass (top 34) 7), defBody (inClass (top 34) 7), defScope (inClass (top 34) 7), [], []⟩, ⟨("Paging", some "frame_taken"), "frame_taken", "Paging.frame_taken", defArgs (inClass (top 34) 8), defBody (inClass (top 34) 8), defScope (inClass (top 34) 8), [], []⟩, ⟨("Paging", some "fetch"), "fetch", "Paging.fetch", defArgs (inClass (top 34) 9), defBody (inClass (top 34) 9), defScope (inClass (top 34) 9), [], []⟩, ⟨("Paging", some "part"), "part", "Paging.part", defArgs (inClass (top 34) 10), defBody (inClass (top 34) 10), defScope (inClass (top 34) 10), [], []⟩, ⟨("Paging", some "cells"), "cells", "Paging.cells", defArgs (inClass (top 34) 11), defBody (inClass (top 34) 11), defScope (inClass (top 34) 11), [], []⟩, ⟨("Paging", some "put"), "put", "Paging.put", defArgs (inClass (top 34) 12), defBody (inClass (top 34) 12), defScope (inClass (top 34) 12), [], []⟩, ⟨("Paging", some "counts"), "counts", "Paging.counts", defArgs (inClass (top 34) 13), defBody (inClass (top 34) 13), defScope (inClass (top 34) 13), [], []⟩]
def fns1 : List He.DefD := [⟨("Table", some "__init__"), "__init__", "Table.__init__", defArgs (inClass (top 37) 0), defBody (inClass (top 37) 0), defScope (inClass (top 37) 0), [], []⟩, ⟨("Table", some "get"), "get", "Table.get", defArgs (inClass (top 37) 1), defBody (inClass (top 37) 1), defScope (inClass (top 37) 1), [], []⟩, ⟨("Table", some "lay"), "lay", "Table.lay", defArgs (inClass (top 37) 2), defBody (inClass (top 37) 2), defScope (inClass (top 37) 2), [], []⟩, ⟨("Table", some "clear"), "clear", "Table.clear", defArgs (inClass (top 37) 3), defBody (inClass (top 37) 3), defScope (inClass (top 37) 3), [], []⟩, ⟨("Table", some "pages"), "pages", "Table.pages", defArgs (inClass (top 37) 4), defBody (inClass (top 37) 4), defScope (inClass (top 37) 4), [], []⟩, ⟨("pages_asked", none), "pages_asked", "pages_asked", defArgs (top 40), defBody (top 40), defScope (top 40), [], []⟩, ⟨("stretches_of", none), "stretches_of", "stretches_of", defArgs (top 41), defBody (top 41), defScope (top 41), [], []⟩, ⟨("Rooms", some "__init__"), "__init__", "Rooms.__init__", defArgs (inClass (top 42) 0), defBody (inClass (top 42) 0), defScope (inClass (top 42) 0), [], []⟩, ⟨("Rooms", some "begin"), "begin", "Rooms.begin", defArgs (inClass (top 42) 1), defBody (inClass (top 42) 1), defScope (inClass (top 42) 1), [], []⟩, ⟨("Rooms", some "table_of"), "table_of", "Rooms.table_of", defArgs (inClass (top 42) 2), defBody (inClass (top 42) 2), defScope (inClass (top 42) 2), [], []⟩, ⟨("Rooms", some "close"), "close", "Rooms.close", defArgs (inClass (top 42) 3), defBody (inClass (top 42) 3), defScope (inClass (top 42) 3), [], []⟩, ⟨("Rooms", some "held"), "held", "Rooms.held", defArgs (inClass (top 42) 4), defBody (inClass (top 42) 4), defScope (inClass (top 42) 4), [], []⟩, ⟨("Rooms", some "ask_room"), "ask_room", "Rooms.ask_room", defArgs (inClass (top 42) 5), defBody (inClass (top 42) 5), defScope (inClass (top 42) 5), [], []⟩, ⟨("Rooms", some "map"), "map", "Rooms.map", defArgs (inClass (top 42) 6), defBody (inClass (top 42) 6), defScope (inClass (top 42) 6), [], []⟩, ⟨("Rooms", some "look_mapped"), "look_mapped", "Rooms.look_mapped", defArgs (inClass (top 42) 7), defBody (inClass (top 42) 7), defScope (inClass (top 42) 7), [], []⟩, ⟨("Rooms", some "drop"), "drop", "Rooms.drop", defArgs (inClass (top 42) 8), defBody (inClass (top 42) 8), defScope (inClass (top 42) 8), [], []⟩, ⟨("Rooms", some "stretches"), "stretches", "Rooms.stretches", defArgs (inClass (top 42) 9), defBody (inClass (top 42) 9), defScope (inClass (top 42) 9), [], []⟩, ⟨("Rooms", some "peek"), "peek", "Rooms.peek", defArgs (inClass (top 42) 10), defBody (inClass (top 42) 10), defScope (inClass (top 42) 10), [], []⟩, ⟨("Rooms", some "poke"), "poke", "Rooms.poke", defArgs (inClass (top 42) 11), defBody (inClass (top 42) 11), defScope (inClass (top 42) 11), [], []⟩, ⟨("Rooms", some "copy"), "copy", "Rooms.copy", defArgs (inClass (top 42) 12), defBody (inClass (top 42) 12), defScope (inClass (top 42) 12), [], []⟩, ⟨("Rooms", some "place"), "place", "Rooms.place", defArgs (inClass (top 42) 13), defBody (inClass (top 42) 13), defScope (inClass (top 42) 13), [], []⟩, ⟨("Rooms", some "counts"), "counts", "Rooms.counts", defArgs (inClass (top 42) 14), defBody (inClass (top 42) 14), defScope (inClass (top 42) 14), [], []⟩, ⟨("_law_mixed", none), "_law_mixed", "_law_mixed", defArgs (top 44), defBody (top 44), defScope (top 44), [], []⟩, ⟨("_law_number", none), "_law_number", "_law_number", defArgs (top 45), defBody (top 45), defScope (top 45), [], []⟩]
def fns2 : List He.DefD := [⟨("_law_cells", none), "_law_cells", "_law_cells", defArgs (top 47), defBody (top 47), defScope (top 47), [], []⟩, ⟨("_law_deed", none), "_law_deed", "_law_deed", defArgs (top 48), defBody (top 48), defScope (top 48), [], []⟩, ⟨("_law_model", none), "_law_model", "_law_model", defArgs (top 49), defBody (top 49), defScope (top 49), [], []⟩, ⟨("_law_held", none), "_law_held", "_law_held", defArgs (top 50), defBody (top 50), defScope (top 50), [], []⟩, ⟨("_law_stretch", none), "_law_stretch", "_law_stretch", defArgs (top 51), defBody (top 51), defScope (top 51), [], []⟩, ⟨("_law_due", none), "_law_due", "_law_due", defArgs (top 52), defBody (top 52), defScope (top 52), [], []⟩, ⟨("_law_done", none), "_law_done", "_law_done", defArgs (top 53), defBody (top 53), defScope (top 53), [], []⟩, ⟨("_law_called", none), "_law_called", "_law_called", defArgs (top 54), defBody (top 54), defScope (top 54), [], []⟩, ⟨("_law_sizes", none), "_law_sizes", "_law_sizes", defArgs (top 55), defBody (top 55), defScope (top 55), [], []⟩, ⟨("_law_tasks", none), "_law_tasks", "_law_tasks", defArgs (top 56), defBody (top 56), defScope (top 56), [], []⟩, ⟨("_law_state", none), "_law_state", "_law_state", defArgs (top 57), defBody (top 57), defScope (top 57), [], []⟩, ⟨("_law_refusal", none), "_law_refusal", "_law_refusal", defArgs (top 58), defBody (top 58), defScope (top 58), [], []⟩, ⟨("_law_far", none), "_law_far", "_law_far", defArgs (top 59), defBody (top 59), defScope (top 59), [], []⟩, ⟨("_law_bad", none), "_law_bad", "_law_bad", defArgs (top 60), defBody (top 60), defScope (top 60), [], []⟩, ⟨("_law_none_asked", none), "_law_none_asked", "_law_none_asked", defArgs (top 61), defBody (top 61), defScope (top 61), [], []⟩, ⟨("law", none), "law", "law", defArgs (top 62), defBody (top 62), defScope (top 62), [], []⟩]
def fns : List He.DefD := fns0 ++ fns1 ++ fns2
def fa0 : List He.Fa := [.glo "KernelError", .glo "NoOwner", .glo "NoTask", .glo "NoPage", .glo "NoRoom", .glo "Taken", .glo "NoBlock", .glo "Fallen", .glo "BadName", .glo "NoName", .glo "NotDir", .glo "IsDir", .glo "NotEmpty", .glo "Inside", .glo "NoNode", .glo "NoSpace", .glo "TooMany", .glo "TooBig", .glo "NotHeld", .glo "NotAllowed", .glo "NoHandle", .glo "BadMode", .glo "Again", .glo "Broken"]
def fa1 : List He.Fa := [.glo "NoChild", .glo "BadCall", .glo "BadRow", .int "PAGE_SIZE" 8, .glo "Store", .glo "BLANK", .glo "Paging", .int "STEP" 8, .glo "Table", .int "PAGES" 64, .glo "pages_asked", .glo "stretches_of", .glo "Rooms", .glo "_law_mixed", .glo "_law_number", .glo "_law_cells", .glo "_law_deed", .glo "_law_model", .glo "_law_held", .glo "_law_stretch", .glo "_law_due", .glo "_law_done", .glo "_law_called", .glo "_law_sizes"]
def fa2 : List He.Fa := [.glo "_law_tasks", .glo "_law_state", .glo "_law_refusal", .glo "_law_far", .glo "_law_bad", .glo "_law_none_asked", .glo "law", .free "ValueError", .free "list", .free "range", .free "sum", .free "isinstance", .free "sorted", .free "min", .free "any", .free "int", .free "all", .free "max", .free "len", .free "zip", .free "dict", .free "enumerate", .exc "NoOwner", .exc "NoTask"]
def fa3 : List He.Fa := [.exc "NoPage", .exc "NoRoom", .exc "Taken", .cls "Store", .mkr "Store", .meth "Store" "take", .meth "Store" "look_taken", .meth "Store" "more", .meth "Store" "less", .meth "Store" "count", .meth "Store" "cells", .meth "Store" "put", .meth "Store" "free", .noat "Store" "owners", .noat "Store" "contents", .cls "Paging", .mkr "Paging", .meth "Paging" "entry", .meth "Paging" "lay", .meth "Paging" "share", .meth "Paging" "leave", .meth "Paging" "lifted", .meth "Paging" "settle", .meth "Paging" "put_out"]
def fa4 : List He.Fa := [.meth "Paging" "frame_taken", .meth "Paging" "fetch", .meth "Paging" "part", .meth "Paging" "cells", .meth "Paging" "put", .meth "Paging" "counts", .noat "Paging" "stores", .noat "Paging" "frames", .noat "Paging" "slots", .noat "Paging" "tables", .noat "Paging" "owners", .noat "Paging" "hand", .cls "Table", .mkr "Table", .meth "Table" "get", .meth "Table" "lay", .meth "Table" "clear", .meth "Table" "pages", .noat "Table" "firsts", .cls "Rooms", .mkr "Rooms", .meth "Rooms" "begin", .meth "Rooms" "table_of", .meth "Rooms" "close"]
def fa5 : List He.Fa := [.meth "Rooms" "held", .meth "Rooms" "ask_room", .meth "Rooms" "map", .meth "Rooms" "look_mapped", .meth "Rooms" "drop", .meth "Rooms" "stretches", .meth "Rooms" "peek", .meth "Rooms" "poke", .meth "Rooms" "copy", .meth "Rooms" "place", .meth "Rooms" "counts", .noat "Rooms" "paging"]
def fas : List He.Fa := fa0 ++ fa1 ++ fa2 ++ fa3 ++ fa4 ++ fa5
def exL0 (K : PySem.W.Frag) : List Bool := [He.tupB K "BLANK" [.str "blank"], excB K (He.ga K "NoOwner"), clsOk K (He.ga K "BadCall"), clsOk K (He.ga K "BadMode"), clsOk K (He.ga K "BadName"), clsOk K (He.ga K "BadRow"), clsOk K (He.ga K "Broken"), clsOk K (He.ga K "Fallen"), clsOk K (He.ga K "Inside"), clsOk K (He.ga K "IsDir"), clsOk K (He.ga K "NoBlock"), clsOk K (He.ga K "NoChild")]
def exL1 (K : PySem.W.Frag) : List Bool := [clsOk K (He.ga K "NoHandle"), clsOk K (He.ga K "NoName"), clsOk K (He.ga K "NoNode"), clsOk K (He.ga K "NoOwner"), clsOk K (He.ga K "NoSpace"), clsOk K (He.ga K "NotAllowed"), clsOk K (He.ga K "NotDir"), clsOk K (He.ga K "NotEmpty"), clsOk K (He.ga K "NotHeld"), clsOk K (He.ga K "TooBig"), clsOk K (He.ga K "TooMany"), clsOk K (He.ga K "Again")]
def exL2 (K : PySem.W.Frag) : List Bool := [clsOk K (He.ga K "NoTask"), clsOk K (He.ga K "NoPage"), clsOk K (He.ga K "NoRoom"), clsOk K (He.ga K "Taken"), mroB K (He.ga K "NoOwner") [(.ref (He.ga K "BadCall")), (.ref (He.ga K "BadMode")), (.ref (He.ga K "BadName")), (.ref (He.ga K "BadRow")), (.ref (He.ga K "Broken")), (.ref (He.ga K "Fallen")), (.ref (He.ga K "Inside")), (.ref (He.ga K "IsDir")), (.ref (He.ga K "NoBlock")), (.ref (He.ga K "NoChild")), (.ref (He.ga K "NoHandle")), (.ref (He.ga K "NoName")), (.ref (He.ga K "NoNode")), (.ref (He.ga K "NoOwner")), (.ref (He.ga K "NoSpace")), (.ref (He.ga K "NotAllowed")), (.ref (He.ga K "NotDir")), (.ref (He.ga K "NotEmpty")), (.ref (He.ga K "NotHeld")), (.ref (He.ga K "TooBig")), (.ref (He.ga K "TooMany")), (.ref (He.ga K "Again")), (.ref (He.ga K "NoTask")), (.ref (He.ga K "NoPage")), (.ref (He.ga K "NoRoom")), (.ref (He.ga K "Taken")), (.type "ValueError")] [false, false, false, false, false, false, false, false, false, false, false, false, false, true, false, false, false, false, false, false, false, false, false, false, false, false, true], (PySem.W.exmOne K (.ref (He.ga K "NoOwner")) (.ref (He.ga K "KernelError")) == some true), excB K (He.ga K "NoPage"), mroB K (He.ga K "NoPage") [(.ref (He.ga K "BadCall")), (.ref (He.ga K "BadMode")), (.ref (He.ga K "BadName")), (.ref (He.ga K "BadRow")), (.ref (He.ga K "Broken")), (.ref (He.ga K "Fallen")), (.ref (He.ga K "Inside")), (.ref (He.ga K "IsDir")), (.ref (He.ga K "NoBlock")), (.ref (He.ga K "NoChild")), (.ref (He.ga K "NoHandle")), (.ref (He.ga K "NoName")), (.ref (He.ga K "NoNode")), (.ref (He.ga K "NoOwner")), (.ref (He.ga K "NoSpace")), (.ref (He.ga K "NotAllowed")), (.ref (He.ga K "NotDir")), (.ref (He.ga K "NotEmpty")), (.ref (He.ga K "NotHeld")), (.ref (He.ga K "TooBig")), (.ref (He.ga K "TooMany")), (.ref (He.ga K "Again")), (.ref (He.ga K "NoTask")), (.ref (He.ga K "NoPage")), (.ref (He.ga K "NoRoom")), (.ref (He.ga K "Taken")), (.type "ValueError")] [false, false, false, false, false, false, false, false, false, false, false, false, false, false, false, false, false, false, false, false, false, false, false, true, false, false, true], (PySem.W.exmOne K (.ref (He.ga K "NoPage")) (.ref (He.ga K "KernelError")) == some true), excB K (He.ga K "Taken"), mroB K (He.ga K "Taken") [(.ref (He.ga K "BadCall")), (.ref (He.ga K "BadMode")), (.ref (He.ga K "BadName")), (.ref (He.ga K "BadRow")), (.ref (He.ga K "Broken")), (.ref (He.ga K "Fallen")), (.ref (He.ga K "Inside")), (.ref (He.ga K "IsDir")), (.ref (He.ga K "NoBlock")), (.ref (He.ga K "NoChild")), (.ref (He.ga K "NoHandle")), (.ref (He.ga K "NoName")), (.ref (He.ga K "NoNode")), (.ref (He.ga K "NoOwner")), (.ref (He.ga K "NoSpace")), (.ref (He.ga K "NotAllowed")), (.ref (He.ga K "NotDir")), (.ref (He.ga K "NotEmpty")), (.ref (He.ga K "NotHeld")), (.ref (He.ga K "TooBig")), (.ref (He.ga K "TooMany")), (.ref (He.ga K "Again")), (.ref (He.ga K "NoTask")), (.ref (He.ga K "NoPage")), (.ref (He.ga K "NoRoom")), (.ref (He.ga K "Taken")), (.type "ValueError")] [false, false, false, false, false, false, false, false, false, false, false, false, false, false, false, false, false, false, false, false, false, false, false, false, false, true, true], (PySem.W.exmOne K (.ref (He.ga K "Taken")) (.ref (He.ga K "KernelError")) == some true)]
def exL3 (K : PySem.W.Frag) : List Bool := [excB K (He.ga K "NoTask"), mroB K (He.ga K "NoTask") [(.ref (He.ga K "BadCall")), (.ref (He.ga K "BadMode")), (.ref (He.ga K "BadName")), (.ref (He.ga K "BadRow")), (.ref (He.ga K "Broken")), (.ref (He.ga K "Fallen")), (.ref (He.ga K "Inside")), (.ref (He.ga K "IsDir")), (.ref (He.ga K "NoBlock")), (.ref (He.ga K "NoChild")), (.ref (He.ga K "NoHandle")), (.ref (He.ga K "NoName")), (.ref (He.ga K "NoNode")), (.ref (He.ga K "NoOwner")), (.ref (He.ga K "NoSpace")), (.ref (He.ga K "NotAllowed")), (.ref (He.ga K "NotDir")), (.ref (He.ga K "NotEmpty")), (.ref (He.ga K "NotHeld")), (.ref (He.ga K "TooBig")), (.ref (He.ga K "TooMany")), (.ref (He.ga K "Again")), (.ref (He.ga K "NoTask")), (.ref (He.ga K "NoPage")), (.ref (He.ga K "NoRoom")), (.ref (He.ga K "Taken")), (.type "ValueError")] [false, false, false, false, false, false, false, false, false, false, false, false, false, false, false, false, false, false, false, false, false, false, true, false, false, false, true], (PySem.W.exmOne K (.ref (He.ga K "NoTask")) (.ref (He.ga K "KernelError")) == some true), excB K (He.ga K "NoRoom"), mroB K (He.ga K "NoRoom") [(.ref (He.ga K "BadCall")), (.ref (He.ga K "BadMode")), (.ref (He.ga K "BadName")), (.ref (He.ga K "BadRow")), (.ref (He.ga K "Broken")), (.ref (He.ga K "Fallen")), (.ref (He.ga K "Inside")), (.ref (He.ga K "IsDir")), (.ref (He.ga K "NoBlock")), (.ref (He.ga K "NoChild")), (.ref (He.ga K "NoHandle")), (.ref (He.ga K "NoName")), (.ref (He.ga K "NoNode")), (.ref (He.ga K "NoOwner")), (.ref (He.ga K "NoSpace")), (.ref (He.ga K "NotAllowed")), (.ref (He.ga K "NotDir")), (.ref (He.ga K "NotEmpty")), (.ref (He.ga K "NotHeld")), (.ref (He.ga K "TooBig")), (.ref (He.ga K "TooMany")), (.ref (He.ga K "Again")), (.ref (He.ga K "NoTask")), (.ref (He.ga K "NoPage")), (.ref (He.ga K "NoRoom")), (.ref (He.ga K "Taken")), (.type "ValueError")] [false, false, false, false, false, false, false, false, false, false, false, false, false, false, false, false, false, false, false, false, false, false, false, false, true, false, true], (PySem.W.exmOne K (.ref (He.ga K "NoRoom")) (.ref (He.ga K "KernelError")) == some true)]
def exL (K : PySem.W.Frag) : List Bool := [(exL0 K).all id, (exL1 K).all id, (exL2 K).all id, (exL3 K).all id]
def exB (K : PySem.W.Frag) : Bool := (exL K).all id
abbrev hk : PySem.W.Hook := He.hookX 4 fas fns [] [] exB
def ob (s : PySem.W.SharedT) : He.AlX := He.obsX 4 fas fns [] [] exB (HandSHeadRun.getT s)
theorem ob_eq (s : PySem.W.SharedT) : ob s = hk.obs s.abs := He.obsX_eq (HandSHeadRun.getT_eq s)
def loose0 : List PySem.Str := ["_wall", "KernelError", "NoOwner", "NoTask", "NoPage", "NoRoom", "Taken", "NoBlock", "Fallen", "BadName", "NoName", "NotDir", "IsDir", "NotEmpty", "Inside", "NoNode", "NoSpace", "TooMany", "TooBig", "NotHeld", "NotAllowed", "NoHandle", "BadMode", "Again"]
def loose1 : List PySem.Str := ["Broken", "NoChild", "BadCall", "BadRow", "PAGE_SIZE", "Store", "BLANK", "Paging", "STEP", "Table", "PAGES", "pages_asked", "stretches_of", "Rooms", "_law_mixed", "_law_number", "_law_whole", "_law_cells", "_law_deed", "_law_model", "_law_held", "_law_stretch", "_law_due", "_law_done"]
def loose2 : List PySem.Str := ["_law_called", "_law_sizes", "_law_tasks", "_law_state", "_law_refusal", "_law_far", "_law_bad", "_law_none_asked"]
def loose : List PySem.Str := loose0 ++ loose1 ++ loose2
abbrev R : PySem.W.OpenRow := PySem.W.OpenLaw.row PySem.Challenge.rw_ownroom_k11_rooms_refused
theorem run (w : World) : HandSHeadRun.RunEq R (PySem.W.view R.prog [62]) hk ob 60000 loose w := by
  intro os
  kernel_rfl
end Ow
namespace Ow
open PySem PySem.Spec PyProof.Rows L2
/-! ## My own layer: what a def owns (cells), a def that may be called, readings that stop at calls and loops -/
/-! ### cells -/
abbrev Cells := List (Addr × HO)
def adr (cs : Cells) : List Addr := cs.map Prod.fst
/-- from H0, of which the addresses A are ours, we have come to H; the cells cs stand there, each once; the rest of H0 is as it was, new cells were free in H0, tuples stay -/
structure Own (H0 H : Hp) (A : List Addr) (cs : Cells) : Prop where
  at_ : ∀ a o, (a, o) ∈ cs → H a = some o
  nd : (adr cs).Nodup
  fr : ∀ b o, H0 b = some o → b ∉ A → H b = some o
  nw : ∀ b, b ∈ adr cs → b ∈ A ∨ H0 b = none
  tp : ∀ b xs, H0 b = some (.tup xs) → H b = some (.tup xs)
theorem adr_cons {c : Addr × HO} {r : Cells} : adr (c :: r) = c.1 :: adr r := rfl
theorem adr_app {s r : Cells} : adr (s ++ r) = adr s ++ adr r := List.map_append
theorem Own.start {H : Hp} (h : ∀ b xs, H b = some (.tup xs) → H b = some (.tup xs) := fun _ _ h => h) : Own H H [] [] :=
  ⟨fun _ _ m => (nomatch m), List.nodup_nil, fun _ _ h _ => h, fun _ m => (nomatch m), h⟩
/-- where the cell of an address stands, and the row with another thing there -/
inductive At : Cells → Addr → HO → HO → Cells → Prop
  | here {a o o' r} : At ((a, o) :: r) a o o' ((a, o') :: r)
  | there {c r a o o' r'} : At r a o o' r' → At (c :: r) a o o' (c :: r')
  | app {s r a o o' r'} : At r a o o' r' → At (s ++ r) a o o' (s ++ r')
  | appl {s r a o o' s'} : At s a o o' s' → At (s ++ r) a o o' (s' ++ r)
theorem At.mem {cs cs' : Cells} {a : Addr} {o o' : HO} (h : At cs a o o' cs') : (a, o) ∈ cs := by
  induction h with
  | here => exact List.mem_cons_self
  | there _ ih => exact List.mem_cons_of_mem _ ih
  | app _ ih => exact List.mem_append_right _ ih
  | appl _ ih => exact List.mem_append_left _ ih
theorem At.adr {cs cs' : Cells} {a : Addr} {o o' : HO} (h : At cs a o o' cs') : adr cs' = adr cs := by
  induction h with
  | here => rfl
  | there _ ih => rw [adr_cons, adr_cons, ih]
  | app _ ih => rw [adr_app, adr_app, ih]
  | appl _ ih => rw [adr_app, adr_app, ih]
theorem At.of {cs cs' : Cells} {a : Addr} {o o' : HO} (h : At cs a o o' cs') (nd : (Ow.adr cs).Nodup) : ∀ b u, (b, u) ∈ cs' → (b = a ∧ u = o') ∨ (b ≠ a ∧ (b, u) ∈ cs) := by
  induction h with
  | here =>
    intro b u m
    rcases List.mem_cons.mp m with e | m2
    · cases e; exact .inl ⟨rfl, rfl⟩
    · refine .inr ⟨fun e => ?_, List.mem_cons_of_mem _ m2⟩
      subst e
      exact (List.nodup_cons.mp nd).1 (List.mem_map.mpr ⟨_, m2, rfl⟩)
  | @there c r a o o' r' h ih =>
    intro b u m
    obtain ⟨n1, n2⟩ := List.nodup_cons.mp nd
    rcases List.mem_cons.mp m with e | m
    · subst e
      refine .inr ⟨fun e => ?_, List.mem_cons_self⟩
      exact n1 (List.mem_map.mpr ⟨_, h.mem, e.symm⟩)
    · rcases ih n2 b u m with z | ⟨z1, z2⟩
      · exact .inl z
      · exact .inr ⟨z1, List.mem_cons_of_mem _ z2⟩
  | @app s r a o o' r' h ih =>
    intro b u m
    rw [adr_app] at nd
    obtain ⟨n1, n2, n3⟩ := List.nodup_append.mp nd
    rcases List.mem_append.mp m with m | m
    · refine .inr ⟨fun e => ?_, List.mem_append_left _ m⟩
      subst e
      exact n3 _ (List.mem_map.mpr ⟨_, m, rfl⟩) _ (List.mem_map.mpr ⟨_, h.mem, rfl⟩) rfl
    · rcases ih n2 b u m with z | ⟨z1, z2⟩
      · exact .inl z
      · exact .inr ⟨z1, List.mem_append_right _ z2⟩
  | @appl s r a o o' s' h ih =>
    intro b u m
    rw [adr_app] at nd
    obtain ⟨n1, n2, n3⟩ := List.nodup_append.mp nd
    rcases List.mem_append.mp m with m | m
    · rcases ih n1 b u m with z | ⟨z1, z2⟩
      · exact .inl z
      · exact .inr ⟨z1, List.mem_append_left _ z2⟩
    · refine .inr ⟨fun e => ?_, List.mem_append_right _ m⟩
      subst e
      exact n3 _ (List.mem_map.mpr ⟨_, h.mem, rfl⟩) _ (List.mem_map.mpr ⟨_, m, rfl⟩) rfl
def isTup : HO → Bool
  | .tup _ => true
  | _ => false
/-- a block of cells within, and the row with another block in its place -/
inductive Sub : Cells → Cells → Cells → Cells → Prop
  | all {s s'} : Sub s s s' s'
  | here {s s' r} : Sub (s ++ r) s s' (s' ++ r)
  | one {c s' r} : Sub (c :: r) [c] s' (s' ++ r)
  | two {c d s' r} : Sub (c :: d :: r) [c, d] s' (s' ++ r)
  | nil {r s'} : Sub r [] s' (s' ++ r)
  | there {c r s s' r'} : Sub r s s' r' → Sub (c :: r) s s' (c :: r')
  | app {t r s s' r'} : Sub r s s' r' → Sub (t ++ r) s s' (t ++ r')
  | appl {t r s s' t'} : Sub t s s' t' → Sub (t ++ r) s s' (t' ++ r)
theorem Sub.split {cs s s' cs' : Cells} (h : Sub cs s s' cs') : ∃ l r, cs = l ++ (s ++ r) ∧ cs' = l ++ (s' ++ r) := by
  induction h with
  | all => exact ⟨[], [], by simp, by simp⟩
  | here => exact ⟨[], _, rfl, rfl⟩
  | one => exact ⟨[], _, rfl, rfl⟩
  | two => exact ⟨[], _, rfl, rfl⟩
  | nil => exact ⟨[], _, rfl, rfl⟩
  | @there c r s s' r' _ ih =>
    obtain ⟨l, t, e1, e2⟩ := ih
    exact ⟨c :: l, t, by rw [e1]; rfl, by rw [e2]; rfl⟩
  | @app t r s s' r' _ ih =>
    obtain ⟨l, q, e1, e2⟩ := ih
    exact ⟨t ++ l, q, by rw [e1, List.append_assoc], by rw [e2, List.append_assoc]⟩
  | @appl t r s s' t' _ ih =>
    obtain ⟨l, q, e1, e2⟩ := ih
    exact ⟨l, q ++ r, by rw [e1]; simp only [List.append_assoc], by rw [e2]; simp only [List.append_assoc]⟩
section
variable {H0 H H' : Hp} {A : List Addr} {cs cs' s s' : Cells} {a p : Addr} {o o' : HO}
theorem Own.get (O : Own H0 H A cs) (m : (a, o) ∈ cs) : H a = some o := O.at_ a o m
theorem Own.tup {t : Addr} {xs : List V} (O : Own H0 H A cs) (h : H0 t = some (.tup xs)) : H t = some (.tup xs) := O.tp t xs h
/-- a cell is written -/
theorem Own.wr (O : Own H0 H A cs) (h : At cs a o o' cs') (n : isTup o = false := by rfl) : Own H0 (upd H a o') A cs' := by
  have ha := O.at_ a o h.mem
  refine ⟨fun b u m => ?_, by rw [h.adr]; exact O.nd, fun b u e hb => ?_, fun b m => O.nw b (by rw [← h.adr]; exact m), fun b xs e => ?_⟩
  · rcases h.of O.nd b u m with ⟨rfl, rfl⟩ | ⟨e, m⟩
    · exact upd_same
    · rw [upd_ne e]; exact O.at_ b u m
  · rw [upd_ne]
    · exact O.fr b u e hb
    · rintro rfl
      rcases O.nw b (List.mem_map.mpr ⟨_, h.mem, rfl⟩) with z | z
      · exact hb z
      · rw [z] at e; cases e
  · have e1 := O.tp b xs e
    rw [upd_ne]
    · exact e1
    · rintro rfl
      rw [e1] at ha
      cases ha
      cases n
/-- a new cell -/
theorem Own.new (O : Own H0 H A cs) (h : H p = none) : Own H0 (upd H p o) A ((p, o) :: cs) := by
  have hn : p ∉ adr cs := fun m => by
    obtain ⟨c, hc, e⟩ := List.mem_map.mp m
    have := O.at_ c.1 c.2 hc
    rw [e, h] at this
    cases this
  have ne : ∀ b u, H b = some u → b ≠ p := fun b u e z => by rw [z, h] at e; cases e
  by_cases hA : p ∈ A
  · refine ⟨fun b u m => ?_, List.nodup_cons.mpr ⟨hn, O.nd⟩, fun b u e hb => ?_, fun b m => ?_, fun b xs e => ?_⟩
    · rcases List.mem_cons.mp m with z | z
      · cases z; exact upd_same
      · rw [upd_ne (ne b u (O.at_ b u z))]; exact O.at_ b u z
    · rw [upd_ne (ne b u (O.fr b u e hb))]; exact O.fr b u e hb
    · rcases List.mem_cons.mp m with z | z
      · exact .inl (by rw [z]; exact hA)
      · exact O.nw b z
    · rw [upd_ne (ne b _ (O.tp b xs e))]; exact O.tp b xs e
  · have h0 : H0 p = none := by
      cases q : H0 p with
      | none => rfl
      | some u =>
        rw [O.fr p u q hA] at h
        cases h
    refine ⟨fun b u m => ?_, List.nodup_cons.mpr ⟨hn, O.nd⟩, fun b u e hb => ?_, fun b m => ?_, fun b xs e => ?_⟩
    · rcases List.mem_cons.mp m with z | z
      · cases z; exact upd_same
      · rw [upd_ne (ne b u (O.at_ b u z))]; exact O.at_ b u z
    · rw [upd_ne (ne b u (O.fr b u e hb))]; exact O.fr b u e hb
    · rcases List.mem_cons.mp m with z | z
      · exact .inr (by rw [z]; exact h0)
      · exact O.nw b z
    · rw [upd_ne (ne b _ (O.tp b xs e))]; exact O.tp b xs e
/-- a new tuple: it needs no owner -/
theorem Own.newT (O : Own H0 H A cs) (h : H p = none) : Own H0 (upd H p o) A cs :=
  have O' := O.new (o := o) h
  ⟨fun b u m => O'.at_ b u (List.mem_cons_of_mem _ m), O.nd, O'.fr, O.nw, O'.tp⟩
/-- fewer cells -/
theorem Own.drop (O : Own H0 H A cs) (h : List.Sublist cs' cs) : Own H0 H A cs' :=
  ⟨fun b u m => O.at_ b u (h.subset m), O.nd.sublist (h.map _), O.fr, fun b m => O.nw b ((h.map _).subset m), O.tp⟩
theorem Own.perm (O : Own H0 H A cs) (h : cs.Perm cs') : Own H0 H A cs' :=
  ⟨fun b u m => O.at_ b u (h.mem_iff.mpr m), (h.map _).nodup_iff.mp O.nd, O.fr, fun b m => O.nw b ((h.map _).mem_iff.mpr m), O.tp⟩
/-- a block of it, as what a callee is handed -/
theorem Own.blk (O : Own H0 H A cs) (h : Sub cs s s' cs') : Own H H (adr s) s := by
  obtain ⟨l, r, rfl, _⟩ := h.split
  have nd := O.nd
  rw [adr_app, adr_app] at nd
  exact ⟨fun b u m => O.at_ b u (List.mem_append_right _ (List.mem_append_left _ m)), (List.nodup_append.mp (List.nodup_append.mp nd).2.1).1, fun _ _ e _ => e, fun _ m => .inl m, fun _ _ e => e⟩
/-- behind the call -/
theorem Own.call (O : Own H0 H A cs) (h : Sub cs s s' cs') (C : Own H H' (adr s) s') : Own H0 H' A cs' := by
  obtain ⟨l, r, rfl, rfl⟩ := h.split
  have nd := O.nd
  simp only [adr_app] at nd
  obtain ⟨n1, n2, n3⟩ := List.nodup_append.mp nd
  obtain ⟨n4, n5, n6⟩ := List.nodup_append.mp n2
  have out : ∀ b u, ((b, u) ∈ l ∨ (b, u) ∈ r) → H' b = some u := fun b u m => by
    have hb : b ∉ adr s := fun z => by
      rcases m with m | m
      · exact n3 b (List.mem_map.mpr ⟨_, m, rfl⟩) b (List.mem_append_left _ z) rfl
      · exact n6 b z b (List.mem_map.mpr ⟨_, m, rfl⟩) rfl
    refine C.fr b u (O.at_ b u ?_) hb
    rcases m with m | m
    · exact List.mem_append_left _ m
    · exact List.mem_append_right _ (List.mem_append_right _ m)
  have sep : ∀ b, b ∈ adr s' → (b ∈ adr l ∨ b ∈ adr r) → False := fun b m z => by
    obtain ⟨u, hu⟩ : ∃ u, ((b, u) ∈ l ∨ (b, u) ∈ r) := by
      rcases z with z | z
      · obtain ⟨c, hc, e⟩ := List.mem_map.mp z
        exact ⟨c.2, .inl (by rw [← e]; exact hc)⟩
      · obtain ⟨c, hc, e⟩ := List.mem_map.mp z
        exact ⟨c.2, .inr (by rw [← e]; exact hc)⟩
    rcases C.nw b m with q | q
    · rcases z with z | z
      · exact n3 b z b (List.mem_append_left _ q) rfl
      · exact n6 b q b z rfl
    · have e : H b = some u := O.at_ b u (by
        rcases hu with m | m
        · exact List.mem_append_left _ m
        · exact List.mem_append_right _ (List.mem_append_right _ m))
      rw [q] at e
      cases e
  refine ⟨fun b u m => ?_, ?_, fun b u e hb => ?_, fun b m => ?_, fun b xs e => C.tp b xs (O.tp b xs e)⟩
  · rcases List.mem_append.mp m with m | m
    · exact out b u (.inl m)
    · rcases List.mem_append.mp m with m | m
      · exact C.at_ b u m
      · exact out b u (.inr m)
  · simp only [adr_app]
    refine List.nodup_append.mpr ⟨n1, List.nodup_append.mpr ⟨C.nd, n5, fun x hx y hy e => ?_⟩, fun x hx y hy e => ?_⟩
    · subst e
      exact sep x hx (.inr hy)
    · subst e
      rcases List.mem_append.mp hy with z | z
      · exact sep x z (.inl hx)
      · exact n3 x hx x (List.mem_append_right _ z) rfl
  · refine C.fr b u (O.fr b u e hb) fun z => ?_
    rcases O.nw b (by simp only [adr_app]; exact List.mem_append_right _ (List.mem_append_left _ z)) with q | q
    · exact hb q
    · rw [q] at e
      cases e
  · simp only [adr_app] at m
    rcases List.mem_append.mp m with m | m
    · exact O.nw b (by simp only [adr_app]; exact List.mem_append_left _ m)
    · rcases List.mem_append.mp m with m | m
      · rcases C.nw b m with z | z
        · exact O.nw b (by simp only [adr_app]; exact List.mem_append_right _ (List.mem_append_left _ z))
        · by_cases hA : b ∈ A
          · exact .inl hA
          · refine .inr ?_
            cases q : H0 b with
            | none => rfl
            | some u =>
              rw [O.fr b u q hA] at z
              cases z
      · exact O.nw b (by simp only [adr_app]; exact List.mem_append_right _ (List.mem_append_right _ m))
end
end Ow
namespace Ow
open PySem PySem.Spec PyProof.Rows L2
/-! ### where a walk stops -/
structure Box (p : Prop) : Prop where
  out : p
theorem PE.box {X : Cx} {e : Expr} {t : TE} (h : PE X e t) : PE X e (fun σ H Q => t σ H fun v H1 => Box (Q v H1)) :=
  ⟨fun pins s σ H Q I q => thn (h.run pins s σ H _ I q) fun _ _ ⟨x, H1, I1, r1, q1⟩ => ⟨x, H1, I1, r1, q1.out⟩⟩
theorem PA.box {X : Cx} {es : List Expr} {t : TA} (h : PA X es t) : PA X es (fun σ H Q => t σ H fun v H1 => Box (Q v H1)) :=
  ⟨fun pos pins s σ H Q I q => thn (h.run pos pins s σ H _ I q) fun _ _ ⟨x, H1, I1, r1, q1⟩ => ⟨x, H1, I1, r1, q1.out⟩⟩
theorem PI.box {X : Cx} {tg e : Expr} {w : TI} (h : PI X tg e w) : PI X tg e (fun σ H R => w σ H fun J H1 => Box (R J H1)) :=
  ⟨fun pins s σ H R I q => thn (h.run pins s σ H _ I q) fun _ _ h1 => thn h1 fun _ _ ⟨it, fp, tn, J, H', e, I', T, t0, f, r⟩ => ⟨it, fp, tn, J, H', e, I', T, t0, f, r.out⟩⟩
/-- a reading as it stands, not reckoned out -/
def tW (t : TS) : TS := t
theorem PS.box {X : Cx} {st : Stmt} {t : TS} (h : PS X st t) : PS X st (fun D σ H => Box (tW t D σ H)) :=
  ⟨fun pins s σ H D I q => h.run pins s σ H D I q.out⟩
theorem PE.alt {X : Cx} {e : Expr} {t u : TE} (h : PE X e t) (h' : PE X e u) : PE X e (fun σ H Q => t σ H Q ∨ u σ H Q) :=
  ⟨fun pins s σ H Q I q => q.elim (h.run pins s σ H Q I) (h'.run pins s σ H Q I)⟩
/-- a promise that a walk stops at -/
def bx (sp : Sp) : Sp := fun vs H Q E => Box (sp vs H Q E)
/-- of a def that nobody calls: nothing may be asked -/
def spWall : Sp := fun _ _ _ _ => False
/-- a def that may be called: it keeps its promise -/
structure Cee (P : Program) (w : World) (K : PySem.W.Frag) (mg : Str → Option Value) (base : Heap) (k : Nat) (f : Addr) (ps : List Str) (sp : Sp) : Prop where
  kp : PySem.W.keepIn K (.ref f) = true
  fn : ∃ fd, FnOk P w K mg base (L2.CX P w) k f fd ps (bx sp) ∧ Binds K fd ps []
section
variable {P : Program} {w : World} {K : PySem.W.Frag} {mg : Str → Option Value} {base : Heap}
theorem cee_of {x qual : Str} {params : Arguments} {body : List Stmt} {scope : Scope} {f : Addr} {N ps : List Str} {k : Nat} {sp : Sp} (F : ∃ fd, FunD K x qual params body scope [] [] f fd) (S : FnScope N ps scope)
    (hb : ∀ (kV doc pm : Value) (an : Option Addr) (cdv ct : Value) (us : List Value), us.length = ps.length → bindArgs (PySem.W.fnOf x qual params body scope .none kV doc pm an cdv ct) ⟨us, []⟩ = pure (ps.zip us))
    (len : ∀ vs H Q E, sp vs H Q E → vs.length = ps.length)
    (hbody : ∀ (cdv : Value) (A : Around) (outer : List Env) (s : Shared) (H : Hp) (vs : List V) (Q : VK) (E : XK), Room k (A.deeper (envOfC qual scope s.heap.objs.size f cdv)) → sp vs H Q E →
      ∃ t, PSs (cxOf (L2.CX P w) P w K mg base N qual scope f cdv A outer s H E) body t ∧ t { nx := fun _ H' => Q .non H', rt := Q } (start N vs) H) : Cee P w K mg base (k + 1) f ps sp := by
  obtain ⟨fd, F⟩ := F
  exact ⟨F.kp, fd, FunD.ok F S (fun vs H Q E h => len vs H Q E h.out) (fun cdv A outer s H vs Q E hr h => hbody cdv A outer s H vs Q E hr h.out), F.bindsN hb⟩
end
section
variable {X : Cx} {k : Nat} {f C : Addr} {ps : List Str} {sp : Sp} {W : WX} {x m : Str} {p pos apos : Pos} {e o : Expr} {es : List Expr} {ta : TE} {t : TA}
theorem pe_f (c : Cee X.prog X.w X.K X.mg X.base k f ps sp) (hr : Room k X.A) (tk : Takes X W) (hg : Gl X x) (hm : X.mg x = some (.ref f)) (ha : PA X (e :: es) t) (hdb : (x == ("__debug__" : Str)) = false := by decide)
    (he : starEach (e :: es) X.env = (false, eval e X.env) :: starEach es X.env := by rfl) (hpl : (backTo pos (starEach es X.env)).any (·.1) = false := by rfl) :
    PE X (.Call (.Name x p) (e :: es) [] pos) (tCallS (bx sp) (WE W) t) := by
  obtain ⟨fd, F, b⟩ := c.fn
  exact pe_callS F hr hg hm c.kp b (fun σ => passAt tk σ) ha hdb he hpl
theorem pe_f0 (c : Cee X.prog X.w X.K X.mg X.base k f ps sp) (hr : Room k X.A) (tk : Takes X W) (hg : Gl X x) (hm : X.mg x = some (.ref f)) (hdb : (x == ("__debug__" : Str)) = false := by decide) :
    PE X (.Call (.Name x p) [] [] pos) (fun σ H Q => bx sp [] H Q (WE W σ)) := by
  obtain ⟨fd, F, b⟩ := c.fn
  refine ⟨fun pins s σ H Q I h => ?_⟩
  refine wpAny_Call_Name_kw (ld_glob I hg hm ?_ hdb)
  exact PySem.W.callWith_K0 I.kIn c.kp (run_fnS (us := []) (E := WE W) F hr b (passAt tk σ) I .nil h)
/-- o.m(e, ..) -/
def tM (C : Addr) (m : Str) (sp : Sp) (W : WX) (ta : TE) (t : TA) : TE := fun σ H Q => ta σ H fun x H1 => ∃ a dx fs, x = .ref a ∧ H1 a = some (.ins C dx fs) ∧ fs.lookup m = none ∧ t σ H1 fun vs H2 => bx sp (x :: vs) H2 Q (WE W σ)
theorem pe_m {pl : Sem Bool} (ho : PE X o ta) (cl : Cls X.K C) (hm : Meth X.K C m f) (c : Cee X.prog X.w X.K X.mg X.base k f ps sp) (hr : Room k X.A) (tk : Takes X W) (ha : PA X (e :: es) t)
    (hst : starEach (e :: es) X.env = (false, eval e X.env) :: starEach es X.env := by rfl) (hpl : (backTo pos (starEach es X.env)).any (·.1) = false := by rfl)
    (ht : eval (.Call (.Attribute o m apos) (e :: es) [] pos) X.env = (do
      let ov ← eval o X.env
      standAt apos.atName
      let (f, first) ← holding [ov] (getMethod ov m pl)
      callWith pos f first (backTo pos (starEach (e :: es) X.env)) (backToKw pos (keywordEach [] X.env))) := by rfl) :
    PE X (.Call (.Attribute o m apos) (e :: es) [] pos) (tM C m sp W ta t) := by
  obtain ⟨fd, F, b⟩ := c.fn
  refine ⟨fun pins s σ H Q I h => ?_⟩
  refine PySem.W.methodCall_KW (pl := pl) (thn (ho.run pins s σ H _ I h) fun u s1 ⟨y, H1, I1, ry, a, dx, fs, ey, ea, l, q⟩ => ?_) ht
  subst ey
  obtain rfl : u = Value.ref a := ry
  refine getmeth_ok I1 ea cl hm l ?_
  refine PySem.W.callWith_K (first := [.ref a]) (h₀ := X.base) I.ok.mod.kin hm.kp (thn (ha.run pos pins s1 σ H1 _ I1 q) fun us s2 ⟨vs, H2, I2, rv, q2⟩ => ⟨I2.kIn, ?_⟩) hst hpl
  exact run_fnS (us := .ref a :: us) (vs := .ref a :: vs) (E := WE W) F hr b (passAt tk σ) I2 (.cons rfl rv) q2
def tM0 (C : Addr) (m : Str) (sp : Sp) (W : WX) (ta : TE) : TE := fun σ H Q => ta σ H fun x H1 => ∃ a dx fs, x = .ref a ∧ H1 a = some (.ins C dx fs) ∧ fs.lookup m = none ∧ bx sp [x] H1 Q (WE W σ)
theorem pe_m0 {pl : Sem Bool} (ho : PE X o ta) (cl : Cls X.K C) (hm : Meth X.K C m f) (c : Cee X.prog X.w X.K X.mg X.base k f ps sp) (hr : Room k X.A) (tk : Takes X W)
    (ht : eval (.Call (.Attribute o m apos) [] [] pos) X.env = (do
      let ov ← eval o X.env
      standAt apos.atName
      let (f, first) ← holding [ov] (getMethod ov m pl)
      callWith pos f first (backTo pos (starEach [] X.env)) (backToKw pos (keywordEach [] X.env))) := by rfl) :
    PE X (.Call (.Attribute o m apos) [] [] pos) (tM0 C m sp W ta) := by
  obtain ⟨fd, F, b⟩ := c.fn
  refine ⟨fun pins s σ H Q I h => ?_⟩
  refine PySem.W.methodCall_KW (pl := pl) (thn (ho.run pins s σ H _ I h) fun u s1 ⟨y, H1, I1, ry, a, dx, fs, ey, ea, l, q⟩ => ?_) ht
  subst ey
  obtain rfl : u = Value.ref a := ry
  refine getmeth_ok I1 ea cl hm l ?_
  exact PySem.W.callWith_K0 (first := [.ref a]) I1.kIn hm.kp (run_fnS (us := [.ref a]) (vs := [.ref a]) (E := WE W) F hr b (passAt tk σ) I1 (.cons rfl .nil) q)
/-- C(e, ..): its __init__ lets nothing out -/
theorem pe_n (M : Mk X.K C f) (c : Cee X.prog X.w X.K X.mg X.base k f ps sp) (hr : Room (k + 1) X.A) (hg : Gl X x) (hm : X.mg x = some (.ref C)) (ha : PA X (e :: es) t) (hdb : (x == ("__debug__" : Str)) = false := by decide)
    (he : starEach (e :: es) X.env = (false, eval e X.env) :: starEach es X.env := by rfl) (hpl : (backTo pos (starEach es X.env)).any (·.1) = false := by rfl) :
    PE X (.Call (.Name x p) (e :: es) [] pos) (tMake C (bx sp) [] E0 t) := by
  obtain ⟨fd, F, b⟩ := c.fn
  exact pe_make M F hr hg hm b .nil passL ha hdb he hpl
theorem pe_n0 (M : Mk X.K C f) (c : Cee X.prog X.w X.K X.mg X.base k f ps sp) (hr : Room (k + 1) X.A) (hg : Gl X x) (hm : X.mg x = some (.ref C)) (hdb : (x == ("__debug__" : Str)) = false := by decide) :
    PE X (.Call (.Name x p) [] [] pos) (tMake C (bx sp) [] E0 tNil) := by
  obtain ⟨fd, F, b⟩ := c.fn
  exact pe_make0 M F hr hg hm b .nil passL hdb
end
/-! ### what a closer knows -/
theorem sl_of {σ : List (Option V)} {i : Nat} {v : V} (h : σ[i]? = some (some v)) : σ[i]? = some (some v) := h
theorem veq_of {x y : V} (h : x = y) : x = y := h
theorem lsq_of {x y : List V} (h : x = y) : x = y := h
theorem sc_of {x y : V} (h : scal x y = true) : scal x y = true := h
theorem lk_of {fs : List (Str × V)} {f : Str} {v : V} (h : fs.lookup f = some v) : fs.lookup f = some v := h
theorem lkn_of {fs : List (Str × V)} {f : Str} (h : fs.lookup f = none) : fs.lookup f = none := h
theorem lt_of {fs : List (Str × V)} (h : fs.length < 1000) : fs.length < 1000 := h
theorem hp_of {H : Hp} {a : Addr} {o : HO} (h : H a = some o) : H a = some o := h
theorem cd_of {i j : Int} (h : 0 < j ∧ j < 1073741824) : CDiv i j := h
theorem cm_l {i j : Int} (h : -(2 ^ 64) < i ∧ i < 2 ^ 64) : CMul i j := .inl h
theorem cm_r {i j : Int} (h : -(2 ^ 64) < j ∧ j < 2 ^ 64) : CMul i j := .inr h
theorem sz_le {n : Nat} (h : n ≤ 100000) : n ≤ sizeLine := Nat.le_trans h (by decide)
theorem sz_lt {n : Nat} (h : n < 100000) : n < sizeLine := Nat.lt_of_lt_of_le h (by decide)
/-! ### tests -/
theorem if_d {p A B : Prop} [Decidable p] (h1 : p → A) (h2 : ¬ p → B) : if decide p = true then A else B := by
  by_cases h : p
  · rw [if_pos (decide_eq_true h)]; exact h1 h
  · rw [if_neg (by rw [decide_eq_false h]; exact Bool.false_ne_true)]; exact h2 h
theorem if_nd {p A B : Prop} [Decidable p] (h1 : ¬ p → A) (h2 : p → B) : if (!decide p) = true then A else B := by
  by_cases h : p
  · rw [decide_eq_true h, if_neg (by decide)]; exact h2 h
  · rw [decide_eq_false h, if_pos (by decide)]; exact h1 h
theorem if_ii {a b : Int} {A B : Prop} (h1 : a = b → A) (h2 : ¬ a = b → B) : if decide (V.int a = V.int b) = true then A else B :=
  if_d (fun h => h1 (V.int.inj h)) fun h => h2 fun e => h (by rw [e])
theorem if_nii {a b : Int} {A B : Prop} (h1 : ¬ a = b → A) (h2 : a = b → B) : if (!decide (V.int a = V.int b)) = true then A else B :=
  if_nd (fun h => h1 fun e => h (by rw [e])) fun h => h2 (V.int.inj h)
theorem if_ss {a b : Str} {A B : Prop} (h1 : a = b → A) (h2 : ¬ a = b → B) : if decide (V.str a = V.str b) = true then A else B :=
  if_d (fun h => h1 (V.str.inj h)) fun h => h2 fun e => h (by rw [e])
theorem if_nss {a b : Str} {A B : Prop} (h1 : ¬ a = b → A) (h2 : a = b → B) : if (!decide (V.str a = V.str b)) = true then A else B :=
  if_nd (fun h => h1 fun e => h (by rw [e])) fun h => h2 (V.str.inj h)
theorem if_b {b : Bool} {A B : Prop} (h1 : b = true → A) (h2 : b = false → B) : if b = true then A else B := by
  cases b with
  | true => exact h1 rfl
  | false => exact h2 rfl
theorem if_nb {b : Bool} {A B : Prop} (h1 : b = false → A) (h2 : b = true → B) : if (!b) = true then A else B := by
  cases b with
  | true => exact h2 rfl
  | false => exact h1 rfl
theorem kt_int_int {K : PySem.W.Frag} : PySem.W.kitOne K (.type "int") (.type "int") = some true := kit_ty (by decide +kernel)
theorem kt_int_bool {K : PySem.W.Frag} : PySem.W.kitOne K (.type "int") (.type "bool") = some false := kit_ty (by decide +kernel)
theorem kt_int_str {K : PySem.W.Frag} : PySem.W.kitOne K (.type "int") (.type "str") = some false := kit_ty (by decide +kernel)
theorem kt_int_list {K : PySem.W.Frag} : PySem.W.kitOne K (.type "int") (.type "list") = some false := kit_ty (by decide +kernel)
theorem kt_int_tuple {K : PySem.W.Frag} : PySem.W.kitOne K (.type "int") (.type "tuple") = some false := kit_ty (by decide +kernel)
theorem kt_int_dict {K : PySem.W.Frag} : PySem.W.kitOne K (.type "int") (.type "dict") = some false := kit_ty (by decide +kernel)
theorem kt_bool_int {K : PySem.W.Frag} : PySem.W.kitOne K (.type "bool") (.type "int") = some true := kit_ty (by decide +kernel)
theorem kt_bool_bool {K : PySem.W.Frag} : PySem.W.kitOne K (.type "bool") (.type "bool") = some true := kit_ty (by decide +kernel)
theorem kt_bool_str {K : PySem.W.Frag} : PySem.W.kitOne K (.type "bool") (.type "str") = some false := kit_ty (by decide +kernel)
theorem kt_bool_list {K : PySem.W.Frag} : PySem.W.kitOne K (.type "bool") (.type "list") = some false := kit_ty (by decide +kernel)
theorem kt_bool_tuple {K : PySem.W.Frag} : PySem.W.kitOne K (.type "bool") (.type "tuple") = some false := kit_ty (by decide +kernel)
theorem kt_bool_dict {K : PySem.W.Frag} : PySem.W.kitOne K (.type "bool") (.type "dict") = some false := kit_ty (by decide +kernel)
theorem kt_str_int {K : PySem.W.Frag} : PySem.W.kitOne K (.type "str") (.type "int") = some false := kit_ty (by decide +kernel)
theorem kt_str_bool {K : PySem.W.Frag} : PySem.W.kitOne K (.type "str") (.type "bool") = some false := kit_ty (by decide +kernel)
theorem kt_str_str {K : PySem.W.Frag} : PySem.W.kitOne K (.type "str") (.type "str") = some true := kit_ty (by decide +kernel)
theorem kt_str_list {K : PySem.W.Frag} : PySem.W.kitOne K (.type "str") (.type "list") = some false := kit_ty (by decide +kernel)
theorem kt_str_tuple {K : PySem.W.Frag} : PySem.W.kitOne K (.type "str") (.type "tuple") = some false := kit_ty (by decide +kernel)
theorem kt_str_dict {K : PySem.W.Frag} : PySem.W.kitOne K (.type "str") (.type "dict") = some false := kit_ty (by decide +kernel)
theorem kt_list_int {K : PySem.W.Frag} : PySem.W.kitOne K (.type "list") (.type "int") = some false := kit_ty (by decide +kernel)
theorem kt_list_bool {K : PySem.W.Frag} : PySem.W.kitOne K (.type "list") (.type "bool") = some false := kit_ty (by decide +kernel)
theorem kt_list_str {K : PySem.W.Frag} : PySem.W.kitOne K (.type "list") (.type "str") = some false := kit_ty (by decide +kernel)
theorem kt_list_list {K : PySem.W.Frag} : PySem.W.kitOne K (.type "list") (.type "list") = some true := kit_ty (by decide +kernel)
theorem kt_list_tuple {K : PySem.W.Frag} : PySem.W.kitOne K (.type "list") (.type "tuple") = some false := kit_ty (by decide +kernel)
theorem kt_list_dict {K : PySem.W.Frag} : PySem.W.kitOne K (.type "list") (.type "dict") = some false := kit_ty (by decide +kernel)
theorem kt_tuple_int {K : PySem.W.Frag} : PySem.W.kitOne K (.type "tuple") (.type "int") = some false := kit_ty (by decide +kernel)
theorem kt_tuple_bool {K : PySem.W.Frag} : PySem.W.kitOne K (.type "tuple") (.type "bool") = some false := kit_ty (by decide +kernel)
theorem kt_tuple_str {K : PySem.W.Frag} : PySem.W.kitOne K (.type "tuple") (.type "str") = some false := kit_ty (by decide +kernel)
theorem kt_tuple_list {K : PySem.W.Frag} : PySem.W.kitOne K (.type "tuple") (.type "list") = some false := kit_ty (by decide +kernel)
theorem kt_tuple_tuple {K : PySem.W.Frag} : PySem.W.kitOne K (.type "tuple") (.type "tuple") = some true := kit_ty (by decide +kernel)
theorem kt_tuple_dict {K : PySem.W.Frag} : PySem.W.kitOne K (.type "tuple") (.type "dict") = some false := kit_ty (by decide +kernel)
theorem kt_dict_int {K : PySem.W.Frag} : PySem.W.kitOne K (.type "dict") (.type "int") = some false := kit_ty (by decide +kernel)
theorem kt_dict_bool {K : PySem.W.Frag} : PySem.W.kitOne K (.type "dict") (.type "bool") = some false := kit_ty (by decide +kernel)
theorem kt_dict_str {K : PySem.W.Frag} : PySem.W.kitOne K (.type "dict") (.type "str") = some false := kit_ty (by decide +kernel)
theorem kt_dict_list {K : PySem.W.Frag} : PySem.W.kitOne K (.type "dict") (.type "list") = some false := kit_ty (by decide +kernel)
theorem kt_dict_tuple {K : PySem.W.Frag} : PySem.W.kitOne K (.type "dict") (.type "tuple") = some false := kit_ty (by decide +kernel)
theorem kt_dict_dict {K : PySem.W.Frag} : PySem.W.kitOne K (.type "dict") (.type "dict") = some true := kit_ty (by decide +kernel)
theorem kt_NoneType_int {K : PySem.W.Frag} : PySem.W.kitOne K (.type "NoneType") (.type "int") = some false := kit_ty (by decide +kernel)
theorem kt_NoneType_bool {K : PySem.W.Frag} : PySem.W.kitOne K (.type "NoneType") (.type "bool") = some false := kit_ty (by decide +kernel)
theorem kt_NoneType_str {K : PySem.W.Frag} : PySem.W.kitOne K (.type "NoneType") (.type "str") = some false := kit_ty (by decide +kernel)
theorem kt_NoneType_list {K : PySem.W.Frag} : PySem.W.kitOne K (.type "NoneType") (.type "list") = some false := kit_ty (by decide +kernel)
theorem kt_NoneType_tuple {K : PySem.W.Frag} : PySem.W.kitOne K (.type "NoneType") (.type "tuple") = some false := kit_ty (by decide +kernel)
theorem kt_NoneType_dict {K : PySem.W.Frag} : PySem.W.kitOne K (.type "NoneType") (.type "dict") = some false := kit_ty (by decide +kernel)
end Ow
namespace Ow
open PySem PySem.Spec PyProof.Rows L2
def XcIn (K : PySem.W.Frag) (C : Addr) : Prop := PySem.W.excIn K C He.veBase "ValueError.__new__" = true ∧ PySem.W.keepIn K (.ref C) = true ∧ PySem.W.subIn K (.ref C) (.type "BaseException") = some true ∧ PySem.W.typeIn K (.ref C) = some (.type "type")
theorem gI {mg : Str → Option Value} {x : Str} {i : Int} (h : ∃ t, mg x = some (.int i t)) : ∃ u, mg x = some u ∧ RelV (.int i) u := let ⟨t, e⟩ := h; ⟨_, e, t, rfl⟩
theorem gS {mg : Str → Option Value} {x z : Str} (h : ∃ t, mg x = some (.str z t)) : ∃ u, mg x = some u ∧ RelV (.str z) u := let ⟨t, e⟩ := h; ⟨_, e, t, rfl⟩
/-! ### promises by the number of arguments -/
def sp0 (f : Hp → VK → XK → Prop) : Sp := fun vs H Q E => vs = [] ∧ f H Q E
def sp1 (f : V → Hp → VK → XK → Prop) : Sp := fun vs H Q E => ∃ a, vs = [a] ∧ f a H Q E
def sp2 (f : V → V → Hp → VK → XK → Prop) : Sp := fun vs H Q E => ∃ a b, vs = [a, b] ∧ f a b H Q E
def sp3 (f : V → V → V → Hp → VK → XK → Prop) : Sp := fun vs H Q E => ∃ a b c, vs = [a, b, c] ∧ f a b c H Q E
def sp4 (f : V → V → V → V → Hp → VK → XK → Prop) : Sp := fun vs H Q E => ∃ a b c d, vs = [a, b, c, d] ∧ f a b c d H Q E
def sp5 (f : V → V → V → V → V → Hp → VK → XK → Prop) : Sp := fun vs H Q E => ∃ a b c d e, vs = [a, b, c, d, e] ∧ f a b c d e H Q E
section
variable {vs : List V} {H : Hp} {Q : VK} {E : XK} {a b c d e : V}
theorem sp0_len {f} (h : sp0 f vs H Q E) : vs.length = 0 := by obtain ⟨rfl, _⟩ := h; rfl
theorem sp1_len {f} (h : sp1 f vs H Q E) : vs.length = 1 := by obtain ⟨_, rfl, _⟩ := h; rfl
theorem sp2_len {f} (h : sp2 f vs H Q E) : vs.length = 2 := by obtain ⟨_, _, rfl, _⟩ := h; rfl
theorem sp3_len {f} (h : sp3 f vs H Q E) : vs.length = 3 := by obtain ⟨_, _, _, rfl, _⟩ := h; rfl
theorem sp4_len {f} (h : sp4 f vs H Q E) : vs.length = 4 := by obtain ⟨_, _, _, _, rfl, _⟩ := h; rfl
theorem sp5_len {f} (h : sp5 f vs H Q E) : vs.length = 5 := by obtain ⟨_, _, _, _, _, rfl, _⟩ := h; rfl
theorem ask0 {f} (h : f H Q E) : Box (sp0 f [] H Q E) := ⟨rfl, h⟩
theorem ask1 {f} (h : f a H Q E) : Box (sp1 f [a] H Q E) := ⟨_, rfl, h⟩
theorem ask2 {f} (h : f a b H Q E) : Box (sp2 f [a, b] H Q E) := ⟨_, _, rfl, h⟩
theorem ask3 {f} (h : f a b c H Q E) : Box (sp3 f [a, b, c] H Q E) := ⟨_, _, _, rfl, h⟩
theorem ask4 {f} (h : f a b c d H Q E) : Box (sp4 f [a, b, c, d] H Q E) := ⟨_, _, _, _, rfl, h⟩
theorem ask5 {f} (h : f a b c d e H Q E) : Box (sp5 f [a, b, c, d, e] H Q E) := ⟨_, _, _, _, _, rfl, h⟩
end
end Ow
namespace Ow
open PySem PySem.Spec PyProof.Rows L2
theorem pe_gc {X : Cx} {x : Str} {pos : Pos} {v : V} (hg : Gl X x) (hm : ∃ u, X.mg x = some u ∧ RelV v u) (hd : (x == ("__debug__" : Str)) = false := by decide) : PE X (.Name x pos) (tC v) :=
  let ⟨_, e, r⟩ := hm
  pe_glob hg e r hd
end Ow
namespace Ow
open PySem PySem.Spec PyProof.Rows L2
section
variable {H0 H : Hp} {A : List Addr} {cs : Cells} {x dx C : Addr}
/-- a new instance -/
theorem Own.inst (O : Own H0 H A cs) (h1 : H x = none) (h2 : H dx = none) (ne : dx ≠ x) : Own H0 (upd (upd H dx (.own x)) x (.ins C dx [])) A ((x, .ins C dx []) :: cs) :=
  ((O.new (o := .own x) h2).new (o := .ins C dx []) (p := x) (by rw [upd_ne ne.symm]; exact h1)).drop (List.Sublist.cons₂ _ (List.Sublist.cons _ (List.Sublist.refl _)))
theorem Own.last {c : Addr × HO} (O : Own H0 H A (c :: cs)) : Own H0 H A (cs ++ [c]) := O.perm (List.perm_append_singleton c cs).symm
theorem Own.eq {cs' : Cells} (O : Own H0 H A cs) (e : cs = cs') : Own H0 H A cs' := e ▸ O
theorem Own.adr {A' : List Addr} (O : Own H0 H A cs) (e : A = A') : Own H0 H A' cs := e ▸ O
end
/-! ### loops -/
section
variable {K : PySem.W.Frag} {a : Addr} {xs : List V} {g : TG} {tb : TS} {D : Ends} {σ : L2.St} {H : Hp}
theorem forL (Pv : Nat → L2.St → Hp → Prop) (h0 : Pv 0 σ H) (hl : ∀ i σ H, i ≤ xs.length → Pv i σ H → SqL K H a xs)
    (hs : ∀ i x σ H, xs[i]? = some x → Pv i σ H → g x σ H fun σ2 H2 => tb { D with nx := fun σ H => Box (Pv (i + 1) σ H), ct := fun σ H => Box (Pv (i + 1) σ H), bk := D.nx } σ2 H2) (hd : ∀ σ H, Pv xs.length σ H → D.nx σ H) :
    Box (∃ W : Nat → Nat → L2.St → Hp → Prop, (∃ m, W 0 m σ H) ∧ ∀ i m σ H, W i m σ H →
      ((Itl K a).stop i H ∧ D.nx σ H) ∨ ((Itl K a).go i H ∧ ∃ N : L2.St → Hp → Prop, (∀ σ' H', N σ' H' → ∃ m', m' < m ∧ W (i + 1) m' σ' H') ∧ ∀ x H', (Itl K a).yld i H x H' → g x σ H' fun σ2 H2 => tb { D with nx := N, ct := N, bk := D.nx } σ2 H2)) :=
  ⟨for_list (fun i σ H => Box (Pv i σ H)) ⟨h0⟩ (fun i σ H hi p => hl i σ H hi p.out) (fun i x σ H hx p => hs i x σ H hx p.out) (fun σ H p => hd σ H p.out)⟩
theorem forT (Pv : Nat → L2.St → Hp → Prop) (h0 : Pv 0 σ H) (hl : ∀ i σ H, i ≤ xs.length → Pv i σ H → SqT K H a xs)
    (hs : ∀ i x σ H, xs[i]? = some x → Pv i σ H → g x σ H fun σ2 H2 => tb { D with nx := fun σ H => Box (Pv (i + 1) σ H), ct := fun σ H => Box (Pv (i + 1) σ H), bk := D.nx } σ2 H2) (hd : ∀ σ H, Pv xs.length σ H → D.nx σ H) :
    Box (∃ W : Nat → Nat → L2.St → Hp → Prop, (∃ m, W 0 m σ H) ∧ ∀ i m σ H, W i m σ H →
      ((Itt K a).stop i H ∧ D.nx σ H) ∨ ((Itt K a).go i H ∧ ∃ N : L2.St → Hp → Prop, (∀ σ' H', N σ' H' → ∃ m', m' < m ∧ W (i + 1) m' σ' H') ∧ ∀ x H', (Itt K a).yld i H x H' → g x σ H' fun σ2 H2 => tb { D with nx := N, ct := N, bk := D.nx } σ2 H2)) :=
  ⟨for_tup (fun i σ H => Box (Pv i σ H)) ⟨h0⟩ (fun i σ H hi p => hl i σ H hi p.out) (fun i x σ H hx p => hs i x σ H hx p.out) (fun σ H p => hd σ H p.out)⟩
theorem forR {lo : Int} {n : Nat} (Pv : Nat → L2.St → Hp → Prop) (h0 : Pv 0 σ H)
    (hs : ∀ i σ H, i < n → Pv i σ H → g (.int (lo + i)) σ H fun σ2 H2 => tb { D with nx := fun σ H => Box (Pv (i + 1) σ H), ct := fun σ H => Box (Pv (i + 1) σ H), bk := D.nx } σ2 H2) (hd : ∀ σ H, Pv n σ H → D.nx σ H) :
    Box (∃ W : Nat → Nat → L2.St → Hp → Prop, (∃ m, W 0 m σ H) ∧ ∀ i m σ H, W i m σ H →
      ((Itr lo n).stop i H ∧ D.nx σ H) ∨ ((Itr lo n).go i H ∧ ∃ N : L2.St → Hp → Prop, (∀ σ' H', N σ' H' → ∃ m', m' < m ∧ W (i + 1) m' σ' H') ∧ ∀ x H', (Itr lo n).yld i H x H' → g x σ H' fun σ2 H2 => tb { D with nx := N, ct := N, bk := D.nx } σ2 H2)) :=
  ⟨for_range (fun i σ H => Box (Pv i σ H)) ⟨h0⟩ (fun i σ H hi p => hs i σ H hi p.out) (fun σ H p => hd σ H p.out)⟩
theorem forC {lo c : Int} {n : Nat} (Pv : Nat → L2.St → Hp → Prop) (h0 : Pv 0 σ H)
    (hs : ∀ i σ H, i < n → Pv i σ H → g (.int (lo + (i : Nat) * c)) σ H fun σ2 H2 => tb { D with nx := fun σ H => Box (Pv (i + 1) σ H), ct := fun σ H => Box (Pv (i + 1) σ H), bk := D.nx } σ2 H2) (hd : ∀ σ H, Pv n σ H → D.nx σ H) :
    Box (∃ W : Nat → Nat → L2.St → Hp → Prop, (∃ m, W 0 m σ H) ∧ ∀ i m σ H, W i m σ H →
      ((Itc lo c n).stop i H ∧ D.nx σ H) ∨ ((Itc lo c n).go i H ∧ ∃ N : L2.St → Hp → Prop, (∀ σ' H', N σ' H' → ∃ m', m' < m ∧ W (i + 1) m' σ' H') ∧ ∀ x H', (Itc lo c n).yld i H x H' → g x σ H' fun σ2 H2 => tb { D with nx := N, ct := N, bk := D.nx } σ2 H2)) :=
  ⟨for_rangeC (fun i σ H => Box (Pv i σ H)) ⟨h0⟩ (fun i σ H hi p => hs i σ H hi p.out) (fun σ H p => hd σ H p.out)⟩
/-- a while, by a word with its measure -/
theorem whI {c : TT} (W : Nat → L2.St → Hp → Prop) (m0 : Nat) (h0 : W m0 σ H) (hs : ∀ m σ H, W m σ H → c σ H fun b H1 => if b = true then ∃ N : L2.St → Hp → Prop, (∀ σ' H', N σ' H' → ∃ m', m' < m ∧ W m' σ' H') ∧ tb { D with nx := N, ct := N, bk := D.nx } σ H1 else D.nx σ H1) :
    Box (tWhile c tb D σ H) := ⟨W, ⟨m0, h0⟩, hs⟩
theorem whN {W : Nat → L2.St → Hp → Prop} {m : Nat} (h : tb { D with nx := fun σ' H' => Box (∃ m', m' < m ∧ W m' σ' H'), ct := fun σ' H' => Box (∃ m', m' < m ∧ W m' σ' H'), bk := D.nx } σ H) :
    ∃ N : L2.St → Hp → Prop, (∀ σ' H', N σ' H' → ∃ m', m' < m ∧ W m' σ' H') ∧ tb { D with nx := N, ct := N, bk := D.nx } σ H := ⟨_, fun _ _ h => h.out, h⟩
end
end Ow
namespace Ow
open PySem PySem.Spec PyProof.Rows L2
theorem if_t {b : Bool} {A B : Prop} (h : b = true) (k : A) : if b = true then A else B := by rw [if_pos h]; exact k
theorem if_f {b : Bool} {A B : Prop} (h : b = false) (k : B) : if b = true then A else B := by rw [if_neg (by rw [h]; exact Bool.false_ne_true)]; exact k
end Ow
namespace Ow
open PySem PySem.Spec PyProof.Rows L2
theorem dget_v {H : Hp} {a : Addr} {kvs : List (Key × V)} {k : Key} {v : V} (h : H a = some (.dK kvs)) (e : valV kvs k = some v) : DGet H a (kV k) (some v) := e ▸ DGet.k h
end Ow
namespace Ow
open PySem PySem.Spec PyProof.Rows L2
theorem kl {i : Int} : V.int i = kV (Sum.inl i) := rfl
theorem kr {z : Str} : V.str z = kV (Sum.inr z) := rfl
end Ow
namespace Ow
open PySem PySem.Spec PyProof.Rows L2
/-! ### lists of whole numbers, compared -/
section
variable {K : PySem.W.Frag} {H : Hp} {a b : Addr}
theorem dpa_ints : ∀ ns : List Int, DpAll K H (ns.map V.int) (ns.map PyData.int)
  | [] => .nil
  | n :: r => .cons (.int n) (dpa_ints r)
theorem dp_ints {ns : List Int} (h : H a = some (.lst (ns.map V.int))) : Dp K H (.ref a) (.list (ns.map PyData.int)) := .lst (SqL.of h) (dpa_ints ns)
theorem depth_ints : ∀ ns : List Int, PyData.depthAll (ns.map PyData.int) ≤ 1
  | [] => by simp [PyData.depthAll]
  | n :: r => by
    have := depth_ints r
    simp only [List.map_cons, PyData.depthAll, PyData.depth]
    omega
theorem lay_ints : ∀ ns : List Int, PyData.canLayAll0 (ns.map PyData.int) = true
  | [] => by simp [PyData.canLayAll0]
  | n :: r => by simp [PyData.canLayAll0, PyData.canLay0, lay_ints r]
theorem sh_ints (ns : List Int) : SeqAt.shaped (.list (ns.map PyData.int)) = true := by
  have h1 := depth_ints ns
  have h2 : PyData.depth (.list (ns.map PyData.int)) ≤ 64 := by
    simp only [PyData.depth]
    omega
  show (PyData.canLay0 (.list (ns.map PyData.int)) && decide (PyData.depth (.list (ns.map PyData.int)) ≤ 64)) = true
  rw [Bool.and_eq_true]
  exact ⟨by simp only [PyData.canLay0]; exact lay_ints ns, decide_eq_true h2⟩
theorem dist_ints : ∀ ns ms : List Int, PyData.eqvAll (ns.map PyData.int) (ms.map PyData.int) = decide (ns = ms)
  | [], [] => rfl
  | [], _ :: _ => rfl
  | _ :: _, [] => rfl
  | n :: r, m :: q => by
    rw [List.map_cons, List.map_cons, PyData.eqvAll, dist_ints r q]
    show ((n == m) && _) = _
    by_cases h : n = m
    · subst h; simp
    · rw [decide_eq_false (fun e => h (List.cons.inj e).1)]; simp [h]
theorem eqv_ints (ns ms : List Int) : PyData.eqv (.list (ns.map PyData.int)) (.list (ms.map PyData.int)) = decide (ns = ms) := dist_ints ns ms
/-- two rows of whole numbers, compared -/
theorem eq_ints {ns ms : List Int} {Q : VK} (ha : H a = some (.lst (ns.map V.int))) (hb : H b = some (.lst (ms.map V.int))) (k : Q (.bl (decide (ns = ms))) H) : rEqD K (.ref a) (.ref b) H Q :=
  ⟨_, _, dp_ints ha, dp_ints hb, sh_ints ns, sh_ints ms, by rw [eqv_ints]; exact k⟩
theorem ne_ints {ns ms : List Int} {Q : VK} (ha : H a = some (.lst (ns.map V.int))) (hb : H b = some (.lst (ms.map V.int))) (k : Q (.bl (!decide (ns = ms))) H) : rNeD K (.ref a) (.ref b) H Q :=
  ⟨_, _, dp_ints ha, dp_ints hb, sh_ints ns, sh_ints ms, by rw [eqv_ints]; exact k⟩
end
end Ow
namespace Ow
open PySem PySem.Spec PyProof.Rows L2
/-! ### the closers' own lemmas: head first -/
section
variable {K : PySem.W.Frag} {H0 H : Hp} {A : List Addr} {cs cs' : Cells} {a p : Addr} {o o' : HO} {xs : List V}
theorem Own.wr2 (O : Own H0 H A cs) (h : At cs a o o' cs') (n : isTup o = false) : Own H0 (upd H a o') A cs' := O.wr h n
theorem col_ex (h : H a = some (.lst xs)) : ∃ xs, SqL K H a xs := ⟨_, SqL.of h⟩
theorem col_ol {p : Prop} (h : H a = some (.lst xs)) : SqL K H a xs ∨ p := .inl (SqL.of h)
theorem col_or {p : Prop} (h : H a = some (.tup xs)) : p ∨ SqT K H a xs := .inr (SqT.of h)
theorem dget_ii {kvs : List (Key × V)} {i : Int} {v : V} (h : H a = some (.dK kvs)) (e : valV kvs (Sum.inl i) = some v) : DGet H a (.int i) (some v) := dget_v (k := Sum.inl i) h e
theorem dget_is {kvs : List (Key × V)} {i : Str} {v : V} (h : H a = some (.dK kvs)) (e : valV kvs (Sum.inr i) = some v) : DGet H a (.str i) (some v) := dget_v (k := Sum.inr i) h e
theorem dget_i {kvs : List (Key × V)} {i : Int} (h : H a = some (.dK kvs)) : DGet H a (.int i) (valV kvs (Sum.inl i)) := DGet.k (k := Sum.inl i) h
theorem dget_s {kvs : List (Key × V)} {i : Str} (h : H a = some (.dK kvs)) : DGet H a (.str i) (valV kvs (Sum.inr i)) := DGet.k (k := Sum.inr i) h
theorem dput_i {kvs : List (Key × V)} {i : Int} {v : V} (h : H a = some (.dK kvs)) (hl : kvs.length < 100000) : DPut H a (.int i) v (upd H a (.dK (putK kvs (Sum.inl i) v))) := DPut.k (k := Sum.inl i) h (sz_lt hl)
theorem dput_s {kvs : List (Key × V)} {i : Str} {v : V} (h : H a = some (.dK kvs)) (hl : kvs.length < 100000) : DPut H a (.str i) v (upd H a (.dK (putK kvs (Sum.inr i) v))) := DPut.k (k := Sum.inr i) h (sz_lt hl)
theorem isd_k {kvs : List (Key × V)} (h : H a = some (.dK kvs)) : IsD H a := Or.inl ⟨_, Or.inl h⟩
theorem wp_of {x y : List (Option V)} (h : x = y) : x = y := h
theorem ln_of {x y : Nat} (h : x = y) : x = y := h
theorem pos_of {m : Int} (h : 0 < m) : 0 < m := h
end
end Ow
namespace Ow
open PySem PySem.Spec PyProof.Rows L2
/-! ### items -/
theorem at_int {α : Type} {xs : List α} {n : Int} (h0 : 0 ≤ n) (h1 : n < (xs.length : Int)) : ∃ y, xs[n.toNat]? = some y ∧ atI xs n = some y := by
  have hj : n.toNat < xs.length := by omega
  refine ⟨xs[n.toNat], List.getElem?_eq_getElem hj, ?_⟩
  have := atI_nat (List.getElem?_eq_getElem hj)
  rwa [Int.toNat_of_nonneg h0] at this
theorem map_get {l : List Int} {i : Nat} {x : V} (h : (l.map V.int)[i]? = some x) : ∃ y, l[i]? = some y ∧ x = V.int y := by
  rw [List.getElem?_map] at h
  cases e : l[i]? with
  | none => rw [e] at h; cases h
  | some y => rw [e] at h; exact ⟨y, rfl, (Option.some.inj h).symm⟩
theorem at_ints {ns : List Int} {n : Int} (h0 : 0 ≤ n) (h1 : n < ((ns.map V.int).length : Int)) : ∃ y, ns[n.toNat]? = some y ∧ atI (ns.map V.int) n = some (V.int y) := by
  obtain ⟨y, h2, h3⟩ := at_int h0 h1
  obtain ⟨z, h4, rfl⟩ := map_get h2
  exact ⟨z, h4, h3⟩
end Ow
namespace Ow
open PySem PySem.Spec PyProof.Rows L2
theorem Own.fr0 {H0 H : Hp} {cs : Cells} {b : Addr} {o : HO} (O : Own H0 H [] cs) (h : H0 b = some o) : H b = some o := O.fr b o h (by simp)
/-! ### comprehensions -/
section
variable {K : PySem.W.Frag} {a : Addr} {xs : List V} {g : TG} {tt : TT} {te : TE} {vs : List Nat} {σ : L2.St} {H1 : Hp} {Q : Addr → Hp → Prop} {lo : Int} {n : Nat}
theorem lcR (Pv : Addr → Nat → Hp → Prop) (h0 : ∀ D, H1 D = none → Pv D 0 (upd H1 D (.lst [])))
    (hs : ∀ D i H, i < n → Pv D i H → g (.int (lo + i)) (wipe σ vs) H fun σ2 H2 => wipe σ2 vs = wipe σ vs ∧ tt σ2 H2 fun b H3 =>
      if b = true then te σ2 H3 fun y H4 => ∃ acc, H4 D = some (.lst acc) ∧ acc.length < sizeLine ∧ Box (Pv D (i + 1) (upd H4 D (.lst (acc ++ [y])))) else Box (Pv D (i + 1) H3)) (hd : ∀ D H, Pv D n H → Q D H) :
    Box (∀ D, H1 D = none → ∃ W : Nat → Nat → Hp → Prop, (∃ m, W 0 m (upd H1 D (.lst []))) ∧ ∀ i m H, W i m H →
      ((Itr lo n).stop i H ∧ Q D H) ∨ ((Itr lo n).go i H ∧ ∃ Nx : Hp → Prop, (∀ H', Nx H' → ∃ m', m' < m ∧ W (i + 1) m' H') ∧ ∀ x H', (Itr lo n).yld i H x H' → g x (wipe σ vs) H' fun σ2 H2 => wipe σ2 vs = wipe σ vs ∧ tt σ2 H2 fun b H3 =>
        if b = true then te σ2 H3 fun y H4 => ∃ acc, H4 D = some (.lst acc) ∧ acc.length < sizeLine ∧ Nx (upd H4 D (.lst (acc ++ [y]))) else Nx H3)) :=
  ⟨fun D hD => lc_range (fun i H => Box (Pv D i H)) ⟨h0 D hD⟩ (fun i H hi p => hs D i H hi p.out) (fun H p => hd D H p.out)⟩
theorem lcL (Pv : Addr → Nat → Hp → Prop) (h0 : ∀ D, H1 D = none → Pv D 0 (upd H1 D (.lst []))) (hl : ∀ D i H, i ≤ xs.length → Pv D i H → SqL K H a xs)
    (hs : ∀ D i x H, xs[i]? = some x → Pv D i H → g x (wipe σ vs) H fun σ2 H2 => wipe σ2 vs = wipe σ vs ∧ tt σ2 H2 fun b H3 =>
      if b = true then te σ2 H3 fun y H4 => ∃ acc, H4 D = some (.lst acc) ∧ acc.length < sizeLine ∧ Box (Pv D (i + 1) (upd H4 D (.lst (acc ++ [y])))) else Box (Pv D (i + 1) H3)) (hd : ∀ D H, Pv D xs.length H → Q D H) :
    Box (∀ D, H1 D = none → ∃ W : Nat → Nat → Hp → Prop, (∃ m, W 0 m (upd H1 D (.lst []))) ∧ ∀ i m H, W i m H →
      ((Itl K a).stop i H ∧ Q D H) ∨ ((Itl K a).go i H ∧ ∃ Nx : Hp → Prop, (∀ H', Nx H' → ∃ m', m' < m ∧ W (i + 1) m' H') ∧ ∀ x H', (Itl K a).yld i H x H' → g x (wipe σ vs) H' fun σ2 H2 => wipe σ2 vs = wipe σ vs ∧ tt σ2 H2 fun b H3 =>
        if b = true then te σ2 H3 fun y H4 => ∃ acc, H4 D = some (.lst acc) ∧ acc.length < sizeLine ∧ Nx (upd H4 D (.lst (acc ++ [y]))) else Nx H3)) :=
  ⟨fun D hD => lc_list (fun i H => Box (Pv D i H)) ⟨h0 D hD⟩ (fun i H hi p => hl D i H hi p.out) (fun i x H hx p => hs D i x H hx p.out) (fun H p => hd D H p.out)⟩
theorem lcT (Pv : Addr → Nat → Hp → Prop) (h0 : ∀ D, H1 D = none → Pv D 0 (upd H1 D (.lst []))) (hl : ∀ D i H, i ≤ xs.length → Pv D i H → SqT K H a xs)
    (hs : ∀ D i x H, xs[i]? = some x → Pv D i H → g x (wipe σ vs) H fun σ2 H2 => wipe σ2 vs = wipe σ vs ∧ tt σ2 H2 fun b H3 =>
      if b = true then te σ2 H3 fun y H4 => ∃ acc, H4 D = some (.lst acc) ∧ acc.length < sizeLine ∧ Box (Pv D (i + 1) (upd H4 D (.lst (acc ++ [y])))) else Box (Pv D (i + 1) H3)) (hd : ∀ D H, Pv D xs.length H → Q D H) :
    Box (∀ D, H1 D = none → ∃ W : Nat → Nat → Hp → Prop, (∃ m, W 0 m (upd H1 D (.lst []))) ∧ ∀ i m H, W i m H →
      ((Itt K a).stop i H ∧ Q D H) ∨ ((Itt K a).go i H ∧ ∃ Nx : Hp → Prop, (∀ H', Nx H' → ∃ m', m' < m ∧ W (i + 1) m' H') ∧ ∀ x H', (Itt K a).yld i H x H' → g x (wipe σ vs) H' fun σ2 H2 => wipe σ2 vs = wipe σ vs ∧ tt σ2 H2 fun b H3 =>
        if b = true then te σ2 H3 fun y H4 => ∃ acc, H4 D = some (.lst acc) ∧ acc.length < sizeLine ∧ Nx (upd H4 D (.lst (acc ++ [y]))) else Nx H3)) :=
  ⟨fun D hD => lc_tup (fun i H => Box (Pv D i H)) ⟨h0 D hD⟩ (fun i H hi p => hl D i H hi p.out) (fun i x H hx p => hs D i x H hx p.out) (fun H p => hd D H p.out)⟩
end
end Ow
namespace Ow
open PySem PySem.Spec PyProof.Rows L2
theorem cutV_sub (xs : List V) (lo hi : Option Int) {x : V} (h : x ∈ cutV xs lo hi) : x ∈ xs := List.mem_of_mem_drop (List.mem_of_mem_take h)
theorem cut_ints {xs : List Int} {lo hi : Option Int} {i : Nat} {x : V} (h : (cutV (xs.map V.int) lo hi)[i]? = some x) : ∃ y, x = V.int y := by
  obtain ⟨y, _, e⟩ := List.mem_map.mp (cutV_sub _ _ _ (List.mem_of_getElem? h))
  exact ⟨y, e.symm⟩
theorem cutV_take (xs : List V) (n : Nat) : (cutV xs none (some (n : Int))).length ≤ n := by
  unfold cutV
  rw [List.length_take]
  have : HT.sIx xs.length xs.length (some (n : Int)) ≤ n := by
    rw [HT.sIx_nat]
    omega
  omega
end Ow
namespace Ow
open PySem PySem.Spec PyProof.Rows L2
/-! ### where two ways meet -/
theorem cutT {c : TT} {σ : L2.St} {H : Hp} {post : Bool → Hp → Prop} (R : Bool → Hp → Prop) (h : ∀ post' : Bool → Hp → Prop, (∀ b H', R b H' → post' b H') → c σ H post') (k : ∀ b H', R b H' → post b H') : c σ H post := h post k
theorem cutI {c : TT} {a b : TS} {D : Ends} {σ : L2.St} {H : Hp} (R : Bool → Hp → Prop) (h : ∀ post' : Bool → Hp → Prop, (∀ b H', R b H' → post' b H') → c σ H post') (k : ∀ bb H', R bb H' → if bb = true then a D σ H' else b D σ H') : tIfS c a b D σ H := h _ k
theorem cutS {t : TS} {D : Ends} {σ : L2.St} {H : Hp} (R : L2.St → Hp → Prop) (h : ∀ nx' : L2.St → Hp → Prop, (∀ σ' H', R σ' H' → nx' σ' H') → t { D with nx := nx' } σ H) (k : ∀ σ' H', R σ' H' → D.nx σ' H') : Box (t D σ H) := ⟨h D.nx k⟩
end Ow
namespace Ow
open L2 in
theorem rg_mk {lo hi c : Int} (n : Nat) (h : (c ≠ 0 ∧ c.natAbs < 1073741824 ∧ PySem.Builtin.Range.small lo hi c = true ∧ PySem.Builtin.Range.rangeSize lo hi c = n) := by decide +kernel) : RgC lo hi c n := h
open L2 in
theorem Own.self {H0 H : Hp} {A : List PySem.Addr} {cs : Cells} (O : Own H0 H A cs) : Own H H (Ow.adr cs) cs := O.blk (s' := []) (cs' := []) .all
end Ow
namespace Ow
open L2 in
/-- behind a call that was handed nothing -/
theorem Own.callN {H0 H H' : Hp} {A : List PySem.Addr} {cs s' : Cells} (O : Own H0 H A cs) (C : Own H H' [] s') : Own H0 H' A (s' ++ cs) := O.call (s := []) .nil C
end Ow
namespace Ow
open PySem PySem.Spec PyProof.Rows L2
/-! ### what stands outside: the script -/
section
variable {K : PySem.W.Frag} {H0 H : Hp} {A : List Addr} {cs : Cells} {a : Addr} {xs : List V}
theorem Own.sq (O : Own H0 H [] cs) (h : SqL K H0 a xs) : SqL K H a xs := by
  rcases h with (h | ⟨o, h⟩) | h
  · exact .inl (.inl (O.fr0 h))
  · exact .inl (.inr ⟨o, O.fr0 h⟩)
  · exact .inr h
theorem Own.sqT (O : Own H0 H A cs) (h : SqT K H0 a xs) (hf : ∀ o, H0 a = some (.frz o (.tup xs)) → a ∉ A) : SqT K H a xs := by
  rcases h with (h | ⟨o, h⟩) | h
  · exact .inl (.inl (O.tup h))
  · exact .inl (.inr ⟨o, O.fr _ _ h (hf o h)⟩)
  · exact .inr h
theorem col_ex2 (h : SqL K H a xs) : ∃ xs, SqL K H a xs := ⟨_, h⟩
theorem col_ol2 {p : Prop} (h : SqL K H a xs) : SqL K H a xs ∨ p := .inl h
theorem col_or2 {p : Prop} (h : SqT K H a xs) : p ∨ SqT K H a xs := .inr h
end
end Ow
namespace Ow
open PySem PySem.Spec PyProof.Rows L2
/-! ### the end -/
theorem cx_no {P : Program} {w : World} {H : Hp} {s : Shared} {e : Value} {s' : Shared} (h : L2.CX P w [] H s (fun _ _ _ => False) e s') : False := by
  obtain ⟨_, _, _, _, _, _, _, _, _, _, _, _, h⟩ := h
  exact h
theorem walk_end {l : PySem.W.OpenLaw} {n k : Nat} {q : Program} {loose : List Str} {XP : (Str → Option Value) → Heap → Prop} {YP : World → Heap → Prop} {d : DefRec} {x : Str}
    (hn : l.most = some n) (hn2 : n ≤ sizeLine) (hdf : d.params.defaults = []) (hr : Room k callerA)
    (F : ∀ (w : World) (mg : Str → Option Value) (fa : Addr) (h : Heap), YP w h → h.Ns mainGlobals mg → mg d.name = some (.ref fa) →
      ∃ (K : PySem.W.Frag) (fd : FuncData) (sp : Sp), K.In h ∧ (∀ (s : Shared) (u : Value), BindsTo s fd ⟨[u], []⟩ [(x, u)]) ∧
        (∀ (H : Hp) (a : Addr) (ns : List Int), ns.length ≤ n → (∀ z ∈ ns, Builtin.Int.intBits z ≤ 1048576) → SqL K H a (ns.map V.int) → sp [.ref a] H (fun v _ => v = .bl true) fun _ _ _ => False) ∧
        ∀ base : Heap, K.In base → base.Ns mainGlobals mg → FnOk l.prog w K mg base (L2.CX l.prog w) k fa fd [x] sp) :
    PySem.W.WalkO q loose XP YP l.row.toRowW d [] (fun f vs => PySem.call f vs) := by
  refine Att.attach_callB hn hdf fun w s₀ s₁ mg mb fa o pm cd doc a vs ns G Y ho hd hcd hmg hobj hints hlen hbits hg => ?_
  obtain ⟨K, fd, sp, KX, hb, hsp, hF⟩ := F w mg fa _ Y G.T.g hmg
  exact law_call KX G.T.g G.T.b G.T.builtins G.T.nolimit hg hobj hints (Nat.le_trans hlen hn2) hr hF hb (fun H _ hS => hsp H a ns hlen hbits hS) fun _ _ _ h => cx_no h
theorem fn_of {P : Program} {w : World} {K : PySem.W.Frag} {mg : Str → Option Value} {base : Heap} {x qual : Str} {params : Arguments} {body : List Stmt} {scope : Scope} {f : Addr} {fd : FuncData} {N ps : List Str} {k : Nat} {sp : Sp} (F : FunD K x qual params body scope [] [] f fd) (S : FnScope N ps scope)
    (len : ∀ vs H Q E, sp vs H Q E → vs.length = ps.length)
    (hbody : ∀ (cdv : Value) (A : Around) (outer : List Env) (s : Shared) (H : Hp) (vs : List V) (Q : VK) (E : XK), Room k (A.deeper (envOfC qual scope s.heap.objs.size f cdv)) → sp vs H Q E →
      ∃ t, PSs (cxOf (L2.CX P w) P w K mg base N qual scope f cdv A outer s H E) body t ∧ t { nx := fun _ H' => Q .non H', rt := Q } (start N vs) H) : FnOk P w K mg base (L2.CX P w) (k + 1) f fd ps (bx sp) :=
  FunD.ok F S (fun vs H Q E h => len vs H Q E h.out) (fun cdv A outer s H vs Q E hr h => hbody cdv A outer s H vs Q E hr h.out)
end Ow
namespace Ow
open PySem PySem.Spec PyProof.Rows L2
/-! ### an exception that is held: known, in the suite and beyond it -/
theorem zc_of {cls : Value} {d : Option Addr} {o : Obj} (h : Zc cls d o) : o.cls = cls ∧ o.dict = d := ⟨h.1, by first | exact h.2 | exact h.2.1⟩
/-- an exception object at a, of the class cls, its dict d -/
def CxO (cls : Value) (d : Option Addr) (a : Addr) : HO := .ext fun h => ∃ (o : Obj) (vs : Array Value), h.get? a = some o ∧ Zc cls d o ∧ o.data = .fields vs
section
variable {X : Cx} {pins : List (Addr × Obj)} {σ : L2.St} {H : Hp} {s : Shared} {a : Addr} {cls : Value} {d : Option Addr} {o : Obj} {vs : Array Value}
theorem hold_ok (I : Inv X pins σ H s) (e : s.heap.get? a = some o) (z : Zc cls d o) (dt : o.data = .fields vs) (na : H a = none) (n0 : X.s_0.heap.get? a = none) (nL : a ≠ X.env.locals) (np : ∀ p ∈ X.pn ++ pins, p.1 ≠ a) :
    Inv X pins σ (upd H a (CxO cls d a)) s := by
  have sk : ∀ {b : Addr} {u : HO}, H b = some u → upd H a (CxO cls d a) b = some u := fun {b u} q => by
    rw [upd_ne (fun w => by rw [w, na] at q; cases q)]
    exact q
  have nk : ∀ {b : Addr}, b ≠ a → H b = none → upd H a (CxO cls d a) b = none := fun {b} q r => by
    rw [upd_ne q]
    exact r
  refine ⟨I.ok, I.os, I.bare, ⟨I.base.keep, I.base.slot, fun b u q1 q2 q3 => nk (fun w => by rw [w, n0] at q1; cases q1) (I.base.free b u q1 q2 q3), I.base.there, fun b xs q => sk (I.base.tups b xs q), fun b o' u q => sk (I.base.frzs b o' u q), fun b ps q => ?_⟩, I.loc, I.cell, nk (Ne.symm nL) I.free, fun x c q => nk (fun w => ?_) (I.freeC x c q), fun p hp => ?_, HOk.laidN I.hok (fun _ _ w => w) na ⟨⟨o, vs, e, z, dt⟩, ⟨o, e⟩, fun _ _ ⟨o2, v2, q, r⟩ k => ⟨o2, v2, k o2 q, r⟩⟩, I.len⟩
  · obtain ⟨m, r⟩ := I.base.tbls b ps q
    exact ⟨m, sk r⟩
  · subst w
    obtain ⟨v, oc, ho, hd⟩ := I.cell x c q
    rw [e] at ho
    cases ho
    rw [dt] at hd
    cases hd
  · obtain ⟨p1, p2, p3, p4, p5⟩ := I.pin p hp
    exact ⟨p1, nk (np p hp) p2, p3, p4, p5⟩
theorem suite_in {b : Addr} (I : Inv X pins σ H s) : Inv (X.suite b (X.pn ++ pins)) [] σ H s :=
  ⟨I.ok.suite _ _, I.os, I.bare, I.base, I.loc, I.cell, I.free, I.freeC, fun p hp => I.pin p ((List.append_nil (X.pn ++ pins)) ▸ hp), I.hok, I.len⟩
theorem suite_out {b : Addr} (I : Inv (X.suite b (X.pn ++ pins)) [] σ H s) (ok : X.Ok) : Inv X pins σ H s :=
  ⟨ok, I.os, I.bare, I.base, I.loc, I.cell, I.free, I.freeC, fun p hp => I.pin p ((List.append_nil (X.pn ++ pins)).symm ▸ hp), I.hok, I.len⟩
end
/-- the wish of a try whose suite may keep the exception -/
def wHold (K : PySem.W.Frag) (c : Value) (i : Nat) (ts : Addr → TS) (Wout : WX) (D : Ends) : WX := fun cls d σ H =>
  ∃ b, PySem.W.exmOne K cls c = some b ∧ (b = true → ∀ a, H a = none → ts a { nx := fun τ G => D.nx (τ.set i none) G, rt := D.rt, bk := fun τ G => D.bk (τ.set i none) G, ct := fun τ G => D.ct (τ.set i none) G } (σ.set i (some (.ref a))) (upd H a (CxO cls d a))) ∧ (b = false → Wout cls d σ H)
section
variable {X : Cx} {x n : Str} {c : Value} {i : Nat} {body suite : List Stmt} {b₀ : Stmt} {np pos pos' : Pos} {tb : WX → TS} {ts : Addr → TS} {Wout : WX}
theorem ps_tryX (hs : X.stack = X.env :: X.outer) (hf : X.env.frame = some X.env.locals) (hx : X.ex = []) (hN : X.N.Nodup) (hi : X.N[i]? = some n) (hln : X.env.kindOf n = some .local) (hc : Names X x c) (tk : Takes X Wout)
    (hb : ∀ (W : WX) (pn : List (Addr × Obj)) (xe : Value → Shared → Prop), Takes (X.tr pn xe) W → PassesOwn (model X.prog X.w) X.A X.env xe → PSs (X.tr pn xe) body (tb W))
    (hsu : ∀ (a : Addr) (pn : List (Addr × Obj)), PSs (X.suite a pn) (b₀ :: suite) (ts a)) :
    PS X (.Try body [.ExceptHandler (some (.Name x np)) (some n) (b₀ :: suite) pos'] [] [] pos) (fun D σ H => tb (wHold X.K c i ts Wout D) D σ H) := by
  refine ⟨fun pins s σ H D I hyp => ?_⟩
  have okX := I.ok
  have frames : X.A.frames = some (X.env :: X.outer) := by rw [okX.frames, hs]
  refine wpAny_Try_except ?_
  refine wpAny_mono ((hb (wHold X.K c i ts Wout D) (X.pn ++ pins) (fun ev sA => wpAny (model X.prog X.w) X.A (noteFrame ev X.env) (fun _ sB => wpAny (model X.prog X.w) X.A (setFlight ev none) (fun _ sC =>
    wpAny (model X.prog X.w) X.A (handleBy ev X.env [.ExceptHandler (some (.Name x np)) (some n) (b₀ :: suite) pos']) (SP X pins D) X.xe sC) X.xe sB) X.xe sA) (fun u sE flies => ?_) PassesOwn.looking).run [] s σ H D (I.toTry _) hyp) (fun fl sN ends => ?_) (fun ev sA left => left)
  · obtain ⟨a, B, sI, pins1, τ, G, cls, d, rfl, JT, nb, upS, skyS, na, os, ag, b, hm, yes, no⟩ := flies
    have JX : Inv X pins τ G sI := JT.ofTry okX
    have skyX : Sky B (X.env :: X.outer) a (Zc cls d) X.env.locals sE.heap := by rw [← hs]; exact skyS
    have nB : B.get? a = none := by
      rcases skyS with w | w | w
      · exact w.2.1
      · exact w.2.1
      · exact w.2.1
    show wpAny (model X.prog X.w) X.A (noteFrame (.ref a) X.env) _ _ _
    refine Sky.land Zc.steady frames hf skyX fun g3 fl3 up3 => ?_
    have J3 : Inv X pins τ G { sE with heap := g3 } := JX.landed nb fl3.1 (upS.trans up3) os ag
    obtain ⟨q3, w3, at3, z3, dt3⟩ := fl3.there
    have outside : a ∉ frs (X.env :: X.outer) := fun hm => by
      obtain ⟨_, o', e', hnf⟩ := fl3.2.2.1.mem hm
      rw [at3] at e'
      cases e'
      exact hnf _ dt3
    have nL : a ≠ X.env.locals := fun z => outside (List.mem_filterMap.mpr ⟨X.env, .head _, by rw [hf, z]⟩)
    have nF : a ∉ X.fs := fun hm => by
      obtain ⟨ev, he, q⟩ := List.mem_filterMap.mp hm
      exact outside (List.mem_filterMap.mpr ⟨ev, .tail _ he, q⟩)
    have below : ∀ {u : Addr} {ob : Obj}, sI.heap.get? u = some ob → u ∉ frs (X.env :: X.outer) → u ≠ a := fun {u ob} q r w => by
      have k := nb u ob q (by rw [hs]; exact r)
      rw [w, nB] at k
      cases k
    have new0 : X.s_0.heap.get? a = none := by
      cases q : X.s_0.heap.get? a with
      | none => rfl
      | some ob =>
        obtain ⟨ob2, r⟩ := JX.base.there a ob q (by rw [hx]; exact fun w => nomatch w)
        exact absurd rfl (below r outside)
    have unpinned : ∀ p ∈ X.pn ++ pins, p.1 ≠ a := fun p hp => by
      obtain ⟨p1, _, p3, p4, _⟩ := JX.pin p hp
      refine below p1 fun hm => ?_
      obtain ⟨ev, he, q⟩ := List.mem_filterMap.mp hm
      rcases List.mem_cons.mp he with w | w
      · rw [w, hf] at q
        exact p3 (Option.some.inj q).symm
      · exact p4 (List.mem_filterMap.mpr ⟨ev, w, q⟩)
    have S3 := J3.suite at3 dt3 na nL nF
    refine wpAny_handleBy_cons (codeAny_handlers_test ?_) (by intro w; cases w)
    have kind : PySem.W.Looks (model X.prog X.w) g3 (typeOf (.ref a)) cls := fun A Q E t k w => wpAny_typeOf_ref (k _ _ at3) (by rw [z3.1]; exact w)
    have match_ := PySem.W.exm_one (M := model X.prog X.w) (J3.kIn) kind hm
    have named : ∀ {Q E : Value → Shared → Prop}, Q c { sE with heap := g3 } → wpAny (model X.prog X.w) (X.A.mark (some (.ref a))) (eval (.Name x np) X.env) Q E { sE with heap := g3 } := fun {Q E} w => by
      obtain ⟨hg, hdbg, m1 | ⟨m1, m2, m3⟩⟩ := hc
      · exact ld_glob (X := X.suite a ((a, q3) :: (X.pn ++ pins))) S3 hg m1 w hdbg
      · exact ld_blt (X := X.suite a ((a, q3) :: (X.pn ++ pins))) S3 hg m1 m2 w m3 hdbg
    refine named (match_.here ?_)
    cases b with
    | true =>
      refine codeAny_handlers_suite_as ?_
      refine HandSPX.lands_againZ fl3 fun g4 fl4 up4 => ?_
      have J4 : Inv X pins τ G { sE with heap := g4 } := JX.landed nb fl4.1 ((upS.trans up3).trans up4) os ag
      obtain ⟨q4, w4, at4, z4, dt4⟩ := fl4.there
      have S4 := suite_in (b := a) (hold_ok J4 at4 z4 dt4 na new0 nL unpinned)
      refine store_ok (X := X.suite a (X.pn ++ pins)) (v := .ref a) S4 hN hi (.inl hln) rfl (fun s5 S5 => ?_) (.inr hln)
      refine wpAny_mono ((hsu a (X.pn ++ pins)).run [] s5 _ _ _ S5 (yes rfl a na)) (fun fl s6 ends => ?_) (fun _ _ w => False.elim w)
      have off : ∀ {τ6 : L2.St} {G6 : Hp} {Q : Shared → Prop}, Inv (X.suite a (X.pn ++ pins)) [] τ6 G6 s6 → (∀ s7, Inv X pins (τ6.set i none) G6 s7 → Q s7) →
          wpAny (model X.prog X.w) X.A (do bindName X.env n .none; unbindBehindTheSuite X.env n pos') (fun _ s7 => Q s7) X.xe s6 := fun {τ6 G6 Q} S6 w => gone_ok (suite_out S6 okX) hN hi hln w
      cases fl with
      | next =>
        obtain ⟨_, _, S6, r⟩ := ends
        exact off S6 fun _ J7 => ⟨_, _, J7, r⟩
      | brk =>
        obtain ⟨_, _, S6, r⟩ := ends
        exact off S6 fun _ J7 => ⟨_, _, J7, r⟩
      | cont =>
        obtain ⟨_, _, S6, r⟩ := ends
        exact off S6 fun _ J7 => ⟨_, _, J7, r⟩
      | ret u =>
        obtain ⟨_, _, _, S6, r1, r2⟩ := ends
        exact off S6 fun _ J7 => ⟨_, _, _, J7, r1, r2⟩
    | false =>
      show wpAny _ X.A (handleBy (.ref a) X.env []) _ _ _
      refine wpAny_handleBy_nil ?_
      obtain ⟨_, _, _, ob, ws, T, oT, tr, hob, hzb, hdb, hfb, hrb⟩ := id fl3
      unfold PySem.passOn
      refine wpAny_bind (wpAny_field hob hdb hfb ?_)
      rw [if_neg (show ¬ ((Value.ref T == Value.none) = true) by simp)]
      have out : wpAny (model X.prog X.w) X.A (setFlight (.ref a) X.env.frame) (fun _ t4 => wpAny (model X.prog X.w) X.A (throw (.ref a) : Sem Flow) (SP X pins D) X.xe t4) X.xe { sE with heap := g3 } := by
        rw [hf]
        refine HandSPX.setFlight_upZ fl3 fun g4 in4 up4 => wpAny_throw (tk _ _ ?_)
        exact ⟨a, B, sI, pins, τ, G, cls, d, rfl, JX, nb, (upS.trans up3).trans up4, .inr (.inr (by rw [hs]; exact in4)), na, os, ag, no rfl⟩
      first
        | exact wpAny_bind (wpAny_pure (wpAny_bind out))
        | exact wpAny_bind out
  · cases fl with
    | next =>
      obtain ⟨τ, G, JT, r⟩ := ends
      exact wpAny_execs_nil ⟨τ, G, JT.ofTry okX, r⟩
    | brk =>
      obtain ⟨τ, G, JT, r⟩ := ends
      exact ⟨τ, G, JT.ofTry okX, r⟩
    | cont =>
      obtain ⟨τ, G, JT, r⟩ := ends
      exact ⟨τ, G, JT.ofTry okX, r⟩
    | ret u =>
      obtain ⟨v, τ, G, JT, r1, r2⟩ := ends
      exact ⟨v, τ, G, JT.ofTry okX, r1, r2⟩
/-- isinstance(e, c), e a held exception -/
def rIsX (K : PySem.W.Frag) : List V → Hp → VK → Prop := fun xs H Q => ∃ (a D : Addr) (c : V) (cv : Value) (b : Bool), xs = [.ref a, c] ∧ H a = some (CxO (.ref D) none a) ∧ ExcC K D ∧ ClsV c cv ∧ PySem.W.kitOne K (.ref D) cv = some b ∧ Q (.bl b) H
theorem call_isX : CallR X (.builtin "isinstance") (rIsX X.K) := by
  intro pins s σ H xs us Q I r h
  obtain ⟨a, D, cl, cv, b, rfl, ha, C, only, says, q⟩ := h
  cases r with
  | cons rx rr =>
    cases rr with
    | cons rt rr =>
      cases rr
      cases rx
      have ec := only.eq rt
      subst ec
      obtain ⟨⟨ob, vs, at_, z, dt⟩, _, _⟩ := I.hok a _ ha
      have J : PySem.W.InstAt s.heap a ob D none := by
        obtain ⟨oc, od, oda, osl⟩ := ob
        obtain ⟨h1, h2⟩ := zc_of z
        dsimp only at h1 h2 dt
        subst h1 h2 dt
        exact ⟨at_, rfl, rfl, trivial⟩
      refine PySem.W.kia_one (PySem.W.handS_kitx_exc C.hg C.hk C.hs C.hd C.ha C.hn C.ht C.hm) I.kIn J says (fun w => nomatch w) fun tk => ?_
      exact ⟨.bl b, H, I.kept (t' := tk) fun _ _ w => w, rfl, q⟩
end
end Ow
namespace Ow
open PySem PySem.Spec PyProof.Rows L2
/-- xs[i], where it is read to be put anew -/
theorem get_list {X : Cx} : PGet X (rIxL X.K) := by
  intro pins s σ H o i ov iv Q I ro ri h
  obtain ⟨p, xs, k, z, rfl, rfl, hq, he, q⟩ := h
  cases ro
  obtain ⟨t, rfl⟩ := ri
  obtain ⟨its, r, pl, hz⟩ := I.list hq
  obtain ⟨j, h1, h2, h3, h4, h5⟩ := atI_get he
  obtain ⟨w, ew, rw'⟩ := r.get h2
  have lenX := r.length
  have wide := line63
  have done : EP X pins σ Q w s := ⟨z, H, I, rw', q⟩
  by_cases h0 : 0 ≤ k
  · have hk : k.toNat = j := by
      rw [seqIndex_of h0 h5] at h1
      exact Option.some.inj h1
    exact wpAny_getItem_list pl.isList h0 (by omega) (by rw [hk]; simpa using ew) done
  · have hk : (k + (its.toArray.size : Int)).toNat = j := by
      rw [seqIndex_neg (by omega) h4] at h1
      rw [List.size_toArray, ← lenX]
      exact Option.some.inj h1
    exact wpAny_getItem_list_neg pl.isList (by omega) (by rw [List.size_toArray] <;> omega) (by omega) (by rw [hk]; simpa using ew) done
end Ow
namespace Ow
open PySem PySem.Spec PyProof.Rows L2
/-! ### facts of exceptions, by one look -/
theorem all_at {l : List Bool} (h : l.all id = true) (k : Nat) {b : Bool} (e : l[k]? = some b) : b = true := List.all_eq_true.mp h b (List.mem_of_getElem? e)
theorem excB_ok {K : PySem.W.Frag} {D : Addr} (h : excB K D = true) : ExcC K D :=
  ⟨eq_of_beq (all_at h 0 rfl), eq_of_beq (all_at h 1 rfl), eq_of_beq (all_at h 2 rfl), all_at h 3 rfl, eq_of_beq (all_at h 4 rfl), eq_of_beq (all_at h 5 rfl), eq_of_beq (all_at h 6 rfl), eq_of_beq (all_at h 7 rfl)⟩
end Ow
namespace Ow
open PySem PySem.Spec PyProof.Rows L2
/-! ### rows of flat things -/
theorem fl_of {v : V} (h : flatV v = true) : flatV v = true := h
theorem all_flat (ns : List Int) : (ns.map V.int).all flatV = true := List.all_eq_true.mpr fun x hx => by
  obtain ⟨y, _, rfl⟩ := List.mem_map.mp hx
  rfl
theorem all_flatS (ns : List Str) : (ns.map V.str).all flatV = true := List.all_eq_true.mpr fun x hx => by
  obtain ⟨y, _, rfl⟩ := List.mem_map.mp hx
  rfl
theorem eqV_int (i j : Int) : eqV (.int i) (.int j) = decide (i = j) := by
  show (i == j) = _
  by_cases h : i = j
  · rw [decide_eq_true h, h]; simp
  · rw [decide_eq_false h]; simp [h]
theorem inV_ints (i : Int) (ns : List Int) : inV (.int i) (ns.map V.int) = decide (i ∈ ns) := by
  unfold inV
  rw [List.any_map]
  by_cases h : i ∈ ns
  · rw [decide_eq_true h]
    exact List.any_eq_true.mpr ⟨i, h, by show eqV (.int i) (.int i) = true; rw [eqV_int]; simp⟩
  · rw [decide_eq_false h]
    refine List.any_eq_false.mpr fun x hx => ?_
    show ¬ eqV (.int x) (.int i) = true
    rw [eqV_int]
    intro z
    exact h (of_decide_eq_true z ▸ hx)
theorem rep_flat (n : Nat) (v : V) : (List.replicate ((n : Nat) : Int).toNat [v]).flatten = List.replicate n v := by
  rw [Int.toNat_natCast]
  induction n with
  | zero => rfl
  | succ n ih => rw [List.replicate_succ, List.flatten_cons, ih]; rfl
theorem rep_map {α : Type} (f : α → V) (n : Nat) (a : α) : List.replicate n (f a) = (List.replicate n a).map f := (List.map_replicate).symm
end Ow
namespace Ow
open PySem PySem.Spec PyProof.Rows L2
theorem set_split {α : Type} {cs : List α} {i : Nat} {x y : α} (h : cs[i]? = some x) : cs.set i y = cs.take i ++ y :: cs.drop (i + 1) := by
  have h1 := (List.getElem?_eq_some_iff.mp h).1
  rw [List.set_eq_take_append_cons_drop, if_pos h1]
theorem at_split {α : Type} {cs : List α} {i : Nat} {x : α} (h : cs[i]? = some x) : cs = cs.take i ++ x :: cs.drop (i + 1) := by
  obtain ⟨h1, rfl⟩ := List.getElem?_eq_some_iff.mp h
  rw [List.getElem_cons_drop h1, List.take_append_drop]
theorem set_map {α β : Type} (f : α → β) : ∀ (l : List α) (i : Nat) (a : α), (l.map f).set i (f a) = (l.set i a).map f
  | [], _, _ => rfl
  | _ :: _, 0, _ => rfl
  | x :: r, i + 1, a => by rw [List.map_cons, List.set_cons_succ, List.set_cons_succ, List.map_cons, set_map f r i a]
theorem ix_at {n i : Nat} (h : i < n) : ixN n (i : Int) = some i := by
  unfold ixN
  rw [if_pos (by omega), if_pos (by omega), Int.toNat_natCast]
/-- a thing of a row is put anew: its old cell is let go -/
theorem Own.put {α : Type} {H0 H : Hp} {A : List Addr} {pre : Cells} {l : List α} {g : α → Addr × HO} {b y : α} {j : Nat} (O : Own H0 H A (g b :: (pre ++ l.map g))) (h : l[j]? = some y) : Own H0 H A (pre ++ (l.set j b).map g) := by
  have e := at_split h
  have O1 : Own H0 H A (g b :: (pre ++ ((l.take j).map g ++ (l.drop (j + 1)).map g))) := O.drop (by
    conv => rhs; rw [e, List.map_append, List.map_cons]
    exact .cons₂ _ (.append (.refl _) (.append (.refl _) (.cons _ (.refl _)))))
  rw [set_split h, List.map_append, List.map_cons]
  refine O1.perm ?_
  rw [← List.append_assoc, ← List.append_assoc]
  exact List.perm_middle.symm
end Ow
namespace Ow
open PySem PySem.Spec PyProof.Rows L2
theorem take_succ {α : Type} {l : List α} {i : Nat} {y : α} (h : l[i]? = some y) : l.take (i + 1) = l.take i ++ [y] := by
  rw [List.take_succ, h]; rfl
theorem sorted_ext : ∀ {l k : List Int}, l.Pairwise (· < ·) → k.Pairwise (· < ·) → (∀ m, m ∈ l ↔ m ∈ k) → l = k
  | [], [], _, _, _ => rfl
  | [], y :: k, _, _, h => absurd ((h y).mpr List.mem_cons_self) (by simp)
  | x :: l, [], _, _, h => absurd ((h x).mp List.mem_cons_self) (by simp)
  | x :: l, y :: k, h1, h2, h => by
    obtain ⟨a1, a2⟩ := List.pairwise_cons.mp h1
    obtain ⟨b1, b2⟩ := List.pairwise_cons.mp h2
    have e : x = y := by
      rcases List.mem_cons.mp ((h x).mp List.mem_cons_self) with z | z
      · exact z
      · rcases List.mem_cons.mp ((h y).mpr List.mem_cons_self) with w | w
        · exact w.symm
        · have := b1 _ z
          have := a1 _ w
          omega
    subst e
    rw [sorted_ext a2 b2 fun m => ⟨fun hm => ?_, fun hm => ?_⟩]
    · rcases List.mem_cons.mp ((h m).mp (List.mem_cons_of_mem _ hm)) with z | z
      · have := a1 _ hm; omega
      · exact z
    · rcases List.mem_cons.mp ((h m).mpr (List.mem_cons_of_mem _ hm)) with z | z
      · have := b1 _ hm; omega
      · exact z
end Ow
namespace Ow
open L2 in
/-- behind a call: what it has made stands ahead -/
theorem Own.callE {H0 H H' : Hp} {A : List PySem.Addr} {cs s s' cs' e : Cells} (O : Own H0 H A cs) (h : Sub cs s s' cs') (C : Own H H' (Ow.adr s) (e ++ s')) : Own H0 H' A (e ++ cs') := by
  obtain ⟨l, r, rfl, rfl⟩ := h.split
  have O1 := O.call (cs' := l ++ ((e ++ s') ++ r)) (.app .here) C
  refine O1.perm ?_
  have e1 : l ++ ((e ++ s') ++ r) = (l ++ e) ++ (s' ++ r) := by simp only [List.append_assoc]
  have e2 : e ++ (l ++ (s' ++ r)) = (e ++ l) ++ (s' ++ r) := by simp only [List.append_assoc]
  rw [e1, e2]
  exact (List.perm_append_comm).append_right _
end Ow
namespace Ow
open PySem PySem.Spec PyProof.Rows L2
/-- a new thing, as the goal names it: it is ours from now on -/
theorem Own.nxt {H0 H : Hp} {A : List Addr} {cs : Cells} {p : Addr} {o : HO} {G : Hp → Prop} (O : Own H0 H A cs) (h : H p = none) (k : Own H0 (upd H p o) A ((p, o) :: cs) → G (upd H p o)) : G (upd H p o) := k (O.new h)
theorem Own.nxtQ {H0 H : Hp} {A : List Addr} {cs : Cells} {p : Addr} {o : HO} {Q : VK} {G : Hp → VK → Prop} (O : Own H0 H A cs) (h : H p = none) (k : Own H0 (upd H p o) A ((p, o) :: cs) → G (upd H p o) Q) : G (upd H p o) Q := k (O.new h)
end Ow
namespace Ow
open PySem PySem.Spec PyProof.Rows L2
/-! ### loops and comprehensions over anything that is walked -/
section
variable {J : It} {n : Nat} {G : Hp → Prop} {Y : Nat → Hp → V → Hp → Prop}
theorem forW (w : Walk J n G Y) {g : TG} {tb : TS} {D : Ends} {σ : L2.St} {H : Hp} (Pv : Nat → L2.St → Hp → Prop) (h0 : Pv 0 σ H) (hG : ∀ i σ H, i ≤ n → Pv i σ H → G H)
    (hs : ∀ i x σ H H', i < n → Pv i σ H → Y i H x H' → g x σ H' fun σ2 H2 => tb { D with nx := fun σ H => Box (Pv (i + 1) σ H), ct := fun σ H => Box (Pv (i + 1) σ H), bk := D.nx } σ2 H2) (hd : ∀ σ H, Pv n σ H → D.nx σ H) :
    Box (∃ W : Nat → Nat → L2.St → Hp → Prop, (∃ m, W 0 m σ H) ∧ ∀ i m σ H, W i m σ H →
      (J.stop i H ∧ D.nx σ H) ∨ (J.go i H ∧ ∃ N : L2.St → Hp → Prop, (∀ σ' H', N σ' H' → ∃ m', m' < m ∧ W (i + 1) m' σ' H') ∧ ∀ x H', J.yld i H x H' → g x σ H' fun σ2 H2 => tb { D with nx := N, ct := N, bk := D.nx } σ2 H2)) :=
  ⟨for_it w (fun i σ H => Box (Pv i σ H)) ⟨h0⟩ (fun i σ H hi p => hG i σ H hi p.out) (fun i x σ H H' hi p y => hs i x σ H H' hi p.out y) (fun σ H p => hd σ H p.out)⟩
theorem lcW (w : Walk J n G Y) {g : TG} {tt : TT} {te : TE} {vs : List Nat} {σ : L2.St} {H1 : Hp} {Q : Addr → Hp → Prop} (Pv : Addr → Nat → Hp → Prop) (h0 : ∀ D, H1 D = none → Pv D 0 (upd H1 D (.lst []))) (hG : ∀ D i H, i ≤ n → Pv D i H → G H)
    (hs : ∀ D i x H H', i < n → Pv D i H → Y i H x H' → g x (wipe σ vs) H' fun σ2 H2 => wipe σ2 vs = wipe σ vs ∧ tt σ2 H2 fun b H3 =>
      if b = true then te σ2 H3 fun y H4 => ∃ acc, H4 D = some (.lst acc) ∧ acc.length < sizeLine ∧ Box (Pv D (i + 1) (upd H4 D (.lst (acc ++ [y])))) else Box (Pv D (i + 1) H3)) (hd : ∀ D H, Pv D n H → Q D H) :
    Box (∀ D, H1 D = none → ∃ W : Nat → Nat → Hp → Prop, (∃ m, W 0 m (upd H1 D (.lst []))) ∧ ∀ i m H, W i m H →
      (J.stop i H ∧ Q D H) ∨ (J.go i H ∧ ∃ Nx : Hp → Prop, (∀ H', Nx H' → ∃ m', m' < m ∧ W (i + 1) m' H') ∧ ∀ x H', J.yld i H x H' → g x (wipe σ vs) H' fun σ2 H2 => wipe σ2 vs = wipe σ vs ∧ tt σ2 H2 fun b H3 =>
        if b = true then te σ2 H3 fun y H4 => ∃ acc, H4 D = some (.lst acc) ∧ acc.length < sizeLine ∧ Nx (upd H4 D (.lst (acc ++ [y]))) else Nx H3)) :=
  ⟨fun D hD => lc_it w (fun i H => Box (Pv D i H)) ⟨h0 D hD⟩ (fun i H hi p => hG D i H hi p.out) (fun i x H H' hi p y => hs D i x H H' hi p.out y) (fun H p => hd D H p.out)⟩
end
/-- None or a whole number -/
def oV : Option Int → V
  | none => .non
  | some i => .int i
theorem tyStr_of {K : PySem.W.Frag} {z : Str} {H : Hp} : tyV K "str" (.str z) H := rfl
theorem isStr_of {z : Str} : ∃ a, V.str z = V.str a := ⟨z, rfl⟩
theorem putF_lt {f : Str} {v : V} {n : Nat} : ∀ {fs : List (Str × V)}, fs.length < n → (putF f v fs).length < n + 1
  | [], h => by show 1 < n + 1; simp only [List.length_nil] at h; omega
  | (g, x) :: r, h => by
    rw [List.length_cons] at h
    unfold putF
    by_cases e : g = f
    · rw [if_pos e, List.length_cons]; omega
    · rw [if_neg e, List.length_cons]
      have := putF_lt (f := f) (v := v) (n := n - 1) (fs := r) (by omega)
      omega
theorem at_of {xs : List V} {i : Int} {v : V} (h : atI xs i = some v) : atI xs i = some v := h
theorem ix_of {n : Nat} {i : Int} {j : Nat} (h : ixN n i = some j) : ixN n i = some j := h
theorem cp_of {i j : Int} (h : CPow i j) : CPow i j := h
theorem cmw_of {i j : Int} (h : CMulW i j) : CMulW i j := h
theorem eq_oV {o : Option Int} {j : Int} : decide (oV o = V.int j) = decide (o = some j) := by
  cases o with
  | none => simp [oV]
  | some i => simp [oV]
theorem zip_all {α β γ : Type} [DecidableEq γ] (f : α → γ) (g : β → γ) : ∀ (xs : List α) (ys : List β), xs.length = ys.length → ((xs.zip ys).map fun p => decide (f p.1 = g p.2)).all id = decide (xs.map f = ys.map g)
  | [], [], _ => rfl
  | [], _ :: _, h => by cases h
  | _ :: _, [], h => by cases h
  | x :: xs, y :: ys, h => by
    have ih := zip_all f g xs ys (by simpa using h)
    simp only [List.zip_cons_cons, List.map_cons, List.all_cons, id_eq, ih, List.cons.injEq, Bool.decide_and]
theorem zip_at {α β : Type} {xs : List α} {ys : List β} {i : Nat} {x : α} {y : β} (h1 : xs[i]? = some x) (h2 : ys[i]? = some y) : (xs.zip ys)[i]? = some (x, y) := List.getElem?_zip_eq_some.mpr ⟨h1, h2⟩
/-! ### readings by name, for what stands within a comprehension -/
def rLenSq (K : PySem.W.Frag) : List V → Hp → VK → Prop := fun xs H Q => ∃ p ys, xs = [.ref p] ∧ (SqL K H p ys ∨ SqT K H p ys) ∧ Q (.int ys.length) H
def rLenV (K : PySem.W.Frag) : List V → Hp → VK → Prop := fun xs H Q => ∃ x n, xs = [x] ∧ LenV K x H n ∧ Q (.int n) H
def rListOf (K : PySem.W.Frag) : List V → Hp → VK → Prop := fun xs H Q => ∃ p ys, xs = [.ref p] ∧ (SqL K H p ys ∨ SqT K H p ys) ∧ ∀ l, H l = none → Q (.ref l) (upd H l (.lst ys))
def rTupOf (K : PySem.W.Frag) : List V → Hp → VK → Prop := fun xs H Q => ∃ p ys, xs = [.ref p] ∧ ((SqL K H p ys ∧ ∀ l, H l = none → Q (.ref l) (upd H l (.tup ys))) ∨ (SqT K H p ys ∧ Q (.ref p) H))
/-! ### rows of whole numbers, each with its place -/
abbrev Pg := Addr × List Int
abbrev pcel (x : Pg) : Addr × HO := (x.1, .lst (x.2.map V.int))
/-- the rows stand in the heap -/
def RowsAt (H : Hp) (rs : List Pg) : Prop := ∀ r ∈ rs, H r.1 = some (.lst (r.2.map V.int))
theorem RowsAt.mono {H0 H : Hp} {cs : Cells} {rs : List Pg} (h : RowsAt H0 rs) (O : Own H0 H [] cs) : RowsAt H rs := fun r hr => O.fr0 (h r hr)
theorem Own.rows {H0 H : Hp} {A : List Addr} {cs : Cells} {rs : List Pg} (O : Own H0 H A cs) (h : ∀ r ∈ rs, pcel r ∈ cs) : RowsAt H rs := fun r hr => O.get (h r hr)
theorem refs_get {rs : List Pg} {i : Nat} {x : V} (h : (rs.map fun x : Pg => V.ref x.1)[i]? = some x) : ∃ y, rs[i]? = some y ∧ x = V.ref y.1 := by
  rw [List.getElem?_map] at h
  cases e : rs[i]? with
  | none => rw [e] at h; cases h
  | some y => rw [e] at h; exact ⟨y, rfl, (Option.some.inj h).symm⟩
/-- a thing of a row is put anew, where more stands behind -/
theorem Own.put2 {α : Type} {H0 H : Hp} {A : List Addr} {pre post : Cells} {l : List α} {g : α → Addr × HO} {b y : α} {j : Nat} (O : Own H0 H A (g b :: (pre ++ (l.map g ++ post)))) (h : l[j]? = some y) : Own H0 H A (pre ++ ((l.set j b).map g ++ post)) := by
  have O1 : Own H0 H A (g b :: ((post ++ pre) ++ l.map g)) := O.perm (by
    refine .cons _ ?_
    rw [List.append_assoc, ← List.append_assoc pre]
    exact List.perm_append_comm)
  have O2 := O1.put h
  refine O2.perm ?_
  rw [List.append_assoc, ← List.append_assoc pre]
  exact List.perm_append_comm
theorem rgV0 (n : Nat) : rgV 0 (n : Int) = ((List.range n).map fun i : Nat => (i : Int)).map V.int := by
  unfold rgV
  rw [List.map_map, show ((n : Int) - 0).toNat = n by omega]
  exact List.map_congr_left fun i _ => by rw [Int.zero_add]; rfl
theorem cutV_to (xs : List V) (n : Nat) : cutV xs none (some (n : Int)) = xs.take n := by
  unfold cutV
  rw [HT.sIx_nat]
  show (xs.drop 0).take _ = _
  rw [List.drop_zero, HT.sIx_none, Nat.sub_zero]
  by_cases h : n ≤ xs.length
  · rw [show min n xs.length = n by omega]
  · rw [show min n xs.length = xs.length by omega, List.take_length, List.take_of_length_le (by omega)]
theorem cutV_from (xs : List V) (n : Nat) : cutV xs (some (n : Int)) none = xs.drop n := by
  unfold cutV
  rw [HT.sIx_nat]
  show (xs.drop (min n xs.length)).take (xs.length - min n xs.length) = _
  by_cases h : n ≤ xs.length
  · rw [show min n xs.length = n by omega, List.take_of_length_le (by rw [List.length_drop]; omega)]
  · rw [show min n xs.length = xs.length by omega, List.drop_length, List.drop_eq_nil_of_le (by omega), List.take_nil]
theorem cutV_mid (xs : List V) (a b : Nat) (h : a ≤ b) (hb : b ≤ xs.length) : cutV xs (some (a : Int)) (some (b : Int)) = (xs.drop a).take (b - a) := by
  unfold cutV
  rw [HT.sIx_nat, HT.sIx_nat, show min a xs.length = a by omega, show min b xs.length = b by omega]
/-- cells that were handed and stand as they stood need not be told -/
theorem Own.back {H0 H : Hp} {cs bs : Cells} (O : Own H0 H (Ow.adr bs) (cs ++ bs)) (h : ∀ a o, (a, o) ∈ bs → H0 a = some o) : Own H0 H [] cs := by
  have nd := O.nd
  rw [adr_app] at nd
  obtain ⟨n1, n2, n3⟩ := List.nodup_append.mp nd
  refine ⟨fun a o m => O.at_ a o (List.mem_append_left _ m), n1, fun b o e _ => ?_, fun b m => ?_, O.tp⟩
  · by_cases hb : b ∈ Ow.adr bs
    · obtain ⟨c, hc, rfl⟩ := List.mem_map.mp hb
      have e2 := h c.1 c.2 hc
      rw [e] at e2
      cases e2
      exact O.at_ _ _ (List.mem_append_right _ hc)
    · exact O.fr b o e hb
  · rcases O.nw b (by rw [adr_app]; exact List.mem_append_left _ m) with z | z
    · exact absurd rfl (n3 b m b z)
    · exact .inr z
/-- a dict is written: a key that is not there comes last -/
theorem putK_new {kvs : List (Key × V)} {k : Key} {v : V} (h : k ∉ kvs.map (·.1)) : putK kvs k v = kvs ++ [(k, v)] := by
  unfold putK
  rw [if_neg]
  intro e
  obtain ⟨x, hx, e⟩ := List.any_eq_true.mp e
  exact h (List.mem_map.mpr ⟨x, hx, of_decide_eq_true e⟩)
theorem mergeK_app : ∀ {more acc : List (Key × V)}, ((acc ++ more).map (·.1)).Nodup → mergeK acc more = acc ++ more
  | [], acc, _ => (List.append_nil acc).symm
  | (k, v) :: r, acc, h => by
    have h1 : k ∉ acc.map (·.1) := by
      rw [List.map_append] at h
      intro z
      exact (List.nodup_append.mp h).2.2 k z k (by simp) rfl
    show mergeK (putK acc k v) r = _
    rw [putK_new h1, mergeK_app (by rw [List.append_assoc]; exact h), List.append_assoc]
    rfl
theorem Own.sep {H0 H : Hp} {A : List Addr} {X Y : Cells} {a : Addr} (O : Own H0 H A (X ++ Y)) (h : a ∈ Ow.adr X) : a ∉ Ow.adr Y := fun z => by
  have nd := O.nd
  rw [adr_app] at nd
  exact (List.nodup_append.mp nd).2.2 a h a z rfl
theorem atI_last {xs : List V} {v : V} (h : xs[xs.length - 1]? = some v) : atI xs (-1) = some v := by
  have hl := (List.getElem?_eq_some_iff.mp h).1
  have e : ixN xs.length (-1) = some (xs.length - 1) := by
    unfold ixN
    rw [if_neg (by decide), if_pos (by omega)]
    congr 1
    omega
  unfold atI
  rw [e]
  exact h
/-! ### dicts of lists, compared -/
section
open PySem.Calls PyProof.V
variable {prog : Program} {w : World} {κ : Type} [DecidableEq κ] {knd : KeyKind prog w κ} {A : Around} {s : Shared}
theorem neP_dicts {a b : Addr} {ka kb : List (κ × Value)} {r : Bool} (ha : (a == sysModules) = false) (hb : (b == sysModules) = false) (da : s.heap.DictOf knd a ka) (db : s.heap.DictOf knd b kb) (hu : A.units < cLine)
    (hits : ka.length = kb.length → PySem.W.KeqHitsP prog w A.in1 s kb ka r) (E Q : Value → Shared → Prop) (h : Q (.bool (!(ka.length == kb.length && r))) s) : wpAny (model prog w) A (compareOp .NotEq (.ref a) (.ref b)) Q E s := by
  refine wpAny_richCompare_same_room (op := .NotEq) da.typeIs db.typeIs PySem.F.slot_dict_ne (wpAny_call_entry PySem.F.slot_dict_ne da.typeIs PySem.F.entry_dict_ne ?_ (PySem.F.args_dict_ne_2 _ _)) hu
  show wpAny _ _ (Builtin.Dict.dictSlotArgs "__ne__" ⟨[.ref a, .ref b], []⟩ >>= _) _ _ s
  refine wpAny_bind ?_
  unfold Builtin.Dict.dictSlotArgs
  refine wpAny_bind (wpAny_notOrdered_dict da.typeIs ?_)
  show wpAny _ _ (pure (Value.ref a, Value.ref b)) _ _ s
  refine wpAny_pure ?_
  refine wpAny_bind (wpAny_isInstance (T := "dict") db.typeIs PySem.F.sub_dict_dict ?_)
  simp only [Bool.not_true, Bool.false_eq_true, if_false]
  refine wpAny_bind (wpAny_pure (wpAny_bind (wpAny_pure ?_)))
  refine wpAny_bind (PySem.W.samePairsP ha hb da db hits ?_)
  refine wpAny_pure ⟨_, rfl, ?_, ?_⟩
  · exact fun x => nomatch x
  · simpa using h
end
/-- d != e, two dicts: of unlike lengths, or equal -/
def rNeDV (K : PySem.W.Frag) : R2 := fun x y H Q => ∃ a b ks ls, x = .ref a ∧ y = .ref b ∧ H a = some (.dK ks) ∧ H b = some (.dK ls) ∧
  ((ks.length ≠ ls.length ∧ Q (.bl true) H) ∨ (ks.length = ls.length ∧ (∀ p ∈ ks, ∃ u, valV ls p.1 = some u ∧ EqV K H 2 p.2 u) ∧ Q (.bl false) H))
theorem op_neDV {X : Cx} (hu : X.A.units + 64 < cLine) : OpR X (compareOp .NotEq) (rNeDV X.K) := by
  intro pins s σ H x y v u Q I rx ry h
  obtain ⟨a, b, ks, ls, rfl, rfl, ea, eb, h⟩ := h
  obtain rfl : v = Value.ref a := rx
  obtain rfl : u = Value.ref b := ry
  obtain ⟨_, ya, va, ra, da⟩ := (show ObjOk X.prog X.w H s.heap a (.dK ks) from I.hok a _ ea)
  obtain ⟨_, yb, vb, rb, db⟩ := (show ObjOk X.prog X.w H s.heap b (.dK ls) from I.hok b _ eb)
  have e1 : va.length = ks.length := ra.length.symm
  have e2 : vb.length = ls.length := rb.length.symm
  rcases h with ⟨hne, q⟩ | ⟨hl, hp, q⟩
  · refine neP_dicts (knd := mixKind X.prog X.w) (r := false) ya yb da db (by omega) (fun z => absurd (by omega) hne) _ _ ?_
    rw [show (!(va.length == vb.length && false)) = true by simp]
    exact ⟨.bl true, H, I, rfl, q⟩
  · refine neP_dicts (knd := mixKind X.prog X.w) (r := true) ya yb da db (by omega) (fun _ => hits_run (eqV_run I 2 X.A.in1 (by show X.A.units + 1 + 2 < cLine; omega)) rb ra hp) _ _ ?_
    rw [show (!(va.length == vb.length && true)) = false by rw [e1, e2, hl]; simp]
    exact ⟨.bl false, H, I, rfl, q⟩
theorem paired_ints {K : PySem.W.Frag} {H : Hp} : ∀ ns : List Int, Paired (EqV K H 1) (ns.map V.int) (ns.map V.int)
  | [] => .nil
  | n :: r => .cons (.inl ⟨rfl, rfl⟩) (paired_ints r)
theorem eqV_ints {K : PySem.W.Frag} {H : Hp} {a b : Addr} {ns : List Int} (ha : H a = some (.lst (ns.map V.int))) (hb : H b = some (.lst (ns.map V.int))) : EqV K H 2 (.ref a) (.ref b) :=
  .inr (.inr (.inl ⟨a, b, _, _, rfl, rfl, SqL.of ha, SqL.of hb, paired_ints ns⟩))
/-! ### lists of texts, compared -/
section
variable {K : PySem.W.Frag} {H : Hp} {a b : Addr}
theorem dpa_strs : ∀ ns : List Str, DpAll K H (ns.map V.str) (ns.map PyData.str)
  | [] => .nil
  | n :: r => .cons (.str n) (dpa_strs r)
theorem depth_strs : ∀ ns : List Str, PyData.depthAll (ns.map PyData.str) ≤ 1
  | [] => by simp [PyData.depthAll]
  | n :: r => by
    have := depth_strs r
    simp only [List.map_cons, PyData.depthAll, PyData.depth]
    omega
theorem lay_strs : ∀ ns : List Str, (ns.all PyData.strOk = true) → PyData.canLayAll0 (ns.map PyData.str) = true
  | [], _ => by simp [PyData.canLayAll0]
  | n :: r, h => by
    rw [List.all_cons, Bool.and_eq_true] at h
    simp [PyData.canLayAll0, PyData.canLay0, lay_strs r h.2, h.1]
theorem sh_strs (ns : List Str) (h : ns.all PyData.strOk = true) : SeqAt.shaped (.list (ns.map PyData.str)) = true := by
  have h1 := depth_strs ns
  have h2 : PyData.depth (.list (ns.map PyData.str)) ≤ 64 := by
    simp only [PyData.depth]
    omega
  show (PyData.canLay0 (.list (ns.map PyData.str)) && decide (PyData.depth (.list (ns.map PyData.str)) ≤ 64)) = true
  rw [Bool.and_eq_true]
  exact ⟨by simp only [PyData.canLay0]; exact lay_strs ns h, decide_eq_true h2⟩
theorem dist_strs : ∀ ns ms : List Str, PyData.eqvAll (ns.map PyData.str) (ms.map PyData.str) = decide (ns = ms)
  | [], [] => rfl
  | [], _ :: _ => rfl
  | _ :: _, [] => rfl
  | n :: r, m :: q => by
    rw [List.map_cons, List.map_cons, PyData.eqvAll, dist_strs r q]
    show ((n == m) && _) = _
    by_cases h : n = m
    · subst h; simp
    · rw [decide_eq_false (fun e => h (List.cons.inj e).1)]; simp [h]
theorem eq_strs {ns ms : List Str} {Q : VK} (h1 : ns.all PyData.strOk = true) (h2 : ms.all PyData.strOk = true) (ha : H a = some (.lst (ns.map V.str))) (hb : H b = some (.lst (ms.map V.str))) (k : Q (.bl (decide (ns = ms))) H) : rEqD K (.ref a) (.ref b) H Q :=
  ⟨_, _, .lst (SqL.of ha) (dpa_strs ns), .lst (SqL.of hb) (dpa_strs ms), sh_strs ns h1, sh_strs ms h2, by rw [show PyData.eqv (.list (ns.map PyData.str)) (.list (ms.map PyData.str)) = decide (ns = ms) from dist_strs ns ms]; exact k⟩
end
/-! ### held exceptions, asked about several classes -/
/-- isinstance(e, (c, ..)), e a held exception -/
def rIsXT (K : PySem.W.Frag) : List V → Hp → VK → Prop := fun xs H Q => ∃ (a D tp : Addr) (cs : List V) (us : List Value) (b : Bool), xs = [.ref a, .ref tp] ∧ H a = some (CxO (.ref D) none a) ∧ ExcC K D ∧ H tp = some (.tup cs) ∧ Paired ClsV cs us ∧ PySem.W.kitAny K (.ref D) us = some b ∧ Q (.bl b) H
theorem call_isXT {X : Cx} : CallR X (.builtin "isinstance") (rIsXT X.K) := by
  intro pins s σ H xs us Q I r h
  obtain ⟨a, D, tp, cs, ws, b, rfl, ha, C, hT, k, says, q⟩ := h
  obtain ⟨u1, u2, rfl, r1, r2⟩ := vals2 r
  cases (show u1 = Value.ref a from r1)
  cases (show u2 = Value.ref tp from r2)
  obtain ⟨⟨ob, vs, at_, z, dt⟩, _, _⟩ := I.hok a _ ha
  have J : PySem.W.InstAt s.heap a ob D none := by
    obtain ⟨oc, od, oda, osl⟩ := ob
    obtain ⟨h1, h2⟩ := zc_of z
    dsimp only at h1 h2 dt
    subst h1 h2 dt
    exact ⟨at_, rfl, rfl, trivial⟩
  obtain ⟨_, its, rv, o, h1, h2, n, h3⟩ := (show ObjOk X.prog X.w H s.heap tp (.tup cs) from I.hok tp _ hT)
  have e3 := ClsV.all k rv
  subst e3
  obtain ⟨oc, od, dt, sl⟩ := o
  simp only at h2 h3
  subst h2 h3
  refine PySem.W.kia_tup (PySem.W.handS_kitx_exc C.hg C.hk C.hs C.hd C.ha C.hn C.ht C.hm) I.kIn J h1 says (fun w => nomatch w) fun tk => ?_
  exact ⟨.bl b, H, I.kept (t' := tk) fun _ _ w => w, rfl, q⟩
theorem kit_any {K : PySem.W.Frag} {t : Value} : ∀ {us : List Value} {bs : List Bool}, Paired (fun u b => PySem.W.kitOne K t u = some b) us bs → PySem.W.kitAny K t us = some (bs.any id)
  | _, _, .nil => rfl
  | _, _, .cons (b := b) h k => by
    refine kitAny_cons h (fun e => ?_) (fun e => ?_)
    · have z := kit_any k
      rw [e]; exact z
    · rw [e]; rfl
/-! ### a dict is locked while it is walked -/
theorem lock_d {H : Hp} {d : Addr} {kvs : List (Key × V)} {t : TS} {D : Ends} {σ : L2.St} (h : H d = some (.dK kvs))
    (k : ∀ od, t ⟨fun σ' H' => H' d = some (.frz od (.dK kvs)) ∧ D.nx σ' (upd H' d (.dK kvs)), fun v H' => H' d = some (.frz od (.dK kvs)) ∧ D.rt v (upd H' d (.dK kvs)), fun σ' H' => H' d = some (.frz od (.dK kvs)) ∧ D.bk σ' (upd H' d (.dK kvs)), fun σ' H' => H' d = some (.frz od (.dK kvs)) ∧ D.ct σ' (upd H' d (.dK kvs))⟩ σ (upd H d (.frz od (.dK kvs)))) : tLock t D σ H :=
  ⟨d, _, h, True.intro, k⟩
end Ow
namespace Ow
open PySem PySem.Spec PyProof.Rows L2
/-! ### int(x) by kinds -/
theorem call_intB {X : Cx} : CallR X (.type "int") (fun xs H Q => ∃ k, xs = [.bl k] ∧ Q (.int (if k = true then 1 else 0)) H) := by
  intro pins s σ H xs us Q I r h
  exact call_int1 pins s σ H xs us Q I r (.inr h)
theorem call_intI {X : Cx} : CallR X (.type "int") (fun xs H Q => ∃ i, xs = [.int i] ∧ Q (.int i) H) := by
  intro pins s σ H xs us Q I r h
  exact call_int1 pins s σ H xs us Q I r (.inl h)
/-! ### the keys of a dict, as a view -/
/-- a view of the keys of the dict at d stands at r -/
def KO (r d : Addr) : HO := .ext fun h => PySem.W.KdlKeysView h r d
def rKeysV : V → List V → Hp → VK → Prop := fun x xs H Q => ∃ d kvs, x = .ref d ∧ xs = [] ∧ Rd H d (.dK kvs) ∧ ∀ r, H r = none → Q (.ref r) (upd H r (KO r d))
theorem mt_keys {X : Cx} : MtR X "dict.keys" rKeysV := by
  intro pins s σ H x vs v us Q I rx rv h
  obtain ⟨d, kvs, rfl, rfl, hd, q⟩ := h
  cases rx
  cases rv
  obtain ⟨z, lo, ws, rel, dd⟩ := dk_rd I.hok hd
  refine call_meetsIn F.slot_dict_keys dd.typeIs F.entry_dict_keys (F.args_dict_keys_1 _) (PySem.W.kdl_meets_keys (mixKind X.prog X.w) d lo) ⟨⟨ws, dd⟩, ?_⟩
  refine ⟨.ref s.heap.objs.size, upd H s.heap.objs.size (KO s.heap.objs.size d), I.laid (t' := s.toks) (fun b u e => Heap.get?_push_of_some _ e) (Nat.le_refl _) ?_, rfl, q _ (I.hok.fresh (Nat.le_refl _))⟩
  exact ⟨⟨_, Heap.get?_push_size _ rfl, rfl, rfl⟩, ⟨_, Heap.get?_push_size _ rfl⟩, fun h1 h2 ⟨o, e, c, dt⟩ k => ⟨o, k o e, c, dt⟩⟩
/-- sorted of what lists whole numbers -/
theorem sorted_src {X : Cx} {pins : List (Addr × Obj)} {σ : L2.St} {H : Hp} {s : Shared} {T : String} {r d : Addr} {vs : List (Key × Value)} {OK : Heap → Prop} {ks : List Int} {Q : VK} (hcalm : X.calm = true) (I : Inv X pins σ H s)
    (S : PySem.W.KdlSrc X.prog X.w T r d vs.length (fun i v => ∃ k x, vs[i]? = some (k, x) ∧ (mixKind X.prog X.w).is k v = true) OK) (ok : OK s.heap) (hkeys : vs.map (·.1) = ks.map Sum.inl) (hz : ks.length ≤ sizeLine)
    (q : ∀ (ys : List Int) (p : Addr), ys.Perm ks → ys.Pairwise (· ≤ ·) → H p = none → Q (.ref p) (upd H p (.lst (ys.map V.int)))) : wpAny (model X.prog X.w) X.A (call (.builtin "sorted") [.ref r]) (EP X pins σ Q) X.xe s := by
  have hl : vs.length = ks.length := by
    have e := congrArg List.length hkeys
    rw [List.length_map, List.length_map] at e
    exact e
  refine Calls.call_function_entry PyProof.Rows.kind_sorted PyProof.Rows.plain_sorted PyProof.Rows.entry_sorted (PyProof.Rows.args_sorted1 _) ?_
  unfold Builtin.«sorted»
  refine wpAny_bind (m := checkCount "sorted" 1 1 _) (wpAny_pure ?_)
  refine wpAny_bind (PySem.W.kdu_collect (A := X.A.in1) S (I.ok.hd hcalm) ok (by omega) fun h' tk acc hk hacc => ?_)
  have hal : acc.toList.length = ks.length := by rw [Array.length_toList, hacc.1, hl]
  have hS : IntsAre acc.toList ks := ints_each hal fun j v e => by
    obtain ⟨k, x, e1, e2⟩ := hacc.2 j v (by rw [← Array.getElem?_toList]; exact e)
    have e3 : (vs.map (·.1))[j]? = some k := by rw [List.getElem?_map, e1]; rfl
    rw [hkeys, List.getElem?_map] at e3
    cases e4 : ks[j]? with
    | none => rw [e4] at e3; cases e3
    | some y =>
      rw [e4] at e3
      have e5 : Sum.inl y = k := Option.some.inj e3
      subst e5
      rcases keyIs_shape (show keyIs (Sum.inl y) v = true from e2) with ⟨i, t, ek, ev⟩ | ⟨z, t, ek, ev⟩
      · cases ek
        exact ⟨y, t, rfl, ev⟩
      · cases ek
  have I1 : Inv X pins σ H { s with heap := h', toks := tk } := I.kept hk
  refine wpAny_bind (wpAny_newList ?_ (by rw [hal]; exact hz))
  have hoL : (h'.push (seqObj "list" acc.toList.toArray 0)).get? h'.objs.size = some (seqObj "list" acc.toList.toArray 0) := Heap.get?_push_size _ rfl
  show wpAny _ _ _ _ _ { s with heap := h'.push (seqObj "list" acc.toList.toArray 0), toks := tk }
  refine wpAny_bind (wpAny_holding (wpAny_call_entry PyProof.Rows.slot_list_sort ⟨_, hoL, rfl⟩ PyProof.Rows.entry_list_sort
    (SrtO.list_sort_ord (s := { s with heap := h'.push (seqObj "list" acc.toList.toArray 0), toks := tk }) SrtO.swo_int hoL (by rw [hal]; exact hz) (fun h2 => SrtO.ints_sortable hS h2) fun out h1 h2 => ⟨_, rfl, ?_⟩) (PyProof.Rows.args_list_sort _)))
  obtain ⟨g1, g2, g3⟩ := SrtO.ints_out hS h1 h2
  obtain ⟨e', he'⟩ := PyProof.Rows.sortedHeap_at (vs := acc.toList) (out := out.toArray) hoL
  have hlen : ((out.map SrtO.iv).map V.int).length ≤ sizeLine := by
    rw [List.length_map, g2.length_eq]
    exact hz
  refine wpAny_pure ⟨_, rfl, .ref h'.objs.size, upd H h'.objs.size (.lst ((out.map SrtO.iv).map V.int)), I1.laid (t' := tk) (fun b u e => ?_) (Nat.le_refl _)
    (show ObjOk X.prog X.w _ _ _ (.lst ((out.map SrtO.iv).map V.int)) from ⟨hlen, out, e', vals_of_ints g1, he'⟩), rfl, q _ _ g2 g3 (I1.hok.fresh (Nat.le_refl _))⟩
  have hb : b < h'.objs.size := Heap.lt_size e
  rw [PyProof.Rows.sortedHeap_old (Nat.ne_of_lt hb) (by rw [size_push']; exact Nat.lt_succ_of_lt hb)]
  exact Heap.get?_push_of_some _ e
def rSortedK : List V → Hp → VK → Prop := fun xs H Q => ∃ (r a : Addr) (kvs : List (Key × V)) (ks : List Int), xs = [.ref r] ∧ H r = some (KO r a) ∧ Rd H a (.dK kvs) ∧ kvs.map (·.1) = ks.map Sum.inl ∧
    ∀ (ys : List Int) (p : Addr), ys.Perm ks → ys.Pairwise (· ≤ ·) → H p = none → Q (.ref p) (upd H p (.lst (ys.map V.int)))
/-- sorted(d.keys()), all ints -/
theorem call_sortedK {X : Cx} (hcalm : X.calm = true) : CallR X (.builtin "sorted") rSortedK := by
  intro pins s σ H xs us Q I r q
  obtain ⟨v, a, kvs, ks, ex, hv, hd, hks, q⟩ := q
  subst ex
  obtain ⟨u, eu, rx⟩ := vals1 r
  subst eu
  cases rx
  obtain ⟨hview, _, _⟩ := I.hok v _ hv
  obtain ⟨z, lo, vs, rel, dd⟩ := dk_rd I.hok hd
  obtain ⟨ep, hat⟩ := dd.dictAt
  have hkeys : vs.map (·.1) = ks.map Sum.inl := rel.keys.symm.trans hks
  have hz := congrArg List.length hks
  rw [List.length_map, List.length_map] at hz
  exact sorted_src hcalm I (PySem.W.kdl_keys (knd := mixKind X.prog X.w) (kvs := vs) (ep := ep) (r := v) (d := a)) ⟨hview, hat⟩ hkeys (by omega) q
def rSortedDW : List V → Hp → VK → Prop := fun xs H Q => ∃ (a : Addr) (kvs : List (Key × V)) (ks : List Int), xs = [.ref a] ∧ Rd H a (.dK kvs) ∧ kvs.map (·.1) = ks.map Sum.inl ∧
    ∀ (ys : List Int) (p : Addr), ys.Perm ks → ys.Pairwise (· ≤ ·) → H p = none → Q (.ref p) (upd H p (.lst (ys.map V.int)))
/-- sorted(d), all ints -/
theorem call_sortedDW {X : Cx} (hcalm : X.calm = true) : CallR X (.builtin "sorted") rSortedDW := by
  intro pins s σ H xs us Q I r q
  obtain ⟨a, kvs, ks, ex, hd, hks, q⟩ := q
  subst ex
  obtain ⟨u, eu, rx⟩ := vals1 r
  subst eu
  cases rx
  obtain ⟨z, lo, vs, rel, dd⟩ := dk_rd I.hok hd
  obtain ⟨ep, hat⟩ := dd.dictAt
  have hkeys : vs.map (·.1) = ks.map Sum.inl := rel.keys.symm.trans hks
  have hz := congrArg List.length hks
  rw [List.length_map, List.length_map] at hz
  exact sorted_src hcalm I (PySem.W.kdl_dict (knd := mixKind X.prog X.w) (kvs := vs) (ep := ep) lo) hat hkeys (by omega) q
end Ow
namespace Ow
open PySem PySem.Spec PyProof.Rows L2
/-! ### range(i, j), its ends of any size -/
theorem turn_long {P : Program} {w : World} {K : PySem.W.Frag} {tg : Expr} (it : Addr) (lo : Int) (n : Nat) : Turn P w K tg (Itr lo n) [it] it (fun i h => IsLongIter h it (lo + (i : Nat) * 1) ((n : Int) - (i : Nat)) 1) where
  mem := by simp
  obj := fun i h st b hb => by
    cases List.mem_singleton.mp hb
    exact ⟨_, st, fun v z => by
      have z' : Data.fields _ = Data.cell v := z
      cases z'⟩
  keep := fun i h h' st k => k it (by simp) _ st
  item := by
    intro X hP hw hK hc i pins s σ H E I hf st hg
    subst hP hw hK
    obtain ⟨f0, f1, _, f3, f4, f5⟩ := hf it (by simp)
    have hlt : i < n := hg
    refine wpAny_pyNext_long_item st (by omega) fun h' st' sb => ?_
    have st2 : IsLongIter h' it (lo + ((i + 1 : Nat) : Int) * 1) ((n : Int) - ((i + 1 : Nat) : Int)) 1 := by
      rw [show lo + ((i + 1 : Nat) : Int) * 1 = lo + ((i : Nat) : Int) * 1 + 1 by omega, show (n : Int) - ((i + 1 : Nat) : Int) = (n : Int) - ((i : Nat) : Int) - 1 by omega]
      exact st'
    have J : Inv X pins σ H { s with heap := h', toks := s.toks + 1 } := I.turned (fun b o hb q => (sb.2 b hb).trans q) f0 f1 f3 f4 f5
    refine ⟨_, rfl, go_of (s := { s with heap := h', toks := s.toks + 1 }) (n := "longrange_iterator") st2 rfl rfl (by decide) ⟨.int (lo + i), H, J, ⟨s.toks, ?_⟩, ⟨rfl, rfl⟩, st2, fun b hb => (hf b hb).1⟩⟩
    rw [Int.mul_one]
  done := by
    intro X hP hw hK hc i pins s σ H E I hf st hg
    subst hP hw hK
    obtain ⟨f0, f1, _, f3, f4, f5⟩ := hf it (by simp)
    exact wpAny_pyNext_long_end (I.ok.hd hc) st (by have : n ≤ i := hg; omega) fun h' eb => ⟨rfl, I.turned (t' := s.toks) (fun b o hb q => eb b o hb q) f0 f1 f3 f4 f5⟩
  self := fun _ _ _ _ _ st h => wpAny_pyIter_longiter st h
def iRngW (ta : TA) : TI := fun σ H R => ta σ H fun vs H1 => ∃ i j : Int, vs = [.int i, .int j] ∧ R (Itr i (j - i).toNat) H1
theorem pi_range2W {X : Cx} {tg a b : Expr} {ta : TA} {p pos : Pos} (hg : Gl X "range") (hm : X.mg "range" = none) (ha : PA X [a, b] ta) (hs : starEach [a, b] X.env = [(false, eval a X.env), (false, eval b X.env)] := by rfl) (hs2 : starEach [b] X.env = [(false, eval b X.env)] := by rfl) :
    PI X tg (.Call (.Name "range" p) [a, b] [] pos) (iRngW ta) := by
  constructor
  intro pins s σ H R I h
  refine Call_ (ld_blt I hg hm boot_range (PyProof.Rows.callWith_type1 (thn (ha.run pos pins s σ H _ I h) fun us s1 ⟨vs, H1, I1, r1, lo, hi, ev, q⟩ => ?_) (by rw [hs, hs2]) (by rw [hs2]; rfl)))
  subst ev
  obtain ⟨u1, u2, rfl, ⟨t, rfl⟩, ⟨t', rfl⟩⟩ := vals2 r1
  refine call_range_2 ?_
  generalize hh : s1.heap.push { cls := .type "range", data := .fields #[.int lo t, .int hi t', .int 1 s1.toks] } = g
  have I2 : Inv X pins σ H1 { s1 with heap := g, toks := s1.toks + 1 } := I1.kept fun b o q => by rw [← hh]; exact Heap.get?_push_of_some _ q
  have at_ : IsRange g s1.heap.objs.size lo hi 1 t t' s1.toks := by rw [← hh]; exact Heap.get?_push_size _ rfl
  have size : ((((hi - lo).toNat : Nat) : Int) - ((0 : Nat) : Int)) = Builtin.Range.rangeSize lo hi 1 := by rw [rangeSize_one]; split <;> omega
  have place : lo + ((0 : Nat) : Int) * 1 = lo := by simp
  cases hb : Builtin.Range.small lo hi 1 with
  | true =>
    refine wpAny_pyIter_range at_ hb ⟨g.objs.size, [g.objs.size], _, _, H1, rfl, I2.kept (t' := s1.toks + 1) fun b o q => Heap.get?_push_of_some _ q, turn_range _ lo (hi - lo).toNat, ?_, fun b hb => ?_, q⟩
    · show IsRangeIter _ _ (lo + ((0 : Nat) : Int) * 1) ((((hi - lo).toNat : Nat) : Int) - ((0 : Nat) : Int)) 1
      rw [place, size]
      exact Heap.get?_push_size _ rfl
    · cases List.mem_singleton.mp hb
      exact I2.fpOk (Nat.le_refl _) (I2.hok.fresh (Nat.le_refl _))
  | false =>
    refine wpAny_pyIter_longrange at_ hb ⟨g.objs.size, [g.objs.size], _, _, H1, rfl, I2.kept (t' := s1.toks + 1) fun b o q => Heap.get?_push_of_some _ q, turn_long _ lo (hi - lo).toNat, ?_, fun b hb => ?_, q⟩
    · show IsLongIter _ _ (lo + ((0 : Nat) : Int) * 1) ((((hi - lo).toNat : Nat) : Int) - ((0 : Nat) : Int)) 1
      rw [place, size]
      exact Heap.get?_push_size _ rfl
    · cases List.mem_singleton.mp hb
      exact I2.fpOk (Nat.le_refl _) (I2.hok.fresh (Nat.le_refl _))
end Ow
namespace Ow
open PySem PySem.Spec PyProof.Rows L2
/-! ### defs that are called while an exception is handled -/
theorem roomX {k : Nat} {A : Around} {v : Option Value} (r : Room k A) : L2H.RoomH k (A.mark v) := ⟨r.dp, r.un⟩
/-- the same context under another surrounding, not calm -/
theorem inv_re {X : Cx} {pins : List (Addr × Obj)} {σ : L2.St} {H : Hp} {s : Shared} (I : Inv X pins σ H s) (A2 : Around) (xe2 : Value → Shared → Prop) (h : A2.frames = X.A.frames) : Inv { X with A := A2, calm := false, xe := xe2 } pins σ H s :=
  have k := I.ok
  ⟨⟨k.mod, k.kind, k.glob, k.blt, k.above, k.inj, k.has, k.cab, (fun z => Bool.noConfusion (show false = true from z)), h.trans k.frames, k.stk, k.exf, k.bs, k.bsz, k.noex, k.exfs, k.funs, k.frf⟩, I.os, I.bare, I.base, I.loc, I.cell, I.free, I.freeC, I.pin, I.hok, I.len⟩
/-- what a def promises where the exception at a is handled -/
structure FnX (P : Program) (w : World) (K : PySem.W.Frag) (mg : Str → Option Value) (base : Heap) (k : Nat) (f : Addr) (fd : FuncData) (ps : List Str) (sp : Addr → Sp) : Prop where
  many : ∀ a vs H Q E, sp a vs H Q E → vs.length = ps.length
  runs : ∀ (a : Addr) (A : Around) (outer : List Env) (s : Shared) (H : Hp) (args : Args) (us : List Value) (vs : List V) (Q : VK) (E : XK), A.handled = some (.ref a) → L2H.RoomH k A → Env0 P w K mg base A outer s H → BindsTo s fd args (ps.zip us) → Vals vs us → sp a vs H Q E →
    codeAny (model P w) A (.call (.ref f) args) (CR (L2.CX P w) outer P w H s Q E) s
abbrev cxX (P : Program) (w : World) (K : PySem.W.Frag) (mg : Str → Option Value) (base : Heap) (N : List Str) (qual : Str) (scope : Scope) (f : Addr) (cd : Value) (A : Around) (outer : List Env) (s : Shared) (H : Hp) (E : XK) : Cx :=
  { cxOf (L2.CX P w) P w K mg base N qual scope f cd A outer s H E with calm := false }
section
variable {P : Program} {w : World} {K : PySem.W.Frag} {mg : Str → Option Value} {base : Heap}
theorem fnX_of {x qual : Str} {params : Arguments} {body : List Stmt} {scope : Scope} {f : Addr} {fd : FuncData} {N ps : List Str} {k : Nat} {sp : Addr → Sp} (F : FunD K x qual params body scope [] [] f fd) (S : FnScope N ps scope) (many : ∀ a vs H Q E, sp a vs H Q E → vs.length = ps.length)
    (does : ∀ (cdv : Value) (A : Around) (outer : List Env) (s : Shared) (H : Hp) (vs : List V) (Q : VK) (E : XK) (a : Addr), A.handled = some (.ref a) → L2H.RoomH k (A.deeper (envOfC qual scope s.heap.objs.size f cdv)) → sp a vs H Q E →
      ∃ t, PSs (cxX P w K mg base N qual scope f cdv A outer s H E) body t ∧ t { nx := fun _ H' => Q .non H', rt := Q } (L2.start N vs) H) : FnX P w K mg base (k + 1) f fd ps sp := by
  obtain ⟨oc, od, dV, kV, doc, pm, an, cdv, ct, osl, rfl, looked, coded, _, _⟩ := F.ex
  refine ⟨many, fun a A outer s H args us vs Q E hot room e0 bound r asked => ?_⟩
  have given := many _ _ _ _ _ asked
  have inK : K.In s.heap := e0.mod.kin.keeps fun b o e => (e0.bs b o e).1
  have unbound : s.heap.NoLimit := e0.mod.nolimit.keeps fun b o e => (e0.bs b o e).1
  have kinds : ∀ y ∈ ps.zip us, scope.names.lookup y.1 = some .local ∨ (scope.names.lookup y.1 = some .cell ∧ ((cellsFrom (s.heap.objs.size + 1) scope.names []).lookup y.1).isSome = true) := by
    intro y hy
    refine (S.par y.1 (List.of_mem_zip (a := y.1) (b := y.2) hy).1).imp (fun z => z) fun z => ⟨z, ?_⟩
    exact PySem.W.cellsFrom_some _ _ _ (.inl z)
  refine codeAny_call_function room.depth (inK _ _ looked) rfl S.co S.gen rfl (PySem.W.codeRec_of inK coded) (bound _ _ _ _ (wpAny_newFunctionEnv_cells S.kind kinds fun env he s1 x => ?_))
  cases he
  refine ⟨unbound.keeps x.toInCall.keep, codeAny_func ?_⟩
  obtain ⟨t, derived, reads⟩ := does cdv A outer s H vs Q E a hot (room.deeper _) asked
  have cold : Env0 P w K mg base { A with handled := none } outer s H := ⟨e0.frames, e0.mod, e0.bs, e0.bsz, e0.funs, e0.frf, e0.hok, e0.bare⟩
  have I : Inv (cxX P w K mg base N qual scope f cdv A outer s H E) [] (L2.start N vs) H s1 := inv_re (inv_start (CX := L2.CX P w) (E := E) S rfl cold given r x) (A.deeper (envOfC qual scope s.heap.objs.size f cdv)) _ rfl
  refine wpAny_mono (derived.run [] s1 (L2.start N vs) H _ I reads) (fun fl s2 ends => ?_) fun _ _ left => left
  rcases fl with _ | _ | _ | u
  · obtain ⟨τ, G, J, q⟩ := ends
    exact ⟨.non, G, J.os, J.bare, J.base, J.hok, rfl, q⟩
  · exact ends.elim fun _ z => z.elim fun _ z => z.2.elim
  · exact ends.elim fun _ z => z.elim fun _ z => z.2.elim
  · obtain ⟨v, τ, G, J, rv, q⟩ := ends
    exact ⟨v, G, J.os, J.bare, J.base, J.hok, rv, q⟩
end
/-- a def that may be called so -/
structure CeeX (P : Program) (w : World) (K : PySem.W.Frag) (mg : Str → Option Value) (base : Heap) (k : Nat) (f : Addr) (ps : List Str) (sp : Addr → Sp) : Prop where
  kp : PySem.W.keepIn K (.ref f) = true
  fn : ∃ fd, FnX P w K mg base k f fd ps (fun a => bx (sp a)) ∧ Binds K fd ps []
theorem ceeX_of {P : Program} {w : World} {K : PySem.W.Frag} {mg : Str → Option Value} {base : Heap} {x qual : Str} {params : Arguments} {body : List Stmt} {scope : Scope} {f : Addr} {N ps : List Str} {k : Nat} {sp : Addr → Sp} (F : ∃ fd, FunD K x qual params body scope [] [] f fd) (S : FnScope N ps scope)
    (hb : ∀ (kV doc pm : Value) (an : Option Addr) (cdv ct : Value) (us : List Value), us.length = ps.length → bindArgs (PySem.W.fnOf x qual params body scope .none kV doc pm an cdv ct) ⟨us, []⟩ = pure (ps.zip us))
    (many : ∀ a vs H Q E, sp a vs H Q E → vs.length = ps.length)
    (does : ∀ (cdv : Value) (A : Around) (outer : List Env) (s : Shared) (H : Hp) (vs : List V) (Q : VK) (E : XK) (a : Addr), A.handled = some (.ref a) → L2H.RoomH k (A.deeper (envOfC qual scope s.heap.objs.size f cdv)) → sp a vs H Q E →
      ∃ t, PSs (cxX P w K mg base N qual scope f cdv A outer s H E) body t ∧ t { nx := fun _ H' => Q .non H', rt := Q } (L2.start N vs) H) : CeeX P w K mg base (k + 1) f ps sp := by
  obtain ⟨fd, F⟩ := F
  exact ⟨F.kp, fd, fnX_of F S (fun a vs H Q E h => many a vs H Q E h.out) (fun cdv A outer s H vs Q E a hot room h => does cdv A outer s H vs Q E a hot room h.out), F.bindsN hb⟩
section
variable {X : Cx} {k : Nat} {f a : Addr} {ps : List Str} {sp : Addr → Sp} {W : WX} {x : Str} {p pos : Pos} {e : Expr} {es : List Expr} {t : TA}
theorem pe_fX (c : CeeX X.prog X.w X.K X.mg X.base k f ps sp) (hr : L2H.RoomH k X.A) (hot : X.A.handled = some (.ref a)) (tk : Takes X W) (hg : Gl X x) (hm : X.mg x = some (.ref f)) (ha : PA X (e :: es) t) (hdb : (x == ("__debug__" : Str)) = false := by decide)
    (he : starEach (e :: es) X.env = (false, eval e X.env) :: starEach es X.env := by rfl) (hpl : (backTo pos (starEach es X.env)).any (·.1) = false := by rfl) :
    PE X (.Call (.Name x p) (e :: es) [] pos) (tCallS (bx (sp a)) (WE W) t) := by
  obtain ⟨fd, F, b⟩ := c.fn
  constructor
  intro pins s σ H Q I h
  refine wpAny_Call_Name_kw (ld_glob I hg hm (PySem.W.callWith_K (h₀ := X.base) I.ok.mod.kin c.kp (thn (ha.run pos pins s σ H _ I h) fun us s1 ⟨vs, H1, I1, rv, q⟩ => ⟨I1.kIn, ?_⟩) he hpl) hdb)
  have many : us.length = ps.length := by rw [← rv.length]; exact F.many _ _ _ _ _ q
  have binds := b s1 us I1.kIn (by rw [List.append_nil]; exact many)
  rw [List.append_nil] at binds
  refine wpAny_call (codeAny_mono (F.runs a X.A X.stack s1 H1 ⟨us, []⟩ us vs Q (WE W σ) hot hr I1.env0 binds rv q) fun r s' ends => ?_)
  rcases r with ev | fl
  · exact passAt tk σ pins H1 s1 ev s' I1 ends
  · rcases fl with _ | _ | _ | u
    · exact ends.elim
    · exact ends.elim
    · exact ends.elim
    · exact I1.after ends
end
end Ow
namespace Ow
open PySem PySem.Spec PySem.Calls PyProof.V PyProof.Rows L2
/-! ### dicts with tuple keys: pop(k), setdefault(k, v) -/
section
variable {prog : Program} {w : World} {K : Type} [DecidableEq K] {knd : HeapKind prog w K} {A : Around} {E : Value → Shared → Prop} {s : Shared}
theorem meetsPop1 {d b : Addr} {k : K} (hd : (d == sysModules) = false) :
    MeetsIn prog w (Builtin.«dict.pop» ⟨[.ref d, .ref b], []⟩) (fun A R s => ∃ xs, knd.room A.in1 ∧ knd.is s.heap k b ∧ s.heap.DictOfH knd d xs ∧ xs.length ≤ sizeLine ∧ (∃ p, atKey xs k = some p) ∧
      ∀ p, atKey xs k = some p → ∀ h' tk, h'.DictOfH knd d (DT.dropH xs k) → Heap.SameBut d s.heap h' → R (.ok (.ret p.2)) { s with heap := h', toks := tk }) :=
  .of_wp fun A R s ⟨xs, hu, hkey, hm, hsz, ⟨p0, hp0⟩, hsome⟩ => by
    obtain ⟨o, es, ep, ho, hc, hdat, he, his, hn⟩ := id hm
    have hes : es.size = xs.length := size_of_entries he
    have hpart : (keyPart (Value.ref b)).isSome = false := rfl
    unfold Builtin.«dict.pop»
    refine wpAny_bind ?_
    unfold Builtin.Dict.keyAndDefault
    refine wpAny_bind (wpAny_notOrdered_dict hm.typeIs ?_)
    show wpAny _ _ (pure (d, Value.ref b, none)) _ _ s
    refine wpAny_pure ?_
    simp only [hpart, Bool.false_eq_true, if_false]
    refine wpAny_bind (wpAny_dictEntries ho hdat (wpAny_bind (wpAny_pure ?_)))
    cases hem : es.isEmpty with
    | true =>
      have h0 : xs = [] := by
        have z : es.size = 0 := by simpa using hem
        exact List.length_eq_zero_iff.mp (by omega)
      rw [h0] at hp0
      cases hp0
    | false =>
      simp only [Bool.false_eq_true, if_false]
      refine wpAny_bind (DT.takeH hu hkey hm hsz (fun hno => by rw [hp0] at hno; cases hno) fun p e hp hev h' hm' hs' => ?_)
      simp only [Option.isNone_some, Bool.false_eq_true, if_false]
      exact wpAny_bind (wpAny_letGo (wpAny_pure ⟨e.val, rfl, by rw [hev]; exact hsome p hp h' _ hm' hs'⟩))
theorem setdH {d a : Addr} {xs : List (K × Addr × Value)} {k : K} {v : Value} {Q : Value → Shared → Prop} (hu : knd.room A) (hkey : knd.is s.heap k a) (hm : s.heap.DictOfH knd d xs) (hsz : xs.length ≤ sizeLine)
    (h1 : ∀ p, atKey xs k = some p → Q p.2 { s with toks := s.toks + knd.draws k })
    (h2 : atKey xs k = none → ∀ h', h'.DictOfH knd d (storedH xs k a v) → Heap.SameBut d s.heap h' → Q v { s with heap := h', toks := s.toks + knd.draws k }) :
    wpAny (model prog w) A (dictSetDefault d (.ref a) v) Q E s := by
  obtain ⟨o, es, ep, ho, hc, hd, he, his, hn⟩ := hm
  unfold dictSetDefault
  try with_reducible refine wpAny_holding ?_
  refine wpAny_bind (knd.pyHash hu hkey ?_)
  refine wpAny_bind (wpAny_dictFind_heap (s := { s with toks := s.toks + knd.draws k }) hu hkey ho hd he his hn ?_ ?_)
  · intro hno
    have hnot : k ∉ xs.map (·.1) := not_mem_keys_of_get hno
    refine wpAny_bind (wpAny_rule (wpAny_bind (wpAny_updateDictKeys (hz := by have e := size_of_entries he; omega) (s := { s with toks := s.toks + knd.draws k }) ho hd (wpAny_pure (h2 (atKey_none_of_get hno) _ ⟨_, _, ep + 1, Heap.get?_update_self _ ho (Obj.isFreed_of_dict (Obj.data_mapDictKeys hd _)),
      hc.mapDictKeys _, Obj.data_mapDictKeys hd _, ?_, ?_, ?_⟩ (Heap.SameBut.update ..))))))
    · rw [storedH_new (atKey_none_of_get hno)]
      simp [he, entryOfKey]
    · rw [storedH_new (atKey_none_of_get hno)]
      intro x hx
      rcases List.mem_append.mp hx with hx | hx
      · exact knd.keeps (his x hx) ho hd (Heap.SameBut.update ..)
      · simp only [List.mem_singleton] at hx
        subst hx
        exact knd.keeps hkey ho hd (Heap.SameBut.update ..)
    · rw [storedH_new (atKey_none_of_get hno)]
      rw [List.map_append, List.nodup_append]
      refine ⟨hn, by simp, ?_⟩
      intro x hx y hy
      simp only [List.map_cons, List.map_nil, List.mem_singleton] at hy
      subst hy
      exact fun e => hnot (e ▸ hx)
  · intro j p hj
    refine wpAny_bind (wpAny_dictEntries (s := { s with toks := s.toks + knd.draws k }) ho hd ?_)
    rw [entry_at he j, hj]
    exact wpAny_bind (wpAny_rule (wpAny_pure (h1 p (atKey_of_get hn hj))))
theorem meetsSetd {d b : Addr} {k : K} (dflt : Value) (hd : (d == sysModules) = false) :
    MeetsIn prog w (Builtin.«dict.setdefault» ⟨[.ref d, .ref b, dflt], []⟩) (fun A R s => ∃ xs, knd.room A.in1 ∧ knd.is s.heap k b ∧ s.heap.DictOfH knd d xs ∧ xs.length ≤ sizeLine ∧
      (∀ p, atKey xs k = some p → ∀ tk, R (.ok (.ret p.2)) { s with toks := tk }) ∧
      (atKey xs k = none → ∀ h' tk, h'.DictOfH knd d (storedH xs k b dflt) → Heap.SameBut d s.heap h' → R (.ok (.ret dflt)) { s with heap := h', toks := tk })) :=
  .of_wp fun A R s ⟨xs, hu, hkey, hm, hsz, h1, h2⟩ => by
    unfold Builtin.«dict.setdefault»
    refine wpAny_bind ?_
    unfold Builtin.Dict.keyAndDefault
    refine wpAny_bind (wpAny_notOrdered_dict hm.typeIs ?_)
    show wpAny _ _ (pure (d, Value.ref b, some dflt)) _ _ s
    refine wpAny_pure ?_
    show wpAny _ _ (if (d == sysModules) = true then _ else (dictSetDefault d (.ref b) dflt >>= _)) _ _ s
    rw [if_neg (by rw [hd]; exact Bool.false_ne_true)]
    exact wpAny_bind (setdH hu hkey hm hsz (fun p hp => wpAny_pure ⟨p.2, rfl, h1 p hp _⟩) fun hn h' hm' hs' => wpAny_pure ⟨dflt, rfl, h2 hn h' _ hm' hs'⟩)
end
section
variable {X : Cx}
def rPopT1 : V → List V → Hp → VK → Prop := fun x xs H Q => ∃ (a : Addr) (kvs : List (List Key × V)) (k : List Key) (b : Addr) (v : V), x = .ref a ∧ xs = [.ref b] ∧ H a = some (.dT kvs) ∧ H b = some (.tup (k.map kV)) ∧ valV kvs k = some v ∧ Q v (upd H a (.dT (dropK kvs k)))
theorem mt_popT1 (hu : X.A.units + 1 < cLine) : MtR X "dict.pop" rPopT1 := by
  intro pins s σ H x xs v us Q I rx rxs h
  obtain ⟨a, kvs, k, b, v1, rfl, rfl, ha, hb, hv, q1⟩ := h
  cases rx
  obtain ⟨u1, rfl, r1⟩ := vals1 rxs
  cases r1
  obtain ⟨z, hd, xs', rel, dd⟩ := dt_of I.hok ha
  have hz : xs'.length ≤ sizeLine := by rw [← Paired.length rel]; exact z
  refine call_meetsIn PySem.F.slot_dict_pop dd.typeIs PySem.F.entry_dict_pop (PySem.F.args_dict_pop_2 _ _) (meetsPop1 (knd := tupleKind (mixKind X.prog X.w)) (k := k) hd)
    ⟨xs', tupleKind_room_in1 hu, key_of I.hok hb, dd, hz, ?_, fun p hp h' tk dd' hs => ?_⟩
  · have r := rel.val k
    rw [hv] at r
    cases e : atKey xs' k with
    | none =>
      rw [e] at r
      exact (show False from r).elim
    | some p => exact ⟨p, rfl⟩
  · have r := rel.val k
    rw [hp, hv] at r
    obtain ⟨o, es, ep, hq, h2, h3, h4, _, h5⟩ := dd'
    have I2 : Inv X pins σ (upd H a (.dT (dropK kvs k))) { s with heap := h', toks := tk } :=
      d_write I (by rw [ha]; exact True.intro) hs ⟨o, hq⟩ ⟨Nat.le_trans (dropK_le kvs k) z, hd, _, (L2.DX.KT_drop k rel).keeps (fun c ys ec => (by rw [upd_ne (ne_of ec ha (fun z => nomatch z))]; exact ec)), o, es, ep, hq, h2, h3, h4, h5⟩
    exact ⟨v1, _, I2, r, q1⟩
def rSetdT : V → List V → Hp → VK → Prop := fun x xs H Q => ∃ (a : Addr) (kvs : List (List Key × V)) (k : List Key) (b : Addr) (d : V), x = .ref a ∧ xs = [.ref b, d] ∧ H a = some (.dT kvs) ∧ H b = some (.tup (k.map kV)) ∧ kvs.length < sizeLine ∧
  (∀ v, valV kvs k = some v → Q v H) ∧ (valV kvs k = none → Q d (upd H a (.dT (putK kvs k d))))
theorem mt_setdefT (hu : X.A.units + 1 < cLine) : MtR X "dict.setdefault" rSetdT := by
  intro pins s σ H x xs v us Q I rx rxs h
  obtain ⟨a, kvs, k, b, d, rfl, rfl, ha, hb, hl, q1, q2⟩ := h
  cases rx
  obtain ⟨u1, u2, rfl, r1, r2⟩ := vals2 rxs
  cases r1
  obtain ⟨z, hd, xs', rel, dd⟩ := dt_of I.hok ha
  have hz : xs'.length ≤ sizeLine := by rw [← Paired.length rel]; exact z
  refine call_meetsIn PySem.F.slot_dict_setdefault dd.typeIs PySem.F.entry_dict_setdefault (PySem.F.args_dict_setdefault_3 _ _ _) (meetsSetd (knd := tupleKind (mixKind X.prog X.w)) (k := k) u2 hd)
    ⟨xs', tupleKind_room_in1 hu, key_of I.hok hb, dd, hz, fun p hp tk => ?_, fun hn h' tk dd' hs => ?_⟩
  · have r := rel.val k
    rw [hp] at r
    obtain ⟨v0, ev, rv⟩ : ∃ v0, valV kvs k = some v0 ∧ RelV v0 p.2 := by
      cases ev : valV kvs k with
      | none =>
        rw [ev] at r
        exact (show False from r).elim
      | some v0 =>
        rw [ev] at r
        exact ⟨v0, rfl, r⟩
    exact ⟨v0, H, I.tok tk, rv, q1 v0 ev⟩
  · have r := rel.val k
    rw [hn] at r
    have e : valV kvs k = none := by
      cases ev : valV kvs k with
      | none => rfl
      | some v0 =>
        rw [ev] at r
        exact (show False from r).elim
    have hl2 : (putK kvs k d).length ≤ sizeLine := by have := length_putK kvs k d; omega
    obtain ⟨q, es, ep, hq, h2, h3, h4, _, h5⟩ := dd'
    have I2 : Inv X pins σ (upd H a (.dT (putK kvs k d))) { s with heap := h', toks := tk } :=
      d_write I (by rw [ha]; exact True.intro) hs ⟨q, hq⟩ ⟨hl2, hd, _, (rel.put k hb r2).keeps fun c ys ec => (by rw [upd_ne (ne_of ec ha (fun z => nomatch z))]; exact ec), q, es, ep, hq, h2, h3, h4, h5⟩
    exact ⟨d, _, I2, r2, q2 e⟩
end
end Ow
namespace Ow
open PySem PySem.Spec PyProof.Rows L2
/-! ### texts, ranges -/
theorem op_notIn_rng {X : Cx} : OpR X (compareOp .NotIn) (fun x y H Q => ∃ i a lo hi, x = V.int i ∧ y = V.ref a ∧ H a = some (.rng lo hi) ∧ Q (.bl (!decide (lo ≤ i ∧ i < hi))) H) := by
  intro pins s σ H x y v u Q I rx ry h
  obtain ⟨i, a, lo, hi, rfl, rfl, ha, q⟩ := h
  obtain ⟨k, rfl⟩ := rx
  obtain rfl : u = Value.ref a := ry
  obtain ⟨t1, t2, t3, ho⟩ := I.hok a _ ha
  show wpAny _ _ (do return Value.bool (!(← contains (Value.ref a) (Value.int i k)))) _ _ s
  refine wpAny_bind (wpAny_contains_slot (T := "range") ⟨_, ho, rfl⟩ F.slot_range_contains (call_meets F.slot_range_contains ⟨_, ho, rfl⟩ F.entry_range_contains (F.args_range_contains_2 _ _) (q_contains a lo hi i t1 t2 t3 k) ⟨ho, wpAny_truthy_bool (wpAny_pure ?_)⟩))
  refine ⟨.bl _, H, I, rfl, ?_⟩
  rw [place1]
  exact q
/-- so many times a text -/
def repS (z : Str) (n : Int) : Str := ⟨((List.replicate n.toNat z.cps.toList).flatten).toArray⟩
theorem foldl_cps (c : Array Nat) : ∀ (k : Nat) (a : Array Nat), (List.replicate k c).foldl (· ++ ·) a = a ++ ((List.replicate k c.toList).flatten).toArray
  | 0, a => by simp
  | k + 1, a => by
    rw [List.replicate_succ, List.foldl_cons, foldl_cps c k, List.replicate_succ, List.flatten_cons, Array.append_assoc]
    congr 1
    apply Array.ext'
    simp
theorem op_rep_str {X : Cx} : OpR X (binaryOp .Mult) (fun x y H Q => ∃ z n, x = .str z ∧ y = .int n ∧ 0 ≤ n ∧ n ≤ 2000 ∧ z.length ≤ 2000 ∧ Q (.str (repS z n)) H) := by
  intro pins s σ H x y v u Q I rx ry h
  obtain ⟨z, n, rfl, rfl, h0, h1, h2, q⟩ := h
  obtain ⟨t, rfl⟩ := rx
  obtain ⟨t2, rfl⟩ := ry
  have hl : z.length * n.toNat ≤ 4000000 := Nat.le_trans (Nat.mul_le_mul h2 (show n.toNat ≤ 2000 by omega)) (by decide)
  have e0 : n < 1 → repS z n = Str.empty := fun h => by
    have : n.toNat = 0 := by omega
    unfold repS; rw [this]; rfl
  have e1 : (n == 1 || z.length == 0) = true → ¬ n < 1 → repS z n = z := fun h hn => by
    rcases (Bool.or_eq_true _ _).mp h with h | h
    · obtain rfl := eq_of_beq h
      unfold repS
      show (⟨((List.replicate 1 z.cps.toList).flatten).toArray⟩ : Str) = z
      simp
    · have hz : z.cps.toList = [] := by
        have := eq_of_beq h
        exact List.length_eq_zero_iff.mp (by rw [Array.length_toList]; exact this)
      have hc : z.cps = #[] := Array.ext' hz
      unfold repS
      rw [hz, List.flatten_replicate_nil]
      cases z
      congr 1
      exact hc.symm
  have e2 : (⟨(List.replicate n.toNat z.cps).foldl (· ++ ·) #[]⟩ : Str) = repS z n := by rw [foldl_cps, Array.empty_append]; rfl
  refine P.mul_str (by
      have a1 : ¬ n < -(2 ^ 63) := by omega
      have a2 : ¬ n ≥ 2 ^ 63 := by omega
      rw [decide_eq_false a1, decide_eq_false a2]; rfl) (fun hn _ hc => ?_) (fun _ _ => ?_) ?_
  · have h3 : (2000 : Int) ≤ (2 ^ 63 - 1) / n := Int.le_ediv_of_mul_le (by omega) (by omega)
    omega
  · unfold Builtin.Str.tooLong
    exact decide_eq_false (by have : sizeLine ≥ 4000000 := by decide
                              omega)
  · split
    · next hn => exact ⟨by decide, .str (repS z n), H, I.tok _, ⟨_, by rw [e0 hn]⟩, q⟩
    · next hn =>
      split
      · next hb => exact ⟨.str (repS z n), H, I, ⟨_, by rw [e1 hb hn]⟩, q⟩
      · next hb =>
        refine ⟨?_, .str (repS z n), H, I.tok _, ⟨_, by rw [e2]⟩, q⟩
        rw [e2]
        unfold repS Str.length
        rw [List.size_toArray, List.length_flatten, List.map_replicate, List.sum_replicate_nat, Array.length_toList]
        have h4 : z.length = z.cps.size := rfl
        rw [← h4, Nat.mul_comm]
        exact Nat.le_trans hl (by decide)
section
variable {H0 H : Hp} {A : List Addr} {cs : Cells} {p : Addr} {o : HO}
/-- a new cell, the heap behind it by a letter -/
theorem Own.sQ {β : Type} {y : β} {G : Hp → β → Prop} (O : Own H0 H A cs) (h : H p = none) (k : ∀ H', Own H0 H' A ((p, o) :: cs) → Own H H' (Ow.adr cs) ((p, o) :: cs) → G H' y) : G (upd H p o) y := k _ (O.new h) (O.self.new h)
theorem Own.sT {β : Type} {y : β} {G : Hp → β → Prop} (O : Own H0 H A cs) (h : H p = none) (k : ∀ H', Own H0 H' A cs → Own H H' (Ow.adr cs) cs → H' p = some o → G H' y) : G (upd H p o) y := k _ (O.newT h) (O.self.newT h) upd_same
theorem Own.sG {G : Hp → Prop} (O : Own H0 H A cs) (h : H p = none) (k : ∀ H', Own H0 H' A ((p, o) :: cs) → Own H H' (Ow.adr cs) ((p, o) :: cs) → G H') : G (upd H p o) := k _ (O.new h) (O.self.new h)
end
end Ow
namespace Ow
open PySem PySem.Spec PyProof.Rows L2
/-! ### isinstance by a class's own row of classes: few looks for many askings -/
theorem sub_of {K : PySem.W.Frag} {D : Addr} {cs : List Value} {bs : List Bool} (h : mroB K D cs bs = true) (k : Nat) {c : Value} {b : Bool} (e1 : cs[k]? = some c) (e2 : bs[k]? = some b) : PySem.W.subIn K (.ref D) c = some b ∧ (((.ref D : Value) == c) = true → b = true) := by
  unfold mroB at h
  split at h
  · next cd hcd =>
    rw [Bool.and_eq_true, Bool.and_eq_true] at h
    obtain ⟨h1, h2, h3⟩ := h
    have h3 := eq_of_beq h3
    have h4 : cd.mro.contains c = b := by
      have := congrArg (fun l : List Bool => l[k]?) h3
      simp only [List.getElem?_map, e1, e2, Option.map_some] at this
      exact Option.some.inj this
    refine ⟨?_, fun z => ?_⟩
    · show PySem.W.mroIn K D c = some b
      unfold PySem.W.mroIn
      rw [hcd, Option.bind_some, if_neg (by simpa using h1), h4]
    · rw [← eq_of_beq z, h2] at h4
      exact h4.symm
  · cases h
theorem kit_ref {K : PySem.W.Frag} {D C : Addr} {cs : List Value} {bs : List Bool} (h : mroB K D cs bs = true) (hc : clsOk K C = true) (k : Nat) {b : Bool} (e1 : cs[k]? = some (.ref C)) (e2 : bs[k]? = some b) : PySem.W.kitOne K (.ref D) (.ref C) = some b := by
  obtain ⟨h1, h2⟩ := sub_of h k e1 e2
  unfold PySem.W.kitOne
  split
  · next z => rw [h2 z]
  · unfold PySem.W.kitCls
    unfold clsOk at hc
    dsimp only
    rw [if_pos hc]
    exact h1
theorem kit_typ {K : PySem.W.Frag} {D : Addr} {T : String} {cs : List Value} {bs : List Bool} (h : mroB K D cs bs = true) (hc : PySem.W.kitMeta T = true) (k : Nat) {b : Bool} (e1 : cs[k]? = some (.type T)) (e2 : bs[k]? = some b) : PySem.W.kitOne K (.ref D) (.type T) = some b := by
  obtain ⟨h1, h2⟩ := sub_of h k e1 e2
  unfold PySem.W.kitOne
  split
  · next z => rw [h2 z]
  · unfold PySem.W.kitCls
    dsimp only
    rw [if_pos hc]
    exact h1
end Ow
namespace Ow
open PySem PySem.Spec PyProof.Rows L2

structure Txt (K : PySem.W.Frag) (mg : Str → Option Value) : Prop where
  g_KernelError : mg "KernelError" = some (.ref (He.ga K "KernelError"))
  g_NoOwner : mg "NoOwner" = some (.ref (He.ga K "NoOwner"))
  g_NoTask : mg "NoTask" = some (.ref (He.ga K "NoTask"))
  g_NoPage : mg "NoPage" = some (.ref (He.ga K "NoPage"))
  g_NoRoom : mg "NoRoom" = some (.ref (He.ga K "NoRoom"))
  g_Taken : mg "Taken" = some (.ref (He.ga K "Taken"))
  g_NoBlock : mg "NoBlock" = some (.ref (He.ga K "NoBlock"))
  g_Fallen : mg "Fallen" = some (.ref (He.ga K "Fallen"))
  g_BadName : mg "BadName" = some (.ref (He.ga K "BadName"))
  g_NoName : mg "NoName" = some (.ref (He.ga K "NoName"))
  g_NotDir : mg "NotDir" = some (.ref (He.ga K "NotDir"))
  g_IsDir : mg "IsDir" = some (.ref (He.ga K "IsDir"))
  g_NotEmpty : mg "NotEmpty" = some (.ref (He.ga K "NotEmpty"))
  g_Inside : mg "Inside" = some (.ref (He.ga K "Inside"))
  g_NoNode : mg "NoNode" = some (.ref (He.ga K "NoNode"))
  g_NoSpace : mg "NoSpace" = some (.ref (He.ga K "NoSpace"))
  g_TooMany : mg "TooMany" = some (.ref (He.ga K "TooMany"))
  g_TooBig : mg "TooBig" = some (.ref (He.ga K "TooBig"))
  g_NotHeld : mg "NotHeld" = some (.ref (He.ga K "NotHeld"))
  g_NotAllowed : mg "NotAllowed" = some (.ref (He.ga K "NotAllowed"))
  g_NoHandle : mg "NoHandle" = some (.ref (He.ga K "NoHandle"))
  g_BadMode : mg "BadMode" = some (.ref (He.ga K "BadMode"))
  g_Again : mg "Again" = some (.ref (He.ga K "Again"))
  g_Broken : mg "Broken" = some (.ref (He.ga K "Broken"))
  g_NoChild : mg "NoChild" = some (.ref (He.ga K "NoChild"))
  g_BadCall : mg "BadCall" = some (.ref (He.ga K "BadCall"))
  g_BadRow : mg "BadRow" = some (.ref (He.ga K "BadRow"))
  g_PAGE_SIZE : ∃ t, mg "PAGE_SIZE" = some (.int 8 t)
  g_Store : mg "Store" = some (.ref (He.ga K "Store"))
  g_BLANK : mg "BLANK" = some (.ref (He.ga K "BLANK"))
  g_Paging : mg "Paging" = some (.ref (He.ga K "Paging"))
  g_STEP : ∃ t, mg "STEP" = some (.int 8 t)
  g_Table : mg "Table" = some (.ref (He.ga K "Table"))
  g_PAGES : ∃ t, mg "PAGES" = some (.int 64 t)
  g_pages_asked : mg "pages_asked" = some (.ref (He.ga K "pages_asked"))
  g_stretches_of : mg "stretches_of" = some (.ref (He.ga K "stretches_of"))
  g_Rooms : mg "Rooms" = some (.ref (He.ga K "Rooms"))
  g__law_mixed : mg "_law_mixed" = some (.ref (He.ga K "_law_mixed"))
  g__law_number : mg "_law_number" = some (.ref (He.ga K "_law_number"))
  g__law_cells : mg "_law_cells" = some (.ref (He.ga K "_law_cells"))
  g__law_deed : mg "_law_deed" = some (.ref (He.ga K "_law_deed"))
  g__law_model : mg "_law_model" = some (.ref (He.ga K "_law_model"))
  g__law_held : mg "_law_held" = some (.ref (He.ga K "_law_held"))
  g__law_stretch : mg "_law_stretch" = some (.ref (He.ga K "_law_stretch"))
  g__law_due : mg "_law_due" = some (.ref (He.ga K "_law_due"))
  g__law_done : mg "_law_done" = some (.ref (He.ga K "_law_done"))
  g__law_called : mg "_law_called" = some (.ref (He.ga K "_law_called"))
  g__law_sizes : mg "_law_sizes" = some (.ref (He.ga K "_law_sizes"))
  g__law_tasks : mg "_law_tasks" = some (.ref (He.ga K "_law_tasks"))
  g__law_state : mg "_law_state" = some (.ref (He.ga K "_law_state"))
  g__law_refusal : mg "_law_refusal" = some (.ref (He.ga K "_law_refusal"))
  g__law_far : mg "_law_far" = some (.ref (He.ga K "_law_far"))
  g__law_bad : mg "_law_bad" = some (.ref (He.ga K "_law_bad"))
  g__law_none_asked : mg "_law_none_asked" = some (.ref (He.ga K "_law_none_asked"))
  g_law : mg "law" = some (.ref (He.ga K "law"))
  n_ValueError : mg "ValueError" = none
  n_list : mg "list" = none
  n_range : mg "range" = none
  n_sum : mg "sum" = none
  n_isinstance : mg "isinstance" = none
  n_sorted : mg "sorted" = none
  n_min : mg "min" = none
  n_any : mg "any" = none
  n_int : mg "int" = none
  n_all : mg "all" = none
  n_max : mg "max" = none
  n_len : mg "len" = none
  n_zip : mg "zip" = none
  n_dict : mg "dict" = none
  n_enumerate : mg "enumerate" = none
  x_NoOwner : XcIn K (He.ga K "NoOwner")
  x_NoTask : XcIn K (He.ga K "NoTask")
  x_NoPage : XcIn K (He.ga K "NoPage")
  x_NoRoom : XcIn K (He.ga K "NoRoom")
  x_Taken : XcIn K (He.ga K "Taken")
  c_Store : Cls K (He.ga K "Store")
  m_Store : Mk K (He.ga K "Store") (He.ma K (He.ga K "Store") "__init__")
  m_Store_take : Meth K (He.ga K "Store") "take" (He.ma K (He.ga K "Store") "take")
  m_Store_look_taken : Meth K (He.ga K "Store") "look_taken" (He.ma K (He.ga K "Store") "look_taken")
  m_Store_more : Meth K (He.ga K "Store") "more" (He.ma K (He.ga K "Store") "more")
  m_Store_less : Meth K (He.ga K "Store") "less" (He.ma K (He.ga K "Store") "less")
  m_Store_count : Meth K (He.ga K "Store") "count" (He.ma K (He.ga K "Store") "count")
  m_Store_cells : Meth K (He.ga K "Store") "cells" (He.ma K (He.ga K "Store") "cells")
  m_Store_put : Meth K (He.ga K "Store") "put" (He.ma K (He.ga K "Store") "put")
  m_Store_free : Meth K (He.ga K "Store") "free" (He.ma K (He.ga K "Store") "free")
  a_Store_owners : NoAttr K (He.ga K "Store") "owners"
  a_Store_contents : NoAttr K (He.ga K "Store") "contents"
  c_Paging : Cls K (He.ga K "Paging")
  m_Paging : Mk K (He.ga K "Paging") (He.ma K (He.ga K "Paging") "__init__")
  m_Paging_entry : Meth K (He.ga K "Paging") "entry" (He.ma K (He.ga K "Paging") "entry")
  m_Paging_lay : Meth K (He.ga K "Paging") "lay" (He.ma K (He.ga K "Paging") "lay")
  m_Paging_share : Meth K (He.ga K "Paging") "share" (He.ma K (He.ga K "Paging") "share")
  m_Paging_leave : Meth K (He.ga K "Paging") "leave" (He.ma K (He.ga K "Paging") "leave")
  m_Paging_lifted : Meth K (He.ga K "Paging") "lifted" (He.ma K (He.ga K "Paging") "lifted")
  m_Paging_settle : Meth K (He.ga K "Paging") "settle" (He.ma K (He.ga K "Paging") "settle")
  m_Paging_put_out : Meth K (He.ga K "Paging") "put_out" (He.ma K (He.ga K "Paging") "put_out")
  m_Paging_frame_taken : Meth K (He.ga K "Paging") "frame_taken" (He.ma K (He.ga K "Paging") "frame_taken")
  m_Paging_fetch : Meth K (He.ga K "Paging") "fetch" (He.ma K (He.ga K "Paging") "fetch")
  m_Paging_part : Meth K (He.ga K "Paging") "part" (He.ma K (He.ga K "Paging") "part")
  m_Paging_cells : Meth K (He.ga K "Paging") "cells" (He.ma K (He.ga K "Paging") "cells")
  m_Paging_put : Meth K (He.ga K "Paging") "put" (He.ma K (He.ga K "Paging") "put")
  m_Paging_counts : Meth K (He.ga K "Paging") "counts" (He.ma K (He.ga K "Paging") "counts")
  a_Paging_stores : NoAttr K (He.ga K "Paging") "stores"
  a_Paging_frames : NoAttr K (He.ga K "Paging") "frames"
  a_Paging_slots : NoAttr K (He.ga K "Paging") "slots"
  a_Paging_tables : NoAttr K (He.ga K "Paging") "tables"
  a_Paging_owners : NoAttr K (He.ga K "Paging") "owners"
  a_Paging_hand : NoAttr K (He.ga K "Paging") "hand"
  c_Table : Cls K (He.ga K "Table")
  m_Table : Mk K (He.ga K "Table") (He.ma K (He.ga K "Table") "__init__")
  m_Table_get : Meth K (He.ga K "Table") "get" (He.ma K (He.ga K "Table") "get")
  m_Table_lay : Meth K (He.ga K "Table") "lay" (He.ma K (He.ga K "Table") "lay")
  m_Table_clear : Meth K (He.ga K "Table") "clear" (He.ma K (He.ga K "Table") "clear")
  m_Table_pages : Meth K (He.ga K "Table") "pages" (He.ma K (He.ga K "Table") "pages")
  a_Table_firsts : NoAttr K (He.ga K "Table") "firsts"
  c_Rooms : Cls K (He.ga K "Rooms")
  m_Rooms : Mk K (He.ga K "Rooms") (He.ma K (He.ga K "Rooms") "__init__")
  m_Rooms_begin : Meth K (He.ga K "Rooms") "begin" (He.ma K (He.ga K "Rooms") "begin")
  m_Rooms_table_of : Meth K (He.ga K "Rooms") "table_of" (He.ma K (He.ga K "Rooms") "table_of")
  m_Rooms_close : Meth K (He.ga K "Rooms") "close" (He.ma K (He.ga K "Rooms") "close")
  m_Rooms_held : Meth K (He.ga K "Rooms") "held" (He.ma K (He.ga K "Rooms") "held")
  m_Rooms_ask_room : Meth K (He.ga K "Rooms") "ask_room" (He.ma K (He.ga K "Rooms") "ask_room")
  m_Rooms_map : Meth K (He.ga K "Rooms") "map" (He.ma K (He.ga K "Rooms") "map")
  m_Rooms_look_mapped : Meth K (He.ga K "Rooms") "look_mapped" (He.ma K (He.ga K "Rooms") "look_mapped")
  m_Rooms_drop : Meth K (He.ga K "Rooms") "drop" (He.ma K (He.ga K "Rooms") "drop")
  m_Rooms_stretches : Meth K (He.ga K "Rooms") "stretches" (He.ma K (He.ga K "Rooms") "stretches")
  m_Rooms_peek : Meth K (He.ga K "Rooms") "peek" (He.ma K (He.ga K "Rooms") "peek")
  m_Rooms_poke : Meth K (He.ga K "Rooms") "poke" (He.ma K (He.ga K "Rooms") "poke")
  m_Rooms_copy : Meth K (He.ga K "Rooms") "copy" (He.ma K (He.ga K "Rooms") "copy")
  m_Rooms_place : Meth K (He.ga K "Rooms") "place" (He.ma K (He.ga K "Rooms") "place")
  m_Rooms_counts : Meth K (He.ga K "Rooms") "counts" (He.ma K (He.ga K "Rooms") "counts")
  a_Rooms_paging : NoAttr K (He.ga K "Rooms") "paging"
  q_BLANK : ∀ H, SqT K H (He.ga K "BLANK") [.str "blank"]
  e_NoOwner : ExcC K (He.ga K "NoOwner")
  o_BadCall : clsOk K (He.ga K "BadCall") = true
  o_BadMode : clsOk K (He.ga K "BadMode") = true
  o_BadName : clsOk K (He.ga K "BadName") = true
  o_BadRow : clsOk K (He.ga K "BadRow") = true
  o_Broken : clsOk K (He.ga K "Broken") = true
  o_Fallen : clsOk K (He.ga K "Fallen") = true
  o_Inside : clsOk K (He.ga K "Inside") = true
  o_IsDir : clsOk K (He.ga K "IsDir") = true
  o_NoBlock : clsOk K (He.ga K "NoBlock") = true
  o_NoChild : clsOk K (He.ga K "NoChild") = true
  o_NoHandle : clsOk K (He.ga K "NoHandle") = true
  o_NoName : clsOk K (He.ga K "NoName") = true
  o_NoNode : clsOk K (He.ga K "NoNode") = true
  o_NoOwner : clsOk K (He.ga K "NoOwner") = true
  o_NoSpace : clsOk K (He.ga K "NoSpace") = true
  o_NotAllowed : clsOk K (He.ga K "NotAllowed") = true
  o_NotDir : clsOk K (He.ga K "NotDir") = true
  o_NotEmpty : clsOk K (He.ga K "NotEmpty") = true
  o_NotHeld : clsOk K (He.ga K "NotHeld") = true
  o_TooBig : clsOk K (He.ga K "TooBig") = true
  o_TooMany : clsOk K (He.ga K "TooMany") = true
  o_Again : clsOk K (He.ga K "Again") = true
  o_NoTask : clsOk K (He.ga K "NoTask") = true
  o_NoPage : clsOk K (He.ga K "NoPage") = true
  o_NoRoom : clsOk K (He.ga K "NoRoom") = true
  o_Taken : clsOk K (He.ga K "Taken") = true
  w_NoOwner : mroB K (He.ga K "NoOwner") [(.ref (He.ga K "BadCall")), (.ref (He.ga K "BadMode")), (.ref (He.ga K "BadName")), (.ref (He.ga K "BadRow")), (.ref (He.ga K "Broken")), (.ref (He.ga K "Fallen")), (.ref (He.ga K "Inside")), (.ref (He.ga K "IsDir")), (.ref (He.ga K "NoBlock")), (.ref (He.ga K "NoChild")), (.ref (He.ga K "NoHandle")), (.ref (He.ga K "NoName")), (.ref (He.ga K "NoNode")), (.ref (He.ga K "NoOwner")), (.ref (He.ga K "NoSpace")), (.ref (He.ga K "NotAllowed")), (.ref (He.ga K "NotDir")), (.ref (He.ga K "NotEmpty")), (.ref (He.ga K "NotHeld")), (.ref (He.ga K "TooBig")), (.ref (He.ga K "TooMany")), (.ref (He.ga K "Again")), (.ref (He.ga K "NoTask")), (.ref (He.ga K "NoPage")), (.ref (He.ga K "NoRoom")), (.ref (He.ga K "Taken")), (.type "ValueError")] [false, false, false, false, false, false, false, false, false, false, false, false, false, true, false, false, false, false, false, false, false, false, false, false, false, false, true] = true
  y_NoOwner_KernelError : PySem.W.exmOne K (.ref (He.ga K "NoOwner")) (.ref (He.ga K "KernelError")) = some true
  e_NoPage : ExcC K (He.ga K "NoPage")
  w_NoPage : mroB K (He.ga K "NoPage") [(.ref (He.ga K "BadCall")), (.ref (He.ga K "BadMode")), (.ref (He.ga K "BadName")), (.ref (He.ga K "BadRow")), (.ref (He.ga K "Broken")), (.ref (He.ga K "Fallen")), (.ref (He.ga K "Inside")), (.ref (He.ga K "IsDir")), (.ref (He.ga K "NoBlock")), (.ref (He.ga K "NoChild")), (.ref (He.ga K "NoHandle")), (.ref (He.ga K "NoName")), (.ref (He.ga K "NoNode")), (.ref (He.ga K "NoOwner")), (.ref (He.ga K "NoSpace")), (.ref (He.ga K "NotAllowed")), (.ref (He.ga K "NotDir")), (.ref (He.ga K "NotEmpty")), (.ref (He.ga K "NotHeld")), (.ref (He.ga K "TooBig")), (.ref (He.ga K "TooMany")), (.ref (He.ga K "Again")), (.ref (He.ga K "NoTask")), (.ref (He.ga K "NoPage")), (.ref (He.ga K "NoRoom")), (.ref (He.ga K "Taken")), (.type "ValueError")] [false, false, false, false, false, false, false, false, false, false, false, false, false, false, false, false, false, false, false, false, false, false, false, true, false, false, true] = true
  y_NoPage_KernelError : PySem.W.exmOne K (.ref (He.ga K "NoPage")) (.ref (He.ga K "KernelError")) = some true
  e_Taken : ExcC K (He.ga K "Taken")
  w_Taken : mroB K (He.ga K "Taken") [(.ref (He.ga K "BadCall")), (.ref (He.ga K "BadMode")), (.ref (He.ga K "BadName")), (.ref (He.ga K "BadRow")), (.ref (He.ga K "Broken")), (.ref (He.ga K "Fallen")), (.ref (He.ga K "Inside")), (.ref (He.ga K "IsDir")), (.ref (He.ga K "NoBlock")), (.ref (He.ga K "NoChild")), (.ref (He.ga K "NoHandle")), (.ref (He.ga K "NoName")), (.ref (He.ga K "NoNode")), (.ref (He.ga K "NoOwner")), (.ref (He.ga K "NoSpace")), (.ref (He.ga K "NotAllowed")), (.ref (He.ga K "NotDir")), (.ref (He.ga K "NotEmpty")), (.ref (He.ga K "NotHeld")), (.ref (He.ga K "TooBig")), (.ref (He.ga K "TooMany")), (.ref (He.ga K "Again")), (.ref (He.ga K "NoTask")), (.ref (He.ga K "NoPage")), (.ref (He.ga K "NoRoom")), (.ref (He.ga K "Taken")), (.type "ValueError")] [false, false, false, false, false, false, false, false, false, false, false, false, false, false, false, false, false, false, false, false, false, false, false, false, false, true, true] = true
  y_Taken_KernelError : PySem.W.exmOne K (.ref (He.ga K "Taken")) (.ref (He.ga K "KernelError")) = some true
  e_NoTask : ExcC K (He.ga K "NoTask")
  w_NoTask : mroB K (He.ga K "NoTask") [(.ref (He.ga K "BadCall")), (.ref (He.ga K "BadMode")), (.ref (He.ga K "BadName")), (.ref (He.ga K "BadRow")), (.ref (He.ga K "Broken")), (.ref (He.ga K "Fallen")), (.ref (He.ga K "Inside")), (.ref (He.ga K "IsDir")), (.ref (He.ga K "NoBlock")), (.ref (He.ga K "NoChild")), (.ref (He.ga K "NoHandle")), (.ref (He.ga K "NoName")), (.ref (He.ga K "NoNode")), (.ref (He.ga K "NoOwner")), (.ref (He.ga K "NoSpace")), (.ref (He.ga K "NotAllowed")), (.ref (He.ga K "NotDir")), (.ref (He.ga K "NotEmpty")), (.ref (He.ga K "NotHeld")), (.ref (He.ga K "TooBig")), (.ref (He.ga K "TooMany")), (.ref (He.ga K "Again")), (.ref (He.ga K "NoTask")), (.ref (He.ga K "NoPage")), (.ref (He.ga K "NoRoom")), (.ref (He.ga K "Taken")), (.type "ValueError")] [false, false, false, false, false, false, false, false, false, false, false, false, false, false, false, false, false, false, false, false, false, false, true, false, false, false, true] = true
  y_NoTask_KernelError : PySem.W.exmOne K (.ref (He.ga K "NoTask")) (.ref (He.ga K "KernelError")) = some true
  e_NoRoom : ExcC K (He.ga K "NoRoom")
  w_NoRoom : mroB K (He.ga K "NoRoom") [(.ref (He.ga K "BadCall")), (.ref (He.ga K "BadMode")), (.ref (He.ga K "BadName")), (.ref (He.ga K "BadRow")), (.ref (He.ga K "Broken")), (.ref (He.ga K "Fallen")), (.ref (He.ga K "Inside")), (.ref (He.ga K "IsDir")), (.ref (He.ga K "NoBlock")), (.ref (He.ga K "NoChild")), (.ref (He.ga K "NoHandle")), (.ref (He.ga K "NoName")), (.ref (He.ga K "NoNode")), (.ref (He.ga K "NoOwner")), (.ref (He.ga K "NoSpace")), (.ref (He.ga K "NotAllowed")), (.ref (He.ga K "NotDir")), (.ref (He.ga K "NotEmpty")), (.ref (He.ga K "NotHeld")), (.ref (He.ga K "TooBig")), (.ref (He.ga K "TooMany")), (.ref (He.ga K "Again")), (.ref (He.ga K "NoTask")), (.ref (He.ga K "NoPage")), (.ref (He.ga K "NoRoom")), (.ref (He.ga K "Taken")), (.type "ValueError")] [false, false, false, false, false, false, false, false, false, false, false, false, false, false, false, false, false, false, false, false, false, false, false, false, true, false, true] = true
  y_NoRoom_KernelError : PySem.W.exmOne K (.ref (He.ga K "NoRoom")) (.ref (He.ga K "KernelError")) = some true
  k_NoOwner_BadCall : PySem.W.kitOne K (.ref (He.ga K "NoOwner")) (.ref (He.ga K "BadCall")) = some false
  k_NoOwner_BadMode : PySem.W.kitOne K (.ref (He.ga K "NoOwner")) (.ref (He.ga K "BadMode")) = some false
  k_NoOwner_BadName : PySem.W.kitOne K (.ref (He.ga K "NoOwner")) (.ref (He.ga K "BadName")) = some false
  k_NoOwner_BadRow : PySem.W.kitOne K (.ref (He.ga K "NoOwner")) (.ref (He.ga K "BadRow")) = some false
  k_NoOwner_Broken : PySem.W.kitOne K (.ref (He.ga K "NoOwner")) (.ref (He.ga K "Broken")) = some false
  k_NoOwner_Fallen : PySem.W.kitOne K (.ref (He.ga K "NoOwner")) (.ref (He.ga K "Fallen")) = some false
  k_NoOwner_Inside : PySem.W.kitOne K (.ref (He.ga K "NoOwner")) (.ref (He.ga K "Inside")) = some false
  k_NoOwner_IsDir : PySem.W.kitOne K (.ref (He.ga K "NoOwner")) (.ref (He.ga K "IsDir")) = some false
  k_NoOwner_NoBlock : PySem.W.kitOne K (.ref (He.ga K "NoOwner")) (.ref (He.ga K "NoBlock")) = some false
  k_NoOwner_NoChild : PySem.W.kitOne K (.ref (He.ga K "NoOwner")) (.ref (He.ga K "NoChild")) = some false
  k_NoOwner_NoHandle : PySem.W.kitOne K (.ref (He.ga K "NoOwner")) (.ref (He.ga K "NoHandle")) = some false
  k_NoOwner_NoName : PySem.W.kitOne K (.ref (He.ga K "NoOwner")) (.ref (He.ga K "NoName")) = some false
  k_NoOwner_NoNode : PySem.W.kitOne K (.ref (He.ga K "NoOwner")) (.ref (He.ga K "NoNode")) = some false
  k_NoOwner_NoOwner : PySem.W.kitOne K (.ref (He.ga K "NoOwner")) (.ref (He.ga K "NoOwner")) = some true
  k_NoOwner_NoSpace : PySem.W.kitOne K (.ref (He.ga K "NoOwner")) (.ref (He.ga K "NoSpace")) = some false
  k_NoOwner_NotAllowed : PySem.W.kitOne K (.ref (He.ga K "NoOwner")) (.ref (He.ga K "NotAllowed")) = some false
  k_NoOwner_NotDir : PySem.W.kitOne K (.ref (He.ga K "NoOwner")) (.ref (He.ga K "NotDir")) = some false
  k_NoOwner_NotEmpty : PySem.W.kitOne K (.ref (He.ga K "NoOwner")) (.ref (He.ga K "NotEmpty")) = some false
  k_NoOwner_NotHeld : PySem.W.kitOne K (.ref (He.ga K "NoOwner")) (.ref (He.ga K "NotHeld")) = some false
  k_NoOwner_TooBig : PySem.W.kitOne K (.ref (He.ga K "NoOwner")) (.ref (He.ga K "TooBig")) = some false
  k_NoOwner_TooMany : PySem.W.kitOne K (.ref (He.ga K "NoOwner")) (.ref (He.ga K "TooMany")) = some false
  k_NoOwner_Again : PySem.W.kitOne K (.ref (He.ga K "NoOwner")) (.ref (He.ga K "Again")) = some false
  k_NoOwner_NoTask : PySem.W.kitOne K (.ref (He.ga K "NoOwner")) (.ref (He.ga K "NoTask")) = some false
  k_NoOwner_NoPage : PySem.W.kitOne K (.ref (He.ga K "NoOwner")) (.ref (He.ga K "NoPage")) = some false
  k_NoOwner_NoRoom : PySem.W.kitOne K (.ref (He.ga K "NoOwner")) (.ref (He.ga K "NoRoom")) = some false
  k_NoOwner_Taken : PySem.W.kitOne K (.ref (He.ga K "NoOwner")) (.ref (He.ga K "Taken")) = some false
  k_NoOwner_ValueError : PySem.W.kitOne K (.ref (He.ga K "NoOwner")) (.type "ValueError") = some true
  k_NoPage_BadCall : PySem.W.kitOne K (.ref (He.ga K "NoPage")) (.ref (He.ga K "BadCall")) = some false
  k_NoPage_BadMode : PySem.W.kitOne K (.ref (He.ga K "NoPage")) (.ref (He.ga K "BadMode")) = some false
  k_NoPage_BadName : PySem.W.kitOne K (.ref (He.ga K "NoPage")) (.ref (He.ga K "BadName")) = some false
  k_NoPage_BadRow : PySem.W.kitOne K (.ref (He.ga K "NoPage")) (.ref (He.ga K "BadRow")) = some false
  k_NoPage_Broken : PySem.W.kitOne K (.ref (He.ga K "NoPage")) (.ref (He.ga K "Broken")) = some false
  k_NoPage_Fallen : PySem.W.kitOne K (.ref (He.ga K "NoPage")) (.ref (He.ga K "Fallen")) = some false
  k_NoPage_Inside : PySem.W.kitOne K (.ref (He.ga K "NoPage")) (.ref (He.ga K "Inside")) = some false
  k_NoPage_IsDir : PySem.W.kitOne K (.ref (He.ga K "NoPage")) (.ref (He.ga K "IsDir")) = some false
  k_NoPage_NoBlock : PySem.W.kitOne K (.ref (He.ga K "NoPage")) (.ref (He.ga K "NoBlock")) = some false
  k_NoPage_NoChild : PySem.W.kitOne K (.ref (He.ga K "NoPage")) (.ref (He.ga K "NoChild")) = some false
  k_NoPage_NoHandle : PySem.W.kitOne K (.ref (He.ga K "NoPage")) (.ref (He.ga K "NoHandle")) = some false
  k_NoPage_NoName : PySem.W.kitOne K (.ref (He.ga K "NoPage")) (.ref (He.ga K "NoName")) = some false
  k_NoPage_NoNode : PySem.W.kitOne K (.ref (He.ga K "NoPage")) (.ref (He.ga K "NoNode")) = some false
  k_NoPage_NoOwner : PySem.W.kitOne K (.ref (He.ga K "NoPage")) (.ref (He.ga K "NoOwner")) = some false
  k_NoPage_NoSpace : PySem.W.kitOne K (.ref (He.ga K "NoPage")) (.ref (He.ga K "NoSpace")) = some false
  k_NoPage_NotAllowed : PySem.W.kitOne K (.ref (He.ga K "NoPage")) (.ref (He.ga K "NotAllowed")) = some false
  k_NoPage_NotDir : PySem.W.kitOne K (.ref (He.ga K "NoPage")) (.ref (He.ga K "NotDir")) = some false
  k_NoPage_NotEmpty : PySem.W.kitOne K (.ref (He.ga K "NoPage")) (.ref (He.ga K "NotEmpty")) = some false
  k_NoPage_NotHeld : PySem.W.kitOne K (.ref (He.ga K "NoPage")) (.ref (He.ga K "NotHeld")) = some false
  k_NoPage_TooBig : PySem.W.kitOne K (.ref (He.ga K "NoPage")) (.ref (He.ga K "TooBig")) = some false
  k_NoPage_TooMany : PySem.W.kitOne K (.ref (He.ga K "NoPage")) (.ref (He.ga K "TooMany")) = some false
  k_NoPage_Again : PySem.W.kitOne K (.ref (He.ga K "NoPage")) (.ref (He.ga K "Again")) = some false
  k_NoPage_NoTask : PySem.W.kitOne K (.ref (He.ga K "NoPage")) (.ref (He.ga K "NoTask")) = some false
  k_NoPage_NoPage : PySem.W.kitOne K (.ref (He.ga K "NoPage")) (.ref (He.ga K "NoPage")) = some true
  k_NoPage_NoRoom : PySem.W.kitOne K (.ref (He.ga K "NoPage")) (.ref (He.ga K "NoRoom")) = some false
  k_NoPage_Taken : PySem.W.kitOne K (.ref (He.ga K "NoPage")) (.ref (He.ga K "Taken")) = some false
  k_NoPage_ValueError : PySem.W.kitOne K (.ref (He.ga K "NoPage")) (.type "ValueError") = some true
  k_Taken_BadCall : PySem.W.kitOne K (.ref (He.ga K "Taken")) (.ref (He.ga K "BadCall")) = some false
  k_Taken_BadMode : PySem.W.kitOne K (.ref (He.ga K "Taken")) (.ref (He.ga K "BadMode")) = some false
  k_Taken_BadName : PySem.W.kitOne K (.ref (He.ga K "Taken")) (.ref (He.ga K "BadName")) = some false
  k_Taken_BadRow : PySem.W.kitOne K (.ref (He.ga K "Taken")) (.ref (He.ga K "BadRow")) = some false
  k_Taken_Broken : PySem.W.kitOne K (.ref (He.ga K "Taken")) (.ref (He.ga K "Broken")) = some false
  k_Taken_Fallen : PySem.W.kitOne K (.ref (He.ga K "Taken")) (.ref (He.ga K "Fallen")) = some false
  k_Taken_Inside : PySem.W.kitOne K (.ref (He.ga K "Taken")) (.ref (He.ga K "Inside")) = some false
  k_Taken_IsDir : PySem.W.kitOne K (.ref (He.ga K "Taken")) (.ref (He.ga K "IsDir")) = some false
  k_Taken_NoBlock : PySem.W.kitOne K (.ref (He.ga K "Taken")) (.ref (He.ga K "NoBlock")) = some false
  k_Taken_NoChild : PySem.W.kitOne K (.ref (He.ga K "Taken")) (.ref (He.ga K "NoChild")) = some false
  k_Taken_NoHandle : PySem.W.kitOne K (.ref (He.ga K "Taken")) (.ref (He.ga K "NoHandle")) = some false
  k_Taken_NoName : PySem.W.kitOne K (.ref (He.ga K "Taken")) (.ref (He.ga K "NoName")) = some false
  k_Taken_NoNode : PySem.W.kitOne K (.ref (He.ga K "Taken")) (.ref (He.ga K "NoNode")) = some false
  k_Taken_NoOwner : PySem.W.kitOne K (.ref (He.ga K "Taken")) (.ref (He.ga K "NoOwner")) = some false
  k_Taken_NoSpace : PySem.W.kitOne K (.ref (He.ga K "Taken")) (.ref (He.ga K "NoSpace")) = some false
  k_Taken_NotAllowed : PySem.W.kitOne K (.ref (He.ga K "Taken")) (.ref (He.ga K "NotAllowed")) = some false
  k_Taken_NotDir : PySem.W.kitOne K (.ref (He.ga K "Taken")) (.ref (He.ga K "NotDir")) = some false
  k_Taken_NotEmpty : PySem.W.kitOne K (.ref (He.ga K "Taken")) (.ref (He.ga K "NotEmpty")) = some false
  k_Taken_NotHeld : PySem.W.kitOne K (.ref (He.ga K "Taken")) (.ref (He.ga K "NotHeld")) = some false
  k_Taken_TooBig : PySem.W.kitOne K (.ref (He.ga K "Taken")) (.ref (He.ga K "TooBig")) = some false
  k_Taken_TooMany : PySem.W.kitOne K (.ref (He.ga K "Taken")) (.ref (He.ga K "TooMany")) = some false
  k_Taken_Again : PySem.W.kitOne K (.ref (He.ga K "Taken")) (.ref (He.ga K "Again")) = some false
  k_Taken_NoTask : PySem.W.kitOne K (.ref (He.ga K "Taken")) (.ref (He.ga K "NoTask")) = some false
  k_Taken_NoPage : PySem.W.kitOne K (.ref (He.ga K "Taken")) (.ref (He.ga K "NoPage")) = some false
  k_Taken_NoRoom : PySem.W.kitOne K (.ref (He.ga K "Taken")) (.ref (He.ga K "NoRoom")) = some false
  k_Taken_Taken : PySem.W.kitOne K (.ref (He.ga K "Taken")) (.ref (He.ga K "Taken")) = some true
  k_Taken_ValueError : PySem.W.kitOne K (.ref (He.ga K "Taken")) (.type "ValueError") = some true
  k_NoTask_BadCall : PySem.W.kitOne K (.ref (He.ga K "NoTask")) (.ref (He.ga K "BadCall")) = some false
  k_NoTask_BadMode : PySem.W.kitOne K (.ref (He.ga K "NoTask")) (.ref (He.ga K "BadMode")) = some false
  k_NoTask_BadName : PySem.W.kitOne K (.ref (He.ga K "NoTask")) (.ref (He.ga K "BadName")) = some false
  k_NoTask_BadRow : PySem.W.kitOne K (.ref (He.ga K "NoTask")) (.ref (He.ga K "BadRow")) = some false
  k_NoTask_Broken : PySem.W.kitOne K (.ref (He.ga K "NoTask")) (.ref (He.ga K "Broken")) = some false
  k_NoTask_Fallen : PySem.W.kitOne K (.ref (He.ga K "NoTask")) (.ref (He.ga K "Fallen")) = some false
  k_NoTask_Inside : PySem.W.kitOne K (.ref (He.ga K "NoTask")) (.ref (He.ga K "Inside")) = some false
  k_NoTask_IsDir : PySem.W.kitOne K (.ref (He.ga K "NoTask")) (.ref (He.ga K "IsDir")) = some false
  k_NoTask_NoBlock : PySem.W.kitOne K (.ref (He.ga K "NoTask")) (.ref (He.ga K "NoBlock")) = some false
  k_NoTask_NoChild : PySem.W.kitOne K (.ref (He.ga K "NoTask")) (.ref (He.ga K "NoChild")) = some false
  k_NoTask_NoHandle : PySem.W.kitOne K (.ref (He.ga K "NoTask")) (.ref (He.ga K "NoHandle")) = some false
  k_NoTask_NoName : PySem.W.kitOne K (.ref (He.ga K "NoTask")) (.ref (He.ga K "NoName")) = some false
  k_NoTask_NoNode : PySem.W.kitOne K (.ref (He.ga K "NoTask")) (.ref (He.ga K "NoNode")) = some false
  k_NoTask_NoOwner : PySem.W.kitOne K (.ref (He.ga K "NoTask")) (.ref (He.ga K "NoOwner")) = some false
  k_NoTask_NoSpace : PySem.W.kitOne K (.ref (He.ga K "NoTask")) (.ref (He.ga K "NoSpace")) = some false
  k_NoTask_NotAllowed : PySem.W.kitOne K (.ref (He.ga K "NoTask")) (.ref (He.ga K "NotAllowed")) = some false
  k_NoTask_NotDir : PySem.W.kitOne K (.ref (He.ga K "NoTask")) (.ref (He.ga K "NotDir")) = some false
  k_NoTask_NotEmpty : PySem.W.kitOne K (.ref (He.ga K "NoTask")) (.ref (He.ga K "NotEmpty")) = some false
  k_NoTask_NotHeld : PySem.W.kitOne K (.ref (He.ga K "NoTask")) (.ref (He.ga K "NotHeld")) = some false
  k_NoTask_TooBig : PySem.W.kitOne K (.ref (He.ga K "NoTask")) (.ref (He.ga K "TooBig")) = some false
  k_NoTask_TooMany : PySem.W.kitOne K (.ref (He.ga K "NoTask")) (.ref (He.ga K "TooMany")) = some false
  k_NoTask_Again : PySem.W.kitOne K (.ref (He.ga K "NoTask")) (.ref (He.ga K "Again")) = some false
  k_NoTask_NoTask : PySem.W.kitOne K (.ref (He.ga K "NoTask")) (.ref (He.ga K "NoTask")) = some true
  k_NoTask_NoPage : PySem.W.kitOne K (.ref (He.ga K "NoTask")) (.ref (He.ga K "NoPage")) = some false
  k_NoTask_NoRoom : PySem.W.kitOne K (.ref (He.ga K "NoTask")) (.ref (He.ga K "NoRoom")) = some false
  k_NoTask_Taken : PySem.W.kitOne K (.ref (He.ga K "NoTask")) (.ref (He.ga K "Taken")) = some false
  k_NoTask_ValueError : PySem.W.kitOne K (.ref (He.ga K "NoTask")) (.type "ValueError") = some true
  k_NoRoom_BadCall : PySem.W.kitOne K (.ref (He.ga K "NoRoom")) (.ref (He.ga K "BadCall")) = some false
  k_NoRoom_BadMode : PySem.W.kitOne K (.ref (He.ga K "NoRoom")) (.ref (He.ga K "BadMode")) = some false
  k_NoRoom_BadName : PySem.W.kitOne K (.ref (He.ga K "NoRoom")) (.ref (He.ga K "BadName")) = some false
  k_NoRoom_BadRow : PySem.W.kitOne K (.ref (He.ga K "NoRoom")) (.ref (He.ga K "BadRow")) = some false
  k_NoRoom_Broken : PySem.W.kitOne K (.ref (He.ga K "NoRoom")) (.ref (He.ga K "Broken")) = some false
  k_NoRoom_Fallen : PySem.W.kitOne K (.ref (He.ga K "NoRoom")) (.ref (He.ga K "Fallen")) = some false
  k_NoRoom_Inside : PySem.W.kitOne K (.ref (He.ga K "NoRoom")) (.ref (He.ga K "Inside")) = some false
  k_NoRoom_IsDir : PySem.W.kitOne K (.ref (He.ga K "NoRoom")) (.ref (He.ga K "IsDir")) = some false
  k_NoRoom_NoBlock : PySem.W.kitOne K (.ref (He.ga K "NoRoom")) (.ref (He.ga K "NoBlock")) = some false
  k_NoRoom_NoChild : PySem.W.kitOne K (.ref (He.ga K "NoRoom")) (.ref (He.ga K "NoChild")) = some false
  k_NoRoom_NoHandle : PySem.W.kitOne K (.ref (He.ga K "NoRoom")) (.ref (He.ga K "NoHandle")) = some false
  k_NoRoom_NoName : PySem.W.kitOne K (.ref (He.ga K "NoRoom")) (.ref (He.ga K "NoName")) = some false
  k_NoRoom_NoNode : PySem.W.kitOne K (.ref (He.ga K "NoRoom")) (.ref (He.ga K "NoNode")) = some false
  k_NoRoom_NoOwner : PySem.W.kitOne K (.ref (He.ga K "NoRoom")) (.ref (He.ga K "NoOwner")) = some false
  k_NoRoom_NoSpace : PySem.W.kitOne K (.ref (He.ga K "NoRoom")) (.ref (He.ga K "NoSpace")) = some false
  k_NoRoom_NotAllowed : PySem.W.kitOne K (.ref (He.ga K "NoRoom")) (.ref (He.ga K "NotAllowed")) = some false
  k_NoRoom_NotDir : PySem.W.kitOne K (.ref (He.ga K "NoRoom")) (.ref (He.ga K "NotDir")) = some false
  k_NoRoom_NotEmpty : PySem.W.kitOne K (.ref (He.ga K "NoRoom")) (.ref (He.ga K "NotEmpty")) = some false
  k_NoRoom_NotHeld : PySem.W.kitOne K (.ref (He.ga K "NoRoom")) (.ref (He.ga K "NotHeld")) = some false
  k_NoRoom_TooBig : PySem.W.kitOne K (.ref (He.ga K "NoRoom")) (.ref (He.ga K "TooBig")) = some false
  k_NoRoom_TooMany : PySem.W.kitOne K (.ref (He.ga K "NoRoom")) (.ref (He.ga K "TooMany")) = some false
  k_NoRoom_Again : PySem.W.kitOne K (.ref (He.ga K "NoRoom")) (.ref (He.ga K "Again")) = some false
  k_NoRoom_NoTask : PySem.W.kitOne K (.ref (He.ga K "NoRoom")) (.ref (He.ga K "NoTask")) = some false
  k_NoRoom_NoPage : PySem.W.kitOne K (.ref (He.ga K "NoRoom")) (.ref (He.ga K "NoPage")) = some false
  k_NoRoom_NoRoom : PySem.W.kitOne K (.ref (He.ga K "NoRoom")) (.ref (He.ga K "NoRoom")) = some true
  k_NoRoom_Taken : PySem.W.kitOne K (.ref (He.ga K "NoRoom")) (.ref (He.ga K "Taken")) = some false
  k_NoRoom_ValueError : PySem.W.kitOne K (.ref (He.ga K "NoRoom")) (.type "ValueError") = some true
  d_BadRow___init__ : ∃ fd, FunD K "__init__" "BadRow.__init__" (defArgs s_BadRow___init__) (defBody s_BadRow___init__) (defScope s_BadRow___init__) [] [] (He.fAd K ("BadRow", some "__init__")) fd
  d_Store___init__ : ∃ fd, FunD K "__init__" "Store.__init__" (defArgs s_Store___init__) (defBody s_Store___init__) (defScope s_Store___init__) [] [] (He.fAd K ("Store", some "__init__")) fd
  d_Store_take : ∃ fd, FunD K "take" "Store.take" (defArgs s_Store_take) (defBody s_Store_take) (defScope s_Store_take) [] [] (He.fAd K ("Store", some "take")) fd
  d_Store_look_taken : ∃ fd, FunD K "look_taken" "Store.look_taken" (defArgs s_Store_look_taken) (defBody s_Store_look_taken) (defScope s_Store_look_taken) [] [] (He.fAd K ("Store", some "look_taken")) fd
  d_Store_more : ∃ fd, FunD K "more" "Store.more" (defArgs s_Store_more) (defBody s_Store_more) (defScope s_Store_more) [] [] (He.fAd K ("Store", some "more")) fd
  d_Store_less : ∃ fd, FunD K "less" "Store.less" (defArgs s_Store_less) (defBody s_Store_less) (defScope s_Store_less) [] [] (He.fAd K ("Store", some "less")) fd
  d_Store_count : ∃ fd, FunD K "count" "Store.count" (defArgs s_Store_count) (defBody s_Store_count) (defScope s_Store_count) [] [] (He.fAd K ("Store", some "count")) fd
  d_Store_cells : ∃ fd, FunD K "cells" "Store.cells" (defArgs s_Store_cells) (defBody s_Store_cells) (defScope s_Store_cells) [] [] (He.fAd K ("Store", some "cells")) fd
  d_Store_put : ∃ fd, FunD K "put" "Store.put" (defArgs s_Store_put) (defBody s_Store_put) (defScope s_Store_put) [] [] (He.fAd K ("Store", some "put")) fd
  d_Store_free : ∃ fd, FunD K "free" "Store.free" (defArgs s_Store_free) (defBody s_Store_free) (defScope s_Store_free) [] [] (He.fAd K ("Store", some "free")) fd
  d_Paging___init__ : ∃ fd, FunD K "__init__" "Paging.__init__" (defArgs s_Paging___init__) (defBody s_Paging___init__) (defScope s_Paging___init__) [] [] (He.fAd K ("Paging", some "__init__")) fd
  d_Paging_entry : ∃ fd, FunD K "entry" "Paging.entry" (defArgs s_Paging_entry) (defBody s_Paging_entry) (defScope s_Paging_entry) [] [] (He.fAd K ("Paging", some "entry")) fd
  d_Paging_lay : ∃ fd, FunD K "lay" "Paging.lay" (defArgs s_Paging_lay) (defBody s_Paging_lay) (defScope s_Paging_lay) [] [] (He.fAd K ("Paging", some "lay")) fd
  d_Paging_share : ∃ fd, FunD K "share" "Paging.share" (defArgs s_Paging_share) (defBody s_Paging_share) (defScope s_Paging_share) [] [] (He.fAd K ("Paging", some "share")) fd
  d_Paging_leave : ∃ fd, FunD K "leave" "Paging.leave" (defArgs s_Paging_leave) (defBody s_Paging_leave) (defScope s_Paging_leave) [] [] (He.fAd K ("Paging", some "leave")) fd
  d_Paging_lifted : ∃ fd, FunD K "lifted" "Paging.lifted" (defArgs s_Paging_lifted) (defBody s_Paging_lifted) (defScope s_Paging_lifted) [] [] (He.fAd K ("Paging", some "lifted")) fd
  d_Paging_settle : ∃ fd, FunD K "settle" "Paging.settle" (defArgs s_Paging_settle) (defBody s_Paging_settle) (defScope s_Paging_settle) [] [] (He.fAd K ("Paging", some "settle")) fd
  d_Paging_put_out : ∃ fd, FunD K "put_out" "Paging.put_out" (defArgs s_Paging_put_out) (defBody s_Paging_put_out) (defScope s_Paging_put_out) [] [] (He.fAd K ("Paging", some "put_out")) fd
  d_Paging_frame_taken : ∃ fd, FunD K "frame_taken" "Paging.frame_taken" (defArgs s_Paging_frame_taken) (defBody s_Paging_frame_taken) (defScope s_Paging_frame_taken) [] [] (He.fAd K ("Paging", some "frame_taken")) fd
  d_Paging_fetch : ∃ fd, FunD K "fetch" "Paging.fetch" (defArgs s_Paging_fetch) (defBody s_Paging_fetch) (defScope s_Paging_fetch) [] [] (He.fAd K ("Paging", some "fetch")) fd
  d_Paging_part : ∃ fd, FunD K "part" "Paging.part" (defArgs s_Paging_part) (defBody s_Paging_part) (defScope s_Paging_part) [] [] (He.fAd K ("Paging", some "part")) fd
  d_Paging_cells : ∃ fd, FunD K "cells" "Paging.cells" (defArgs s_Paging_cells) (defBody s_Paging_cells) (defScope s_Paging_cells) [] [] (He.fAd K ("Paging", some "cells")) fd
  d_Paging_put : ∃ fd, FunD K "put" "Paging.put" (defArgs s_Paging_put) (defBody s_Paging_put) (defScope s_Paging_put) [] [] (He.fAd K ("Paging", some "put")) fd
  d_Paging_counts : ∃ fd, FunD K "counts" "Paging.counts" (defArgs s_Paging_counts) (defBody s_Paging_counts) (defScope s_Paging_counts) [] [] (He.fAd K ("Paging", some "counts")) fd
  d_Table___init__ : ∃ fd, FunD K "__init__" "Table.__init__" (defArgs s_Table___init__) (defBody s_Table___init__) (defScope s_Table___init__) [] [] (He.fAd K ("Table", some "__init__")) fd
  d_Table_get : ∃ fd, FunD K "get" "Table.get" (defArgs s_Table_get) (defBody s_Table_get) (defScope s_Table_get) [] [] (He.fAd K ("Table", some "get")) fd
  d_Table_lay : ∃ fd, FunD K "lay" "Table.lay" (defArgs s_Table_lay) (defBody s_Table_lay) (defScope s_Table_lay) [] [] (He.fAd K ("Table", some "lay")) fd
  d_Table_clear : ∃ fd, FunD K "clear" "Table.clear" (defArgs s_Table_clear) (defBody s_Table_clear) (defScope s_Table_clear) [] [] (He.fAd K ("Table", some "clear")) fd
  d_Table_pages : ∃ fd, FunD K "pages" "Table.pages" (defArgs s_Table_pages) (defBody s_Table_pages) (defScope s_Table_pages) [] [] (He.fAd K ("Table", some "pages")) fd
  d_pages_asked : ∃ fd, FunD K "pages_asked" "pages_asked" (defArgs s_pages_asked) (defBody s_pages_asked) (defScope s_pages_asked) [] [] (He.fAd K ("pages_asked", none)) fd
  d_stretches_of : ∃ fd, FunD K "stretches_of" "stretches_of" (defArgs s_stretches_of) (defBody s_stretches_of) (defScope s_stretches_of) [] [] (He.fAd K ("stretches_of", none)) fd
  d_Rooms___init__ : ∃ fd, FunD K "__init__" "Rooms.__init__" (defArgs s_Rooms___init__) (defBody s_Rooms___init__) (defScope s_Rooms___init__) [] [] (He.fAd K ("Rooms", some "__init__")) fd
  d_Rooms_begin : ∃ fd, FunD K "begin" "Rooms.begin" (defArgs s_Rooms_begin) (defBody s_Rooms_begin) (defScope s_Rooms_begin) [] [] (He.fAd K ("Rooms", some "begin")) fd
  d_Rooms_table_of : ∃ fd, FunD K "table_of" "Rooms.table_of" (defArgs s_Rooms_table_of) (defBody s_Rooms_table_of) (defScope s_Rooms_table_of) [] [] (He.fAd K ("Rooms", some "table_of")) fd
  d_Rooms_close : ∃ fd, FunD K "close" "Rooms.close" (defArgs s_Rooms_close) (defBody s_Rooms_close) (defScope s_Rooms_close) [] [] (He.fAd K ("Rooms", some "close")) fd
  d_Rooms_held : ∃ fd, FunD K "held" "Rooms.held" (defArgs s_Rooms_held) (defBody s_Rooms_held) (defScope s_Rooms_held) [] [] (He.fAd K ("Rooms", some "held")) fd
  d_Rooms_ask_room : ∃ fd, FunD K "ask_room" "Rooms.ask_room" (defArgs s_Rooms_ask_room) (defBody s_Rooms_ask_room) (defScope s_Rooms_ask_room) [] [] (He.fAd K ("Rooms", some "ask_room")) fd
  d_Rooms_map : ∃ fd, FunD K "map" "Rooms.map" (defArgs s_Rooms_map) (defBody s_Rooms_map) (defScope s_Rooms_map) [] [] (He.fAd K ("Rooms", some "map")) fd
  d_Rooms_look_mapped : ∃ fd, FunD K "look_mapped" "Rooms.look_mapped" (defArgs s_Rooms_look_mapped) (defBody s_Rooms_look_mapped) (defScope s_Rooms_look_mapped) [] [] (He.fAd K ("Rooms", some "look_mapped")) fd
  d_Rooms_drop : ∃ fd, FunD K "drop" "Rooms.drop" (defArgs s_Rooms_drop) (defBody s_Rooms_drop) (defScope s_Rooms_drop) [] [] (He.fAd K ("Rooms", some "drop")) fd
  d_Rooms_stretches : ∃ fd, FunD K "stretches" "Rooms.stretches" (defArgs s_Rooms_stretches) (defBody s_Rooms_stretches) (defScope s_Rooms_stretches) [] [] (He.fAd K ("Rooms", some "stretches")) fd
  d_Rooms_peek : ∃ fd, FunD K "peek" "Rooms.peek" (defArgs s_Rooms_peek) (defBody s_Rooms_peek) (defScope s_Rooms_peek) [] [] (He.fAd K ("Rooms", some "peek")) fd
  d_Rooms_poke : ∃ fd, FunD K "poke" "Rooms.poke" (defArgs s_Rooms_poke) (defBody s_Rooms_poke) (defScope s_Rooms_poke) [] [] (He.fAd K ("Rooms", some "poke")) fd
  d_Rooms_copy : ∃ fd, FunD K "copy" "Rooms.copy" (defArgs s_Rooms_copy) (defBody s_Rooms_copy) (defScope s_Rooms_copy) [] [] (He.fAd K ("Rooms", some "copy")) fd
  d_Rooms_place : ∃ fd, FunD K "place" "Rooms.place" (defArgs s_Rooms_place) (defBody s_Rooms_place) (defScope s_Rooms_place) [] [] (He.fAd K ("Rooms", some "place")) fd
  d_Rooms_counts : ∃ fd, FunD K "counts" "Rooms.counts" (defArgs s_Rooms_counts) (defBody s_Rooms_counts) (defScope s_Rooms_counts) [] [] (He.fAd K ("Rooms", some "counts")) fd
  d__law_mixed : ∃ fd, FunD K "_law_mixed" "_law_mixed" (defArgs s__law_mixed) (defBody s__law_mixed) (defScope s__law_mixed) [] [] (He.fAd K ("_law_mixed", none)) fd
  d__law_number : ∃ fd, FunD K "_law_number" "_law_number" (defArgs s__law_number) (defBody s__law_number) (defScope s__law_number) [] [] (He.fAd K ("_law_number", none)) fd
  d__law_cells : ∃ fd, FunD K "_law_cells" "_law_cells" (defArgs s__law_cells) (defBody s__law_cells) (defScope s__law_cells) [] [] (He.fAd K ("_law_cells", none)) fd
  d__law_deed : ∃ fd, FunD K "_law_deed" "_law_deed" (defArgs s__law_deed) (defBody s__law_deed) (defScope s__law_deed) [] [] (He.fAd K ("_law_deed", none)) fd
  d__law_model : ∃ fd, FunD K "_law_model" "_law_model" (defArgs s__law_model) (defBody s__law_model) (defScope s__law_model) [] [] (He.fAd K ("_law_model", none)) fd
  d__law_held : ∃ fd, FunD K "_law_held" "_law_held" (defArgs s__law_held) (defBody s__law_held) (defScope s__law_held) [] [] (He.fAd K ("_law_held", none)) fd
  d__law_stretch : ∃ fd, FunD K "_law_stretch" "_law_stretch" (defArgs s__law_stretch) (defBody s__law_stretch) (defScope s__law_stretch) [] [] (He.fAd K ("_law_stretch", none)) fd
  d__law_due : ∃ fd, FunD K "_law_due" "_law_due" (defArgs s__law_due) (defBody s__law_due) (defScope s__law_due) [] [] (He.fAd K ("_law_due", none)) fd
  d__law_done : ∃ fd, FunD K "_law_done" "_law_done" (defArgs s__law_done) (defBody s__law_done) (defScope s__law_done) [] [] (He.fAd K ("_law_done", none)) fd
  d__law_called : ∃ fd, FunD K "_law_called" "_law_called" (defArgs s__law_called) (defBody s__law_called) (defScope s__law_called) [] [] (He.fAd K ("_law_called", none)) fd
  d__law_sizes : ∃ fd, FunD K "_law_sizes" "_law_sizes" (defArgs s__law_sizes) (defBody s__law_sizes) (defScope s__law_sizes) [] [] (He.fAd K ("_law_sizes", none)) fd
  d__law_tasks : ∃ fd, FunD K "_law_tasks" "_law_tasks" (defArgs s__law_tasks) (defBody s__law_tasks) (defScope s__law_tasks) [] [] (He.fAd K ("_law_tasks", none)) fd
  d__law_state : ∃ fd, FunD K "_law_state" "_law_state" (defArgs s__law_state) (defBody s__law_state) (defScope s__law_state) [] [] (He.fAd K ("_law_state", none)) fd
  d__law_refusal : ∃ fd, FunD K "_law_refusal" "_law_refusal" (defArgs s__law_refusal) (defBody s__law_refusal) (defScope s__law_refusal) [] [] (He.fAd K ("_law_refusal", none)) fd
  d__law_far : ∃ fd, FunD K "_law_far" "_law_far" (defArgs s__law_far) (defBody s__law_far) (defScope s__law_far) [] [] (He.fAd K ("_law_far", none)) fd
  d__law_bad : ∃ fd, FunD K "_law_bad" "_law_bad" (defArgs s__law_bad) (defBody s__law_bad) (defScope s__law_bad) [] [] (He.fAd K ("_law_bad", none)) fd
  d__law_none_asked : ∃ fd, FunD K "_law_none_asked" "_law_none_asked" (defArgs s__law_none_asked) (defBody s__law_none_asked) (defScope s__law_none_asked) [] [] (He.fAd K ("_law_none_asked", none)) fd
  d_law : ∃ fd, FunD K "law" "law" (defArgs s_law) (defBody s_law) (defScope s_law) [] [] (He.fAd K ("law", none)) fd

theorem txt_mk {K : PySem.W.Frag} {h : Heap} {mg : Str → Option Value} (X : K.In h) (G : h.Ns mainGlobals mg) (c : He.SaysD fas fns K) (m : exB K = true) : Txt K mg where
  g_KernelError := He.glo_ok X G (c.fact 0 (f := .glo "KernelError") rfl)
  g_NoOwner := He.glo_ok X G (c.fact 1 (f := .glo "NoOwner") rfl)
  g_NoTask := He.glo_ok X G (c.fact 2 (f := .glo "NoTask") rfl)
  g_NoPage := He.glo_ok X G (c.fact 3 (f := .glo "NoPage") rfl)
  g_NoRoom := He.glo_ok X G (c.fact 4 (f := .glo "NoRoom") rfl)
  g_Taken := He.glo_ok X G (c.fact 5 (f := .glo "Taken") rfl)
  g_NoBlock := He.glo_ok X G (c.fact 6 (f := .glo "NoBlock") rfl)
  g_Fallen := He.glo_ok X G (c.fact 7 (f := .glo "Fallen") rfl)
  g_BadName := He.glo_ok X G (c.fact 8 (f := .glo "BadName") rfl)
  g_NoName := He.glo_ok X G (c.fact 9 (f := .glo "NoName") rfl)
  g_NotDir := He.glo_ok X G (c.fact 10 (f := .glo "NotDir") rfl)
  g_IsDir := He.glo_ok X G (c.fact 11 (f := .glo "IsDir") rfl)
  g_NotEmpty := He.glo_ok X G (c.fact 12 (f := .glo "NotEmpty") rfl)
  g_Inside := He.glo_ok X G (c.fact 13 (f := .glo "Inside") rfl)
  g_NoNode := He.glo_ok X G (c.fact 14 (f := .glo "NoNode") rfl)
  g_NoSpace := He.glo_ok X G (c.fact 15 (f := .glo "NoSpace") rfl)
  g_TooMany := He.glo_ok X G (c.fact 16 (f := .glo "TooMany") rfl)
  g_TooBig := He.glo_ok X G (c.fact 17 (f := .glo "TooBig") rfl)
  g_NotHeld := He.glo_ok X G (c.fact 18 (f := .glo "NotHeld") rfl)
  g_NotAllowed := He.glo_ok X G (c.fact 19 (f := .glo "NotAllowed") rfl)
  g_NoHandle := He.glo_ok X G (c.fact 20 (f := .glo "NoHandle") rfl)
  g_BadMode := He.glo_ok X G (c.fact 21 (f := .glo "BadMode") rfl)
  g_Again := He.glo_ok X G (c.fact 22 (f := .glo "Again") rfl)
  g_Broken := He.glo_ok X G (c.fact 23 (f := .glo "Broken") rfl)
  g_NoChild := He.glo_ok X G (c.fact 24 (f := .glo "NoChild") rfl)
  g_BadCall := He.glo_ok X G (c.fact 25 (f := .glo "BadCall") rfl)
  g_BadRow := He.glo_ok X G (c.fact 26 (f := .glo "BadRow") rfl)
  g_PAGE_SIZE := He.int_ok X G (c.fact 27 (f := .int "PAGE_SIZE" 8) rfl)
  g_Store := He.glo_ok X G (c.fact 28 (f := .glo "Store") rfl)
  g_BLANK := He.glo_ok X G (c.fact 29 (f := .glo "BLANK") rfl)
  g_Paging := He.glo_ok X G (c.fact 30 (f := .glo "Paging") rfl)
  g_STEP := He.int_ok X G (c.fact 31 (f := .int "STEP" 8) rfl)
  g_Table := He.glo_ok X G (c.fact 32 (f := .glo "Table") rfl)
  g_PAGES := He.int_ok X G (c.fact 33 (f := .int "PAGES" 64) rfl)
  g_pages_asked := He.glo_ok X G (c.fact 34 (f := .glo "pages_asked") rfl)
  g_stretches_of := He.glo_ok X G (c.fact 35 (f := .glo "stretches_of") rfl)
  g_Rooms := He.glo_ok X G (c.fact 36 (f := .glo "Rooms") rfl)
  g__law_mixed := He.glo_ok X G (c.fact 37 (f := .glo "_law_mixed") rfl)
  g__law_number := He.glo_ok X G (c.fact 38 (f := .glo "_law_number") rfl)
  g__law_cells := He.glo_ok X G (c.fact 39 (f := .glo "_law_cells") rfl)
  g__law_deed := He.glo_ok X G (c.fact 40 (f := .glo "_law_deed") rfl)
  g__law_model := He.glo_ok X G (c.fact 41 (f := .glo "_law_model") rfl)
  g__law_held := He.glo_ok X G (c.fact 42 (f := .glo "_law_held") rfl)
  g__law_stretch := He.glo_ok X G (c.fact 43 (f := .glo "_law_stretch") rfl)
  g__law_due := He.glo_ok X G (c.fact 44 (f := .glo "_law_due") rfl)
  g__law_done := He.glo_ok X G (c.fact 45 (f := .glo "_law_done") rfl)
  g__law_called := He.glo_ok X G (c.fact 46 (f := .glo "_law_called") rfl)
  g__law_sizes := He.glo_ok X G (c.fact 47 (f := .glo "_law_sizes") rfl)
  g__law_tasks := He.glo_ok X G (c.fact 48 (f := .glo "_law_tasks") rfl)
  g__law_state := He.glo_ok X G (c.fact 49 (f := .glo "_law_state") rfl)
  g__law_refusal := He.glo_ok X G (c.fact 50 (f := .glo "_law_refusal") rfl)
  g__law_far := He.glo_ok X G (c.fact 51 (f := .glo "_law_far") rfl)
  g__law_bad := He.glo_ok X G (c.fact 52 (f := .glo "_law_bad") rfl)
  g__law_none_asked := He.glo_ok X G (c.fact 53 (f := .glo "_law_none_asked") rfl)
  g_law := He.glo_ok X G (c.fact 54 (f := .glo "law") rfl)
  n_ValueError := He.free_ok X G (c.fact 55 (f := .free "ValueError") rfl)
  n_list := He.free_ok X G (c.fact 56 (f := .free "list") rfl)
  n_range := He.free_ok X G (c.fact 57 (f := .free "range") rfl)
  n_sum := He.free_ok X G (c.fact 58 (f := .free "sum") rfl)
  n_isinstance := He.free_ok X G (c.fact 59 (f := .free "isinstance") rfl)
  n_sorted := He.free_ok X G (c.fact 60 (f := .free "sorted") rfl)
  n_min := He.free_ok X G (c.fact 61 (f := .free "min") rfl)
  n_any := He.free_ok X G (c.fact 62 (f := .free "any") rfl)
  n_int := He.free_ok X G (c.fact 63 (f := .free "int") rfl)
  n_all := He.free_ok X G (c.fact 64 (f := .free "all") rfl)
  n_max := He.free_ok X G (c.fact 65 (f := .free "max") rfl)
  n_len := He.free_ok X G (c.fact 66 (f := .free "len") rfl)
  n_zip := He.free_ok X G (c.fact 67 (f := .free "zip") rfl)
  n_dict := He.free_ok X G (c.fact 68 (f := .free "dict") rfl)
  n_enumerate := He.free_ok X G (c.fact 69 (f := .free "enumerate") rfl)
  x_NoOwner := He.exc_ok (c.fact 70 (f := .exc "NoOwner") rfl)
  x_NoTask := He.exc_ok (c.fact 71 (f := .exc "NoTask") rfl)
  x_NoPage := He.exc_ok (c.fact 72 (f := .exc "NoPage") rfl)
  x_NoRoom := He.exc_ok (c.fact 73 (f := .exc "NoRoom") rfl)
  x_Taken := He.exc_ok (c.fact 74 (f := .exc "Taken") rfl)
  c_Store := He.cls_ok (c.fact 75 (f := .cls "Store") rfl)
  m_Store := He.mkr_ok (c.fact 76 (f := .mkr "Store") rfl)
  m_Store_take := He.meth_ok (c.fact 77 (f := .meth "Store" "take") rfl)
  m_Store_look_taken := He.meth_ok (c.fact 78 (f := .meth "Store" "look_taken") rfl)
  m_Store_more := He.meth_ok (c.fact 79 (f := .meth "Store" "more") rfl)
  m_Store_less := He.meth_ok (c.fact 80 (f := .meth "Store" "less") rfl)
  m_Store_count := He.meth_ok (c.fact 81 (f := .meth "Store" "count") rfl)
  m_Store_cells := He.meth_ok (c.fact 82 (f := .meth "Store" "cells") rfl)
  m_Store_put := He.meth_ok (c.fact 83 (f := .meth "Store" "put") rfl)
  m_Store_free := He.meth_ok (c.fact 84 (f := .meth "Store" "free") rfl)
  a_Store_owners := He.noat_ok (c.fact 85 (f := .noat "Store" "owners") rfl)
  a_Store_contents := He.noat_ok (c.fact 86 (f := .noat "Store" "contents") rfl)
  c_Paging := He.cls_ok (c.fact 87 (f := .cls "Paging") rfl)
  m_Paging := He.mkr_ok (c.fact 88 (f := .mkr "Paging") rfl)
  m_Paging_entry := He.meth_ok (c.fact 89 (f := .meth "Paging" "entry") rfl)
  m_Paging_lay := He.meth_ok (c.fact 90 (f := .meth "Paging" "lay") rfl)
  m_Paging_share := He.meth_ok (c.fact 91 (f := .meth "Paging" "share") rfl)
  m_Paging_leave := He.meth_ok (c.fact 92 (f := .meth "Paging" "leave") rfl)
  m_Paging_lifted := He.meth_ok (c.fact 93 (f := .meth "Paging" "lifted") rfl)
  m_Paging_settle := He.meth_ok (c.fact 94 (f := .meth "Paging" "settle") rfl)
  m_Paging_put_out := He.meth_ok (c.fact 95 (f := .meth "Paging" "put_out") rfl)
  m_Paging_frame_taken := He.meth_ok (c.fact 96 (f := .meth "Paging" "frame_taken") rfl)
  m_Paging_fetch := He.meth_ok (c.fact 97 (f := .meth "Paging" "fetch") rfl)
  m_Paging_part := He.meth_ok (c.fact 98 (f := .meth "Paging" "part") rfl)
  m_Paging_cells := He.meth_ok (c.fact 99 (f := .meth "Paging" "cells") rfl)
  m_Paging_put := He.meth_ok (c.fact 100 (f := .meth "Paging" "put") rfl)
  m_Paging_counts := He.meth_ok (c.fact 101 (f := .meth "Paging" "counts") rfl)
  a_Paging_stores := He.noat_ok (c.fact 102 (f := .noat "Paging" "stores") rfl)
  a_Paging_frames := He.noat_ok (c.fact 103 (f := .noat "Paging" "frames") rfl)
  a_Paging_slots := He.noat_ok (c.fact 104 (f := .noat "Paging" "slots") rfl)
  a_Paging_tables := He.noat_ok (c.fact 105 (f := .noat "Paging" "tables") rfl)
  a_Paging_owners := He.noat_ok (c.fact 106 (f := .noat "Paging" "owners") rfl)
  a_Paging_hand := He.noat_ok (c.fact 107 (f := .noat "Paging" "hand") rfl)
  c_Table := He.cls_ok (c.fact 108 (f := .cls "Table") rfl)
  m_Table := He.mkr_ok (c.fact 109 (f := .mkr "Table") rfl)
  m_Table_get := He.meth_ok (c.fact 110 (f := .meth "Table" "get") rfl)
  m_Table_lay := He.meth_ok (c.fact 111 (f := .meth "Table" "lay") rfl)
  m_Table_clear := He.meth_ok (c.fact 112 (f := .meth "Table" "clear") rfl)
  m_Table_pages := He.meth_ok (c.fact 113 (f := .meth "Table" "pages") rfl)
  a_Table_firsts := He.noat_ok (c.fact 114 (f := .noat "Table" "firsts") rfl)
  c_Rooms := He.cls_ok (c.fact 115 (f := .cls "Rooms") rfl)
  m_Rooms := He.mkr_ok (c.fact 116 (f := .mkr "Rooms") rfl)
  m_Rooms_begin := He.meth_ok (c.fact 117 (f := .meth "Rooms" "begin") rfl)
  m_Rooms_table_of := He.meth_ok (c.fact 118 (f := .meth "Rooms" "table_of") rfl)
  m_Rooms_close := He.meth_ok (c.fact 119 (f := .meth "Rooms" "close") rfl)
  m_Rooms_held := He.meth_ok (c.fact 120 (f := .meth "Rooms" "held") rfl)
  m_Rooms_ask_room := He.meth_ok (c.fact 121 (f := .meth "Rooms" "ask_room") rfl)
  m_Rooms_map := He.meth_ok (c.fact 122 (f := .meth "Rooms" "map") rfl)
  m_Rooms_look_mapped := He.meth_ok (c.fact 123 (f := .meth "Rooms" "look_mapped") rfl)
  m_Rooms_drop := He.meth_ok (c.fact 124 (f := .meth "Rooms" "drop") rfl)
  m_Rooms_stretches := He.meth_ok (c.fact 125 (f := .meth "Rooms" "stretches") rfl)
  m_Rooms_peek := He.meth_ok (c.fact 126 (f := .meth "Rooms" "peek") rfl)
  m_Rooms_poke := He.meth_ok (c.fact 127 (f := .meth "Rooms" "poke") rfl)
  m_Rooms_copy := He.meth_ok (c.fact 128 (f := .meth "Rooms" "copy") rfl)
  m_Rooms_place := He.meth_ok (c.fact 129 (f := .meth "Rooms" "place") rfl)
  m_Rooms_counts := He.meth_ok (c.fact 130 (f := .meth "Rooms" "counts") rfl)
  a_Rooms_paging := He.noat_ok (c.fact 131 (f := .noat "Rooms" "paging") rfl)
  q_BLANK := He.tupB_ok (all_at (all_at m 0 rfl) 0 rfl)
  e_NoOwner := excB_ok (all_at (all_at m 0 rfl) 1 rfl)
  o_BadCall := id (all_at (all_at m 0 rfl) 2 rfl)
  o_BadMode := id (all_at (all_at m 0 rfl) 3 rfl)
  o_BadName := id (all_at (all_at m 0 rfl) 4 rfl)
  o_BadRow := id (all_at (all_at m 0 rfl) 5 rfl)
  o_Broken := id (all_at (all_at m 0 rfl) 6 rfl)
  o_Fallen := id (all_at (all_at m 0 rfl) 7 rfl)
  o_Inside := id (all_at (all_at m 0 rfl) 8 rfl)
  o_IsDir := id (all_at (all_at m 0 rfl) 9 rfl)
  o_NoBlock := id (all_at (all_at m 0 rfl) 10 rfl)
  o_NoChild := id (all_at (all_at m 0 rfl) 11 rfl)
  o_NoHandle := id (all_at (all_at m 1 rfl) 0 rfl)
  o_NoName := id (all_at (all_at m 1 rfl) 1 rfl)
  o_NoNode := id (all_at (all_at m 1 rfl) 2 rfl)
  o_NoOwner := id (all_at (all_at m 1 rfl) 3 rfl)
  o_NoSpace := id (all_at (all_at m 1 rfl) 4 rfl)
  o_NotAllowed := id (all_at (all_at m 1 rfl) 5 rfl)
  o_NotDir := id (all_at (all_at m 1 rfl) 6 rfl)
  o_NotEmpty := id (all_at (all_at m 1 rfl) 7 rfl)
  o_NotHeld := id (all_at (all_at m 1 rfl) 8 rfl)
  o_TooBig := id (all_at (all_at m 1 rfl) 9 rfl)
  o_TooMany := id (all_at (all_at m 1 rfl) 10 rfl)
  o_Again := id (all_at (all_at m 1 rfl) 11 rfl)
  o_NoTask := id (all_at (all_at m 2 rfl) 0 rfl)
  o_NoPage := id (all_at (all_at m 2 rfl) 1 rfl)
  o_NoRoom := id (all_at (all_at m 2 rfl) 2 rfl)
  o_Taken := id (all_at (all_at m 2 rfl) 3 rfl)
  w_NoOwner := id (all_at (all_at m 2 rfl) 4 rfl)
  y_NoOwner_KernelError := eq_of_beq (all_at (all_at m 2 rfl) 5 rfl)
  e_NoPage := excB_ok (all_at (all_at m 2 rfl) 6 rfl)
  w_NoPage := id (all_at (all_at m 2 rfl) 7 rfl)
  y_NoPage_KernelError := eq_of_beq (all_at (all_at m 2 rfl) 8 rfl)
  e_Taken := excB_ok (all_at (all_at m 2 rfl) 9 rfl)
  w_Taken := id (all_at (all_at m 2 rfl) 10 rfl)
  y_Taken_KernelError := eq_of_beq (all_at (all_at m 2 rfl) 11 rfl)
  e_NoTask := excB_ok (all_at (all_at m 3 rfl) 0 rfl)
  w_NoTask := id (all_at (all_at m 3 rfl) 1 rfl)
  y_NoTask_KernelError := eq_of_beq (all_at (all_at m 3 rfl) 2 rfl)
  e_NoRoom := excB_ok (all_at (all_at m 3 rfl) 3 rfl)
  w_NoRoom := id (all_at (all_at m 3 rfl) 4 rfl)
  y_NoRoom_KernelError := eq_of_beq (all_at (all_at m 3 rfl) 5 rfl)
  k_NoOwner_BadCall := kit_ref (all_at (all_at m 2 rfl) 4 rfl) (all_at (all_at m 0 rfl) 2 rfl) 0 rfl rfl
  k_NoOwner_BadMode := kit_ref (all_at (all_at m 2 rfl) 4 rfl) (all_at (all_at m 0 rfl) 3 rfl) 1 rfl rfl
  k_NoOwner_BadName := kit_ref (all_at (all_at m 2 rfl) 4 rfl) (all_at (all_at m 0 rfl) 4 rfl) 2 rfl rfl
  k_NoOwner_BadRow := kit_ref (all_at (all_at m 2 rfl) 4 rfl) (all_at (all_at m 0 rfl) 5 rfl) 3 rfl rfl
  k_NoOwner_Broken := kit_ref (all_at (all_at m 2 rfl) 4 rfl) (all_at (all_at m 0 rfl) 6 rfl) 4 rfl rfl
  k_NoOwner_Fallen := kit_ref (all_at (all_at m 2 rfl) 4 rfl) (all_at (all_at m 0 rfl) 7 rfl) 5 rfl rfl
  k_NoOwner_Inside := kit_ref (all_at (all_at m 2 rfl) 4 rfl) (all_at (all_at m 0 rfl) 8 rfl) 6 rfl rfl
  k_NoOwner_IsDir := kit_ref (all_at (all_at m 2 rfl) 4 rfl) (all_at (all_at m 0 rfl) 9 rfl) 7 rfl rfl
  k_NoOwner_NoBlock := kit_ref (all_at (all_at m 2 rfl) 4 rfl) (all_at (all_at m 0 rfl) 10 rfl) 8 rfl rfl
  k_NoOwner_NoChild := kit_ref (all_at (all_at m 2 rfl) 4 rfl) (all_at (all_at m 0 rfl) 11 rfl) 9 rfl rfl
  k_NoOwner_NoHandle := kit_ref (all_at (all_at m 2 rfl) 4 rfl) (all_at (all_at m 1 rfl) 0 rfl) 10 rfl rfl
  k_NoOwner_NoName := kit_ref (all_at (all_at m 2 rfl) 4 rfl) (all_at (all_at m 1 rfl) 1 rfl) 11 rfl rfl
  k_NoOwner_NoNode := kit_ref (all_at (all_at m 2 rfl) 4 rfl) (all_at (all_at m 1 rfl) 2 rfl) 12 rfl rfl
  k_NoOwner_NoOwner := kit_ref (all_at (all_at m 2 rfl) 4 rfl) (all_at (all_at m 1 rfl) 3 rfl) 13 rfl rfl
  k_NoOwner_NoSpace := kit_ref (all_at (all_at m 2 rfl) 4 rfl) (all_at (all_at m 1 rfl) 4 rfl) 14 rfl rfl
  k_NoOwner_NotAllowed := kit_ref (all_at (all_at m 2 rfl) 4 rfl) (all_at (all_at m 1 rfl) 5 rfl) 15 rfl rfl
  k_NoOwner_NotDir := kit_ref (all_at (all_at m 2 rfl) 4 rfl) (all_at (all_at m 1 rfl) 6 rfl) 16 rfl rfl
  k_NoOwner_NotEmpty := kit_ref (all_at (all_at m 2 rfl) 4 rfl) (all_at (all_at m 1 rfl) 7 rfl) 17 rfl rfl
  k_NoOwner_NotHeld := kit_ref (all_at (all_at m 2 rfl) 4 rfl) (all_at (all_at m 1 rfl) 8 rfl) 18 rfl rfl
  k_NoOwner_TooBig := kit_ref (all_at (all_at m 2 rfl) 4 rfl) (all_at (all_at m 1 rfl) 9 rfl) 19 rfl rfl
  k_NoOwner_TooMany := kit_ref (all_at (all_at m 2 rfl) 4 rfl) (all_at (all_at m 1 rfl) 10 rfl) 20 rfl rfl
  k_NoOwner_Again := kit_ref (all_at (all_at m 2 rfl) 4 rfl) (all_at (all_at m 1 rfl) 11 rfl) 21 rfl rfl
  k_NoOwner_NoTask := kit_ref (all_at (all_at m 2 rfl) 4 rfl) (all_at (all_at m 2 rfl) 0 rfl) 22 rfl rfl
  k_NoOwner_NoPage := kit_ref (all_at (all_at m 2 rfl) 4 rfl) (all_at (all_at m 2 rfl) 1 rfl) 23 rfl rfl
  k_NoOwner_NoRoom := kit_ref (all_at (all_at m 2 rfl) 4 rfl) (all_at (all_at m 2 rfl) 2 rfl) 24 rfl rfl
  k_NoOwner_Taken := kit_ref (all_at (all_at m 2 rfl) 4 rfl) (all_at (all_at m 2 rfl) 3 rfl) 25 rfl rfl
  k_NoOwner_ValueError := kit_typ (all_at (all_at m 2 rfl) 4 rfl) (by decide +kernel) 26 rfl rfl
  k_NoPage_BadCall := kit_ref (all_at (all_at m 2 rfl) 7 rfl) (all_at (all_at m 0 rfl) 2 rfl) 0 rfl rfl
  k_NoPage_BadMode := kit_ref (all_at (all_at m 2 rfl) 7 rfl) (all_at (all_at m 0 rfl) 3 rfl) 1 rfl rfl
  k_NoPage_BadName := kit_ref (all_at (all_at m 2 rfl) 7 rfl) (all_at (all_at m 0 rfl) 4 rfl) 2 rfl rfl
  k_NoPage_BadRow := kit_ref (all_at (all_at m 2 rfl) 7 rfl) (all_at (all_at m 0 rfl) 5 rfl) 3 rfl rfl
  k_NoPage_Broken := kit_ref (all_at (all_at m 2 rfl) 7 rfl) (all_at (all_at m 0 rfl) 6 rfl) 4 rfl rfl
  k_NoPage_Fallen := kit_ref (all_at (all_at m 2 rfl) 7 rfl) (all_at (all_at m 0 rfl) 7 rfl) 5 rfl rfl
  k_NoPage_Inside := kit_ref (all_at (all_at m 2 rfl) 7 rfl) (all_at (all_at m 0 rfl) 8 rfl) 6 rfl rfl
  k_NoPage_IsDir := kit_ref (all_at (all_at m 2 rfl) 7 rfl) (all_at (all_at m 0 rfl) 9 rfl) 7 rfl rfl
  k_NoPage_NoBlock := kit_ref (all_at (all_at m 2 rfl) 7 rfl) (all_at (all_at m 0 rfl) 10 rfl) 8 rfl rfl
  k_NoPage_NoChild := kit_ref (all_at (all_at m 2 rfl) 7 rfl) (all_at (all_at m 0 rfl) 11 rfl) 9 rfl rfl
  k_NoPage_NoHandle := kit_ref (all_at (all_at m 2 rfl) 7 rfl) (all_at (all_at m 1 rfl) 0 rfl) 10 rfl rfl
  k_NoPage_NoName := kit_ref (all_at (all_at m 2 rfl) 7 rfl) (all_at (all_at m 1 rfl) 1 rfl) 11 rfl rfl
  k_NoPage_NoNode := kit_ref (all_at (all_at m 2 rfl) 7 rfl) (all_at (all_at m 1 rfl) 2 rfl) 12 rfl rfl
  k_NoPage_NoOwner := kit_ref (all_at (all_at m 2 rfl) 7 rfl) (all_at (all_at m 1 rfl) 3 rfl) 13 rfl rfl
  k_NoPage_NoSpace := kit_ref (all_at (all_at m 2 rfl) 7 rfl) (all_at (all_at m 1 rfl) 4 rfl) 14 rfl rfl
  k_NoPage_NotAllowed := kit_ref (all_at (all_at m 2 rfl) 7 rfl) (all_at (all_at m 1 rfl) 5 rfl) 15 rfl rfl
  k_NoPage_NotDir := kit_ref (all_at (all_at m 2 rfl) 7 rfl) (all_at (all_at m 1 rfl) 6 rfl) 16 rfl rfl
  k_NoPage_NotEmpty := kit_ref (all_at (all_at m 2 rfl) 7 rfl) (all_at (all_at m 1 rfl) 7 rfl) 17 rfl rfl
  k_NoPage_NotHeld := kit_ref (all_at (all_at m 2 rfl) 7 rfl) (all_at (all_at m 1 rfl) 8 rfl) 18 rfl rfl
  k_NoPage_TooBig := kit_ref (all_at (all_at m 2 rfl) 7 rfl) (all_at (all_at m 1 rfl) 9 rfl) 19 rfl rfl
  k_NoPage_TooMany := kit_ref (all_at (all_at m 2 rfl) 7 rfl) (all_at (all_at m 1 rfl) 10 rfl) 20 rfl rfl
  k_NoPage_Again := kit_ref (all_at (all_at m 2 rfl) 7 rfl) (all_at (all_at m 1 rfl) 11 rfl) 21 rfl rfl
  k_NoPage_NoTask := kit_ref (all_at (all_at m 2 rfl) 7 rfl) (all_at (all_at m 2 rfl) 0 rfl) 22 rfl rfl
  k_NoPage_NoPage := kit_ref (all_at (all_at m 2 rfl) 7 rfl) (all_at (all_at m 2 rfl) 1 rfl) 23 rfl rfl
  k_NoPage_NoRoom := kit_ref (all_at (all_at m 2 rfl) 7 rfl) (all_at (all_at m 2 rfl) 2 rfl) 24 rfl rfl
  k_NoPage_Taken := kit_ref (all_at (all_at m 2 rfl) 7 rfl) (all_at (all_at m 2 rfl) 3 rfl) 25 rfl rfl
  k_NoPage_ValueError := kit_typ (all_at (all_at m 2 rfl) 7 rfl) (by decide +kernel) 26 rfl rfl
  k_Taken_BadCall := kit_ref (all_at (all_at m 2 rfl) 10 rfl) (all_at (all_at m 0 rfl) 2 rfl) 0 rfl rfl
  k_Taken_BadMode := kit_ref (all_at (all_at m 2 rfl) 10 rfl) (all_at (all_at m 0 rfl) 3 rfl) 1 rfl rfl
  k_Taken_BadName := kit_ref (all_at (all_at m 2 rfl) 10 rfl) (all_at (all_at m 0 rfl) 4 rfl) 2 rfl rfl
  k_Taken_BadRow := kit_ref (all_at (all_at m 2 rfl) 10 rfl) (all_at (all_at m 0 rfl) 5 rfl) 3 rfl rfl
  k_Taken_Broken := kit_ref (all_at (all_at m 2 rfl) 10 rfl) (all_at (all_at m 0 rfl) 6 rfl) 4 rfl rfl
  k_Taken_Fallen := kit_ref (all_at (all_at m 2 rfl) 10 rfl) (all_at (all_at m 0 rfl) 7 rfl) 5 rfl rfl
  k_Taken_Inside := kit_ref (all_at (all_at m 2 rfl) 10 rfl) (all_at (all_at m 0 rfl) 8 rfl) 6 rfl rfl
  k_Taken_IsDir := kit_ref (all_at (all_at m 2 rfl) 10 rfl) (all_at (all_at m 0 rfl) 9 rfl) 7 rfl rfl
  k_Taken_NoBlock := kit_ref (all_at (all_at m 2 rfl) 10 rfl) (all_at (all_at m 0 rfl) 10 rfl) 8 rfl rfl
  k_Taken_NoChild := kit_ref (all_at (all_at m 2 rfl) 10 rfl) (all_at (all_at m 0 rfl) 11 rfl) 9 rfl rfl
  k_Taken_NoHandle := kit_ref (all_at (all_at m 2 rfl) 10 rfl) (all_at (all_at m 1 rfl) 0 rfl) 10 rfl rfl
  k_Taken_NoName := kit_ref (all_at (all_at m 2 rfl) 10 rfl) (all_at (all_at m 1 rfl) 1 rfl) 11 rfl rfl
  k_Taken_NoNode := kit_ref (all_at (all_at m 2 rfl) 10 rfl) (all_at (all_at m 1 rfl) 2 rfl) 12 rfl rfl
  k_Taken_NoOwner := kit_ref (all_at (all_at m 2 rfl) 10 rfl) (all_at (all_at m 1 rfl) 3 rfl) 13 rfl rfl
  k_Taken_NoSpace := kit_ref (all_at (all_at m 2 rfl) 10 rfl) (all_at (all_at m 1 rfl) 4 rfl) 14 rfl rfl
  k_Taken_NotAllowed := kit_ref (all_at (all_at m 2 rfl) 10 rfl) (all_at (all_at m 1 rfl) 5 rfl) 15 rfl rfl
  k_Taken_NotDir := kit_ref (all_at (all_at m 2 rfl) 10 rfl) (all_at (all_at m 1 rfl) 6 rfl) 16 rfl rfl
  k_Taken_NotEmpty := kit_ref (all_at (all_at m 2 rfl) 10 rfl) (all_at (all_at m 1 rfl) 7 rfl) 17 rfl rfl
  k_Taken_NotHeld := kit_ref (all_at (all_at m 2 rfl) 10 rfl) (all_at (all_at m 1 rfl) 8 rfl) 18 rfl rfl
  k_Taken_TooBig := kit_ref (all_at (all_at m 2 rfl) 10 rfl) (all_at (all_at m 1 rfl) 9 rfl) 19 rfl rfl
  k_Taken_TooMany := kit_ref (all_at (all_at m 2 rfl) 10 rfl) (all_at (all_at m 1 rfl) 10 rfl) 20 rfl rfl
  k_Taken_Again := kit_ref (all_at (all_at m 2 rfl) 10 rfl) (all_at (all_at m 1 rfl) 11 rfl) 21 rfl rfl
  k_Taken_NoTask := kit_ref (all_at (all_at m 2 rfl) 10 rfl) (all_at (all_at m 2 rfl) 0 rfl) 22 rfl rfl
  k_Taken_NoPage := kit_ref (all_at (all_at m 2 rfl) 10 rfl) (all_at (all_at m 2 rfl) 1 rfl) 23 rfl rfl
  k_Taken_NoRoom := kit_ref (all_at (all_at m 2 rfl) 10 rfl) (all_at (all_at m 2 rfl) 2 rfl) 24 rfl rfl
  k_Taken_Taken := kit_ref (all_at (all_at m 2 rfl) 10 rfl) (all_at (all_at m 2 rfl) 3 rfl) 25 rfl rfl
  k_Taken_ValueError := kit_typ (all_at (all_at m 2 rfl) 10 rfl) (by decide +kernel) 26 rfl rfl
  k_NoTask_BadCall := kit_ref (all_at (all_at m 3 rfl) 1 rfl) (all_at (all_at m 0 rfl) 2 rfl) 0 rfl rfl
  k_NoTask_BadMode := kit_ref (all_at (all_at m 3 rfl) 1 rfl) (all_at (all_at m 0 rfl) 3 rfl) 1 rfl rfl
  k_NoTask_BadName := kit_ref (all_at (all_at m 3 rfl) 1 rfl) (all_at (all_at m 0 rfl) 4 rfl) 2 rfl rfl
  k_NoTask_BadRow := kit_ref (all_at (all_at m 3 rfl) 1 rfl) (all_at (all_at m 0 rfl) 5 rfl) 3 rfl rfl
  k_NoTask_Broken := kit_ref (all_at (all_at m 3 rfl) 1 rfl) (all_at (all_at m 0 rfl) 6 rfl) 4 rfl rfl
  k_NoTask_Fallen := kit_ref (all_at (all_at m 3 rfl) 1 rfl) (all_at (all_at m 0 rfl) 7 rfl) 5 rfl rfl
  k_NoTask_Inside := kit_ref (all_at (all_at m 3 rfl) 1 rfl) (all_at (all_at m 0 rfl) 8 rfl) 6 rfl rfl
  k_NoTask_IsDir := kit_ref (all_at (all_at m 3 rfl) 1 rfl) (all_at (all_at m 0 rfl) 9 rfl) 7 rfl rfl
  k_NoTask_NoBlock := kit_ref (all_at (all_at m 3 rfl) 1 rfl) (all_at (all_at m 0 rfl) 10 rfl) 8 rfl rfl
  k_NoTask_NoChild := kit_ref (all_at (all_at m 3 rfl) 1 rfl) (all_at (all_at m 0 rfl) 11 rfl) 9 rfl rfl
  k_NoTask_NoHandle := kit_ref (all_at (all_at m 3 rfl) 1 rfl) (all_at (all_at m 1 rfl) 0 rfl) 10 rfl rfl
  k_NoTask_NoName := kit_ref (all_at (all_at m 3 rfl) 1 rfl) (all_at (all_at m 1 rfl) 1 rfl) 11 rfl rfl
  k_NoTask_NoNode := kit_ref (all_at (all_at m 3 rfl) 1 rfl) (all_at (all_at m 1 rfl) 2 rfl) 12 rfl rfl
  k_NoTask_NoOwner := kit_ref (all_at (all_at m 3 rfl) 1 rfl) (all_at (all_at m 1 rfl) 3 rfl) 13 rfl rfl
  k_NoTask_NoSpace := kit_ref (all_at (all_at m 3 rfl) 1 rfl) (all_at (all_at m 1 rfl) 4 rfl) 14 rfl rfl
  k_NoTask_NotAllowed := kit_ref (all_at (all_at m 3 rfl) 1 rfl) (all_at (all_at m 1 rfl) 5 rfl) 15 rfl rfl
  k_NoTask_NotDir := kit_ref (all_at (all_at m 3 rfl) 1 rfl) (all_at (all_at m 1 rfl) 6 rfl) 16 rfl rfl
  k_NoTask_NotEmpty := kit_ref (all_at (all_at m 3 rfl) 1 rfl) (all_at (all_at m 1 rfl) 7 rfl) 17 rfl rfl
  k_NoTask_NotHeld := kit_ref (all_at (all_at m 3 rfl) 1 rfl) (all_at (all_at m 1 rfl) 8 rfl) 18 rfl rfl
  k_NoTask_TooBig := kit_ref (all_at (all_at m 3 rfl) 1 rfl) (all_at (all_at m 1 rfl) 9 rfl) 19 rfl rfl
  k_NoTask_TooMany := kit_ref (all_at (all_at m 3 rfl) 1 rfl) (all_at (all_at m 1 rfl) 10 rfl) 20 rfl rfl
  k_NoTask_Again := kit_ref (all_at (all_at m 3 rfl) 1 rfl) (all_at (all_at m 1 rfl) 11 rfl) 21 rfl rfl
  k_NoTask_NoTask := kit_ref (all_at (all_at m 3 rfl) 1 rfl) (all_at (all_at m 2 rfl) 0 rfl) 22 rfl rfl
  k_NoTask_NoPage := kit_ref (all_at (all_at m 3 rfl) 1 rfl) (all_at (all_at m 2 rfl) 1 rfl) 23 rfl rfl
  k_NoTask_NoRoom := kit_ref (all_at (all_at m 3 rfl) 1 rfl) (all_at (all_at m 2 rfl) 2 rfl) 24 rfl rfl
  k_NoTask_Taken := kit_ref (all_at (all_at m 3 rfl) 1 rfl) (all_at (all_at m 2 rfl) 3 rfl) 25 rfl rfl
  k_NoTask_ValueError := kit_typ (all_at (all_at m 3 rfl) 1 rfl) (by decide +kernel) 26 rfl rfl
  k_NoRoom_BadCall := kit_ref (all_at (all_at m 3 rfl) 4 rfl) (all_at (all_at m 0 rfl) 2 rfl) 0 rfl rfl
  k_NoRoom_BadMode := kit_ref (all_at (all_at m 3 rfl) 4 rfl) (all_at (all_at m 0 rfl) 3 rfl) 1 rfl rfl
  k_NoRoom_BadName := kit_ref (all_at (all_at m 3 rfl) 4 rfl) (all_at (all_at m 0 rfl) 4 rfl) 2 rfl rfl
  k_NoRoom_BadRow := kit_ref (all_at (all_at m 3 rfl) 4 rfl) (all_at (all_at m 0 rfl) 5 rfl) 3 rfl rfl
  k_NoRoom_Broken := kit_ref (all_at (all_at m 3 rfl) 4 rfl) (all_at (all_at m 0 rfl) 6 rfl) 4 rfl rfl
  k_NoRoom_Fallen := kit_ref (all_at (all_at m 3 rfl) 4 rfl) (all_at (all_at m 0 rfl) 7 rfl) 5 rfl rfl
  k_NoRoom_Inside := kit_ref (all_at (all_at m 3 rfl) 4 rfl) (all_at (all_at m 0 rfl) 8 rfl) 6 rfl rfl
  k_NoRoom_IsDir := kit_ref (all_at (all_at m 3 rfl) 4 rfl) (all_at (all_at m 0 rfl) 9 rfl) 7 rfl rfl
  k_NoRoom_NoBlock := kit_ref (all_at (all_at m 3 rfl) 4 rfl) (all_at (all_at m 0 rfl) 10 rfl) 8 rfl rfl
  k_NoRoom_NoChild := kit_ref (all_at (all_at m 3 rfl) 4 rfl) (all_at (all_at m 0 rfl) 11 rfl) 9 rfl rfl
  k_NoRoom_NoHandle := kit_ref (all_at (all_at m 3 rfl) 4 rfl) (all_at (all_at m 1 rfl) 0 rfl) 10 rfl rfl
  k_NoRoom_NoName := kit_ref (all_at (all_at m 3 rfl) 4 rfl) (all_at (all_at m 1 rfl) 1 rfl) 11 rfl rfl
  k_NoRoom_NoNode := kit_ref (all_at (all_at m 3 rfl) 4 rfl) (all_at (all_at m 1 rfl) 2 rfl) 12 rfl rfl
  k_NoRoom_NoOwner := kit_ref (all_at (all_at m 3 rfl) 4 rfl) (all_at (all_at m 1 rfl) 3 rfl) 13 rfl rfl
  k_NoRoom_NoSpace := kit_ref (all_at (all_at m 3 rfl) 4 rfl) (all_at (all_at m 1 rfl) 4 rfl) 14 rfl rfl
  k_NoRoom_NotAllowed := kit_ref (all_at (all_at m 3 rfl) 4 rfl) (all_at (all_at m 1 rfl) 5 rfl) 15 rfl rfl
  k_NoRoom_NotDir := kit_ref (all_at (all_at m 3 rfl) 4 rfl) (all_at (all_at m 1 rfl) 6 rfl) 16 rfl rfl
  k_NoRoom_NotEmpty := kit_ref (all_at (all_at m 3 rfl) 4 rfl) (all_at (all_at m 1 rfl) 7 rfl) 17 rfl rfl
  k_NoRoom_NotHeld := kit_ref (all_at (all_at m 3 rfl) 4 rfl) (all_at (all_at m 1 rfl) 8 rfl) 18 rfl rfl
  k_NoRoom_TooBig := kit_ref (all_at (all_at m 3 rfl) 4 rfl) (all_at (all_at m 1 rfl) 9 rfl) 19 rfl rfl
  k_NoRoom_TooMany := kit_ref (all_at (all_at m 3 rfl) 4 rfl) (all_at (all_at m 1 rfl) 10 rfl) 20 rfl rfl
  k_NoRoom_Again := kit_ref (all_at (all_at m 3 rfl) 4 rfl) (all_at (all_at m 1 rfl) 11 rfl) 21 rfl rfl
  k_NoRoom_NoTask := kit_ref (all_at (all_at m 3 rfl) 4 rfl) (all_at (all_at m 2 rfl) 0 rfl) 22 rfl rfl
  k_NoRoom_NoPage := kit_ref (all_at (all_at m 3 rfl) 4 rfl) (all_at (all_at m 2 rfl) 1 rfl) 23 rfl rfl
  k_NoRoom_NoRoom := kit_ref (all_at (all_at m 3 rfl) 4 rfl) (all_at (all_at m 2 rfl) 2 rfl) 24 rfl rfl
  k_NoRoom_Taken := kit_ref (all_at (all_at m 3 rfl) 4 rfl) (all_at (all_at m 2 rfl) 3 rfl) 25 rfl rfl
  k_NoRoom_ValueError := kit_typ (all_at (all_at m 3 rfl) 4 rfl) (by decide +kernel) 26 rfl rfl
  d_BadRow___init__ := c.def_ 0 (d := ⟨("BadRow", some "__init__"), "__init__", "BadRow.__init__", defArgs (inClass (top 28) 0), defBody (inClass (top 28) 0), defScope (inClass (top 28) 0), [], []⟩) rfl
  d_Store___init__ := c.def_ 1 (d := ⟨("Store", some "__init__"), "__init__", "Store.__init__", defArgs (inClass (top 31) 0), defBody (inClass (top 31) 0), defScope (inClass (top 31) 0), [], []⟩) rfl
  d_Store_take := c.def_ 2 (d := ⟨("Store", some "take"), "take", "Store.take", defArgs (inClass (top 31) 1), defBody (inClass (top 31) 1), defScope (inClass (top 31) 1), [], []⟩) rfl
  d_Store_look_taken := c.def_ 3 (d := ⟨("Store", some "look_taken"), "look_taken", "Store.look_taken", defArgs (inClass (top 31) 2), defBody (inClass (top 31) 2), defScope (inClass (top 31) 2), [], []⟩) rfl
  d_Store_more := c.def_ 4 (d := ⟨("Store", some "more"), "more", "Store.more", defArgs (inClass (top 31) 3), defBody (inClass (top 31) 3), defScope (inClass (top 31) 3), [], []⟩) rfl
  d_Store_less := c.def_ 5 (d := ⟨("Store", some "less"), "less", "Store.less", defArgs (inClass (top 31) 4), defBody (inClass (top 31) 4), defScope (inClass (top 31) 4), [], []⟩) rfl
  d_Store_count := c.def_ 6 (d := ⟨("Store", some "count"), "count", "Store.count", defArgs (inClass (top 31) 5), defBody (inClass (top 31) 5), defScope (inClass (top 31) 5), [], []⟩) rfl
  d_Store_cells := c.def_ 7 (d := ⟨("Store", some "cells"), "cells", "Store.cells", defArgs (inClass (top 31) 6), defBody (inClass (top 31) 6), defScope (inClass (top 31) 6), [], []⟩) rfl
  d_Store_put := c.def_ 8 (d := ⟨("Store", some "put"), "put", "Store.put", defArgs (inClass (top 31) 7), defBody (inClass (top 31) 7), defScope (inClass (top 31) 7), [], []⟩) rfl
  d_Store_free := c.def_ 9 (d := ⟨("Store", some "free"), "free", "Store.free", defArgs (inClass (top 31) 8), defBody (inClass (top 31) 8), defScope (inClass (top 31) 8), [], []⟩) rfl
  d_Paging___init__ := c.def_ 10 (d := ⟨("Paging", some "__init__"), "__init__", "Paging.__init__", defArgs (inClass (top 34) 0), defBody (inClass (top 34) 0), defScope (inClass (top 34) 0), [], []⟩) rfl
  d_Paging_entry := c.def_ 11 (d := ⟨("Paging", some "entry"), "entry", "Paging.entry", defArgs (inClass (top 34) 1), defBody (inClass (top 34) 1), defScope (inClass (top 34) 1), [], []⟩) rfl
  d_Paging_lay := c.def_ 12 (d := ⟨("Paging", some "lay"), "lay", "Paging.lay", defArgs (inClass (top 34) 2), defBody (inClass (top 34) 2), defScope (inClass (top 34) 2), [], []⟩) rfl
  d_Paging_share := c.def_ 13 (d := ⟨("Paging", some "share"), "share", "Paging.share", defArgs (inClass (top 34) 3), defBody (inClass (top 34) 3), defScope (inClass (top 34) 3), [], []⟩) rfl
  d_Paging_leave := c.def_ 14 (d := ⟨("Paging", some "leave"), "leave", "Paging.leave", defArgs (inClass (top 34) 4), defBody (inClass (top 34) 4), defScope (inClass (top 34) 4), [], []⟩) rfl
  d_Paging_lifted := c.def_ 15 (d := ⟨("Paging", some "lifted"), "lifted", "Paging.lifted", defArgs (inClass (top 34) 5), defBody (inClass (top 34) 5), defScope (inClass (top 34) 5), [], []⟩) rfl
  d_Paging_settle := c.def_ 16 (d := ⟨("Paging", some "settle"), "settle", "Paging.settle", defArgs (inClass (top 34) 6), defBody (inClass (top 34) 6), defScope (inClass (top 34) 6), [], []⟩) rfl
  d_Paging_put_out := c.def_ 17 (d := ⟨("Paging", some "put_out"), "put_out", "Paging.put_out", defArgs (inClass (top 34) 7), defBody (inClass (top 34) 7), defScope (inClass (top 34) 7), [], []⟩) rfl
  d_Paging_frame_taken := c.def_ 18 (d := ⟨("Paging", some "frame_taken"), "frame_taken", "Paging.frame_taken", defArgs (inClass (top 34) 8), defBody (inClass (top 34) 8), defScope (inClass (top 34) 8), [], []⟩) rfl
  d_Paging_fetch := c.def_ 19 (d := ⟨("Paging", some "fetch"), "fetch", "Paging.fetch", defArgs (inClass (top 34) 9), defBody (inClass (top 34) 9), defScope (inClass (top 34) 9), [], []⟩) rfl
  d_Paging_part := c.def_ 20 (d := ⟨("Paging", some "part"), "part", "Paging.part", defArgs (inClass (top 34) 10), defBody (inClass (top 34) 10), defScope (inClass (top 34) 10), [], []⟩) rfl
  d_Paging_cells := c.def_ 21 (d := ⟨("Paging", some "cells"), "cells", "Paging.cells", defArgs (inClass (top 34) 11), defBody (inClass (top 34) 11), defScope (inClass (top 34) 11), [], []⟩) rfl
  d_Paging_put := c.def_ 22 (d := ⟨("Paging", some "put"), "put", "Paging.put", defArgs (inClass (top 34) 12), defBody (inClass (top 34) 12), defScope (inClass (top 34) 12), [], []⟩) rfl
  d_Paging_counts := c.def_ 23 (d := ⟨("Paging", some "counts"), "counts", "Paging.counts", defArgs (inClass (top 34) 13), defBody (inClass (top 34) 13), defScope (inClass (top 34) 13), [], []⟩) rfl
  d_Table___init__ := c.def_ 24 (d := ⟨("Table", some "__init__"), "__init__", "Table.__init__", defArgs (inClass (top 37) 0), defBody (inClass (top 37) 0), defScope (inClass (top 37) 0), [], []⟩) rfl
  d_Table_get := c.def_ 25 (d := ⟨("Table", some "get"), "get", "Table.get", defArgs (inClass (top 37) 1), defBody (inClass (top 37) 1), defScope (inClass (top 37) 1), [], []⟩) rfl
  d_Table_lay := c.def_ 26 (d := ⟨("Table", some "lay"), "lay", "Table.lay", defArgs (inClass (top 37) 2), defBody (inClass (top 37) 2), defScope (inClass (top 37) 2), [], []⟩) rfl
  d_Table_clear := c.def_ 27 (d := ⟨("Table", some "clear"), "clear", "Table.clear", defArgs (inClass (top 37) 3), defBody (inClass (top 37) 3), defScope (inClass (top 37) 3), [], []⟩) rfl
  d_Table_pages := c.def_ 28 (d := ⟨("Table", some "pages"), "pages", "Table.pages", defArgs (inClass (top 37) 4), defBody (inClass (top 37) 4), defScope (inClass (top 37) 4), [], []⟩) rfl
  d_pages_asked := c.def_ 29 (d := ⟨("pages_asked", none), "pages_asked", "pages_asked", defArgs (top 40), defBody (top 40), defScope (top 40), [], []⟩) rfl
  d_stretches_of := c.def_ 30 (d := ⟨("stretches_of", none), "stretches_of", "stretches_of", defArgs (top 41), defBody (top 41), defScope (top 41), [], []⟩) rfl
  d_Rooms___init__ := c.def_ 31 (d := ⟨("Rooms", some "__init__"), "__init__", "Rooms.__init__", defArgs (inClass (top 42) 0), defBody (inClass (top 42) 0), defScope (inClass (top 42) 0), [], []⟩) rfl
  d_Rooms_begin := c.def_ 32 (d := ⟨("Rooms", some "begin"), "begin", "Rooms.begin", defArgs (inClass (top 42) 1), defBody (inClass (top 42) 1), defScope (inClass (top 42) 1), [], []⟩) rfl
  d_Rooms_table_of := c.def_ 33 (d := ⟨("Rooms", some "table_of"), "table_of", "Rooms.table_of", defArgs (inClass (top 42) 2), defBody (inClass (top 42) 2), defScope (inClass (top 42) 2), [], []⟩) rfl
  d_Rooms_close := c.def_ 34 (d := ⟨("Rooms", some "close"), "close", "Rooms.close", defArgs (inClass (top 42) 3), defBody (inClass (top 42) 3), defScope (inClass (top 42) 3), [], []⟩) rfl
  d_Rooms_held := c.def_ 35 (d := ⟨("Rooms", some "held"), "held", "Rooms.held", defArgs (inClass (top 42) 4), defBody (inClass (top 42) 4), defScope (inClass (top 42) 4), [], []⟩) rfl
  d_Rooms_ask_room := c.def_ 36 (d := ⟨("Rooms", some "ask_room"), "ask_room", "Rooms.ask_room", defArgs (inClass (top 42) 5), defBody (inClass (top 42) 5), defScope (inClass (top 42) 5), [], []⟩) rfl
  d_Rooms_map := c.def_ 37 (d := ⟨("Rooms", some "map"), "map", "Rooms.map", defArgs (inClass (top 42) 6), defBody (inClass (top 42) 6), defScope (inClass (top 42) 6), [], []⟩) rfl
  d_Rooms_look_mapped := c.def_ 38 (d := ⟨("Rooms", some "look_mapped"), "look_mapped", "Rooms.look_mapped", defArgs (inClass (top 42) 7), defBody (inClass (top 42) 7), defScope (inClass (top 42) 7), [], []⟩) rfl
  d_Rooms_drop := c.def_ 39 (d := ⟨("Rooms", some "drop"), "drop", "Rooms.drop", defArgs (inClass (top 42) 8), defBody (inClass (top 42) 8), defScope (inClass (top 42) 8), [], []⟩) rfl
  d_Rooms_stretches := c.def_ 40 (d := ⟨("Rooms", some "stretches"), "stretches", "Rooms.stretches", defArgs (inClass (top 42) 9), defBody (inClass (top 42) 9), defScope (inClass (top 42) 9), [], []⟩) rfl
  d_Rooms_peek := c.def_ 41 (d := ⟨("Rooms", some "peek"), "peek", "Rooms.peek", defArgs (inClass (top 42) 10), defBody (inClass (top 42) 10), defScope (inClass (top 42) 10), [], []⟩) rfl
  d_Rooms_poke := c.def_ 42 (d := ⟨("Rooms", some "poke"), "poke", "Rooms.poke", defArgs (inClass (top 42) 11), defBody (inClass (top 42) 11), defScope (inClass (top 42) 11), [], []⟩) rfl
  d_Rooms_copy := c.def_ 43 (d := ⟨("Rooms", some "copy"), "copy", "Rooms.copy", defArgs (inClass (top 42) 12), defBody (inClass (top 42) 12), defScope (inClass (top 42) 12), [], []⟩) rfl
  d_Rooms_place := c.def_ 44 (d := ⟨("Rooms", some "place"), "place", "Rooms.place", defArgs (inClass (top 42) 13), defBody (inClass (top 42) 13), defScope (inClass (top 42) 13), [], []⟩) rfl
  d_Rooms_counts := c.def_ 45 (d := ⟨("Rooms", some "counts"), "counts", "Rooms.counts", defArgs (inClass (top 42) 14), defBody (inClass (top 42) 14), defScope (inClass (top 42) 14), [], []⟩) rfl
  d__law_mixed := c.def_ 46 (d := ⟨("_law_mixed", none), "_law_mixed", "_law_mixed", defArgs (top 44), defBody (top 44), defScope (top 44), [], []⟩) rfl
  d__law_number := c.def_ 47 (d := ⟨("_law_number", none), "_law_number", "_law_number", defArgs (top 45), defBody (top 45), defScope (top 45), [], []⟩) rfl
  d__law_cells := c.def_ 48 (d := ⟨("_law_cells", none), "_law_cells", "_law_cells", defArgs (top 47), defBody (top 47), defScope (top 47), [], []⟩) rfl
  d__law_deed := c.def_ 49 (d := ⟨("_law_deed", none), "_law_deed", "_law_deed", defArgs (top 48), defBody (top 48), defScope (top 48), [], []⟩) rfl
  d__law_model := c.def_ 50 (d := ⟨("_law_model", none), "_law_model", "_law_model", defArgs (top 49), defBody (top 49), defScope (top 49), [], []⟩) rfl
  d__law_held := c.def_ 51 (d := ⟨("_law_held", none), "_law_held", "_law_held", defArgs (top 50), defBody (top 50), defScope (top 50), [], []⟩) rfl
  d__law_stretch := c.def_ 52 (d := ⟨("_law_stretch", none), "_law_stretch", "_law_stretch", defArgs (top 51), defBody (top 51), defScope (top 51), [], []⟩) rfl
  d__law_due := c.def_ 53 (d := ⟨("_law_due", none), "_law_due", "_law_due", defArgs (top 52), defBody (top 52), defScope (top 52), [], []⟩) rfl
  d__law_done := c.def_ 54 (d := ⟨("_law_done", none), "_law_done", "_law_done", defArgs (top 53), defBody (top 53), defScope (top 53), [], []⟩) rfl
  d__law_called := c.def_ 55 (d := ⟨("_law_called", none), "_law_called", "_law_called", defArgs (top 54), defBody (top 54), defScope (top 54), [], []⟩) rfl
  d__law_sizes := c.def_ 56 (d := ⟨("_law_sizes", none), "_law_sizes", "_law_sizes", defArgs (top 55), defBody (top 55), defScope (top 55), [], []⟩) rfl
  d__law_tasks := c.def_ 57 (d := ⟨("_law_tasks", none), "_law_tasks", "_law_tasks", defArgs (top 56), defBody (top 56), defScope (top 56), [], []⟩) rfl
  d__law_state := c.def_ 58 (d := ⟨("_law_state", none), "_law_state", "_law_state", defArgs (top 57), defBody (top 57), defScope (top 57), [], []⟩) rfl
  d__law_refusal := c.def_ 59 (d := ⟨("_law_refusal", none), "_law_refusal", "_law_refusal", defArgs (top 58), defBody (top 58), defScope (top 58), [], []⟩) rfl
  d__law_far := c.def_ 60 (d := ⟨("_law_far", none), "_law_far", "_law_far", defArgs (top 59), defBody (top 59), defScope (top 59), [], []⟩) rfl
  d__law_bad := c.def_ 61 (d := ⟨("_law_bad", none), "_law_bad", "_law_bad", defArgs (top 60), defBody (top 60), defScope (top 60), [], []⟩) rfl
  d__law_none_asked := c.def_ 62 (d := ⟨("_law_none_asked", none), "_law_none_asked", "_law_none_asked", defArgs (top 61), defBody (top 61), defScope (top 61), [], []⟩) rfl
  d_law := c.def_ 63 (d := ⟨("law", none), "law", "law", defArgs (top 62), defBody (top 62), defScope (top 62), [], []⟩) rfl
local macro_rules | `(tactic| walk_at "xf") => `(tactic| first | with_reducible exact Txt.e_NoOwner (by assumption) | with_reducible exact Txt.y_NoOwner_KernelError (by assumption) | with_reducible exact Txt.e_NoPage (by assumption) | with_reducible exact Txt.y_NoPage_KernelError (by assumption) | with_reducible exact Txt.e_Taken (by assumption) | with_reducible exact Txt.y_Taken_KernelError (by assumption) | with_reducible exact Txt.e_NoTask (by assumption) | with_reducible exact Txt.y_NoTask_KernelError (by assumption) | with_reducible exact Txt.e_NoRoom (by assumption) | with_reducible exact Txt.y_NoRoom_KernelError (by assumption) | with_reducible exact Txt.k_NoOwner_BadCall (by assumption) | with_reducible exact Txt.k_NoOwner_BadMode (by assumption) | with_reducible exact Txt.k_NoOwner_BadName (by assumption) | with_reducible exact Txt.k_NoOwner_BadRow (by assumption) | with_reducible exact Txt.k_NoOwner_Broken (by assumption) | with_reducible exact Txt.k_NoOwner_Fallen (by assumption) | with_reducible exact Txt.k_NoOwner_Inside (by assumption) | with_reducible exact Txt.k_NoOwner_IsDir (by assumption) | with_reducible exact Txt.k_NoOwner_NoBlock (by assumption) | with_reducible exact Txt.k_NoOwner_NoChild (by assumption) | with_reducible exact Txt.k_NoOwner_NoHandle (by assumption) | with_reducible exact Txt.k_NoOwner_NoName (by assumption) | with_reducible exact Txt.k_NoOwner_NoNode (by assumption) | with_reducible exact Txt.k_NoOwner_NoOwner (by assumption) | with_reducible exact Txt.k_NoOwner_NoSpace (by assumption) | with_reducible exact Txt.k_NoOwner_NotAllowed (by assumption) | with_reducible exact Txt.k_NoOwner_NotDir (by assumption) | with_reducible exact Txt.k_NoOwner_NotEmpty (by assumption) | with_reducible exact Txt.k_NoOwner_NotHeld (by assumption) | with_reducible exact Txt.k_NoOwner_TooBig (by assumption) | with_reducible exact Txt.k_NoOwner_TooMany (by assumption) | with_reducible exact Txt.k_NoOwner_Again (by assumption) | with_reducible exact Txt.k_NoOwner_NoTask (by assumption) | with_reducible exact Txt.k_NoOwner_NoPage (by assumption) | with_reducible exact Txt.k_NoOwner_NoRoom (by assumption) | with_reducible exact Txt.k_NoOwner_Taken (by assumption) | with_reducible exact Txt.k_NoOwner_ValueError (by assumption) | with_reducible exact Txt.k_NoPage_BadCall (by assumption) | with_reducible exact Txt.k_NoPage_BadMode (by assumption) | with_reducible exact Txt.k_NoPage_BadName (by assumption) | with_reducible exact Txt.k_NoPage_BadRow (by assumption) | with_reducible exact Txt.k_NoPage_Broken (by assumption) | with_reducible exact Txt.k_NoPage_Fallen (by assumption) | with_reducible exact Txt.k_NoPage_Inside (by assumption) | with_reducible exact Txt.k_NoPage_IsDir (by assumption) | with_reducible exact Txt.k_NoPage_NoBlock (by assumption) | with_reducible exact Txt.k_NoPage_NoChild (by assumption) | with_reducible exact Txt.k_NoPage_NoHandle (by assumption) | with_reducible exact Txt.k_NoPage_NoName (by assumption) | with_reducible exact Txt.k_NoPage_NoNode (by assumption) | with_reducible exact Txt.k_NoPage_NoOwner (by assumption) | with_reducible exact Txt.k_NoPage_NoSpace (by assumption) | with_reducible exact Txt.k_NoPage_NotAllowed (by assumption) | with_reducible exact Txt.k_NoPage_NotDir (by assumption) | with_reducible exact Txt.k_NoPage_NotEmpty (by assumption) | with_reducible exact Txt.k_NoPage_NotHeld (by assumption) | with_reducible exact Txt.k_NoPage_TooBig (by assumption) | with_reducible exact Txt.k_NoPage_TooMany (by assumption) | with_reducible exact Txt.k_NoPage_Again (by assumption) | with_reducible exact Txt.k_NoPage_NoTask (by assumption) | with_reducible exact Txt.k_NoPage_NoPage (by assumption) | with_reducible exact Txt.k_NoPage_NoRoom (by assumption) | with_reducible exact Txt.k_NoPage_Taken (by assumption) | with_reducible exact Txt.k_NoPage_ValueError (by assumption) | with_reducible exact Txt.k_Taken_BadCall (by assumption) | with_reducible exact Txt.k_Taken_BadMode (by assumption) | with_reducible exact Txt.k_Taken_BadName (by assumption) | with_reducible exact Txt.k_Taken_BadRow (by assumption) | with_reducible exact Txt.k_Taken_Broken (by assumption) | with_reducible exact Txt.k_Taken_Fallen (by assumption) | with_reducible exact Txt.k_Taken_Inside (by assumption) | with_reducible exact Txt.k_Taken_IsDir (by assumption) | with_reducible exact Txt.k_Taken_NoBlock (by assumption) | with_reducible exact Txt.k_Taken_NoChild (by assumption) | with_reducible exact Txt.k_Taken_NoHandle (by assumption) | with_reducible exact Txt.k_Taken_NoName (by assumption) | with_reducible exact Txt.k_Taken_NoNode (by assumption) | with_reducible exact Txt.k_Taken_NoOwner (by assumption) | with_reducible exact Txt.k_Taken_NoSpace (by assumption) | with_reducible exact Txt.k_Taken_NotAllowed (by assumption) | with_reducible exact Txt.k_Taken_NotDir (by assumption) | with_reducible exact Txt.k_Taken_NotEmpty (by assumption) | with_reducible exact Txt.k_Taken_NotHeld (by assumption) | with_reducible exact Txt.k_Taken_TooBig (by assumption) | with_reducible exact Txt.k_Taken_TooMany (by assumption) | with_reducible exact Txt.k_Taken_Again (by assumption) | with_reducible exact Txt.k_Taken_NoTask (by assumption) | with_reducible exact Txt.k_Taken_NoPage (by assumption) | with_reducible exact Txt.k_Taken_NoRoom (by assumption) | with_reducible exact Txt.k_Taken_Taken (by assumption) | with_reducible exact Txt.k_Taken_ValueError (by assumption) | with_reducible exact Txt.k_NoTask_BadCall (by assumption) | with_reducible exact Txt.k_NoTask_BadMode (by assumption) | with_reducible exact Txt.k_NoTask_BadName (by assumption) | with_reducible exact Txt.k_NoTask_BadRow (by assumption) | with_reducible exact Txt.k_NoTask_Broken (by assumption) | with_reducible exact Txt.k_NoTask_Fallen (by assumption) | with_reducible exact Txt.k_NoTask_Inside (by assumption) | with_reducible exact Txt.k_NoTask_IsDir (by assumption) | with_reducible exact Txt.k_NoTask_NoBlock (by assumption) | with_reducible exact Txt.k_NoTask_NoChild (by assumption) | with_reducible exact Txt.k_NoTask_NoHandle (by assumption) | with_reducible exact Txt.k_NoTask_NoName (by assumption) | with_reducible exact Txt.k_NoTask_NoNode (by assumption) | with_reducible exact Txt.k_NoTask_NoOwner (by assumption) | with_reducible exact Txt.k_NoTask_NoSpace (by assumption) | with_reducible exact Txt.k_NoTask_NotAllowed (by assumption) | with_reducible exact Txt.k_NoTask_NotDir (by assumption) | with_reducible exact Txt.k_NoTask_NotEmpty (by assumption) | with_reducible exact Txt.k_NoTask_NotHeld (by assumption) | with_reducible exact Txt.k_NoTask_TooBig (by assumption) | with_reducible exact Txt.k_NoTask_TooMany (by assumption) | with_reducible exact Txt.k_NoTask_Again (by assumption) | with_reducible exact Txt.k_NoTask_NoTask (by assumption) | with_reducible exact Txt.k_NoTask_NoPage (by assumption) | with_reducible exact Txt.k_NoTask_NoRoom (by assumption) | with_reducible exact Txt.k_NoTask_Taken (by assumption) | with_reducible exact Txt.k_NoTask_ValueError (by assumption) | with_reducible exact Txt.k_NoRoom_BadCall (by assumption) | with_reducible exact Txt.k_NoRoom_BadMode (by assumption) | with_reducible exact Txt.k_NoRoom_BadName (by assumption) | with_reducible exact Txt.k_NoRoom_BadRow (by assumption) | with_reducible exact Txt.k_NoRoom_Broken (by assumption) | with_reducible exact Txt.k_NoRoom_Fallen (by assumption) | with_reducible exact Txt.k_NoRoom_Inside (by assumption) | with_reducible exact Txt.k_NoRoom_IsDir (by assumption) | with_reducible exact Txt.k_NoRoom_NoBlock (by assumption) | with_reducible exact Txt.k_NoRoom_NoChild (by assumption) | with_reducible exact Txt.k_NoRoom_NoHandle (by assumption) | with_reducible exact Txt.k_NoRoom_NoName (by assumption) | with_reducible exact Txt.k_NoRoom_NoNode (by assumption) | with_reducible exact Txt.k_NoRoom_NoOwner (by assumption) | with_reducible exact Txt.k_NoRoom_NoSpace (by assumption) | with_reducible exact Txt.k_NoRoom_NotAllowed (by assumption) | with_reducible exact Txt.k_NoRoom_NotDir (by assumption) | with_reducible exact Txt.k_NoRoom_NotEmpty (by assumption) | with_reducible exact Txt.k_NoRoom_NotHeld (by assumption) | with_reducible exact Txt.k_NoRoom_TooBig (by assumption) | with_reducible exact Txt.k_NoRoom_TooMany (by assumption) | with_reducible exact Txt.k_NoRoom_Again (by assumption) | with_reducible exact Txt.k_NoRoom_NoTask (by assumption) | with_reducible exact Txt.k_NoRoom_NoPage (by assumption) | with_reducible exact Txt.k_NoRoom_NoRoom (by assumption) | with_reducible exact Txt.k_NoRoom_Taken (by assumption) | with_reducible exact Txt.k_NoRoom_ValueError (by assumption) | fail)
local macro_rules | `(tactic| walk_at "fact") => `(tactic| first | with_reducible exact Txt.c_Store (by assumption) | with_reducible exact Txt.c_Paging (by assumption) | with_reducible exact Txt.c_Table (by assumption) | with_reducible exact Txt.c_Rooms (by assumption) | with_reducible exact Txt.a_Store_owners (by assumption) | with_reducible exact Txt.a_Store_contents (by assumption) | with_reducible exact Txt.a_Paging_stores (by assumption) | with_reducible exact Txt.a_Paging_frames (by assumption) | with_reducible exact Txt.a_Paging_slots (by assumption) | with_reducible exact Txt.a_Paging_tables (by assumption) | with_reducible exact Txt.a_Paging_owners (by assumption) | with_reducible exact Txt.a_Paging_hand (by assumption) | with_reducible exact Txt.a_Table_firsts (by assumption) | with_reducible exact Txt.a_Rooms_paging (by assumption) | fail)
/-! ### the walk's own lines -/
local macro_rules | `(tactic| walk_at "mem") => `(tactic| first | exact List.mem_cons_self | (apply List.mem_cons_of_mem; walk_at "mem") | (apply List.mem_append_right; walk_at "mem") | (apply List.mem_append_left; walk_at "mem"))
local macro_rules | `(tactic| walk_at "at") => `(tactic| first | exact At.here | (apply At.there; walk_at "at") | (apply At.app; walk_at "at") | (apply At.appl; walk_at "at"))
local macro_rules | `(tactic| walk_at "sub") => `(tactic| first | exact Sub.all | exact Sub.here | exact Sub.one | (apply Sub.there; walk_at "sub") | (apply Sub.appl; walk_at "sub") | (apply Sub.app; walk_at "sub"))
local macro_rules | `(tactic| walk_at "own") => `(tactic| first | assumption | ((with_reducible apply Own.wr2); (focus walk_at "own"); (focus walk_at "at"); rfl) | ((with_reducible apply Own.new); (focus walk_at "own"); assumption))
local macro_rules | `(tactic| walk_at "h") => `(tactic| first | assumption | (apply Own.get; (focus walk_at "own"); walk_at "mem") | (apply Own.fr0; (focus walk_at "own"); assumption) | (rename Own _ _ _ _ => otmp; clear otmp; walk_at "h"))
local macro_rules | `(tactic| walk_at "ar") => `(tactic| first | omega | (simp only [List.length_nil, List.length_cons, List.length_append, List.length_map, List.length_set, List.length_replicate, List.length_range]; omega))
/-- one premise -/
local macro_rules | `(tactic| walk_at "c") => `(tactic| first
  | with_reducible exact rfl
  | ((with_reducible apply sl_of); rfl)
  | ((with_reducible apply sc_of); rfl)
  | ((with_reducible apply lsq_of); rfl)
  | ((with_reducible apply wp_of); rfl)
  | ((with_reducible apply ln_of); rfl)
  | ((with_reducible apply veq_of); first | rfl | exact kl | exact kr)
  | ((with_reducible apply lk_of); rfl)
  | ((with_reducible apply lkn_of); rfl)
  | ((with_reducible apply lt_of); (first | decide | walk_at "ar" | ((repeat (with_reducible apply putF_lt)); walk_at "ar")))
  | ((with_reducible apply hp_of); walk_at "h")
  | ((with_reducible apply cd_of); first | exact ⟨by decide, by decide⟩ | exact ⟨by omega, by omega⟩)
  | ((with_reducible apply at_of); first | assumption | exact atI_nat (j := 0) rfl | exact atI_nat (j := 1) rfl | exact atI_nat (j := 2) rfl | exact atI_nat (j := 3) rfl | exact atI_nat (j := 4) rfl)
  | ((with_reducible apply ix_of); first | assumption | rfl)
  | ((with_reducible apply cp_of); exact ⟨by decide, by decide, by decide⟩)
  | ((with_reducible apply cmw_of); first | assumption | (unfold CMulW; decide +kernel))
  | ((with_reducible apply cm_l); first | exact ⟨by decide, by decide⟩ | exact ⟨by omega, by omega⟩)
  | ((with_reducible apply cm_r); first | exact ⟨by decide, by decide⟩ | exact ⟨by omega, by omega⟩)
  | ((with_reducible show SqL _ _ _ _); assumption)
  | ((with_reducible show DGet _ _ _ _); assumption)
  | ((with_reducible show DPut _ _ _ _ _); assumption)
  | with_reducible exact isStr_of
  | with_reducible exact tyStr_of
  | walk_at "fact"
  | walk_at "kit"
  | walk_at "xf"
  | walk_at "col"
  | assumption)
local macro_rules | `(tactic| walk_at "prd") => `(tactic| first | exact Paired.nil | ((with_reducible apply Paired.cons); (focus walk_at "c"); walk_at "prd"))
local macro_rules | `(tactic| walk_at "kit") => `(tactic| first
  | (with_reducible exact Paired.nil) | ((with_reducible apply Paired.cons); (focus walk_at "c"); walk_at "prd") | ((with_reducible apply kit_any); walk_at "prd")
  | with_reducible exact ClsV.ty _ | with_reducible exact ClsV.own _
  | with_reducible exact kt_int_int | with_reducible exact kt_int_bool | with_reducible exact kt_bool_int | with_reducible exact kt_bool_bool | with_reducible exact kt_list_list | with_reducible exact kt_tuple_tuple | with_reducible exact kt_NoneType_tuple | with_reducible exact kt_str_str | with_reducible exact kt_NoneType_list | with_reducible exact kt_NoneType_int | with_reducible exact kt_NoneType_bool | with_reducible exact kt_NoneType_dict | with_reducible exact kt_NoneType_str | with_reducible exact kt_str_list | with_reducible exact kt_list_str | with_reducible exact kt_str_int | with_reducible exact kt_int_str | with_reducible exact kt_int_list | with_reducible exact kt_int_tuple | with_reducible exact kt_list_tuple | with_reducible exact kt_tuple_list | with_reducible exact kt_dict_dict | with_reducible exact kt_list_dict | with_reducible exact kt_dict_list | with_reducible exact kt_int_dict | with_reducible exact kt_str_bool | with_reducible exact kt_str_tuple | with_reducible exact kt_str_dict | with_reducible exact kt_list_int | with_reducible exact kt_list_bool | with_reducible exact kt_tuple_int | with_reducible exact kt_tuple_bool | with_reducible exact kt_tuple_str | with_reducible exact kt_tuple_dict
  | ((with_reducible apply TyX.base); first | with_reducible exact TyOf.non | with_reducible exact TyOf.bl _ | with_reducible exact TyOf.int _ | with_reducible exact TyOf.str _ | ((with_reducible apply TyOf.lst); walk_at "h") | ((with_reducible apply TyOf.tup); walk_at "h") | ((with_reducible apply TyOf.dK); walk_at "h")))
/-- lists, tuples, dicts, sizes -/
local macro_rules | `(tactic| walk_at "sq") => `(tactic| first | assumption | ((with_reducible apply SqL.of); walk_at "h") | ((with_reducible apply SqT.of); walk_at "h") | ((with_reducible apply Own.sq); (focus walk_at "own"); assumption))
local macro_rules | `(tactic| walk_at "col") => `(tactic| first
  | ((with_reducible apply SqL.of); walk_at "h") | ((with_reducible apply SqT.of); walk_at "h") | ((with_reducible apply Rd.of); walk_at "h")
  | ((with_reducible apply Own.sq); (focus walk_at "own"); assumption)
  | ((with_reducible apply col_ex2); walk_at "sq") | ((with_reducible apply col_ol2); walk_at "sq") | ((with_reducible apply col_or2); walk_at "sq")
  | ((with_reducible apply sz_le); first | decide | walk_at "ar")
  | ((with_reducible apply sz_lt); first | decide | walk_at "ar")
  | ((with_reducible apply isd_k); walk_at "h")
  | ((with_reducible apply dget_ii); (focus walk_at "h"); assumption) | ((with_reducible apply dget_is); (focus walk_at "h"); assumption)
  | ((with_reducible apply dget_i); walk_at "h") | ((with_reducible apply dget_s); walk_at "h")
  | ((with_reducible apply dput_i); (focus walk_at "h"); walk_at "ar") | ((with_reducible apply dput_s); (focus walk_at "h"); walk_at "ar")
  | (apply Or.inl; apply And.intro rfl; apply col_ex; walk_at "h")
  | (apply Or.inr; apply Or.inr; apply Or.inl; apply And.intro rfl; apply Or.inl; constructor; walk_at "h") | (apply Or.inr; apply Or.inr; apply Or.inl; apply And.intro rfl; apply Or.inr; constructor; walk_at "h")
  | with_reducible exact all_flat _ | with_reducible exact all_flatS _ | ((with_reducible apply fl_of); rfl)
  | ((with_reducible apply pos_of); first | decide | assumption | omega | decide +kernel)
  | walk_at "ar")
/-- one step -/
local macro_rules | `(tactic| walk_at "s1") => `(tactic| first
  | (apply @Exists.intro V)
  | (apply @Exists.intro Addr)
  | (apply @Exists.intro Int)
  | (apply @Exists.intro (List V))
  | (apply @Exists.intro (List (Str × V)))
  | (apply @Exists.intro (List (Key × V)))
  | (apply @Exists.intro Key)
  | (apply @Exists.intro Bool)
  | (apply @Exists.intro Str)
  | (apply @Exists.intro Value)
  | (apply @Exists.intro (Option V))
  | (apply @Exists.intro (List Int)) | (apply @Exists.intro (List Bool)) | (apply @Exists.intro Obj) | (apply @Exists.intro (List Value)) | (apply @Exists.intro Hp)
  | (apply And.intro; (focus walk_at "c")))
local macro_rules | `(tactic| walk_at "s") => `(tactic| repeat walk_at "s1")
local macro_rules | `(tactic| walk_at "b") => `(tactic| (apply Box.mk; walk_at "s"))
local macro_rules | `(tactic| walk_at "sk") => `(tactic| (refine if_ss (fun z => absurd z (by decide)) (fun _ => ?_); walk_at "s"))
local macro_rules | `(tactic| walk_at "bb") => `(tactic| repeat (apply Box.mk; walk_at "s"))
local macro_rules | `(tactic| walk_at "pm") => `(tactic| (classical (refine List.perm_iff_count.mpr fun zz => ?_; simp only [List.count_cons, List.count_append, List.count_nil, List.cons_append, List.nil_append, List.append_nil]; omega)))
local macro_rules | `(tactic| walk_at "clo") => `(tactic| repeat (rename Own _ _ _ _ => otmp; clear otmp))
/-! ## dicts of rows by number -/
section
variable {α : Type}
theorem lk_split {m : List (Int × α)} {k : Int} {v : α} (h : m.lookup k = some v) : ∃ l q, m = l ++ (k, v) :: q ∧ k ∉ l.map (·.1) := by
  induction m with
  | nil => cases h
  | cons x r ih =>
    obtain ⟨j, u⟩ := x
    rw [List.lookup_cons] at h
    cases e : k == j with
    | true =>
      rw [e] at h
      cases h
      cases eq_of_beq e
      exact ⟨[], r, rfl, List.not_mem_nil⟩
    | false =>
      rw [e] at h
      obtain ⟨l, q, rfl, hl⟩ := ih h
      refine ⟨(j, u) :: l, q, rfl, fun z => ?_⟩
      rcases List.mem_cons.mp z with z | z
      · rw [z] at e; simp at e
      · exact hl z
theorem lk_none {m : List (Int × α)} {k : Int} : m.lookup k = none ↔ k ∉ m.map (·.1) := by
  induction m with
  | nil => exact ⟨fun _ => List.not_mem_nil, fun _ => rfl⟩
  | cons x r ih =>
    obtain ⟨j, u⟩ := x
    rw [List.lookup_cons, List.map_cons, List.mem_cons]
    cases e : k == j with
    | true => exact ⟨nofun, fun z => absurd (.inl (eq_of_beq e)) z⟩
    | false =>
      have hne : k ≠ j := fun z => by rw [z] at e; simp at e
      refine ih.trans ⟨fun h z => z.elim hne h, fun h z => h (.inr z)⟩
theorem lk_some {m : List (Int × α)} {k : Int} : (m.lookup k).isSome = true ↔ k ∈ m.map (·.1) := by
  cases h : m.lookup k with
  | none => exact ⟨nofun, fun z => absurd z (lk_none.mp h)⟩
  | some v =>
    refine ⟨fun _ => ?_, fun _ => rfl⟩
    obtain ⟨l, q, rfl, _⟩ := lk_split h
    simp
theorem lk_map {β : Type} (f : α → β) (m : List (Int × α)) (k : Int) : (m.map fun x => (x.1, f x.2)).lookup k = (m.lookup k).map f := by
  induction m with
  | nil => rfl
  | cons x r ih =>
    obtain ⟨j, u⟩ := x
    rw [List.map_cons, List.lookup_cons, List.lookup_cons]
    cases k == j with
    | true => rfl
    | false => exact ih
theorem lk_val (f : α → V) (m : List (Int × α)) (k : Int) : valV (m.map fun x => ((Sum.inl x.1 : Key), f x.2)) (Sum.inl k) = (m.lookup k).map f := by
  induction m with
  | nil => rfl
  | cons x r ih =>
    obtain ⟨j, u⟩ := x
    rw [List.lookup_cons, List.map_cons]
    by_cases e : j = k
    · subst e
      rw [show (j == j) = true by simp]
      exact valV_pos rfl
    · rw [show (k == j) = false by simpa using fun z => e z.symm]
      exact (valV_neg (fun z => e (Sum.inl.inj z))).trans ih
theorem lk_mem {m : List (Int × α)} {k : Int} {v : α} (h : m.lookup k = some v) : (k, v) ∈ m := by
  obtain ⟨l, q, rfl, _⟩ := lk_split h
  simp
theorem lk_nd {m : List (Int × α)} {k : Int} {v : α} (nd : (m.map (·.1)).Nodup) (h : (k, v) ∈ m) : m.lookup k = some v := by
  induction m with
  | nil => cases h
  | cons x q ih =>
    obtain ⟨j, u⟩ := x
    rw [List.map_cons] at nd
    obtain ⟨n1, n2⟩ := List.nodup_cons.mp nd
    rw [List.lookup_cons]
    rcases List.mem_cons.mp h with z | z
    · cases z; simp
    · have hne : k ≠ j := fun e => n1 (e ▸ List.mem_map.mpr ⟨_, z, rfl⟩)
      rw [show (k == j) = false by simpa using hne]
      exact ih n2 z
/-- one goes -/
def dropA (m : List (Int × α)) (k : Int) : List (Int × α) := m.filter fun x => decide (x.1 ≠ k)
/-- one gets another thing -/
def setA (m : List (Int × α)) (k : Int) (v : α) : List (Int × α) := m.map fun x => if x.1 = k then (x.1, v) else x
theorem dropA_no {m : List (Int × α)} {k : Int} (h : k ∉ m.map (·.1)) : dropA m k = m :=
  List.filter_eq_self.mpr fun x hx => decide_eq_true fun e => h (List.mem_map.mpr ⟨x, hx, e⟩)
theorem setA_no {m : List (Int × α)} {k : Int} {v : α} (h : k ∉ m.map (·.1)) : setA m k v = m := by
  unfold setA
  conv => rhs; rw [← List.map_id m]
  exact List.map_congr_left fun x hx => if_neg fun e => h (List.mem_map.mpr ⟨x, hx, e⟩)
theorem nd_mid {l q : List (Int × α)} {k : Int} {v : α} (nd : ((l ++ (k, v) :: q).map (·.1)).Nodup) : k ∉ l.map (·.1) ∧ k ∉ q.map (·.1) := by
  rw [List.map_append, List.map_cons] at nd
  obtain ⟨n1, n2, n3⟩ := List.nodup_append.mp nd
  exact ⟨fun z => n3 k z k (.head _) rfl, (List.nodup_cons.mp n2).1⟩
theorem dropA_mid {l q : List (Int × α)} {k : Int} {v : α} (nd : ((l ++ (k, v) :: q).map (·.1)).Nodup) : dropA (l ++ (k, v) :: q) k = l ++ q := by
  obtain ⟨h1, h2⟩ := nd_mid nd
  unfold dropA
  rw [List.filter_append, List.filter_cons, if_neg (by simp)]
  exact congr (congrArg _ (dropA_no h1)) (dropA_no h2)
theorem setA_mid {l q : List (Int × α)} {k : Int} {v u : α} (nd : ((l ++ (k, v) :: q).map (·.1)).Nodup) : setA (l ++ (k, v) :: q) k u = l ++ (k, u) :: q := by
  obtain ⟨h1, h2⟩ := nd_mid nd
  unfold setA
  rw [List.map_append, List.map_cons, if_pos rfl]
  exact congr (congrArg _ (setA_no h1)) (congrArg _ (setA_no h2))
theorem dropA_val (f : α → V) (m : List (Int × α)) (k : Int) : dropK (m.map fun x => ((Sum.inl x.1 : Key), f x.2)) (Sum.inl k) = (dropA m k).map fun x => ((Sum.inl x.1 : Key), f x.2) := by
  unfold dropK dropA
  rw [List.filter_map]
  congr 1
  refine List.filter_congr fun x _ => ?_
  show decide ((Sum.inl x.1 : Key) ≠ Sum.inl k) = _
  exact decide_eq_decide.mpr ⟨fun h e => h (congrArg _ e), fun h e => h (Sum.inl.inj e)⟩
theorem dropA_map {β : Type} (f : α → β) (m : List (Int × α)) (k : Int) : dropA (m.map fun x => (x.1, f x.2)) k = (dropA m k).map fun x => (x.1, f x.2) := by
  unfold dropA
  rw [List.filter_map]
  rfl
theorem setA_keys (m : List (Int × α)) (k : Int) (v : α) : (setA m k v).map (·.1) = m.map (·.1) := by
  unfold setA
  rw [List.map_map]
  refine List.map_congr_left fun x _ => ?_
  show (if x.1 = k then (x.1, v) else x).1 = x.1
  split <;> rfl
theorem lk_setA (m : List (Int × α)) (k j : Int) (v : α) : (setA m k v).lookup j = if j = k then (m.lookup k).map (fun _ => v) else m.lookup j := by
  induction m with
  | nil => show none = _; split <;> rfl
  | cons x r ih =>
    obtain ⟨i, u⟩ := x
    have e1 : setA ((i, u) :: r) k v = (if i = k then (i, v) else (i, u)) :: setA r k v := rfl
    rw [e1]
    by_cases h : i = k
    · rw [if_pos h, List.lookup_cons, List.lookup_cons, List.lookup_cons]
      subst h
      by_cases z : j = i
      · subst z; simp
      · rw [show (j == i) = false by simpa using z, if_neg z]
        refine ih.trans ?_
        rw [if_neg z]
    · rw [if_neg h, List.lookup_cons, List.lookup_cons, List.lookup_cons, show (k == i) = false by simpa using fun z => h z.symm]
      by_cases z : j = i
      · subst z; simp [h]
      · rw [show (j == i) = false by simpa using z]
        exact ih
theorem lk_dropA (m : List (Int × α)) (k j : Int) : (dropA m k).lookup j = if j = k then none else m.lookup j := by
  induction m with
  | nil => show none = _; split <;> rfl
  | cons x r ih =>
    obtain ⟨i, u⟩ := x
    unfold dropA at ih ⊢
    rw [List.filter_cons]
    by_cases h : i = k
    · rw [if_neg (by simp [h]), ih]
      subst h
      by_cases z : j = i
      · rw [if_pos z, if_pos z]
      · rw [if_neg z, if_neg z, List.lookup_cons, show (j == i) = false by simpa using z]
    · rw [if_pos (by simp [h]), List.lookup_cons, List.lookup_cons]
      by_cases z : j = i
      · subst z; simp [h]
      · rw [show (j == i) = false by simpa using z]
        exact ih
theorem lk_app (l q : List (Int × α)) (j : Int) : (l ++ q).lookup j = (l.lookup j).or (q.lookup j) := by
  induction l with
  | nil => rfl
  | cons x r ih =>
    obtain ⟨i, u⟩ := x
    rw [List.cons_append, List.lookup_cons, List.lookup_cons]
    cases j == i with
    | true => rfl
    | false => exact ih
theorem dropA_sub (m : List (Int × α)) (k : Int) : List.Sublist (dropA m k) m := List.filter_sublist
end
abbrev Ch := List (Int × Pg)
abbrev Ch.kvs (ch : Ch) : List (Key × V) := ch.map fun x => (Sum.inl x.1, V.ref x.2.1)
abbrev Ch.pure (ch : Ch) : List (Int × List Int) := ch.map fun x => (x.1, x.2.2)
def cCh (c : Addr) (ch : Ch) : Cells := (c, .dK (Ch.kvs ch)) :: ch.map fun x => pcel x.2
/-! ### rooms by task -/
abbrev Wl := List (Int × Addr × Ch)
abbrev wlD (w : Wl) : List (Key × V) := w.map fun x => (Sum.inl x.1, V.ref x.2.1)
def cRms (w : Wl) : Cells := w.flatMap fun x => cCh x.2.1 x.2.2
def cWl (D : Addr) (w : Wl) : Cells := (D, .dK (wlD w)) :: cRms w
theorem cRms_mid (l q : Wl) (x : Int × Addr × Ch) : cRms (l ++ x :: q) = cRms l ++ (cCh x.2.1 x.2.2 ++ cRms q) := by
  unfold cRms
  rw [List.flatMap_append, List.flatMap_cons]
theorem cRms_app (l q : Wl) : cRms (l ++ q) = cRms l ++ cRms q := by
  unfold cRms
  rw [List.flatMap_append]
abbrev ARm := List (Int × List Int)
abbrev AWl := List (Int × ARm)
abbrev Wl.abs (w : Wl) : AWl := w.map fun x => (x.1, Ch.pure x.2.2)
theorem Wl.look (w : Wl) (t : Int) : valV (wlD w) (Sum.inl t) = (w.lookup t).map fun x => V.ref x.1 := lk_val (fun x : Addr × Ch => V.ref x.1) w t
theorem Wl.look_abs (w : Wl) (t : Int) : w.abs.lookup t = (w.lookup t).map fun x => x.2.pure := lk_map (fun x : Addr × Ch => x.2.pure) w t
theorem Ch.lookV (ch : Ch) (t : Int) : valV ch.kvs (Sum.inl t) = (ch.lookup t).map fun x => V.ref x.1 := lk_val (fun x : Pg => V.ref x.1) ch t
theorem Ch.look_abs (ch : Ch) (t : Int) : ch.pure.lookup t = (ch.lookup t).map (·.2) := lk_map (fun x : Pg => x.2) ch t
/-! ### what rooms are, and what deeds do, in plain words -/
structure ROk (r : ARm) : Prop where
  nd : (r.map (·.1)).Nodup
  key : ∀ k ∈ r.map (·.1), 0 ≤ k ∧ k < 64
  wide : ∀ x ∈ r, x.2.length = 8
structure WOk (w : AWl) : Prop where
  nd : (w.map (·.1)).Nodup
  rms : ∀ x ∈ w, ROk x.2
  few : w.length ≤ 1000
def pgs (p : Int) (n : Nat) : List Int := (List.range n).map fun i : Nat => p + i
def zeros : List Int := List.replicate 8 0
def mapR (r : ARm) (ps : List Int) : ARm := r ++ ps.map fun p => (p, zeros)
def dropR (r : ARm) (ps : List Int) : ARm := ps.foldl dropA r
def cellR (r : ARm) (at_ : Int) : Int := (((r.lookup (at_ / 8)).getD [])[(at_ % 8).toNat]?).getD 0
def peekR (r : ARm) (a : Int) (n : Nat) : List Int := (List.range n).map fun i : Nat => cellR r (a + i)
def putR (r : ARm) (at_ c : Int) : ARm := setA r (at_ / 8) (((r.lookup (at_ / 8)).getD []).set (at_ % 8).toNat c)
def pokeR (r : ARm) (a : Int) : List Int → ARm
  | [] => r
  | c :: cs => pokeR (putR r a c) (a + 1) cs
def heldA (w : AWl) : Int := ((w.map fun x => x.2.length).sum : Nat)
inductive Rf where
  | taken | noTask | noPage | noRoom
deriving DecidableEq
def Rf.name : Rf → Str
  | .taken => "Taken"
  | .noTask => "NoTask"
  | .noPage => "NoPage"
  | .noRoom => "NoRoom"
abbrev Rf.cls (K : PySem.W.Frag) : Rf → Value
  | .taken => .ref (He.ga K "Taken")
  | .noTask => .ref (He.ga K "NoTask")
  | .noPage => .ref (He.ga K "NoPage")
  | .noRoom => .ref (He.ga K "NoRoom")
inductive RDeed where
  | begin (t : Int) | close (t : Int) | map (t p n : Int) | drop (t p n : Int) | peek (t a n : Int) | poke (t a : Int) (cs : List Int) | copy (t o : Int)
def badP (p n : Int) : Bool := decide (n < 1 ∨ p < 0 ∨ p + n > 64)
def badA (a n : Int) : Bool := decide (n < 0 ∨ (n > 0 ∧ (a < 0 ∨ a + n > 512)))
def anyP (r : ARm) (ps : List Int) : Bool := ps.any fun p => (r.lookup p).isSome
def allP (r : ARm) (ps : List Int) : Bool := ps.all fun p => (r.lookup p).isSome
/-- the pages that the addresses lie in are there -/
def allA (r : ARm) (a : Int) (n : Nat) : Bool := (List.range n).all fun i : Nat => (r.lookup ((a + i) / 8)).isSome
def sem (tot : Int) (w : AWl) : RDeed → Except Rf (AWl × Option (List Int))
  | .begin t => if (w.lookup t).isSome then .error .taken else .ok (w ++ [(t, [])], none)
  | .close t => if (w.lookup t).isSome then .ok (dropA w t, none) else .error .noTask
  | .map t p n => match w.lookup t with
    | none => .error .noTask
    | some r => if badP p n then .error .noPage else if anyP r (pgs p n.toNat) then .error .taken else if heldA w + n > tot then .error .noRoom else .ok (setA w t (mapR r (pgs p n.toNat)), none)
  | .drop t p n => match w.lookup t with
    | none => .error .noTask
    | some r => if badP p n then .error .noPage else if allP r (pgs p n.toNat) then .ok (setA w t (dropR r (pgs p n.toNat)), none) else .error .noPage
  | .peek t a n => match w.lookup t with
    | none => .error .noTask
    | some r => if badA a n then .error .noPage else if allA r a n.toNat then .ok (w, some (peekR r a n.toNat)) else .error .noPage
  | .poke t a cs => match w.lookup t with
    | none => .error .noTask
    | some r => if badA a cs.length then .error .noPage else if allA r a cs.length then .ok (setA w t (pokeR r a cs), none) else .error .noPage
  | .copy t o => match w.lookup t with
    | none => .error .noTask
    | some r => if (w.lookup o).isSome then .error .taken else if heldA w + r.length > tot then .error .noRoom else .ok (w ++ [(o, r)], none)
section
variable {tot : Int} {w : AWl} {t p n a o : Int} {cs : List Int} {r : ARm}
theorem sem_begin0 (h : w.lookup t = none) : sem tot w (.begin t) = .ok (w ++ [(t, [])], none) := by
  show (if (w.lookup t).isSome = true then _ else _) = _
  rw [h]; rfl
theorem sem_begin1 (h : (w.lookup t).isSome = true) : sem tot w (.begin t) = .error .taken := if_pos h
theorem sem_close0 (h : w.lookup t = none) : sem tot w (.close t) = .error .noTask := by
  show (if (w.lookup t).isSome = true then _ else _) = _
  rw [h]; rfl
theorem sem_close1 (h : (w.lookup t).isSome = true) : sem tot w (.close t) = .ok (dropA w t, none) := if_pos h
theorem sem_map0 (h : w.lookup t = none) : sem tot w (.map t p n) = .error .noTask := by
  show (match w.lookup t with | none => _ | some r => _) = _
  rw [h]
theorem sem_map1 (h : w.lookup t = some r) : sem tot w (.map t p n) = if badP p n = true then .error .noPage else if anyP r (pgs p n.toNat) = true then .error .taken else if heldA w + n > tot then .error .noRoom else .ok (setA w t (mapR r (pgs p n.toNat)), none) := by
  show (match w.lookup t with | none => _ | some r => _) = _
  rw [h]
theorem sem_drop0 (h : w.lookup t = none) : sem tot w (.drop t p n) = .error .noTask := by
  show (match w.lookup t with | none => _ | some r => _) = _
  rw [h]
theorem sem_drop1 (h : w.lookup t = some r) : sem tot w (.drop t p n) = if badP p n = true then .error .noPage else if allP r (pgs p n.toNat) = true then .ok (setA w t (dropR r (pgs p n.toNat)), none) else .error .noPage := by
  show (match w.lookup t with | none => _ | some r => _) = _
  rw [h]
theorem sem_peek0 (h : w.lookup t = none) : sem tot w (.peek t a n) = .error .noTask := by
  show (match w.lookup t with | none => _ | some r => _) = _
  rw [h]
theorem sem_peek1 (h : w.lookup t = some r) : sem tot w (.peek t a n) = if badA a n = true then .error .noPage else if allA r a n.toNat = true then .ok (w, some (peekR r a n.toNat)) else .error .noPage := by
  show (match w.lookup t with | none => _ | some r => _) = _
  rw [h]
theorem sem_poke0 (h : w.lookup t = none) : sem tot w (.poke t a cs) = .error .noTask := by
  show (match w.lookup t with | none => _ | some r => _) = _
  rw [h]
theorem sem_poke1 (h : w.lookup t = some r) : sem tot w (.poke t a cs) = if badA a cs.length = true then .error .noPage else if allA r a cs.length = true then .ok (setA w t (pokeR r a cs), none) else .error .noPage := by
  show (match w.lookup t with | none => _ | some r => _) = _
  rw [h]
theorem sem_copy0 (h : w.lookup t = none) : sem tot w (.copy t o) = .error .noTask := by
  show (match w.lookup t with | none => _ | some r => _) = _
  rw [h]
theorem sem_copy1 (h : w.lookup t = some r) : sem tot w (.copy t o) = if (w.lookup o).isSome = true then .error .taken else if heldA w + r.length > tot then .error .noRoom else .ok (w ++ [(o, r)], none) := by
  show (match w.lookup t with | none => _ | some r => _) = _
  rw [h]
end
theorem Wl.abs_none {w : Wl} {t : Int} (h : w.lookup t = none) : w.abs.lookup t = none := by rw [Wl.look_abs, h]; rfl
theorem Wl.abs_some {w : Wl} {t : Int} {a : Addr} {r : Ch} (h : w.lookup t = some (a, r)) : w.abs.lookup t = some r.pure := by rw [Wl.look_abs, h]; rfl
theorem Wl.nd {w : Wl} (ok : WOk w.abs) : (w.map (·.1)).Nodup := by
  have := ok.nd
  rw [List.map_map] at this
  exact this
theorem Wl.len {w : Wl} (ok : WOk w.abs) : w.length ≤ 1000 := by
  have := ok.few
  rw [List.length_map] at this
  exact this
theorem Wl.new {w : Wl} {t : Int} {v : V} (h : w.lookup t = none) : putK (wlD w) (Sum.inl t) v = wlD w ++ [(Sum.inl t, v)] := putK_new (fun z => by
  rw [List.map_map] at z
  obtain ⟨x, hx, e⟩ := List.mem_map.mp z
  cases e
  exact lk_none.mp h (List.mem_map.mpr ⟨x, hx, rfl⟩))
theorem Wl.drop {l q : Wl} {t : Int} {x : Addr × Ch} (nd : ((l ++ (t, x) :: q).map (·.1)).Nodup) : dropK (wlD (l ++ (t, x) :: q)) (Sum.inl t) = wlD (l ++ q) := (dropA_val (fun x : Addr × Ch => V.ref x.1) _ t).trans (by rw [dropA_mid nd])
theorem Wl.drop_abs {l q : Wl} {t : Int} {x : Addr × Ch} (nd : ((l ++ (t, x) :: q).map (·.1)).Nodup) : dropA (Wl.abs (l ++ (t, x) :: q)) t = Wl.abs (l ++ q) := (dropA_map (fun x : Addr × Ch => Ch.pure x.2) _ t).trans (by rw [dropA_mid nd])
theorem Wl.set_abs {l q : Wl} {t : Int} {a b : Addr} {r r' : Ch} (nd : ((l ++ (t, a, r) :: q).map (·.1)).Nodup) : setA (Wl.abs (l ++ (t, a, r) :: q)) t r'.pure = Wl.abs (l ++ (t, b, r') :: q) := by
  have e : Wl.abs (l ++ (t, a, r) :: q) = Wl.abs l ++ (t, r.pure) :: Wl.abs q := by unfold Wl.abs; rw [List.map_append]; rfl
  have nd2 : ((Wl.abs l ++ (t, r.pure) :: Wl.abs q).map (·.1)).Nodup := by
    rw [← e, List.map_map]
    exact nd
  rw [e, setA_mid nd2]
  unfold Wl.abs
  rw [List.map_append]
  rfl
theorem anyP_yes {r : ARm} {ps : List Int} {y : Int} (hy : y ∈ ps) (h : (r.lookup y).isSome = true) : anyP r ps = true := List.any_eq_true.mpr ⟨y, hy, h⟩
theorem anyP_no {r : ARm} {ps : List Int} (h : ∀ y ∈ ps, r.lookup y = none) : ¬ anyP r ps = true := fun z => by
  obtain ⟨y, hy, e⟩ := List.any_eq_true.mp z
  rw [h y hy] at e
  cases e
theorem allP_no {r : ARm} {ps : List Int} {y : Int} (hy : y ∈ ps) (h : r.lookup y = none) : ¬ allP r ps = true := fun z => by
  have e := List.all_eq_true.mp z y hy
  rw [h] at e
  cases e
theorem allP_yes {r : ARm} {ps : List Int} (h : ∀ y ∈ ps, (r.lookup y).isSome = true) : allP r ps = true := List.all_eq_true.mpr h
theorem ints_le : ∀ (m : Nat) (l : List Int), l.Nodup → (∀ x ∈ l, 0 ≤ x ∧ x < (m : Int)) → l.length ≤ m
  | 0, l, _, h => by
    cases l with
    | nil => exact Nat.le_refl 0
    | cons a r => have := h a (.head _); omega
  | m + 1, l, hn, h => by
    have h1 := ints_le m (l.erase (m : Int)) (hn.erase _) fun x hx => by
      have h2 := h x (List.mem_of_mem_erase hx)
      have h3 : x ≠ (m : Int) := fun e => by
        subst e
        exact hn.not_mem_erase hx
      omega
    by_cases hm : (m : Int) ∈ l
    · rw [List.length_erase_of_mem hm] at h1
      omega
    · rw [List.erase_of_not_mem hm] at h1
      omega
theorem ROk.len {r : ARm} (h : ROk r) : r.length ≤ 64 := by
  have := ints_le 64 (r.map (·.1)) h.nd fun x hx => h.key x hx
  rwa [List.length_map] at this
theorem pgs_nd (p : Int) (n : Nat) : (pgs p n).Nodup := List.Pairwise.map _ (fun a b h z => h (by omega)) List.nodup_range
theorem pgs_len (p : Int) (n : Nat) : (pgs p n).length = n := by unfold pgs; rw [List.length_map, List.length_range]
theorem pgs_at {p : Int} {n j : Nat} {y : Int} (h : (pgs p n)[j]? = some y) : y = p + j ∧ j < n := by
  unfold pgs at h
  rw [List.getElem?_map] at h
  have hj : j < (List.range n).length := by
    cases e : (List.range n)[j]? with
    | none => rw [e] at h; cases h
    | some z => exact (List.getElem?_eq_some_iff.mp e).1
  rw [List.getElem?_eq_getElem hj, List.getElem_range] at h
  rw [List.length_range] at hj
  exact ⟨(Option.some.inj h).symm, hj⟩
theorem pgs_mem {p : Int} {n : Nat} {y : Int} : y ∈ pgs p n ↔ p ≤ y ∧ y < p + n := by
  unfold pgs
  rw [List.mem_map]
  constructor
  · rintro ⟨i, hi, rfl⟩
    have := List.mem_range.mp hi
    omega
  · intro h
    exact ⟨(y - p).toNat, List.mem_range.mpr (by omega), by omega⟩
/-- not among those ahead of it -/
theorem nd_take {l : List Int} (nd : l.Nodup) {j : Nat} {y : Int} (h : l[j]? = some y) : y ∉ l.take j := fun z => by
  have e := at_split h
  rw [e] at nd
  exact (List.nodup_append.mp nd).2.2 y z y (.head _) rfl
theorem wlD_mid (l q : Wl) (t : Int) (a : Addr) (r r' : Ch) : wlD (l ++ (t, a, r) :: q) = wlD (l ++ (t, a, r') :: q) := by
  unfold wlD
  rw [List.map_append, List.map_append]
  rfl
theorem Own.into {H0 H : Hp} {A : List Addr} {e : Addr × HO} {X Y Z : Cells} (O : Own H0 H A (e :: (X ++ (Y ++ Z)))) : Own H0 H A (X ++ ((Y ++ [e]) ++ Z)) := O.perm (by
  rw [← List.append_assoc X Y Z, List.append_assoc Y [e] Z, ← List.append_assoc X Y]
  exact List.perm_middle.symm)
theorem WOk.at {w : Wl} (ok : WOk w.abs) {t : Int} {a : Addr} {r : Ch} (h : w.lookup t = some (a, r)) : ROk r.pure := ok.rms _ (lk_mem (Wl.abs_some h))
theorem allA_no {r : ARm} {a : Int} {n i : Nat} (hi : i < n) (h : r.lookup ((a + i) / 8) = none) : allA r a n = false := by
  cases e : allA r a n with
  | false => rfl
  | true =>
    have := List.all_eq_true.mp e i (List.mem_range.mpr hi)
    rw [h] at this
    cases this
theorem allA_yes {r : ARm} {a : Int} {n : Nat} (h : ∀ i : Nat, i < n → (r.lookup ((a + i) / 8)).isSome = true) : allA r a n = true := List.all_eq_true.mpr fun i hi => h i (List.mem_range.mp hi)
theorem allA_at {r : ARm} {a : Int} {n i : Nat} (h : allA r a n = true) (hi : i < n) : (r.lookup ((a + i) / 8)).isSome = true := List.all_eq_true.mp h i (List.mem_range.mpr hi)
theorem cellR_at {r : Ch} {at_ : Int} {b : Pg} (h : r.lookup (at_ / 8) = some b) : cellR r.pure at_ = ((b.2)[(at_ % 8).toNat]?).getD 0 := by
  unfold cellR
  rw [Ch.look_abs, h]
  rfl
theorem peekR_take (r : ARm) (a : Int) (n : Nat) {j : Nat} (h : j < n) : (peekR r a n).take (j + 1) = (peekR r a n).take j ++ [cellR r (a + j)] := by
  refine take_succ ?_
  unfold peekR
  rw [List.getElem?_map, List.getElem?_range h]
  rfl
theorem peekR_len (r : ARm) (a : Int) (n : Nat) : (peekR r a n).length = n := by unfold peekR; rw [List.length_map, List.length_range]
theorem ROk.eight {r : Ch} (h : ROk r.pure) {k : Int} {b : Pg} (hb : r.lookup k = some b) : b.2.length = 8 := h.wide (k, b.2) (List.mem_map.mpr ⟨_, lk_mem hb, rfl⟩)
theorem rm_mem {w : Wl} {t : Int} {a : Addr} {r : Ch} (h : w.lookup t = some (a, r)) : (a, HO.dK (Ch.kvs r)) ∈ cRms w := List.mem_flatMap.mpr ⟨_, lk_mem h, .head _⟩
theorem pg_mem {w : Wl} {t k : Int} {a : Addr} {r : Ch} {b : Pg} (h : w.lookup t = some (a, r)) (hb : r.lookup k = some b) : (b.1, HO.lst (b.2.map V.int)) ∈ cRms w := List.mem_flatMap.mpr ⟨_, lk_mem h, .tail _ (List.mem_map.mpr ⟨_, lk_mem hb, rfl⟩)⟩
theorem ite3 {α : Type} {a b : Bool} {x y : α} (h : a = true ∨ b = false) : (if a = true then x else if b = true then y else x) = x := by
  rcases h with z | z
  · rw [if_pos z]
  · rw [z]
    split <;> rfl
theorem pokeR_snoc (r : ARm) (a : Int) (xs : List Int) (c : Int) : pokeR r a (xs ++ [c]) = putR (pokeR r a xs) (a + xs.length) c := by
  induction xs generalizing r a with
  | nil => show putR r a c = putR r (a + 0) c; rw [Int.add_zero]
  | cons x q ih =>
    show pokeR (putR r a x) (a + 1) (q ++ [c]) = putR (pokeR (putR r a x) (a + 1) q) _ c
    rw [ih, List.length_cons, show a + 1 + (q.length : Int) = a + ((q.length + 1 : Nat) : Int) by omega]
theorem putR_mid {l q : Ch} {k : Int} {b : Pg} {at_ c : Int} (nd : ((l ++ (k, b) :: q).map (·.1)).Nodup) (h : at_ / 8 = k) : putR (Ch.pure (l ++ (k, b) :: q)) at_ c = Ch.pure (l ++ (k, (b.1, b.2.set (at_ % 8).toNat c)) :: q) := by
  subst h
  have e : Ch.pure (l ++ (at_ / 8, b) :: q) = Ch.pure l ++ (at_ / 8, b.2) :: Ch.pure q := by unfold Ch.pure; rw [List.map_append]; rfl
  have nd2 : ((Ch.pure l ++ (at_ / 8, b.2) :: Ch.pure q).map (·.1)).Nodup := by
    rw [← e, List.map_map]
    exact nd
  unfold putR
  rw [e, lk_nd (v := b.2) nd2 (List.mem_append_right _ (.head _)), setA_mid nd2]
  unfold Ch.pure
  rw [List.map_append]
  rfl
theorem cCh_mid (a : Addr) (l q : Ch) (k : Int) (b : Pg) : cCh a (l ++ (k, b) :: q) = (a, .dK (Ch.kvs (l ++ (k, b) :: q))) :: (l.map (fun x => pcel x.2) ++ pcel b :: q.map fun x => pcel x.2) := by
  unfold cCh
  rw [List.map_append (l₁ := l)]
  rfl
theorem kvs_mid (l q : Ch) (k : Int) (b b' : Pg) (h : b.1 = b'.1) : Ch.kvs (l ++ (k, b) :: q) = Ch.kvs (l ++ (k, b') :: q) := by
  unfold Ch.kvs
  rw [List.map_append, List.map_append, List.map_cons, List.map_cons, h]
theorem dget_fi {H : Hp} {a : Addr} {o : Obj} {kvs : List (Key × V)} {i : Int} {v : V} (h : H a = some (.frz o (.dK kvs))) (e : valV kvs (Sum.inl i) = some v) : DGet H a (.int i) (some v) := .inl ⟨kvs, Sum.inl i, .inr ⟨o, h⟩, rfl, e.symm⟩
theorem ok_inj {α β : Type} {x y : β} (h : (Except.ok x : Except α β) = .ok y) : x = y := by cases h; rfl
theorem if_ok {c : Prop} [Decidable c] {α β : Type} {e : α} {x y : β} (h : (if c then (.error e) else (.ok x) : Except α β) = .ok y) : ¬ c ∧ x = y := by
  by_cases z : c
  · rw [if_pos z] at h; cases h
  · rw [if_neg z] at h; cases h; exact ⟨z, rfl⟩
theorem if_ok2 {c : Prop} [Decidable c] {α β : Type} {e : α} {x : Except α β} {y : β} (h : (if c then (.error e) else x) = .ok y) : ¬ c ∧ x = .ok y := by
  by_cases z : c
  · rw [if_pos z] at h; cases h
  · rw [if_neg z] at h; exact ⟨z, h⟩
theorem if_ok3 {c : Prop} [Decidable c] {α β : Type} {e : α} {x y : β} (h : (if c then (.ok x) else (.error e) : Except α β) = .ok y) : c ∧ x = y := by
  by_cases z : c
  · rw [if_pos z] at h; cases h; exact ⟨z, rfl⟩
  · rw [if_neg z] at h; cases h
theorem mget {α : Type} {f : α → V} {l : List α} {i : Nat} {x : V} (h : (l.map f)[i]? = some x) : ∃ y, l[i]? = some y ∧ x = f y := by
  rw [List.getElem?_map] at h
  cases e : l[i]? with
  | none => rw [e] at h; cases h
  | some y => rw [e] at h; exact ⟨y, rfl, (Option.some.inj h).symm⟩
theorem mgetK {α : Type} {f : α → Key × V} {l : List α} {i : Nat} {x : Key × V} (h : (l.map f)[i]? = some x) : ∃ y, l[i]? = some y ∧ x = f y := by
  rw [List.getElem?_map] at h
  cases e : l[i]? with
  | none => rw [e] at h; cases h
  | some y => rw [e] at h; exact ⟨y, rfl, (Option.some.inj h).symm⟩
/-- the parts of a deed's tuple; b is the list of a poke -/
def RDeed.vs (b : Addr) : RDeed → List V
  | .begin t => [.str "begin", .int t]
  | .close t => [.str "close", .int t]
  | .map t p n => [.str "map", .int t, .int p, .int n]
  | .drop t p n => [.str "drop", .int t, .int p, .int n]
  | .peek t a n => [.str "peek", .int t, .int a, .int n]
  | .poke t a _ => [.str "poke", .int t, .int a, .ref b]
  | .copy t o => [.str "copy", .int t, .int o]
def RDeed.cel (b : Addr) : RDeed → Cells
  | .poke _ _ cs => [(b, .lst (cs.map V.int))]
  | _ => []
def RDeed.fine : RDeed → Prop
  | .poke _ _ cs => cs.length ≤ 64
  | _ => True
/-- a deed's tuple, and its list out of reach of some -/
def DAt (H : Hp) (A : List Addr) (T : Addr) (d : RDeed) (b : Addr) : Prop := H T = some (.tup (d.vs b)) ∧ ∀ e ∈ d.cel b, H e.1 = some e.2 ∧ e.1 ∉ A
/-- the word of an answer -/
def wordA : Except Rf (AWl × Option (List Int)) → Str
  | .error e => e.name
  | .ok _ => ""
def outA : Except Rf (AWl × Option (List Int)) → Option (List Int)
  | .error _ => none
  | .ok (_, o) => o
def nextA (w : AWl) : Except Rf (AWl × Option (List Int)) → AWl
  | .error _ => w
  | .ok (w', _) => w'
abbrev Tol := Option (Addr × List Int)
def Tol.v : Tol → V
  | none => .non
  | some x => .ref x.1
def Tol.cel : Tol → Cells
  | none => []
  | some x => [(x.1, .lst (x.2.map V.int))]

/-! ## rooms: places of pages, in plain words -/
abbrev Ow2 := Int × Int
/-- a frame (true) or a slot (false) by its number -/
abbrev Pla := Bool × Nat
def fupd {κ α : Type} [DecidableEq κ] (f : κ → α) (k : κ) (v : α) : κ → α := fun j => if j = k then v else f j
theorem fupd_same {κ α : Type} [DecidableEq κ] {f : κ → α} {k : κ} {v : α} : fupd f k v k = v := if_pos rfl
theorem fupd_ne {κ α : Type} [DecidableEq κ] {f : κ → α} {k j : κ} {v : α} (h : j ≠ k) : fupd f k v j = f j := if_neg h
structure PS where
  os : Bool → List Int
  cs : Bool → List (List Int)
  own : Pla → List Ow2
  ent : Ow2 → Option (Option Pla)
  hand : Nat
def PS.cel (s : PS) (pl : Pla) : List Int := ((s.cs pl.1)[pl.2]?).getD []
def setAt {α : Type} (f : Bool → List α) (pl : Pla) (v : α) : Bool → List α := fupd f pl.1 ((f pl.1).set pl.2 v)
def layP (s : PS) (o : Ow2) (e : Option Pla) : PS := { s with ent := fupd s.ent o (some e), own := match e with | none => s.own | some pl => fupd s.own pl (s.own pl ++ [o]) }
def cntP (s : PS) (pl : Pla) (n : Int) : PS := { s with os := setAt s.os pl n }
def leaveP (s : PS) (o : Ow2) : Option Pla → PS
  | none => s
  | some pl => { s with own := fupd s.own pl ((s.own pl).filter fun x => decide (x ≠ o)), os := setAt s.os pl (((s.own pl).length : Int) - 1) }
def liftP (s : PS) (pl : Pla) : PS := { s with own := fupd s.own pl [], os := setAt s.os pl 0 }
def entAll (f : Ow2 → Option (Option Pla)) (l : List Ow2) (e : Option Pla) : Ow2 → Option (Option Pla) := fun o => if o ∈ l then some e else f o
def settleP (s : PS) (pl : Pla) (c : List Int) (l : List Ow2) : PS := { s with os := setAt s.os pl l.length, cs := setAt s.cs pl c, own := fupd s.own pl l, ent := entAll s.ent l (some pl) }
/-- the least free page of a store is taken -/
def takeP (s : PS) (pl : Pla) : PS := { s with os := setAt s.os pl 1, cs := setAt s.cs pl zeros }
/-- pl is the least free place of its kind -/
def Least (s : PS) (pl : Pla) : Prop := (s.os pl.1)[pl.2]? = some 0 ∧ ∀ m : Nat, m < pl.2 → ∀ x, (s.os pl.1)[m]? = some x → x ≠ 0
structure JP (nf ns : Nat) (s : PS) : Prop where
  ndl : ∀ pl, (s.own pl).Nodup
  cnt : ∀ pl, pl.2 < (s.os pl.1).length → (s.os pl.1)[pl.2]? = some ((s.own pl).length : Int)
  rng : ∀ pl o, o ∈ s.own pl → pl.2 < (s.os pl.1).length
  tab : ∀ pl o, o ∈ s.own pl → s.ent o = some (some pl)
  lnf : (s.os true).length = nf
  lns : (s.os false).length = ns
  lnc : ∀ k, (s.cs k).length = (s.os k).length
  two : 2 ≤ nf
  few : nf + ns ≤ 1000
  hnd : s.hand < nf
  pg : ∀ o, (s.ent o).isSome = true → 0 ≤ o.2 ∧ o.2 < 64
section
variable {nf ns : Nat} {s : PS} {pl : Pla} {o : Ow2} {l : List Ow2} {c : List Int} {e : Option Pla}
theorem setAt_same {α : Type} {f : Bool → List α} {v : α} : setAt f pl v pl.1 = (f pl.1).set pl.2 v := fupd_same
theorem setAt_len {α : Type} (f : Bool → List α) (pl : Pla) (v : α) (k : Bool) : (setAt f pl v k).length = (f k).length := by
  unfold setAt fupd
  by_cases h : k = pl.1
  · rw [if_pos h, List.length_set, h]
  · rw [if_neg h]
theorem setAt_get {α : Type} (f : Bool → List α) (pl q : Pla) (v : α) : (setAt f pl v q.1)[q.2]? = if q = pl ∧ pl.2 < (f pl.1).length then some v else (f q.1)[q.2]? := by
  unfold setAt fupd
  by_cases h : q.1 = pl.1
  · rw [if_pos h]
    by_cases h2 : q.2 = pl.2
    · have e : q = pl := Prod.ext h h2
      subst e
      by_cases h3 : q.2 < (f q.1).length
      · rw [if_pos ⟨rfl, h3⟩, List.getElem?_set_self h3]
      · rw [if_neg (fun z => h3 z.2), List.getElem?_eq_none (by rw [List.length_set]; omega), List.getElem?_eq_none (by omega)]
    · rw [List.getElem?_set_ne (fun z => h2 z.symm), if_neg (fun z => h2 (by rw [z.1])), h]
  · rw [if_neg h, if_neg (fun z => h (by rw [z.1]))]
theorem JP.uniq (J : JP nf ns s) {q : Pla} (h1 : o ∈ s.own pl) (h2 : o ∈ s.own q) : pl = q := by
  have e1 := J.tab _ _ h1
  rw [J.tab _ _ h2] at e1
  exact (Option.some.inj (Option.some.inj e1)).symm
/-- a place has no owners just where its count is nought -/
theorem JP.zero (J : JP nf ns s) (h : (s.os pl.1)[pl.2]? = some 0) : s.own pl = [] := by
  have h1 := (List.getElem?_eq_some_iff.mp h).1
  have h2 := J.cnt pl h1
  rw [h] at h2
  have h3 := Option.some.inj h2
  exact List.length_eq_zero_iff.mp (by omega)
theorem JP.len (J : JP nf ns s) (k : Bool) : (s.os k).length = if k = true then nf else ns := by
  cases k
  · exact J.lns
  · exact J.lnf
/-- heads of all places -/
theorem ow_le {mp l : List Ow2} (nd : l.Nodup) (h : ∀ o ∈ l, o ∈ mp) : l.length ≤ mp.length := by
  induction l generalizing mp with
  | nil => exact Nat.zero_le _
  | cons a r ih =>
    obtain ⟨n1, n2⟩ := List.nodup_cons.mp nd
    have h1 := ih (mp := mp.erase a) n2 fun o ho => (List.mem_erase_of_ne (fun z => n1 (by rw [← z]; exact ho))).mpr (h o (.tail _ ho))
    have h2 := h a (.head _)
    rw [List.length_erase_of_mem h2] at h1
    have h3 := List.length_pos_of_mem h2
    rw [List.length_cons]
    omega
def places (nf ns : Nat) : List Pla := (List.range nf).map (Prod.mk true) ++ (List.range ns).map (Prod.mk false)
theorem places_len : (places nf ns).length = nf + ns := by
  unfold places
  rw [List.length_append, List.length_map, List.length_map, List.length_range, List.length_range]
theorem places_nd : (places nf ns).Nodup := by
  unfold places
  refine List.nodup_append.mpr ⟨List.Pairwise.map _ (fun a b h z => h (Prod.mk.inj z).2) List.nodup_range, List.Pairwise.map _ (fun a b h z => h (Prod.mk.inj z).2) List.nodup_range, fun a ha b hb e => ?_⟩
  obtain ⟨_, _, rfl⟩ := List.mem_map.mp ha
  obtain ⟨_, _, rfl⟩ := List.mem_map.mp hb
  cases e
theorem places_mem {q : Pla} : q ∈ places nf ns ↔ q.2 < if q.1 = true then nf else ns := by
  unfold places
  obtain ⟨k, n⟩ := q
  rw [List.mem_append, List.mem_map, List.mem_map]
  constructor
  · rintro (⟨i, hi, e⟩ | ⟨i, hi, e⟩) <;> cases e <;> exact List.mem_range.mp hi
  · intro h
    cases k
    · exact .inr ⟨n, List.mem_range.mpr h, rfl⟩
    · exact .inl ⟨n, List.mem_range.mpr h, rfl⟩
/-- where more places are than pages that lie at one, one is free -/
theorem JP.room (J : JP nf ns s) {mp : List Ow2} (hm : ∀ pl o, o ∈ s.own pl → o ∈ mp) (hl : mp.length < nf + ns) : ∃ q : Pla, (s.os q.1)[q.2]? = some 0 := by
  by_cases hz : ∃ q : Pla, q ∈ places nf ns ∧ s.own q = []
  · obtain ⟨q, h1, h2⟩ := hz
    refine ⟨q, ?_⟩
    rw [J.cnt q (by rw [J.len]; exact places_mem.mp h1), h2]
    rfl
  · have hne : ∀ q ∈ places nf ns, s.own q ≠ [] := fun q hq e => hz ⟨q, hq, e⟩
    have hh : ∀ q ∈ places nf ns, ∃ o, (s.own q).head? = some o := fun q hq => by
      cases e : s.own q with
      | nil => exact absurd e (hne q hq)
      | cons a r => exact ⟨a, rfl⟩
    have hmem : ∀ q o, (s.own q).head? = some o → o ∈ s.own q := fun q o h => List.mem_of_mem_head? (by rw [h]; rfl)
    have h1 : ((places nf ns).map fun q => ((s.own q).head?).getD (0, 0)).Nodup := by
      refine List.pairwise_map.mpr (List.Pairwise.imp_of_mem (fun {a b} ha hb hab e => hab ?_) places_nd)
      obtain ⟨o1, e1⟩ := hh a ha
      obtain ⟨o2, e2⟩ := hh b hb
      rw [e1, e2] at e
      have e : o1 = o2 := e
      subst e
      exact J.uniq (hmem _ _ e1) (hmem _ _ e2)
    have h2 := ow_le (mp := mp) h1 fun o ho => by
      obtain ⟨q, hq, rfl⟩ := List.mem_map.mp ho
      obtain ⟨o1, e1⟩ := hh q hq
      rw [e1]
      exact hm q o1 (hmem _ _ e1)
    rw [List.length_map, places_len] at h2
    omega
/-! ### what the ops keep; fl: pages whose entry says a place where they are no owners any more -/
theorem JP.lift (J : JP nf ns s) (pl : Pla) : JP nf ns (liftP s pl) := by
  refine ⟨fun q => ?_, fun q hq => ?_, fun q o ho => ?_, fun q o ho => ?_, ?_, ?_, fun k => ?_, J.two, J.few, J.hnd, J.pg⟩
  · show (fupd s.own pl [] q).Nodup
    unfold fupd
    split
    · exact List.nodup_nil
    · exact J.ndl q
  · have hq' : q.2 < (s.os q.1).length := by rwa [show ((liftP s pl).os q.1).length = _ from setAt_len _ _ _ _] at hq
    show (setAt s.os pl 0 q.1)[q.2]? = some ((fupd s.own pl [] q).length : Int)
    rw [setAt_get]
    by_cases h : q = pl
    · subst h
      rw [if_pos ⟨rfl, hq'⟩, fupd_same]
      rfl
    · rw [if_neg (fun z => h z.1), fupd_ne h]
      exact J.cnt q hq'
  · show q.2 < (setAt s.os pl 0 q.1).length
    rw [setAt_len]
    have ho : o ∈ fupd s.own pl [] q := ho
    unfold fupd at ho
    split at ho
    · cases ho
    · exact J.rng q o ho
  · have ho : o ∈ fupd s.own pl [] q := ho
    unfold fupd at ho
    split at ho
    · cases ho
    · exact J.tab q o ho
  · exact (setAt_len _ _ _ _).trans J.lnf
  · exact (setAt_len _ _ _ _).trans J.lns
  · exact (J.lnc k).trans (setAt_len _ _ _ _).symm
theorem JP.leave (J : JP nf ns s) (ho : ∀ pl, e = some pl → o ∈ s.own pl) : JP nf ns (leaveP s o e) := by
  cases e with
  | none => exact J
  | some pl =>
    have ho := ho pl rfl
    have hr := J.rng pl o ho
    have hlen : ((s.own pl).filter fun x => decide (x ≠ o)).length + 1 = (s.own pl).length := by
      have h1 : (s.own pl).filter (fun x => decide (x ≠ o)) = (s.own pl).erase o := by
        rw [(J.ndl pl).erase_eq_filter]
        exact List.filter_congr fun x _ => by by_cases h : x = o <;> simp [bne, h]
      rw [h1, List.length_erase_of_mem ho]
      have := List.length_pos_of_mem ho
      omega
    have sub : ∀ q x, x ∈ fupd s.own pl ((s.own pl).filter fun x => decide (x ≠ o)) q → x ∈ s.own q := fun q x hx => by
      unfold fupd at hx
      split at hx
      · rename_i e; subst e; exact (List.mem_filter.mp hx).1
      · exact hx
    refine ⟨fun q => ?_, fun q hq => ?_, fun q x hx => ?_, fun q x hx => J.tab q x (sub q x hx), (setAt_len _ _ _ _).trans J.lnf, (setAt_len _ _ _ _).trans J.lns, fun k => (J.lnc k).trans (setAt_len _ _ _ _).symm, J.two, J.few, J.hnd, J.pg⟩
    · show (fupd s.own pl _ q).Nodup
      unfold fupd
      split
      · exact (J.ndl pl).filter _
      · exact J.ndl q
    · have hq' : q.2 < (s.os q.1).length := by rwa [show ((leaveP s o (some pl)).os q.1).length = _ from setAt_len _ _ _ _] at hq
      show (setAt s.os pl _ q.1)[q.2]? = some ((fupd s.own pl _ q).length : Int)
      rw [setAt_get]
      by_cases h : q = pl
      · subst h
        rw [if_pos ⟨rfl, hq'⟩, fupd_same]
        congr 1
        omega
      · rw [if_neg (fun z => h z.1), fupd_ne h]
        exact J.cnt q hq'
    · show q.2 < (setAt s.os pl _ q.1).length
      rw [setAt_len]
      exact J.rng q x (sub q x hx)
/-- pages that are no owners settle at a place that has none -/
theorem JP.settle (J : JP nf ns s) {n : Int} {b : List Int} (h0 : s.own pl = []) (hr : pl.2 < (s.os pl.1).length) (nd : l.Nodup) (fr : ∀ o ∈ l, ∀ q, o ∉ s.own q) (hp : ∀ o ∈ l, 0 ≤ o.2 ∧ o.2 < 64) : JP nf ns (settleP (takeP s pl) pl c l) := by
  have olen : ∀ k, (setAt (setAt s.os pl 1) pl (l.length : Int) k).length = (s.os k).length := fun k => (setAt_len _ _ _ _).trans (setAt_len _ _ _ _)
  have clen : ∀ k, (setAt (setAt s.cs pl zeros) pl c k).length = (s.cs k).length := fun k => (setAt_len _ _ _ _).trans (setAt_len _ _ _ _)
  refine ⟨fun q => ?_, fun q hq => ?_, fun q x hx => ?_, fun q x hx => ?_, (olen _).trans J.lnf, (olen _).trans J.lns, fun k => (clen k).trans ((J.lnc k).trans (olen k).symm), J.two, J.few, J.hnd, fun x hx => ?_⟩
  · show (fupd s.own pl l q).Nodup
    unfold fupd
    split
    · exact nd
    · exact J.ndl q
  · have hq' : q.2 < (s.os q.1).length := by rwa [show ((settleP (takeP s pl) pl c l).os q.1).length = _ from olen _] at hq
    show (setAt (setAt s.os pl 1) pl (l.length : Int) q.1)[q.2]? = some ((fupd s.own pl l q).length : Int)
    rw [setAt_get, setAt_len]
    by_cases h : q = pl
    · subst h
      rw [if_pos ⟨rfl, hq'⟩, fupd_same]
    · rw [if_neg (fun z => h z.1), fupd_ne h, setAt_get, if_neg (fun z => h z.1)]
      exact J.cnt q hq'
  · show q.2 < (setAt (setAt s.os pl 1) pl (l.length : Int) q.1).length
    rw [olen]
    have hx : x ∈ fupd s.own pl l q := hx
    unfold fupd at hx
    split at hx
    · rename_i e; rw [e]; exact hr
    · exact J.rng q x hx
  · have hx : x ∈ fupd s.own pl l q := hx
    show entAll s.ent l (some pl) x = _
    unfold entAll
    unfold fupd at hx
    split at hx
    · rename_i e; rw [if_pos hx, e]
    · rw [if_neg (fun z => fr x z q hx)]
      exact J.tab q x hx
  · have hx : (entAll s.ent l (some pl) x).isSome = true := hx
    unfold entAll at hx
    split at hx
    · rename_i h; exact hp x h
    · exact J.pg x hx
end
/-- what pages tell: mapped or not, their cells, by which poke they stand (0: none); those of F are on their way -/
structure Vw (s : PS) (F : List Ow2) (mp : Ow2 → Bool) (cl : Ow2 → List Int) (st : Ow2 → Nat) : Prop where
  map : ∀ o, (s.ent o).isSome = mp o
  blank : ∀ o, o ∉ F → mp o = true → (s.ent o = some none ↔ st o = 0)
  same : ∀ o o' pl pl', o ∉ F → o' ∉ F → s.ent o = some (some pl) → s.ent o' = some (some pl') → (pl = pl' ↔ st o = st o')
  cell : ∀ o pl, o ∉ F → s.ent o = some (some pl) → s.cel pl = cl o
  reg : ∀ o pl, o ∉ F → s.ent o = some (some pl) → o ∈ s.own pl
  flo : ∀ o, o ∈ F → ∀ q, o ∉ s.own q
section
variable {nf ns : Nat} {s : PS} {pl : Pla} {o : Ow2} {l F : List Ow2} {c : List Int} {mp : Ow2 → Bool} {cl : Ow2 → List Int} {st : Ow2 → Nat}
theorem Vw.lift (V : Vw s F mp cl st) (J : JP nf ns s) (pl : Pla) : Vw (liftP s pl) (s.own pl ++ F) mp cl st := by
  refine ⟨V.map, fun o ho => V.blank o fun z => ho (List.mem_append_right _ z), fun o o' p p' h1 h2 => V.same o o' p p' (fun z => h1 (List.mem_append_right _ z)) (fun z => h2 (List.mem_append_right _ z)), fun o p h1 => V.cell o p fun z => h1 (List.mem_append_right _ z), fun o p h1 h2 => ?_, fun o ho q hq => ?_⟩
  · have h3 := V.reg o p (fun z => h1 (List.mem_append_right _ z)) h2
    show o ∈ fupd s.own pl [] p
    rw [fupd_ne (fun e => h1 (List.mem_append_left _ (by rw [← e]; exact h3)))]
    exact h3
  · have hq : o ∈ fupd s.own pl [] q := hq
    unfold fupd at hq
    split at hq
    · cases hq
    · rename_i h
      rcases List.mem_append.mp ho with z | z
      · exact h (J.uniq hq z)
      · exact V.flo o z q hq
/-- a whole group settles at a free place -/
theorem Vw.settle (V : Vw s (l ++ F) mp cl st) (J : JP nf ns s) (h0 : s.own pl = []) (hr : pl.2 < (s.os pl.1).length) (hm : ∀ o ∈ l, mp o = true) (hs : ∀ o ∈ l, st o ≠ 0) (he : ∀ o ∈ l, ∀ o' ∈ l, st o = st o') (hw : ∀ o ∈ l, ∀ o', o' ∉ l ++ F → mp o' = true → st o' ≠ st o) (hc : ∀ o ∈ l, cl o = c) : Vw (settleP (takeP s pl) pl c l) (F.filter fun o => decide (o ∉ l)) mp cl st := by
  have ein : ∀ o, o ∈ l → (settleP (takeP s pl) pl c l).ent o = some (some pl) := fun o h => if_pos h
  have eout : ∀ o, o ∉ l → (settleP (takeP s pl) pl c l).ent o = s.ent o := fun o h => if_neg h
  have nF : ∀ o, o ∉ F.filter (fun o => decide (o ∉ l)) → o ∉ l → o ∉ l ++ F := fun o h1 h2 z => (List.mem_append.mp z).elim h2 fun z => h1 (List.mem_filter.mpr ⟨z, decide_eq_true h2⟩)
  have npl : ∀ o q, o ∉ l ++ F → s.ent o = some (some q) → q ≠ pl := fun o q h1 h2 e => by
    have := V.reg o q h1 h2
    rw [e, h0] at this
    cases this
  have celN : ∀ q, q ≠ pl → (settleP (takeP s pl) pl c l).cel q = s.cel q := fun q hq => by
    show ((setAt (setAt s.cs pl zeros) pl c q.1)[q.2]?).getD [] = ((s.cs q.1)[q.2]?).getD []
    rw [setAt_get, if_neg (fun z => hq z.1), setAt_get, if_neg (fun z => hq z.1)]
  have celP : (settleP (takeP s pl) pl c l).cel pl = c := by
    show ((setAt (setAt s.cs pl zeros) pl c pl.1)[pl.2]?).getD [] = c
    rw [setAt_get, if_pos ⟨rfl, by rw [setAt_len, J.lnc]; exact hr⟩]
    rfl
  have mpe : ∀ o q, s.ent o = some (some q) → mp o = true := fun o q h => by rw [← V.map, h]; rfl
  refine ⟨fun o => ?_, fun o ho hmo => ?_, fun o o' p p' h1 h2 h3 h4 => ?_, fun o p h1 h2 => ?_, fun o p h1 h2 => ?_, fun o ho q hq => ?_⟩
  · by_cases h : o ∈ l
    · rw [ein o h, hm o h]; rfl
    · rw [eout o h]; exact V.map o
  · by_cases h : o ∈ l
    · rw [ein o h]
      exact ⟨fun z => (by cases z), fun z => absurd z (hs o h)⟩
    · rw [eout o h]
      exact V.blank o (nF o ho h) hmo
  · by_cases a : o ∈ l
    · rw [ein o a] at h3
      cases h3
      by_cases b : o' ∈ l
      · rw [ein o' b] at h4
        cases h4
        exact ⟨fun _ => he o a o' b, fun _ => rfl⟩
      · rw [eout o' b] at h4
        have n2 := nF o' h2 b
        exact ⟨fun z => absurd z.symm (npl o' p' n2 h4), fun z => absurd z.symm (hw o a o' n2 (mpe _ _ h4))⟩
    · rw [eout o a] at h3
      have n1 := nF o h1 a
      by_cases b : o' ∈ l
      · rw [ein o' b] at h4
        cases h4
        exact ⟨fun z => absurd z (npl o p n1 h3), fun z => absurd z (hw o' b o n1 (mpe _ _ h3))⟩
      · rw [eout o' b] at h4
        exact V.same o o' p p' n1 (nF o' h2 b) h3 h4
  · by_cases a : o ∈ l
    · rw [ein o a] at h2
      cases h2
      rw [celP, hc o a]
    · rw [eout o a] at h2
      have n1 := nF o h1 a
      rw [celN p (npl o p n1 h2)]
      exact V.cell o p n1 h2
  · show o ∈ fupd s.own pl l p
    by_cases a : o ∈ l
    · rw [ein o a] at h2
      cases h2
      rw [fupd_same]
      exact a
    · rw [eout o a] at h2
      have n1 := nF o h1 a
      rw [fupd_ne (npl o p n1 h2)]
      exact V.reg o p n1 h2
  · have hq : o ∈ fupd s.own pl l q := hq
    obtain ⟨h1, h2⟩ := List.mem_filter.mp ho
    unfold fupd at hq
    split at hq
    · exact of_decide_eq_true h2 hq
    · exact V.flo o (List.mem_append_right _ h1) q hq
/-- the group at a place, as it is lifted -/
theorem Vw.group (V : Vw s F mp cl st) (J : JP nf ns s) (pl : Pla) : (∀ o ∈ s.own pl, o ∉ F) ∧ (∀ o ∈ s.own pl, mp o = true) ∧ (∀ o ∈ s.own pl, st o ≠ 0) ∧ (∀ o ∈ s.own pl, ∀ o' ∈ s.own pl, st o = st o') ∧ (∀ o ∈ s.own pl, ∀ o', o' ∉ s.own pl ++ F → mp o' = true → st o' ≠ st o) ∧ (∀ o ∈ s.own pl, cl o = s.cel pl) := by
  have nf : ∀ o ∈ s.own pl, o ∉ F := fun o ho z => V.flo o z pl ho
  have me : ∀ o ∈ s.own pl, mp o = true := fun o ho => by rw [← V.map, J.tab pl o ho]; rfl
  refine ⟨nf, me, fun o ho z => ?_, fun o ho o' ho' => (V.same o o' pl pl (nf o ho) (nf o' ho') (J.tab pl o ho) (J.tab pl o' ho')).mp rfl, fun o ho o' ho' hm z => ?_, fun o ho => (V.cell o pl (nf o ho) (J.tab pl o ho)).symm⟩
  · have := (V.blank o (nf o ho) (me o ho)).mpr z
    rw [J.tab pl o ho] at this
    cases this
  · have n' : o' ∉ F := fun y => ho' (List.mem_append_right _ y)
    have hz : st o ≠ 0 := fun y => by
      have := (V.blank o (nf o ho) (me o ho)).mpr y
      rw [J.tab pl o ho] at this
      cases this
    cases e : s.ent o' with
    | none =>
      have := V.map o'
      rw [e, hm] at this
      cases this
    | some x =>
      cases x with
      | none =>
        have := (V.blank o' n' hm).mp e
        omega
      | some p =>
        have h1 := (V.same o' o p pl n' (nf o ho) e (J.tab pl o ho)).mpr z
        have h2 := V.reg o' p n' e
        rw [h1] at h2
        exact ho' (List.mem_append_left _ h2)
/-- a page leaves where it lay -/
theorem Vw.leave {e : Option Pla} (V : Vw s [] mp cl st) (J : JP nf ns s) (he : s.ent o = some e) : Vw (leaveP s o e) [o] mp cl st := by
  have ee : (leaveP s o e).ent = s.ent := by cases e <;> rfl
  have ec : (leaveP s o e).cs = s.cs := by cases e <;> rfl
  have ecl : ∀ q, (leaveP s o e).cel q = s.cel q := fun q => by unfold PS.cel; rw [ec]
  have eo : ∀ q x, x ∈ (leaveP s o e).own q ↔ (x ∈ s.own q ∧ ¬ (e = some q ∧ x = o)) := fun q x => by
    cases e with
    | none => exact ⟨fun h => ⟨h, fun z => by cases z.1⟩, fun h => h.1⟩
    | some p =>
      show x ∈ fupd s.own p _ q ↔ _
      unfold fupd
      split
      · rename_i h
        subst h
        rw [List.mem_filter, decide_eq_true_eq]
        exact ⟨fun z => ⟨z.1, fun y => z.2 y.2⟩, fun z => ⟨z.1, fun y => z.2 ⟨rfl, y⟩⟩⟩
      · rename_i h
        exact ⟨fun z => ⟨z, fun y => h (Option.some.inj y.1).symm⟩, fun z => z.1⟩
  refine ⟨fun x => by rw [ee]; exact V.map x, fun x hx hm => by rw [ee]; exact V.blank x (by simp) hm, fun x x' p p' h1 h2 h3 h4 => ?_, fun x p h1 h2 => ?_, fun x p h1 h2 => ?_, fun x hx q hq => ?_⟩
  · rw [ee] at h3 h4
    exact V.same x x' p p' (by simp) (by simp) h3 h4
  · rw [ee] at h2
    rw [ecl]
    exact V.cell x p (by simp) h2
  · rw [ee] at h2
    exact (eo p x).mpr ⟨V.reg x p (by simp) h2, fun z => h1 (List.mem_singleton.mpr z.2)⟩
  · rw [List.mem_singleton.mp hx] at hq
    obtain ⟨h1, h2⟩ := (eo q o).mp hq
    have h3 := J.tab q o h1
    rw [he] at h3
    exact h2 ⟨Option.some.inj h3, rfl⟩
end

/-! ## Stores: what they hold -/
/-- a store: at p, its dict and two lists at q, the owners' counts os, the pages cs -/
def cSto (K : PySem.W.Frag) (p : Addr) (q : Addr × Addr × Addr) (os : List Int) (cs : List Pg) : Cells :=
  (p, .ins (He.ga K "Store") q.1 [("owners", .ref q.2.1), ("contents", .ref q.2.2)]) :: (q.2.1, .lst (os.map V.int)) :: (q.2.2, .lst (cs.map fun x => V.ref x.1)) :: cs.map pcel
/-- how many owners page i has -/
def cntS (os : List Int) (i : Int) : Int := if 0 ≤ i ∧ i < os.length then (os[i.toNat]?).getD 0 else 0
theorem cntS_nat {os : List Int} {i : Nat} {x : Int} (h : os[i]? = some x) : cntS os i = x := by
  have := (List.getElem?_eq_some_iff.mp h).1
  unfold cntS
  rw [if_pos ⟨by omega, by omega⟩, Int.toNat_natCast, h]
  rfl
theorem cntS_pos {os : List Int} {i : Int} (h : cntS os i ≠ 0) : ∃ (n : Nat) (x : Int), i = n ∧ os[n]? = some x ∧ cntS os i = x := by
  unfold cntS at h ⊢
  by_cases z : 0 ≤ i ∧ i < os.length
  · rw [if_pos z] at h ⊢
    have hn : i.toNat < os.length := by omega
    refine ⟨i.toNat, os[i.toNat], by omega, List.getElem?_eq_getElem hn, ?_⟩
    rw [List.getElem?_eq_getElem hn]
    rfl
  · rw [if_neg z] at h
    exact absurd rfl h
theorem idx_find : ∀ {os : List Int}, (0 : Int) ∈ os → ∃ j : Nat, os[j]? = some 0 ∧ ∀ m : Nat, m < j → ∀ x, os[m]? = some x → x ≠ 0
  | x :: r, h => by
    by_cases e : x = 0
    · exact ⟨0, by rw [e]; rfl, fun m hm => absurd hm (Nat.not_lt_zero _)⟩
    · obtain ⟨j, h1, h2⟩ := idx_find (os := r) ((List.mem_cons.mp h).resolve_left (fun z => e z.symm))
      refine ⟨j + 1, h1, fun m hm y hy => ?_⟩
      cases m with
      | zero => cases hy; exact e
      | succ m => exact h2 m (by omega) y hy
/-- what a store's counts and pages keep -/
structure StoOk (os : List Int) (cs : List Pg) : Prop where
  len : os.length = cs.length
  few : os.length ≤ 1000
def sp_Store___init__ (K : PySem.W.Frag) : Sp := sp2 fun self many H Q _ => ∃ (p dx : Addr) (n : Nat), self = .ref p ∧ many = .int n ∧ n ≤ 1000 ∧ Own H H [p] [(p, .ins (He.ga K "Store") dx [])] ∧
  ∀ (H' : Hp) (q : Addr × Addr × Addr) (cs : List Pg), Own H H' [p] (cSto K p q (List.replicate n 0) cs) → cs.length = n → (∀ x ∈ cs, x.2 = zeros) → Q .non H'
def sp_Store_take (K : PySem.W.Frag) : Sp := sp1 fun self H Q _ => ∃ p q os cs, self = .ref p ∧ StoOk os cs ∧ Own H H (adr (cSto K p q os cs)) (cSto K p q os cs) ∧
  ((0 : Int) ∉ os → Q .non H) ∧
  ∀ (j : Nat), os[j]? = some 0 → (∀ m : Nat, m < j → ∀ x, os[m]? = some x → x ≠ 0) → ∀ (H' : Hp) (c : Addr), Own H H' (adr (cSto K p q os cs)) (cSto K p q (os.set j 1) (cs.set j (c, zeros))) → Q (.int j) H'
def sp_Store_count (K : PySem.W.Frag) : Sp := sp2 fun self page H Q _ => ∃ p q os cs i, self = .ref p ∧ page = .int i ∧ Own H H (adr (cSto K p q os cs)) (cSto K p q os cs) ∧ Q (.int (cntS os i)) H
def sp_Store_look_taken (K : PySem.W.Frag) : Sp := sp2 fun self page H Q E => ∃ p q os cs i, self = .ref p ∧ page = .int i ∧ Own H H (adr (cSto K p q os cs)) (cSto K p q os cs) ∧ (cntS os i ≠ 0 → Q .non H) ∧ (cntS os i = 0 → E (.ref (He.ga K "NoOwner")) none H)
def sp_Store_more (K : PySem.W.Frag) : Sp := sp2 fun self page H Q E => ∃ p q os cs i, self = .ref p ∧ page = .int i ∧ Own H H (adr (cSto K p q os cs)) (cSto K p q os cs) ∧
  (cntS os i ≠ 0 → ∀ H', Own H H' (adr (cSto K p q os cs)) (cSto K p q (os.set i.toNat (cntS os i + 1)) cs) → Q .non H') ∧ (cntS os i = 0 → E (.ref (He.ga K "NoOwner")) none H)
def sp_Store_less (K : PySem.W.Frag) : Sp := sp2 fun self page H Q E => ∃ p q os cs i, self = .ref p ∧ page = .int i ∧ Own H H (adr (cSto K p q os cs)) (cSto K p q os cs) ∧
  (cntS os i ≠ 0 → ∀ H', Own H H' (adr (cSto K p q os cs)) (cSto K p q (os.set i.toNat (cntS os i - 1)) cs) → Q .non H') ∧ (cntS os i = 0 → E (.ref (He.ga K "NoOwner")) none H)
def sp_Store_cells (K : PySem.W.Frag) : Sp := sp2 fun self page H Q E => ∃ p q os cs i, self = .ref p ∧ page = .int i ∧ StoOk os cs ∧ Own H H (adr (cSto K p q os cs)) (cSto K p q os cs) ∧
  (cntS os i ≠ 0 → ∀ x, cs[i.toNat]? = some x → ∀ H' c, Own H H' (adr (cSto K p q os cs)) ((c, .lst (x.2.map V.int)) :: cSto K p q os cs) → Q (.ref c) H') ∧ (cntS os i = 0 → E (.ref (He.ga K "NoOwner")) none H)
def sp_Store_put (K : PySem.W.Frag) : Sp := sp3 fun self page cells H Q E => ∃ p q os cs i a ns, self = .ref p ∧ page = .int i ∧ cells = .ref a ∧ H a = some (.lst (ns.map V.int)) ∧ StoOk os cs ∧ Own H H (adr (cSto K p q os cs)) (cSto K p q os cs) ∧
  (cntS os i ≠ 0 → ∀ H' c, Own H H' (adr (cSto K p q os cs)) (cSto K p q os (cs.set i.toNat (c, ns))) → Q .non H') ∧ (cntS os i = 0 → E (.ref (He.ga K "NoOwner")) none H)
def sp_Store_free (K : PySem.W.Frag) : Sp := sp1 fun self H Q _ => ∃ p q os cs, self = .ref p ∧ Own H H (adr (cSto K p q os cs)) (cSto K p q os cs) ∧ Q (.int (os.count 0 : Nat)) H

theorem sc_Store___init__ : FnScope ["self", "many", "page"] ["self", "many"] (defScope s_Store___init__) := ⟨rfl, rfl, rfl, by decide +kernel, rfl, by decide +kernel, by decide +kernel⟩
theorem ok_Store___init__ {P : Program} {w : World} {K : PySem.W.Frag} {mg : Str → Option Value} {base : Heap} (T : Txt K mg) : Cee P w K mg base 1 (He.fAd K ("Store", some "__init__")) ["self", "many"] (sp_Store___init__ K) := by
  refine cee_of T.d_Store___init__ sc_Store___init__ (fun _ _ _ _ _ _ us hl => match us, hl with | [_, _], _ => rfl) (fun vs H Q E h => sp2_len h) (fun cdv A outer s H vs Q E hr h => ⟨_, (pss_cons (ps_fld (pv 0) (pe_op op_rep (pe_lst (pa_cons pe_int pa_nil)) (pv 1)) rfl) (pss_one (ps_fld (pv 0) (pe_lc (own := [("page", 2)]) (by rfl) sc_Store___init__.nd (PI.box (pi_range1 (by rfl) T.n_range (pa_cons (pv 1) pa_nil))) (blkOk_by (own := [("page", 2)]) (N := ["self", "many", "page"]) (sc := defScope s_Store___init__) (by decide +kernel)) (fun _ _ _ _ _ => (pg_name (i := 2) sc_Store___init__.nd rfl (Or.inl rfl))) (fun _ _ _ _ _ => pts_nil) (fun _ _ _ _ _ => (pe_op op_rep (pe_lst (pa_cons pe_int pa_nil)) (pe_gc (v := .int 8) rfl (gI T.g_PAGE_SIZE))))) rfl))), ?_⟩)
  obtain ⟨v0, v1, rfl, h⟩ := h
  dsimp only [cxOf, L2.start]
  obtain ⟨p, dx, n, rfl, rfl, hn, O, k⟩ := h
  have hsz : ([V.int 0] : List V).length * ((n : Nat) : Int).toNat ≤ sizeLine := sz_le (by simp; omega)
  walk_at "s"
  intro a ha
  have O1 := O.new (o := .lst [V.int 0]) ha
  walk_at "s"
  intro b hb
  rw [rep_flat, rep_map V.int n 0]
  have O2 := O1.new (o := .lst ((List.replicate n 0).map V.int)) hb
  have O3 : Own H _ [p] ((p, .ins (He.ga K "Store") dx []) :: (b, .lst ((List.replicate n 0).map V.int)) :: []) := (O2.drop (cs' := [(b, .lst ((List.replicate n 0).map V.int)), (p, .ins (He.ga K "Store") dx [])]) (.cons₂ _ (.cons _ (.refl _)))).perm (List.Perm.swap _ _ _)
  walk_at "s"
  have O4 := O3.wr (o' := .ins (He.ga K "Store") dx [("owners", .ref b)]) .here
  refine lcR (lo := 0) (n := ((n : Nat) : Int).toNat) (fun D j H2 => ∃ cs : List Pg, cs.length = j ∧ (∀ x ∈ cs, x.2 = zeros) ∧ Own H H2 [p] ((p, .ins (He.ga K "Store") dx [("owners", .ref b)]) :: (b, .lst ((List.replicate n 0).map V.int)) :: (D, .lst (cs.map fun x => V.ref x.1)) :: cs.map pcel)) ?_ ?_ ?_
  · intro D hD
    refine ⟨[], rfl, by simp, (O4.new (o := .lst []) hD).perm ?_⟩
    exact (List.Perm.swap _ _ _).trans ((List.Perm.swap _ _ _).cons _)
  · rintro D j H2 hj ⟨cs, hl, hz, O5⟩
    walk_at "s"
    intro c hc
    have O6 := O5.new (o := .lst [V.int 0]) hc
    have hsz : ([V.int 0] : List V).length * (8 : Int).toNat ≤ sizeLine := sz_le (by decide)
    walk_at "s"
    intro d hd
    have O7 := O6.new (o := .lst (zeros.map V.int)) hd
    have hlen : (cs.map fun x : Pg => V.ref x.1).length < 100000 := by rw [List.length_map]; omega
    walk_at "s"
    refine ⟨cs ++ [(d, zeros)], by rw [List.length_append, hl]; rfl, fun x hx => ?_, ?_⟩
    · rcases List.mem_append.mp hx with z | z
      · exact hz x z
      · rw [List.mem_singleton.mp z]
    · have O8 := ((O7.drop (cs' := (d, .lst (zeros.map V.int)) :: (p, .ins (He.ga K "Store") dx [("owners", .ref b)]) :: (b, .lst ((List.replicate n 0).map V.int)) :: (D, .lst (cs.map fun x => V.ref x.1)) :: cs.map pcel) (.cons₂ _ (.cons _ (.refl _)))).wr (o' := .lst ((cs.map fun x => V.ref x.1) ++ [.ref d])) (.there (.there (.there .here)))).last
      rw [List.map_append, List.map_append]
      exact O8
  · rintro D H2 ⟨cs, hl, hz, O5⟩
    walk_at "s"
    exact k _ (dx, b, D) cs (O5.wr .here) (by rw [hl, Int.toNat_natCast]) hz
theorem sc_Store_take : FnScope ["self", "page"] ["self"] (defScope s_Store_take) := ⟨rfl, rfl, rfl, by decide +kernel, rfl, by decide +kernel, by decide +kernel⟩
theorem ok_Store_take {P : Program} {w : World} {K : PySem.W.Frag} {mg : Str → Option Value} {base : Heap} (T : Txt K mg) : Cee P w K mg base 1 (He.fAd K ("Store", some "take")) ["self"] (sp_Store_take K) := by
  refine cee_of T.d_Store_take sc_Store_take (fun _ _ _ _ _ _ us hl => match us, hl with | [_], _ => rfl) (fun vs H Q E h => sp1_len h) (fun cdv A outer s H vs Q E hr h => ⟨_, (pss_cons (ps_if (pt_cmpR op_notIn_seq pe_int (pe_fld (pv 0) rfl) (by with_unfolding_all rfl)) (pss_one (ps_ret pe_non)) pss_nil) (pss_cons (ps_set (i := 1) sc_Store_take.nd rfl (Or.inl rfl) (pe_bm PySem.F.plainAttrs_list PySem.F.slot_list_index PySem.F.type_list_index mt_index (pe_fld (pv 0) rfl) (pa_cons pe_int pa_nil))) (pss_cons (ps_asg pe_int (pg_sub (pe_fld (pv 0) rfl) (pv 1) set_list)) (pss_cons (ps_asg (pe_op op_rep (pe_lst (pa_cons pe_int pa_nil)) (pe_gc (v := .int 8) rfl (gI T.g_PAGE_SIZE))) (pg_sub (pe_fld (pv 0) rfl) (pv 1) set_list)) (pss_one (ps_ret (pv 1))))))), ?_⟩)
  obtain ⟨v0, rfl, h⟩ := h
  dsimp only [cxOf, L2.start]
  obtain ⟨p, q, os, cs, rfl, ok, O, k0, k1⟩ := h
  have hl := ok.len
  have hf := ok.few
  walk_at "s"
  rw [inV_ints]
  refine if_nd (fun h => ?_) (fun h => ?_)
  · walk_at "s"
    exact k0 h
  · obtain ⟨j, hj, hm⟩ := idx_find h
    have hjl := (List.getElem?_eq_some_iff.mp hj).1
    have h0 : (os.map V.int)[j]? = some (V.int 0) := by rw [List.getElem?_map, hj]; rfl
    have hm2 : ∀ (m : Nat) (z' : V), m < j → (os.map V.int)[m]? = some z' → eqV z' (V.int 0) = false := fun m z' h1 h2 => by
      obtain ⟨y, hy, rfl⟩ := map_get h2
      rw [eqV_int]
      exact decide_eq_false (hm m h1 y hy)
    have hix := ix_at (n := (os.map V.int).length) (i := j) (by rw [List.length_map]; exact hjl)
    have hix2 := ix_at (n := (cs.map fun x : Pg => V.ref x.1).length) (i := j) (by rw [List.length_map]; omega)
    walk_at "s"
    refine ⟨eqV_int 0 0, hm2, ?_⟩
    walk_at "s"
    intro c hc
    have O1 := O.wr (o' := .lst ((os.map V.int).set j (.int 1))) (.there .here)
    have O2 := O1.new (o := .lst [V.int 0]) hc
    have hsz : ([V.int 0] : List V).length * (8 : Int).toNat ≤ sizeLine := sz_le (by decide)
    walk_at "s"
    intro d hd
    have O3 := O2.new (o := .lst (zeros.map V.int)) hd
    walk_at "s"
    have hy : cs[j]? = some cs[j] := List.getElem?_eq_getElem (by omega)
    have O4 := (O3.wr (o' := .lst ((cs.map fun x : Pg => V.ref x.1).set j (.ref d))) (.there (.there (.there (.there .here))))).drop (cs' := pcel (d, zeros) :: ([(p, .ins (He.ga K "Store") q.1 [("owners", .ref q.2.1), ("contents", .ref q.2.2)]), (q.2.1, .lst ((os.map V.int).set j (.int 1))), (q.2.2, .lst ((cs.map fun x : Pg => V.ref x.1).set j (.ref d)))] ++ cs.map pcel)) (.cons₂ _ (.cons _ (.refl _)))
    refine k1 j hj hm _ d ((O4.put hy).eq ?_)
    rw [set_map V.int, set_map (fun x : Pg => V.ref x.1) cs j (d, zeros)]
    rfl
theorem sc_Store_count : FnScope ["self", "page"] ["self", "page"] (defScope s_Store_count) := ⟨rfl, rfl, rfl, by decide +kernel, rfl, by decide +kernel, by decide +kernel⟩
theorem ok_Store_count {P : Program} {w : World} {K : PySem.W.Frag} {mg : Str → Option Value} {base : Heap} (T : Txt K mg) : Cee P w K mg base 1 (He.fAd K ("Store", some "count")) ["self", "page"] (sp_Store_count K) := by
  refine cee_of T.d_Store_count sc_Store_count (fun _ _ _ _ _ _ us hl => match us, hl with | [_, _], _ => rfl) (fun vs H Q E h => sp2_len h) (fun cdv A outer s H vs Q E hr h => ⟨_, (pss_cons (PS.box (ps_if (pt_not (pt_chain op_le op_lt pe_int (pv 1) (pe_callB call_len_seq (by rfl) T.n_len (by decide +kernel) (pa_cons (pe_fld (pv 0) rfl) pa_nil)))) (pss_one (ps_ret pe_int)) pss_nil)) (pss_one (ps_ret (pe_ix ix_list (pe_fld (pv 0) rfl) (pv 1) (fun _ _ => rfl))))), ?_⟩)
  obtain ⟨v0, v1, rfl, h⟩ := h
  dsimp only [cxOf, L2.start]
  obtain ⟨p, q, os, cs, i, rfl, rfl, O, k⟩ := h
  walk_at "b"
  refine if_d (fun h0 => ?_) (fun h0 => ?_)
  · walk_at "s"
    refine if_nd (fun h => ?_) (fun h => ?_)
    · walk_at "s"
      have : cntS os i = 0 := by unfold cntS; rw [if_neg (by rw [List.length_map] at h; omega)]
      rw [this] at k
      exact k
    · obtain ⟨y, hy, hy2⟩ := at_ints (ns := os) h0 h
      walk_at "s"
      have : cntS os i = y := by rw [← cntS_nat hy, Int.toNat_of_nonneg h0]
      rw [this] at k
      exact k
  · walk_at "s"
    have : cntS os i = 0 := by unfold cntS; rw [if_neg (by omega)]
    rw [this] at k
    exact k
theorem sc_Store_look_taken : FnScope ["self", "page"] ["self", "page"] (defScope s_Store_look_taken) := ⟨rfl, rfl, rfl, by decide +kernel, rfl, by decide +kernel, by decide +kernel⟩
theorem ok_Store_look_taken {P : Program} {w : World} {K : PySem.W.Frag} {mg : Str → Option Value} {base : Heap} (T : Txt K mg) : Cee P w K mg base 2 (He.fAd K ("Store", some "look_taken")) ["self", "page"] (sp_Store_look_taken K) := by
  have c_Store_count : Cee P w K mg base 1 (He.fAd K ("Store", some "count")) ["self", "page"] (sp_Store_count K) := ok_Store_count T
  refine cee_of T.d_Store_look_taken sc_Store_look_taken (fun _ _ _ _ _ _ us hl => match us, hl with | [_, _], _ => rfl) (fun vs H Q E h => sp2_len h) (fun cdv A outer s H vs Q E hr h => ⟨_, (pss_one (ps_if (pt_cmpR op_eq (pe_m (pv 0) T.c_Store T.m_Store_count c_Store_count (hr.mono (by decide)) (takes_of rfl rfl rfl rfl) (pa_cons (pv 1) pa_nil)) pe_int (nomark _)) (pss_one (ps_raise rfl (takes_of rfl rfl rfl rfl) (pmk_own PySem.F.excBase_ValueError T.x_NoOwner.1 T.g_NoOwner T.x_NoOwner.2.1 (raises_own T.x_NoOwner.2.2.1 T.x_NoOwner.2.2.2) rfl))) pss_nil)), ?_⟩)
  obtain ⟨v0, v1, rfl, h⟩ := h
  dsimp only [cxOf, L2.start]
  obtain ⟨p, q, os, cs, i, rfl, rfl, O, k, e⟩ := h
  walk_at "s"
  refine ask2 ⟨p, q, os, cs, i, rfl, rfl, O, ?_⟩
  walk_at "s"
  refine if_ii (fun h => e h) (fun h => ?_)
  exact k h
theorem sc_Store_more : FnScope ["self", "page"] ["self", "page"] (defScope s_Store_more) := ⟨rfl, rfl, rfl, by decide +kernel, rfl, by decide +kernel, by decide +kernel⟩
theorem ok_Store_more {P : Program} {w : World} {K : PySem.W.Frag} {mg : Str → Option Value} {base : Heap} (T : Txt K mg) : Cee P w K mg base 3 (He.fAd K ("Store", some "more")) ["self", "page"] (sp_Store_more K) := by
  have c_Store_look_taken : Cee P w K mg base 2 (He.fAd K ("Store", some "look_taken")) ["self", "page"] (sp_Store_look_taken K) := ok_Store_look_taken T
  refine cee_of T.d_Store_more sc_Store_more (fun _ _ _ _ _ _ us hl => match us, hl with | [_, _], _ => rfl) (fun vs H Q E h => sp2_len h) (fun cdv A outer s H vs Q E hr h => ⟨_, (pss_cons (ps_expr (pe_m (pv 0) T.c_Store T.m_Store_look_taken c_Store_look_taken (hr.mono (by decide)) (takes_of rfl rfl rfl rfl) (pa_cons (pv 1) pa_nil))) (pss_one (ps_augS (pe_fld (pv 0) rfl) (pv 1) get_list pe_int ip_add set_list))), ?_⟩)
  obtain ⟨v0, v1, rfl, h⟩ := h
  dsimp only [cxOf, L2.start]
  obtain ⟨p, q, os, cs, i, rfl, rfl, O, k, e⟩ := h
  walk_at "s"
  refine ask2 ⟨p, q, os, cs, i, rfl, rfl, O, fun h => ?_, e⟩
  obtain ⟨n, x, rfl, hx, hc⟩ := cntS_pos h
  have hat := atI_nat (xs := os.map V.int) (j := n) (v := .int x) (by rw [List.getElem?_map, hx]; rfl)
  have hix := ix_at (n := (os.map V.int).length) (i := n) (by rw [List.length_map]; exact (List.getElem?_eq_some_iff.mp hx).1)
  walk_at "s"
  refine k h _ ?_
  rw [hc, Int.toNat_natCast]
  exact (O.wr (o' := .lst ((os.map V.int).set n (.int (x + 1)))) (.there .here)).eq (by rw [set_map]; rfl)
theorem sc_Store_less : FnScope ["self", "page"] ["self", "page"] (defScope s_Store_less) := ⟨rfl, rfl, rfl, by decide +kernel, rfl, by decide +kernel, by decide +kernel⟩
theorem ok_Store_less {P : Program} {w : World} {K : PySem.W.Frag} {mg : Str → Option Value} {base : Heap} (T : Txt K mg) : Cee P w K mg base 3 (He.fAd K ("Store", some "less")) ["self", "page"] (sp_Store_less K) := by
  have c_Store_look_taken : Cee P w K mg base 2 (He.fAd K ("Store", some "look_taken")) ["self", "page"] (sp_Store_look_taken K) := ok_Store_look_taken T
  refine cee_of T.d_Store_less sc_Store_less (fun _ _ _ _ _ _ us hl => match us, hl with | [_, _], _ => rfl) (fun vs H Q E h => sp2_len h) (fun cdv A outer s H vs Q E hr h => ⟨_, (pss_cons (ps_expr (pe_m (pv 0) T.c_Store T.m_Store_look_taken c_Store_look_taken (hr.mono (by decide)) (takes_of rfl rfl rfl rfl) (pa_cons (pv 1) pa_nil))) (pss_one (ps_augS (pe_fld (pv 0) rfl) (pv 1) get_list pe_int ip_sub set_list))), ?_⟩)
  obtain ⟨v0, v1, rfl, h⟩ := h
  dsimp only [cxOf, L2.start]
  obtain ⟨p, q, os, cs, i, rfl, rfl, O, k, e⟩ := h
  walk_at "s"
  refine ask2 ⟨p, q, os, cs, i, rfl, rfl, O, fun h => ?_, e⟩
  obtain ⟨n, x, rfl, hx, hc⟩ := cntS_pos h
  have hat := atI_nat (xs := os.map V.int) (j := n) (v := .int x) (by rw [List.getElem?_map, hx]; rfl)
  have hix := ix_at (n := (os.map V.int).length) (i := n) (by rw [List.length_map]; exact (List.getElem?_eq_some_iff.mp hx).1)
  walk_at "s"
  refine k h _ ?_
  rw [hc, Int.toNat_natCast]
  exact (O.wr (o' := .lst ((os.map V.int).set n (.int (x - 1)))) (.there .here)).eq (by rw [set_map]; rfl)
theorem sc_Store_free : FnScope ["self"] ["self"] (defScope s_Store_free) := ⟨rfl, rfl, rfl, by decide +kernel, rfl, by decide +kernel, by decide +kernel⟩
theorem ok_Store_free {P : Program} {w : World} {K : PySem.W.Frag} {mg : Str → Option Value} {base : Heap} (T : Txt K mg) : Cee P w K mg base 1 (He.fAd K ("Store", some "free")) ["self"] (sp_Store_free K) := by
  refine cee_of T.d_Store_free sc_Store_free (fun _ _ _ _ _ _ us hl => match us, hl with | [_], _ => rfl) (fun vs H Q E h => sp1_len h) (fun cdv A outer s H vs Q E hr h => ⟨_, (pss_one (ps_ret (pe_bm PySem.F.plainAttrs_list PySem.F.slot_list_count PySem.F.type_list_count mt_lcount (pe_fld (pv 0) rfl) (pa_cons pe_int pa_nil)))), ?_⟩)
  obtain ⟨v0, rfl, h⟩ := h
  dsimp only [cxOf, L2.start]
  obtain ⟨p, q, os, cs, rfl, O, k⟩ := h
  walk_at "s"
  exact k
theorem sc_Store_cells : FnScope ["self", "page"] ["self", "page"] (defScope s_Store_cells) := ⟨rfl, rfl, rfl, by decide +kernel, rfl, by decide +kernel, by decide +kernel⟩
theorem ok_Store_cells {P : Program} {w : World} {K : PySem.W.Frag} {mg : Str → Option Value} {base : Heap} (T : Txt K mg) : Cee P w K mg base 3 (He.fAd K ("Store", some "cells")) ["self", "page"] (sp_Store_cells K) := by
  have c_Store_look_taken : Cee P w K mg base 2 (He.fAd K ("Store", some "look_taken")) ["self", "page"] (sp_Store_look_taken K) := ok_Store_look_taken T
  refine cee_of T.d_Store_cells sc_Store_cells (fun _ _ _ _ _ _ us hl => match us, hl with | [_, _], _ => rfl) (fun vs H Q E h => sp2_len h) (fun cdv A outer s H vs Q E hr h => ⟨_, (pss_cons (ps_expr (pe_m (pv 0) T.c_Store T.m_Store_look_taken c_Store_look_taken (hr.mono (by decide)) (takes_of rfl rfl rfl rfl) (pa_cons (pv 1) pa_nil))) (pss_one (ps_ret (pe_callTy call_list_of (by rfl) T.n_list (by decide +kernel) (pa_cons (pe_ix ix_list (pe_fld (pv 0) rfl) (pv 1) (fun _ _ => rfl)) pa_nil))))), ?_⟩)
  obtain ⟨v0, v1, rfl, h⟩ := h
  dsimp only [cxOf, L2.start]
  obtain ⟨p, q, os, cs, i, rfl, rfl, ok, O, k, e⟩ := h
  have hl := ok.len
  have hf := ok.few
  walk_at "s"
  refine ask2 ⟨p, q, os, cs, i, rfl, rfl, O, fun h => ?_, e⟩
  obtain ⟨n, x, rfl, hx, hc⟩ := cntS_pos h
  have hn := (List.getElem?_eq_some_iff.mp hx).1
  have hy : cs[n]? = some cs[n] := List.getElem?_eq_getElem (by omega)
  generalize cs[n] = y at hy
  have hat := atI_nat (xs := cs.map fun x : Pg => V.ref x.1) (j := n) (v := .ref y.1) (by rw [List.getElem?_map, hy]; rfl)
  have hm : (y.1, HO.lst (y.2.map V.int)) ∈ cSto K p q os cs := .tail _ (.tail _ (.tail _ (List.mem_map.mpr ⟨y, List.mem_of_getElem? hy, rfl⟩)))
  have hh := O.get hm
  walk_at "s"
  intro l hl2
  exact k h y (by rw [Int.toNat_natCast]; exact hy) _ l (O.new hl2)
theorem sc_Store_put : FnScope ["self", "page", "cells"] ["self", "page", "cells"] (defScope s_Store_put) := ⟨rfl, rfl, rfl, by decide +kernel, rfl, by decide +kernel, by decide +kernel⟩
theorem ok_Store_put {P : Program} {w : World} {K : PySem.W.Frag} {mg : Str → Option Value} {base : Heap} (T : Txt K mg) : Cee P w K mg base 3 (He.fAd K ("Store", some "put")) ["self", "page", "cells"] (sp_Store_put K) := by
  have c_Store_look_taken : Cee P w K mg base 2 (He.fAd K ("Store", some "look_taken")) ["self", "page"] (sp_Store_look_taken K) := ok_Store_look_taken T
  refine cee_of T.d_Store_put sc_Store_put (fun _ _ _ _ _ _ us hl => match us, hl with | [_, _, _], _ => rfl) (fun vs H Q E h => sp3_len h) (fun cdv A outer s H vs Q E hr h => ⟨_, (pss_cons (ps_expr (pe_m (pv 0) T.c_Store T.m_Store_look_taken c_Store_look_taken (hr.mono (by decide)) (takes_of rfl rfl rfl rfl) (pa_cons (pv 1) pa_nil))) (pss_one (ps_asg (pe_callTy call_list_of (by rfl) T.n_list (by decide +kernel) (pa_cons (pv 2) pa_nil)) (pg_sub (pe_fld (pv 0) rfl) (pv 1) set_list)))), ?_⟩)
  obtain ⟨v0, v1, v2, rfl, h⟩ := h
  dsimp only [cxOf, L2.start]
  obtain ⟨p, q, os, cs, i, a, ns, rfl, rfl, rfl, ha, ok, O, k, e⟩ := h
  have hl := ok.len
  have hf := ok.few
  walk_at "s"
  refine ask2 ⟨p, q, os, cs, i, rfl, rfl, O, fun h => ?_, e⟩
  obtain ⟨n, x, rfl, hx, hc⟩ := cntS_pos h
  have hn := (List.getElem?_eq_some_iff.mp hx).1
  have hy : cs[n]? = some cs[n] := List.getElem?_eq_getElem (by omega)
  have hix2 := ix_at (n := (cs.map fun x : Pg => V.ref x.1).length) (i := n) (by rw [List.length_map]; omega)
  walk_at "s"
  intro d hd
  have O3 := O.new (o := .lst (ns.map V.int)) hd
  walk_at "s"
  have O4 := (O3.wr (o' := .lst ((cs.map fun x : Pg => V.ref x.1).set n (.ref d))) (.there (.there (.there .here))))
  refine k h _ d ((Own.put (g := pcel) (b := (d, ns)) (pre := [(p, .ins (He.ga K "Store") q.1 [("owners", .ref q.2.1), ("contents", .ref q.2.2)]), (q.2.1, .lst (os.map V.int)), (q.2.2, .lst ((cs.map fun x : Pg => V.ref x.1).set n (.ref d)))]) O4 hy).eq ?_)
  rw [set_map (fun x : Pg => V.ref x.1) cs n (d, ns), Int.toNat_natCast]
  rfl

/-! ## Tables: what they hold -/
abbrev Fs := List (Int × Addr × List (Key × V))
def fsD (fs : Fs) : List (Key × V) := fs.map fun x => (Sum.inl x.1, V.ref x.2.1)
abbrev cel (x : Int × Addr × List (Key × V)) : Addr × HO := (x.2.1, .dK x.2.2)
def cTab (K : PySem.W.Frag) (p : Addr) (q : Addr × Addr) (fs : Fs) : Cells := (p, .ins (He.ga K "Table") q.1 [("firsts", .ref q.2)]) :: (q.2, .dK (fsD fs)) :: fs.map cel
def tent (fs : Fs) (n : Int) : Option V := (fs.find? fun x => decide (x.1 = n / 8)).bind fun x => valV x.2.2 (Sum.inl (n % 8))
structure TabOk (fs : Fs) : Prop where
  nd : (fs.map (·.1)).Nodup
  rng : ∀ x ∈ fs, 0 ≤ x.1 ∧ x.1 < 8
  ne : ∀ x ∈ fs, x.2.2 ≠ []
  ndi : ∀ x ∈ fs, (x.2.2.map (·.1)).Nodup
  rngi : ∀ x ∈ fs, ∀ k ∈ x.2.2.map (·.1), ∃ r : Int, k = Sum.inl r ∧ 0 ≤ r ∧ r < 8
theorem TabOk.nil : TabOk [] := ⟨List.nodup_nil, by simp, by simp, by simp, by simp⟩
theorem nodup_le : ∀ (m : Nat) (l : List Nat), l.Nodup → (∀ x ∈ l, x < m) → l.length ≤ m
  | 0, l, _, h => by
    cases l with
    | nil => exact Nat.le_refl 0
    | cons a r => exact absurd (h a List.mem_cons_self) (Nat.not_lt_zero _)
  | m + 1, l, hn, h => by
    have h1 := nodup_le m (l.erase m) (hn.erase m) fun x hx => by
      have h2 := h x (List.mem_of_mem_erase hx)
      have h3 : x ≠ m := fun e => by
        subst e
        exact hn.not_mem_erase hx
      omega
    by_cases hm : m ∈ l
    · rw [List.length_erase_of_mem hm] at h1
      omega
    · rw [List.erase_of_not_mem hm] at h1
      omega
theorem nodup_small {l : List Int} (hn : l.Nodup) {m : Nat} (hr : ∀ x ∈ l, 0 ≤ x ∧ x < (m : Int)) : l.length ≤ m := by
  have h := nodup_le m (l.map Int.toNat) (List.pairwise_map.mpr (List.Pairwise.imp_of_mem (fun {a b} ha hb h e => h (by
    have h1 := hr a ha
    have h2 := hr b hb
    omega)) hn)) fun y hy => by
      obtain ⟨x, hx, rfl⟩ := List.mem_map.mp hy
      have := hr x hx
      omega
  rwa [List.length_map] at h
theorem keys_ints : ∀ {l : List Key}, (∀ k ∈ l, ∃ r : Int, k = Sum.inl r ∧ 0 ≤ r ∧ r < 8) → ∃ ns : List Int, l = ns.map Sum.inl ∧ ∀ n ∈ ns, 0 ≤ n ∧ n < 8
  | [], _ => ⟨[], rfl, by simp⟩
  | k :: l, h => by
    obtain ⟨r, e, h1, h2⟩ := h k List.mem_cons_self
    obtain ⟨ns, e2, h3⟩ := keys_ints (l := l) fun k hk => h k (List.mem_cons_of_mem _ hk)
    refine ⟨r :: ns, by rw [e, e2]; rfl, fun n hn => ?_⟩
    rcases List.mem_cons.mp hn with z | z
    · rw [z]; exact ⟨h1, h2⟩
    · exact h3 n z
theorem map_inl_nodup {ns : List Int} (h : (ns.map (Sum.inl : Int → Key)).Nodup) : ns.Nodup :=
  List.Pairwise.imp (fun {a b} h e => h (by rw [e])) (List.pairwise_map.mp h)
theorem TabOk.len {fs : Fs} (h : TabOk fs) : fs.length ≤ 8 := by
  have := nodup_small (m := 8) h.nd fun x hx => by
    obtain ⟨y, hy, rfl⟩ := List.mem_map.mp hx
    exact h.rng y hy
  rwa [List.length_map] at this
theorem TabOk.leni {fs : Fs} (h : TabOk fs) {x} (hx : x ∈ fs) : x.2.2.length ≤ 8 := by
  obtain ⟨ns, e, h2⟩ := keys_ints (h.rngi x hx)
  have h3 := h.ndi x hx
  rw [e] at h3
  have := nodup_small (m := 8) (map_inl_nodup h3) h2
  have e2 := congrArg List.length e
  rw [List.length_map, List.length_map] at e2
  omega
theorem valV_fsD (fs : Fs) (q : Int) : valV (fsD fs) (Sum.inl q) = (fs.find? fun x => decide (x.1 = q)).map fun x => V.ref x.2.1 := by
  unfold fsD
  induction fs with
  | nil => rfl
  | cons x r ih =>
    rw [List.map_cons, List.find?_cons]
    by_cases e : x.1 = q
    · rw [valV_pos (by show (Sum.inl x.1 : Key) = _; rw [e]), decide_eq_true e]; rfl
    · rw [valV_neg (by show ¬ (Sum.inl x.1 : Key) = _; exact fun z => e (Sum.inl.inj z)), decide_eq_false e]; exact ih
/-- the entry at a split -/
theorem tent_mid {l r : Fs} {x : Int × Addr × List (Key × V)} (hn : ((l ++ x :: r).map (·.1)).Nodup) (n : Int) : tent (l ++ x :: r) n = if x.1 = n / 8 then valV x.2.2 (Sum.inl (n % 8)) else tent (l ++ r) n := by
  rw [List.map_append, List.map_cons] at hn
  obtain ⟨n1, n2, n3⟩ := List.nodup_append.mp hn
  unfold tent
  rw [List.find?_append, List.find?_append, List.find?_cons]
  by_cases e : x.1 = n / 8
  · have hl : l.find? (fun x => decide (x.1 = n / 8)) = none := List.find?_eq_none.mpr fun y hy q =>
      n3 y.1 (List.mem_map.mpr ⟨y, hy, rfl⟩) x.1 List.mem_cons_self ((of_decide_eq_true q).trans e.symm)
    rw [if_pos e, hl, decide_eq_true e]
    rfl
  · rw [if_neg e, decide_eq_false e]
theorem TabOk.mid {l r : Fs} {k : Int} {a : Addr} {kvs kvs' : List (Key × V)} (h : TabOk (l ++ (k, a, kvs) :: r)) (h1 : kvs' ≠ []) (h2 : (kvs'.map (·.1)).Nodup) (h3 : ∀ k ∈ kvs'.map (·.1), ∃ r : Int, k = Sum.inl r ∧ 0 ≤ r ∧ r < 8) : TabOk (l ++ (k, a, kvs') :: r) := by
  have hm : ∀ x ∈ l ++ (k, a, kvs') :: r, x = (k, a, kvs') ∨ x ∈ l ++ (k, a, kvs) :: r := fun x hx => by
    rcases List.mem_append.mp hx with z | z
    · exact .inr (List.mem_append_left _ z)
    · rcases List.mem_cons.mp z with z | z
      · exact .inl z
      · exact .inr (List.mem_append_right _ (List.mem_cons_of_mem _ z))
  have h0 : (k, a, kvs) ∈ l ++ (k, a, kvs) :: r := List.mem_append_right _ List.mem_cons_self
  refine ⟨?_, fun x hx => ?_, fun x hx => ?_, fun x hx => ?_, fun x hx => ?_⟩
  · have := h.nd
    rw [List.map_append, List.map_cons] at this ⊢
    exact this
  · rcases hm x hx with rfl | z
    · exact (h.rng _ h0 : 0 ≤ k ∧ k < 8)
    · exact h.rng x z
  · rcases hm x hx with rfl | z
    · exact h1
    · exact h.ne x z
  · rcases hm x hx with rfl | z
    · exact h2
    · exact h.ndi x z
  · rcases hm x hx with rfl | z
    · exact h3
    · exact h.rngi x z
theorem TabOk.snoc {fs : Fs} {k : Int} {a : Addr} {r : Int} {e : V} (h : TabOk fs) (hk : ¬ k ∈ fs.map (·.1)) (h1 : 0 ≤ k ∧ k < 8) (h2 : 0 ≤ r ∧ r < 8) : TabOk (fs ++ [(k, a, [(Sum.inl r, e)])]) := by
  have hm : ∀ x ∈ fs ++ [(k, a, [(Sum.inl r, e)])], x ∈ fs ∨ x = (k, a, [((Sum.inl r : Key), e)]) := fun x hx => by
    rcases List.mem_append.mp hx with z | z
    · exact .inl z
    · exact .inr (List.mem_singleton.mp z)
  refine ⟨?_, fun x hx => ?_, fun x hx => ?_, fun x hx => ?_, fun x hx => ?_⟩
  · rw [List.map_append]
    exact nd_snoc h.nd hk
  · rcases hm x hx with z | rfl
    · exact h.rng x z
    · exact h1
  · rcases hm x hx with z | rfl
    · exact h.ne x z
    · exact List.cons_ne_nil _ _
  · rcases hm x hx with z | rfl
    · exact h.ndi x z
    · simp
  · rcases hm x hx with z | rfl
    · exact h.rngi x z
    · intro q hq
      exact ⟨r, List.mem_singleton.mp hq, h2⟩
theorem TabOk.less {l r : Fs} {x} (h : TabOk (l ++ x :: r)) : TabOk (l ++ r) := by
  have hm : ∀ y ∈ l ++ r, y ∈ l ++ x :: r := fun y hy => by
    rcases List.mem_append.mp hy with z | z
    · exact List.mem_append_left _ z
    · exact List.mem_append_right _ (List.mem_cons_of_mem _ z)
  refine ⟨?_, fun y hy => h.rng y (hm y hy), fun y hy => h.ne y (hm y hy), fun y hy => h.ndi y (hm y hy), fun y hy => h.rngi y (hm y hy)⟩
  have hs : List.Sublist (l ++ r) (l ++ x :: r) := List.Sublist.append (List.Sublist.refl l) (List.sublist_cons_self x r)
  exact h.nd.sublist (hs.map _)
theorem key_not {fs : Fs} {k : Int} (h : fs.find? (fun x => decide (x.1 = k)) = none) : ¬ k ∈ fs.map (·.1) := fun m => by
  obtain ⟨x, hx, e⟩ := List.mem_map.mp m
  exact List.find?_eq_none.mp h x hx (decide_eq_true e)
theorem tent_snoc {fs : Fs} {k : Int} {a : Addr} {kvs : List (Key × V)} (h : fs.find? (fun x => decide (x.1 = k)) = none) (n : Int) : tent (fs ++ [(k, a, kvs)]) n = if k = n / 8 then valV kvs (Sum.inl (n % 8)) else tent fs n := by
  unfold tent
  rw [List.find?_append, List.find?_cons]
  by_cases e : k = n / 8
  · subst e
    rw [if_pos rfl, h, decide_eq_true rfl]
    rfl
  · rw [if_neg e, decide_eq_false e]
    cases fs.find? fun x => decide (x.1 = n / 8) <;> rfl
theorem same_page {n m : Int} : m = n ↔ (n / 8 = m / 8 ∧ n % 8 = m % 8) := by constructor <;> intro h <;> omega
theorem valV_no {κ : Type} [DecidableEq κ] {kvs : List (κ × V)} {k : κ} (h : ¬ k ∈ kvs.map (·.1)) : valV kvs k = none := by
  induction kvs with
  | nil => exact valV_nil
  | cons p r ih =>
    rw [List.map_cons, List.mem_cons] at h
    rw [valV_neg (fun e => h (.inl e.symm))]
    exact ih fun m => h (.inr m)
/-! ### the promises -/
def sp_Table___init__ (K : PySem.W.Frag) : Sp := sp1 fun self H Q _ => ∃ p dx, self = .ref p ∧ Own H H [p] [(p, .ins (He.ga K "Table") dx [])] ∧ ∀ H' q, Own H H' [p] (cTab K p q []) → Q .non H'
def sp_Table_get (K : PySem.W.Frag) : Sp := sp2 fun self page H Q _ => ∃ p q fs n, self = .ref p ∧ page = .int n ∧ Own H H (adr (cTab K p q fs)) (cTab K p q fs) ∧ Q ((tent fs n).getD .non) H
def sp_Table_lay (K : PySem.W.Frag) : Sp := sp3 fun self page entry H Q _ => ∃ p q fs n, self = .ref p ∧ page = .int n ∧ 0 ≤ n ∧ n < 64 ∧ TabOk fs ∧ Own H H (adr (cTab K p q fs)) (cTab K p q fs) ∧
  ∀ H' fs', Own H H' (adr (cTab K p q fs)) (cTab K p q fs') → TabOk fs' → (∀ m, tent fs' m = if m = n then some entry else tent fs m) → Q .non H'
def sp_Table_clear (K : PySem.W.Frag) : Sp := sp2 fun self page H Q _ => ∃ p q fs n, self = .ref p ∧ page = .int n ∧ TabOk fs ∧ Own H H (adr (cTab K p q fs)) (cTab K p q fs) ∧
  ∀ H' fs', Own H H' (adr (cTab K p q fs)) (cTab K p q fs') → TabOk fs' → (∀ m, tent fs' m = if m = n then none else tent fs m) → Q .non H'
def sp_Table_steps (K : PySem.W.Frag) : Sp := sp1 fun self H Q _ => ∃ p q fs, self = .ref p ∧ Own H H (adr (cTab K p q fs)) (cTab K p q fs) ∧ Q (.int fs.length) H
def sp_Table_pages (K : PySem.W.Frag) : Sp := sp1 fun self H Q _ => ∃ p q fs, self = .ref p ∧ TabOk fs ∧ Own H H (adr (cTab K p q fs)) (cTab K p q fs) ∧
  ∀ (H' : Hp) (a : Addr) (ns : List Int), Own H H' (adr (cTab K p q fs)) ((a, .lst (ns.map V.int)) :: cTab K p q fs) → ns.Pairwise (· < ·) → (∀ m, m ∈ ns ↔ (tent fs m).isSome = true) → Q (.ref a) H'
theorem dropK_mid {l r : Fs} {x : Int × Addr × List (Key × V)} (hn : ((l ++ x :: r).map (·.1)).Nodup) : dropK (fsD (l ++ x :: r)) (Sum.inl x.1) = fsD (l ++ r) := by
  rw [List.map_append, List.map_cons] at hn
  obtain ⟨n1, n2, n3⟩ := List.nodup_append.mp hn
  obtain ⟨n4, n5⟩ := List.nodup_cons.mp n2
  unfold dropK fsD
  rw [List.map_append, List.map_append, List.map_cons, List.filter_append, List.filter_cons, if_neg (by simp)]
  congr 1
  · refine List.filter_eq_self.mpr fun z hz => ?_
    obtain ⟨y, hy, rfl⟩ := List.mem_map.mp hz
    refine decide_eq_true fun e => n3 y.1 (List.mem_map.mpr ⟨y, hy, rfl⟩) x.1 List.mem_cons_self (Sum.inl.inj e)
  · refine List.filter_eq_self.mpr fun z hz => ?_
    obtain ⟨y, hy, rfl⟩ := List.mem_map.mp hz
    exact decide_eq_true fun e => n4 (List.mem_map.mpr ⟨y, hy, Sum.inl.inj e⟩)
theorem valV_drop {κ : Type} [DecidableEq κ] (kvs : List (κ × V)) (k j : κ) : valV (dropK kvs k) j = if j = k then none else valV kvs j := by
  induction kvs with
  | nil => unfold dropK; simp [valV_nil]
  | cons p r ih =>
    by_cases e : p.1 = k
    · rw [dropK_pos e, ih]
      by_cases q : j = k
      · rw [if_pos q, if_pos q]
      · rw [if_neg q, if_neg q, valV_neg (fun z => q (z.symm.trans e))]
    · rw [dropK_neg e]
      by_cases q : p.1 = j
      · rw [valV_pos q, valV_pos q, if_neg (fun z => e (q.trans z))]
      · rw [valV_neg q, valV_neg q, ih]
theorem dropK_none {κ : Type} [DecidableEq κ] {kvs : List (κ × V)} {k : κ} (h : valV kvs k = none) : dropK kvs k = kvs := dropK_no (valV_not h)
theorem dropK_sub {κ : Type} [DecidableEq κ] {kvs : List (κ × V)} {k : κ} : ∀ j ∈ (dropK kvs k).map (·.1), j ∈ kvs.map (·.1) := fun j hj => by
  obtain ⟨y, hy, rfl⟩ := List.mem_map.mp hj
  exact List.mem_map.mpr ⟨y, dropK_mem hy, rfl⟩
theorem sorted_lt {l k : List Int} (h : k.Perm l) (hs : k.Pairwise (· ≤ ·)) (hn : l.Nodup) : k.Pairwise (· < ·) :=
  List.Pairwise.imp_of_mem (fun {a b} _ _ h => by omega) (List.Pairwise.and hs ((h.nodup_iff).mpr hn))
theorem before {l : List Int} (h : l.Pairwise (· < ·)) {i : Nat} {y z : Int} (hy : l[i]? = some y) (hz : z ∈ l.take i) : z < y := by
  obtain ⟨hi, rfl⟩ := List.getElem?_eq_some_iff.mp hy
  obtain ⟨j, hj, rfl⟩ := List.mem_take_iff_getElem.mp hz
  exact List.pairwise_iff_getElem.mp h j i (by omega) hi (by omega)
theorem tent_key {fs : Fs} {x} (ok : TabOk fs) (hx : x ∈ fs) (m : Int) : x.1 = m / 8 → tent fs m = valV x.2.2 (Sum.inl (m % 8)) := fun e => by
  obtain ⟨l, r, rfl⟩ := List.append_of_mem hx
  rw [tent_mid ok.nd, if_pos e]
theorem tent_some {fs : Fs} {m : Int} (h : (tent fs m).isSome = true) : m / 8 ∈ fs.map (·.1) := by
  unfold tent at h
  cases e : fs.find? fun x => decide (x.1 = m / 8) with
  | none => rw [e] at h; cases h
  | some x =>
    exact List.mem_map.mpr ⟨x, List.mem_of_find?_eq_some e, by simpa using List.find?_some e⟩

/-! ### each def keeps its promise -/
theorem sc_Table___init__ : FnScope ["self"] ["self"] (defScope s_Table___init__) := ⟨rfl, rfl, rfl, by decide +kernel, rfl, by decide +kernel, by decide +kernel⟩
theorem ok_Table___init__ {P : Program} {w : World} {K : PySem.W.Frag} {mg : Str → Option Value} {base : Heap} (T : Txt K mg) : Cee P w K mg base 1 (He.fAd K ("Table", some "__init__")) ["self"] (sp_Table___init__ K) := by
  refine cee_of T.d_Table___init__ sc_Table___init__ (fun _ _ _ _ _ _ us hl => match us, hl with | [_], _ => rfl) (fun vs H Q E h => sp1_len h) (fun cdv A outer s H vs Q E hr h => ⟨_, (pss_one (ps_fld (pv 0) pe_dnewK rfl)), ?_⟩)
  obtain ⟨v0, rfl, h⟩ := h
  dsimp only [cxOf, L2.start]
  obtain ⟨p, dx, rfl, O, k⟩ := h
  intro d hd
  walk_at "s"
  exact k _ (dx, d) ((O.new hd).wr (.there .here) |>.perm (List.Perm.swap _ _ _))
theorem sc_Table_get : FnScope ["self", "page", "second"] ["self", "page"] (defScope s_Table_get) := ⟨rfl, rfl, rfl, by decide +kernel, rfl, by decide +kernel, by decide +kernel⟩
theorem ok_Table_get {P : Program} {w : World} {K : PySem.W.Frag} {mg : Str → Option Value} {base : Heap} (T : Txt K mg) : Cee P w K mg base 1 (He.fAd K ("Table", some "get")) ["self", "page"] (sp_Table_get K) := by
  refine cee_of T.d_Table_get sc_Table_get (fun _ _ _ _ _ _ us hl => match us, hl with | [_, _], _ => rfl) (fun vs H Q E h => sp2_len h) (fun cdv A outer s H vs Q E hr h => ⟨_, (pss_cons (ps_set (i := 2) sc_Table_get.nd rfl (Or.inl rfl) (pe_dget2 (hu_of hr) (pe_fld (pv 0) rfl) (pe_op op_fdiv (pv 1) (pe_gc (v := .int 8) rfl (gI T.g_STEP))) pe_non ⟨rfl, rfl, rfl, rfl⟩)) (pss_cons (ps_if (pt_cmpR op_isN (pv 2) pe_non (nomark _)) (pss_one (ps_ret pe_non)) pss_nil) (pss_one (ps_ret (pe_dget2 (hu_of hr) (pv 2) (pe_op op_mod (pv 1) (pe_gc (v := .int 8) rfl (gI T.g_STEP))) pe_non ⟨rfl, rfl, rfl, rfl⟩))))), ?_⟩)
  obtain ⟨v0, v1, rfl, h⟩ := h
  dsimp only [cxOf, L2.start]
  obtain ⟨p, q, fs, n, rfl, rfl, O, k⟩ := h
  walk_at "s"
  rw [valV_fsD]
  have hn : tent fs n = (fs.find? fun x => decide (x.1 = n / 8)).bind fun x => valV x.2.2 (Sum.inl (n % 8)) := rfl
  cases e : fs.find? fun x => decide (x.1 = n / 8) with
  | none =>
    rw [e] at hn
    rw [hn] at k
    exact k
  | some x =>
    rw [e] at hn
    have hx : (x.2.1, HO.dK x.2.2) ∈ cTab K p q fs := List.mem_cons_of_mem _ (List.mem_cons_of_mem _ (List.mem_map.mpr ⟨x, List.mem_of_find?_eq_some e, rfl⟩))
    have h1 := O.get hx
    walk_at "s"
    rw [hn] at k
    exact k
theorem sc_Table_lay : FnScope ["self", "page", "entry"] ["self", "page", "entry"] (defScope s_Table_lay) := ⟨rfl, rfl, rfl, by decide +kernel, rfl, by decide +kernel, by decide +kernel⟩
theorem ok_Table_lay {P : Program} {w : World} {K : PySem.W.Frag} {mg : Str → Option Value} {base : Heap} (T : Txt K mg) : Cee P w K mg base 1 (He.fAd K ("Table", some "lay")) ["self", "page", "entry"] (sp_Table_lay K) := by
  refine cee_of T.d_Table_lay sc_Table_lay (fun _ _ _ _ _ _ us hl => match us, hl with | [_, _, _], _ => rfl) (fun vs H Q E h => sp3_len h) (fun cdv A outer s H vs Q E hr h => ⟨_, (pss_cons (PS.box (ps_if (pt_cmp (pc_dnotin (hu_of hr) (pe_op op_fdiv (pv 1) (pe_gc (v := .int 8) rfl (gI T.g_STEP))) (pe_fld (pv 0) rfl)) (by with_unfolding_all rfl)) (pss_one (ps_dput (hu_of hr) (pe_fld (pv 0) rfl) (pe_op op_fdiv (pv 1) (pe_gc (v := .int 8) rfl (gI T.g_STEP))) pe_dnewK rfl)) pss_nil)) (pss_one (ps_dput (hu_of hr) (pe_dget (hu_of hr) (pe_fld (pv 0) rfl) (pe_op op_fdiv (pv 1) (pe_gc (v := .int 8) rfl (gI T.g_STEP))) (fun _ _ => rfl)) (pe_op op_mod (pv 1) (pe_gc (v := .int 8) rfl (gI T.g_STEP))) (pv 2) rfl))), ?_⟩)
  obtain ⟨v0, v1, v2, rfl, h⟩ := h
  dsimp only [cxOf, L2.start]
  obtain ⟨p, q, fs, n, rfl, rfl, n0, n1, ok, O, k⟩ := h
  have hlen := ok.len
  refine ⟨?_⟩
  walk_at "s"
  rw [valV_fsD]
  cases e : fs.find? fun x => decide (x.1 = n / 8) with
  | none =>
    intro d hd
    have e2 : valV (fsD fs) (Sum.inl (n / 8)) = none := by rw [valV_fsD, e]; rfl
    have hsz : (fsD fs).length < 100000 := by unfold fsD; rw [List.length_map]; omega
    have e3 : putK (fsD fs) (Sum.inl (n / 8)) (V.ref d) = fsD (fs ++ [(n / 8, d, [(Sum.inl (n % 8), v2)])]) := by
      rw [L2.putK_new _ e2]
      unfold fsD
      rw [List.map_append]
      rfl
    have e4 : valV (putK (fsD fs) (Sum.inl (n / 8)) (V.ref d)) (Sum.inl (n / 8)) = some (V.ref d) := by rw [valV_put, if_pos rfl]
    walk_at "s"
    have O1 := ((O.new (o := .dK []) hd).wr (o' := .dK (putK (fsD fs) (Sum.inl (n / 8)) (V.ref d))) (.there (.there .here))).wr (a := d) (o' := .dK (putK [] (Sum.inl (n % 8)) v2)) .here
    refine k _ (fs ++ [(n / 8, d, [(Sum.inl (n % 8), v2)])]) (O1.last.eq ?_) (ok.snoc (key_not e) (by omega) (by omega)) fun m => ?_
    · rw [e3]
      unfold cTab
      rw [List.map_append]
      rfl
    · rw [tent_snoc e]
      by_cases q : n / 8 = m / 8
      · rw [if_pos q]
        by_cases q2 : n % 8 = m % 8
        · rw [if_pos (same_page.mpr ⟨q, q2⟩), ← q2]
          exact valV_pos rfl
        · rw [if_neg (fun z => q2 (same_page.mp z).2), valV_neg (fun z => q2 (Sum.inl.inj z))]
          have : tent fs m = none := by
            unfold tent
            rw [← q, e]
            rfl
          rw [this]
          rfl
      · rw [if_neg q, if_neg (fun z => q (same_page.mp z).1)]
  | some x =>
    have hx := List.mem_of_find?_eq_some e
    have ex : x.1 = n / 8 := by simpa using List.find?_some e
    obtain ⟨l, r, rfl⟩ := List.append_of_mem hx
    obtain ⟨k0, a0, kvs⟩ := x
    subst ex
    have hl := ok.leni hx
    have e4 : valV (fsD (l ++ (n / 8, a0, kvs) :: r)) (Sum.inl (n / 8)) = some (V.ref a0) := by rw [valV_fsD, e]; rfl
    have at1 : ∀ o', At (cTab K p q (l ++ (n / 8, a0, kvs) :: r)) a0 (.dK kvs) o' ((p, .ins (He.ga K "Table") q.1 [("firsts", .ref q.2)]) :: (q.2, .dK (fsD (l ++ (n / 8, a0, kvs) :: r))) :: (l.map cel ++ (a0, o') :: r.map cel)) := fun o' => by
      unfold cTab
      rw [List.map_append, List.map_cons]
      exact .there (.there (.app .here))
    have h1 := O.get (at1 (.dK [])).mem
    have hl2 : kvs.length < 100000 := Nat.lt_of_le_of_lt hl (by decide)
    walk_at "s"
    have key : (putK kvs (Sum.inl (n % 8)) v2).map (·.1) = if (valV kvs (Sum.inl (n % 8))).isSome = true then kvs.map (·.1) else kvs.map (·.1) ++ [Sum.inl (n % 8)] := by
      unfold putK
      rw [valV_any]
      split
      · rw [List.map_map]
        refine List.map_congr_left fun z _ => ?_
        show (if z.1 = _ then (z.1, v2) else z).1 = z.1
        split <;> rfl
      · rw [List.map_append]; rfl
    refine k _ (l ++ (n / 8, a0, putK kvs (Sum.inl (n % 8)) v2) :: r) ((O.wr (at1 (.dK (putK kvs (Sum.inl (n % 8)) v2)))).eq ?_) (ok.mid (fun z => ?_) ?_ ?_) fun m => ?_
    · unfold cTab fsD
      rw [List.map_append, List.map_append, List.map_append, List.map_cons, List.map_cons, List.map_cons]
    · have := valV_put kvs (Sum.inl (n % 8) : Key) (Sum.inl (n % 8)) v2
      rw [z, if_pos rfl] at this
      cases this
    · rw [key]
      split
      · exact ok.ndi _ hx
      · rename_i hc
        refine nd_snoc (ok.ndi _ hx) (valV_not ?_)
        cases hv : valV kvs (Sum.inl (n % 8) : Key) with
        | none => rfl
        | some z => rw [hv] at hc; exact absurd rfl hc
    · rw [key]
      split
      · exact ok.rngi _ hx
      · intro z hz
        rcases List.mem_append.mp hz with y | y
        · exact ok.rngi _ hx z y
        · exact ⟨n % 8, List.mem_singleton.mp y, by omega, by omega⟩
    · rw [tent_mid (by have := ok.nd; rw [List.map_append, List.map_cons] at this ⊢; exact this), tent_mid ok.nd]
      show (if n / 8 = m / 8 then valV (putK kvs (Sum.inl (n % 8)) v2) (Sum.inl (m % 8)) else tent (l ++ r) m) = if m = n then some v2 else if n / 8 = m / 8 then valV kvs (Sum.inl (m % 8)) else tent (l ++ r) m
      by_cases q : n / 8 = m / 8
      · rw [if_pos q, if_pos q, valV_put]
        by_cases q2 : n % 8 = m % 8
        · rw [if_pos (same_page.mpr ⟨q, q2⟩), if_pos (by rw [q2])]
        · rw [if_neg (fun z => q2 (same_page.mp z).2), if_neg (fun z => q2 (Sum.inl.inj z).symm)]
      · rw [if_neg q, if_neg q, if_neg (fun z => q (same_page.mp z).1)]
theorem sc_Table_clear : FnScope ["self", "page", "second"] ["self", "page"] (defScope s_Table_clear) := ⟨rfl, rfl, rfl, by decide +kernel, rfl, by decide +kernel, by decide +kernel⟩
theorem ok_Table_clear {P : Program} {w : World} {K : PySem.W.Frag} {mg : Str → Option Value} {base : Heap} (T : Txt K mg) : Cee P w K mg base 1 (He.fAd K ("Table", some "clear")) ["self", "page"] (sp_Table_clear K) := by
  refine cee_of T.d_Table_clear sc_Table_clear (fun _ _ _ _ _ _ us hl => match us, hl with | [_, _], _ => rfl) (fun vs H Q E h => sp2_len h) (fun cdv A outer s H vs Q E hr h => ⟨_, (pss_cons (ps_set (i := 2) sc_Table_clear.nd rfl (Or.inl rfl) (pe_dget2 (hu_of hr) (pe_fld (pv 0) rfl) (pe_op op_fdiv (pv 1) (pe_gc (v := .int 8) rfl (gI T.g_STEP))) pe_non ⟨rfl, rfl, rfl, rfl⟩)) (pss_cons (ps_if (pt_cmpR op_isN (pv 2) pe_non (nomark _)) (pss_one ps_retN) pss_nil) (pss_cons (ps_expr (pe_dpop2 (pv 2) (pe_op op_mod (pv 1) (pe_gc (v := .int 8) rfl (gI T.g_STEP))) pe_non ⟨rfl, rfl, rfl, rfl⟩)) (pss_one (ps_if (pt_cmpR op_eq (pe_callB call_lenD (by rfl) T.n_len (by decide +kernel) (pa_cons (pv 2) pa_nil)) pe_int (nomark _)) (pss_one (ps_expr (pe_dpop2 (pe_fld (pv 0) rfl) (pe_op op_fdiv (pv 1) (pe_gc (v := .int 8) rfl (gI T.g_STEP))) pe_non ⟨rfl, rfl, rfl, rfl⟩))) pss_nil))))), ?_⟩)
  obtain ⟨v0, v1, rfl, h⟩ := h
  dsimp only [cxOf, L2.start]
  obtain ⟨p, q, fs, n, rfl, rfl, ok, O, k⟩ := h
  walk_at "s"
  rw [valV_fsD]
  cases e : fs.find? fun x => decide (x.1 = n / 8) with
  | none =>
    refine k H fs O ok fun m => ?_
    by_cases hm : m = n
    · subst hm
      rw [if_pos rfl]
      unfold tent
      rw [e]
      rfl
    · rw [if_neg hm]
  | some x =>
    have hx := List.mem_of_find?_eq_some e
    have ex : x.1 = n / 8 := by simpa using List.find?_some e
    obtain ⟨l, r, rfl⟩ := List.append_of_mem hx
    obtain ⟨k0, a0, kvs⟩ := x
    subst ex
    have at1 : ∀ o o', At ((p, .ins (He.ga K "Table") q.1 [("firsts", .ref q.2)]) :: (q.2, .dK (fsD (l ++ (n / 8, a0, kvs) :: r))) :: (l.map cel ++ (a0, o) :: r.map cel)) a0 o o' ((p, .ins (He.ga K "Table") q.1 [("firsts", .ref q.2)]) :: (q.2, .dK (fsD (l ++ (n / 8, a0, kvs) :: r))) :: (l.map cel ++ (a0, o') :: r.map cel)) :=
      fun o o' => .there (.there (.app .here))
    have ec : cTab K p q (l ++ (n / 8, a0, kvs) :: r) = (p, .ins (He.ga K "Table") q.1 [("firsts", .ref q.2)]) :: (q.2, .dK (fsD (l ++ (n / 8, a0, kvs) :: r))) :: (l.map cel ++ (a0, .dK kvs) :: r.map cel) := by
      unfold cTab
      rw [List.map_append, List.map_cons]
    have O1 := O.eq ec
    have h1 := O1.get (at1 (.dK kvs) (.dK [])).mem
    have e5 : (valV (fsD (l ++ (n / 8, a0, kvs) :: r)) (Sum.inl (n / 8))) = some (V.ref a0) := by rw [valV_fsD, e]; rfl
    have fin : ∀ (H2 : Hp), Own H H2 (adr (cTab K p q (l ++ (n / 8, a0, kvs) :: r))) ((p, .ins (He.ga K "Table") q.1 [("firsts", .ref q.2)]) :: (q.2, .dK (fsD (l ++ (n / 8, a0, kvs) :: r))) :: (l.map cel ++ (a0, .dK (dropK kvs (Sum.inl (n % 8)))) :: r.map cel)) →
        (dropK kvs (Sum.inl (n % 8)) ≠ [] → Q .non H2) ∧ (dropK kvs (Sum.inl (n % 8)) = [] → Q .non (upd H2 q.2 (.dK (dropK (fsD (l ++ (n / 8, a0, kvs) :: r)) (Sum.inl (n / 8)))))) := fun H2 O2 => by
      constructor
      · intro hne
        refine k H2 (l ++ (n / 8, a0, dropK kvs (Sum.inl (n % 8))) :: r) (O2.eq ?_) (ok.mid hne (nd_dropK (ok.ndi _ hx)) fun j hj => ok.rngi _ hx j (dropK_sub j hj)) fun m => ?_
        · unfold cTab fsD
          rw [List.map_append, List.map_append, List.map_append, List.map_cons, List.map_cons, List.map_cons]
        · rw [tent_mid (by have := ok.nd; rw [List.map_append, List.map_cons] at this ⊢; exact this), tent_mid ok.nd]
          show (if n / 8 = m / 8 then valV (dropK kvs (Sum.inl (n % 8))) (Sum.inl (m % 8)) else tent (l ++ r) m) = if m = n then none else if n / 8 = m / 8 then valV kvs (Sum.inl (m % 8)) else tent (l ++ r) m
          by_cases q1 : n / 8 = m / 8
          · rw [if_pos q1, if_pos q1, valV_drop]
            by_cases q2 : n % 8 = m % 8
            · rw [if_pos (same_page.mpr ⟨q1, q2⟩), if_pos (by rw [q2])]
            · rw [if_neg (fun z => q2 (same_page.mp z).2), if_neg (fun z => q2 (Sum.inl.inj z).symm)]
          · rw [if_neg q1, if_neg q1, if_neg (fun z => q1 (same_page.mp z).1)]
      · intro hnil
        rw [dropK_mid (x := (n / 8, a0, kvs)) ok.nd]
        refine k _ (l ++ r) ((O2.wr (.there .here)).drop ?_) ok.less fun m => ?_
        · unfold cTab
          rw [List.map_append]
          exact .cons₂ _ (.cons₂ _ (.append (.refl _) (.cons _ (.refl _))))
        · rw [tent_mid ok.nd]
          show tent (l ++ r) m = if m = n then none else if n / 8 = m / 8 then valV kvs (Sum.inl (m % 8)) else tent (l ++ r) m
          by_cases q1 : n / 8 = m / 8
          · have hn := ok.nd
            rw [List.map_append, List.map_cons] at hn
            obtain ⟨n1, n2, n3⟩ := List.nodup_append.mp hn
            have : tent (l ++ r) m = none := by
              unfold tent
              rw [List.find?_eq_none.mpr]
              · rfl
              · intro y hy z
                have z := of_decide_eq_true z
                rcases List.mem_append.mp hy with w | w
                · exact n3 y.1 (List.mem_map.mpr ⟨y, w, rfl⟩) _ List.mem_cons_self (z.trans q1.symm)
                · exact (List.nodup_cons.mp n2).1 (List.mem_map.mpr ⟨y, w, z.trans q1.symm⟩)
            rw [this, if_pos q1]
            by_cases q2 : m = n
            · rw [if_pos q2]
            · rw [if_neg q2]
              have h6 := valV_drop kvs (Sum.inl (n % 8) : Key) (Sum.inl (m % 8))
              rw [hnil, if_neg (fun z => q2 (same_page.mpr ⟨q1, (Sum.inl.inj z).symm⟩))] at h6
              exact h6
          · rw [if_neg q1, if_neg (fun z => q1 (same_page.mp z).1)]
    walk_at "s"
    refine ⟨fun v hv => ?_, fun hv => ?_⟩
    · have O2 := O1.wr (at1 (.dK kvs) (.dK (dropK kvs (Sum.inl (n % 8)))))
      obtain ⟨f1, f2⟩ := fin _ O2
      walk_at "s"
      refine if_ii (fun hz => ?_) (fun hz => ?_)
      · walk_at "s"
        refine ⟨fun v hv => ?_, fun hv => ?_⟩
        · exact f2 (List.length_eq_zero_iff.mp (by omega))
        · rw [e5] at hv
          cases hv
      · exact f1 fun z => hz (by rw [z]; rfl)
    · obtain ⟨f1, f2⟩ := fin _ (by rw [dropK_none hv]; exact O1)
      rw [dropK_none hv] at f1 f2
      walk_at "s"
      refine if_ii (fun hz => ?_) (fun hz => ?_)
      · walk_at "s"
        refine ⟨fun v hv => ?_, fun hv => ?_⟩
        · exact f2 (List.length_eq_zero_iff.mp (by omega))
        · rw [e5] at hv
          cases hv
      · exact f1 fun z => hz (by rw [z]; rfl)
theorem sc_Table_pages : FnScope ["self", "found", "first", "second"] ["self"] (defScope s_Table_pages) := ⟨rfl, rfl, rfl, by decide +kernel, rfl, by decide +kernel, by decide +kernel⟩
theorem ok_Table_pages {P : Program} {w : World} {K : PySem.W.Frag} {mg : Str → Option Value} {base : Heap} (T : Txt K mg) : Cee P w K mg base 1 (He.fAd K ("Table", some "pages")) ["self"] (sp_Table_pages K) := by
  refine cee_of T.d_Table_pages sc_Table_pages (fun _ _ _ _ _ _ us hl => match us, hl with | [_], _ => rfl) (fun vs H Q E h => sp1_len h) (fun cdv A outer s H vs Q E hr h => ⟨_, (pss_cons (ps_set (i := 1) sc_Table_pages.nd rfl (Or.inl rfl) (pe_lst pa_nil)) (pss_cons (ps_for (passes_of rfl) rfl (PI.box (pi_list (pe_callB (call_sortedDW rfl) (by rfl) T.n_sorted (by decide +kernel) (pa_cons (pe_fld (pv 0) rfl) pa_nil)))) (pg_name (i := 2) sc_Table_pages.nd rfl (Or.inl rfl)) (pss_one (ps_for (passes_of rfl) rfl (PI.box (pi_list (pe_callB (call_sortedDW rfl) (by rfl) T.n_sorted (by decide +kernel) (pa_cons (pe_dget (hu_of hr) (pe_fld (pv 0) rfl) (pv 2) (fun _ _ => rfl)) pa_nil)))) (pg_name (i := 3) sc_Table_pages.nd rfl (Or.inl rfl)) (pss_one (ps_expr (pe_bm PySem.F.plainAttrs_list PySem.F.slot_list_append PySem.F.type_list_append mt_append (pv 1) (pa_cons (pe_op op_add (pe_op op_mul (pv 2) (pe_gc (v := .int 8) rfl (gI T.g_STEP))) (pv 3)) pa_nil))))))) (pss_one (ps_ret (pv 1))))), ?_⟩)
  obtain ⟨v0, rfl, h⟩ := h
  dsimp only [cxOf, L2.start]
  obtain ⟨p, q, fs, rfl, ok, O, k⟩ := h
  have hlen := ok.len
  have ek : (fsD fs).map (fun x => x.1) = (fs.map (·.1)).map Sum.inl := by unfold fsD; rw [List.map_map, List.map_map]; rfl
  walk_at "s"
  intro f hf
  have O1 := O.new (o := .lst []) hf
  walk_at "s"
  intro ys a hp hs ha
  have O2 := O1.new (o := .lst (ys.map V.int)) ha
  have hlt := sorted_lt hp hs ok.nd
  walk_at "s"
  refine forL (K := K) (a := a) (xs := ys.map V.int) (fun i σ H' => ∃ v2 v3 ns, σ = [some (.ref p), some (.ref f), v2, v3] ∧ Own H H' (adr (cTab K p q fs)) ((a, .lst (ys.map V.int)) :: (f, .lst (ns.map V.int)) :: cTab K p q fs) ∧
    ns.Pairwise (· < ·) ∧ (∀ m, m ∈ ns ↔ (m / 8 ∈ ys.take i ∧ (tent fs m).isSome = true)) ∧ ns.length ≤ 8 * i) ⟨_, _, [], rfl, O2, List.Pairwise.nil, by simp, Nat.le_refl _⟩ (fun i σ H' _ ⟨_, _, _, _, O, _⟩ => SqL.of (O.get List.mem_cons_self)) ?_ ?_
  · rintro i x σ H' hx ⟨v2, v3, ns, rfl, O3, hns, hmem, hl⟩
    obtain ⟨y, hy, rfl⟩ := map_get hx
    have hi : i < ys.length := (List.getElem?_eq_some_iff.mp hy).1
    have hyl : ys.length = fs.length := by rw [hp.length_eq, List.length_map]
    obtain ⟨z, hz, rfl⟩ : ∃ z ∈ fs, z.1 = y := List.mem_map.mp (hp.mem_iff.mp (List.mem_of_getElem? hy))
    have e6 : valV (fsD fs) (Sum.inl z.1) = some (V.ref z.2.1) := by
      rw [valV_fsD]
      cases e : fs.find? fun x => decide (x.1 = z.1) with
      | none => exact absurd (decide_eq_true rfl) (List.find?_eq_none.mp e z hz)
      | some x =>
        have h2 : x.1 = z.1 := by simpa using List.find?_some e
        have h3 : x = z := by
          obtain ⟨l, r, rfl⟩ := List.append_of_mem hz
          have hn := ok.nd
          rw [List.map_append, List.map_cons] at hn
          obtain ⟨n1, n2, n3⟩ := List.nodup_append.mp hn
          rcases List.mem_append.mp (List.mem_of_find?_eq_some e) with w | w
          · exact absurd h2 (n3 x.1 (List.mem_map.mpr ⟨x, w, rfl⟩) z.1 List.mem_cons_self)
          · rcases List.mem_cons.mp w with w | w
            · exact w
            · exact absurd (List.mem_map.mpr ⟨x, w, h2⟩) (List.nodup_cons.mp n2).1
        rw [h3]; rfl
    have h1 := O3.get (a := z.2.1) (o := .dK z.2.2) (List.mem_cons_of_mem _ (List.mem_cons_of_mem _ (List.mem_cons_of_mem _ (List.mem_cons_of_mem _ (List.mem_map.mpr ⟨z, hz, rfl⟩)))))
    obtain ⟨ks, eks, hks⟩ := keys_ints (ok.rngi z hz)
    have hkn : ks.Nodup := map_inl_nodup (by rw [← eks]; exact ok.ndi z hz)
    have hkl : ks.length ≤ 8 := nodup_small hkn hks
    walk_at "s"
    intro zs b hp2 hs2 hb
    have O4 := O3.new (o := .lst (zs.map V.int)) hb
    have hlt2 := sorted_lt hp2 hs2 hkn
    have hzl : zs.length ≤ 8 := by rw [hp2.length_eq]; exact hkl
    walk_at "s"
    refine forL (K := K) (a := b) (xs := zs.map V.int) (fun j σ H' => ∃ v3 ns, σ = [some (.ref p), some (.ref f), some (.int z.1), v3] ∧ Own H H' (adr (cTab K p q fs)) ((b, .lst (zs.map V.int)) :: (a, .lst (ys.map V.int)) :: (f, .lst (ns.map V.int)) :: cTab K p q fs) ∧
      ns.Pairwise (· < ·) ∧ (∀ m, m ∈ ns ↔ ((m / 8 ∈ ys.take i ∧ (tent fs m).isSome = true) ∨ (m / 8 = z.1 ∧ m % 8 ∈ zs.take j))) ∧ ns.length ≤ 8 * i + j) ⟨_, ns, rfl, O4, hns, fun m => by rw [hmem]; simp, hl⟩ (fun i σ H' _ ⟨_, _, _, O, _⟩ => SqL.of (O.get List.mem_cons_self)) ?_ ?_
    · rintro j x σ H2 hx2 ⟨v3, ns2, rfl, O5, hns2, hmem2, hl2⟩
      obtain ⟨u, hu, rfl⟩ := map_get hx2
      have hj : j < zs.length := (List.getElem?_eq_some_iff.mp hu).1
      have hu8 := hks u (hp2.mem_iff.mp (List.mem_of_getElem? hu))
      have hsz : ns2.length < 100000 := by omega
      walk_at "s"
      refine ⟨some (.int u), ns2 ++ [z.1 * 8 + u], rfl, ?_, ?_, ?_, ?_⟩
      · have e9 : (ns2 ++ [z.1 * 8 + u]).map V.int = ns2.map V.int ++ [V.int (z.1 * 8 + u)] := List.map_append
        rw [e9]
        exact O5.wr (.there (.there .here))
      · refine List.pairwise_append.mpr ⟨hns2, List.pairwise_singleton _ _, fun a ha b hb => ?_⟩
        rw [List.mem_singleton.mp hb]
        rcases (hmem2 a).mp ha with ⟨h3, _⟩ | ⟨h3, h4⟩
        · have := before hlt hy h3
          omega
        · have := before hlt2 hu h4
          omega
      · intro m
        rw [List.mem_append, hmem2, take_succ hu, List.mem_append, List.mem_singleton, List.mem_singleton]
        constructor
        · rintro ((h | h) | h)
          · exact .inl h
          · exact .inr ⟨h.1, .inl h.2⟩
          · exact .inr ⟨by omega, .inr (by omega)⟩
        · rintro (h | ⟨h, h5 | h5⟩)
          · exact .inl (.inl h)
          · exact .inl (.inr ⟨h, h5⟩)
          · exact .inr (by omega)
      · rw [List.length_append, List.length_singleton]; omega
    · rintro σ H2 ⟨v3, ns2, rfl, O5, hns2, hmem2, hl2⟩
      rw [List.length_map] at hmem2 hl2
      refine ⟨_, _, ns2, rfl, O5.drop (List.sublist_cons_self _ _), hns2, fun m => ?_, by omega⟩
      rw [hmem2, take_succ hy, List.mem_append, List.mem_singleton, List.take_of_length_le (Nat.le_refl _)]
      constructor
      · rintro (h | ⟨h, h5⟩)
        · exact ⟨.inl h.1, h.2⟩
        · refine ⟨.inr h, ?_⟩
          rw [tent_key ok hz m h.symm]
          cases q : valV z.2.2 (Sum.inl (m % 8) : Key) with
          | some _ => rfl
          | none =>
            refine absurd ?_ (valV_not q)
            rw [eks]
            exact List.mem_map.mpr ⟨_, hp2.mem_iff.mp h5, rfl⟩
      · rintro ⟨h | h, h5⟩
        · exact .inl ⟨h, h5⟩
        · refine .inr ⟨h, ?_⟩
          rw [tent_key ok hz m h.symm] at h5
          refine hp2.mem_iff.mpr ?_
          have h6 : (Sum.inl (m % 8) : Key) ∈ z.2.2.map (·.1) := by
            by_cases q : (Sum.inl (m % 8) : Key) ∈ z.2.2.map (·.1)
            · exact q
            · rw [valV_no q] at h5; cases h5
          rw [eks] at h6
          obtain ⟨r, hr1, hr2⟩ := List.mem_map.mp h6
          rw [← Sum.inl.inj hr2]; exact hr1
  · rintro σ H' ⟨v2, v3, ns, rfl, O3, hns, hmem, hl⟩
    rw [List.length_map] at hmem hl
    walk_at "s"
    refine k H' f ns (O3.drop (List.sublist_cons_self _ _)) hns fun m => ?_
    rw [hmem, List.take_of_length_le (Nat.le_refl _)]
    exact ⟨fun h => h.2, fun h => ⟨hp.mem_iff.mpr (tent_some h), h⟩⟩

/-! ## rooms: what stands in the heap -/
structure SG where
  p : Addr
  q : Addr × Addr × Addr
  os : List Int
  cs : List Pg
/-- a task's table: where its pages lie -/
structure TbG where
  t : Int
  p : Addr
  q : Addr × Addr
  fs : Fs
  en : Int → Option (Option Pla)
structure RG where
  dx : Addr
  SD : Addr
  TD : Addr
  OD : Addr
  st : Bool → SG
  nf : Nat
  ns : Nat
  tabs : List TbG
  ow : List (Pla × Addr × List Ow2)
  hand : Int
def kindS : Bool → Str
  | true => "frame"
  | false => "slot"
abbrev plaK (pl : Pla) : List Key := [Sum.inr (kindS pl.1), Sum.inl (pl.2 : Int)]
abbrev owK (o : Ow2) : List Key := [Sum.inl o.1, Sum.inl o.2]
abbrev ownD (ow : List (Pla × Addr × List Ow2)) : List (List Key × V) := ow.map fun x => (plaK x.1, V.ref x.2.1)
abbrev inD (l : List Ow2) : List (List Key × V) := l.map fun o => (owK o, V.bl true)
abbrev tabD (tabs : List TbG) : List (Key × V) := tabs.map fun x => (Sum.inl x.t, V.ref x.p)
abbrev cSG (K : PySem.W.Frag) (x : SG) : Cells := cSto K x.p x.q x.os x.cs
abbrev cTb (K : PySem.W.Frag) (x : TbG) : Cells := cTab K x.p x.q x.fs
abbrev insPg (K : PySem.W.Frag) (r : RG) : HO := .ins (He.ga K "Paging") r.dx [("stores", .ref r.SD), ("frames", .int r.nf), ("slots", .int r.ns), ("tables", .ref r.TD), ("owners", .ref r.OD), ("hand", .int r.hand)]
abbrev stD (r : RG) : List (Key × V) := [(Sum.inr "frame", .ref (r.st true).p), (Sum.inr "slot", .ref (r.st false).p)]
abbrev cOw (ow : List (Pla × Addr × List Ow2)) : Cells := ow.map fun x => (x.2.1, .dT (inD x.2.2))
abbrev cTbs (K : PySem.W.Frag) (tabs : List TbG) : Cells := tabs.flatMap (cTb K)
def cPg (K : PySem.W.Frag) (g : Addr) (r : RG) : Cells := (g, insPg K r) :: (r.SD, .dK (stD r)) :: (r.TD, .dK (tabD r.tabs)) :: (r.OD, .dT (ownD r.ow)) :: (cSG K (r.st true) ++ (cSG K (r.st false) ++ (cTbs K r.tabs ++ cOw r.ow)))
/-- a place, as its tuple -/
abbrev plaV (pl : Pla) : List V := [.str (kindS pl.1), .int pl.2]
theorem plaV_key (pl : Pla) : plaV pl = (plaK pl).map kV := rfl
theorem owV_key (o : Ow2) : [V.int o.1, V.int o.2] = (owK o).map kV := rfl
/-- an entry's value -/
def EntV (K : PySem.W.Frag) (H : Hp) (v : V) : Option Pla → Prop
  | none => v = .ref (He.ga K "BLANK")
  | some pl => ∃ a, v = .ref a ∧ H a = some (.tup (plaV pl))
def EntO (K : PySem.W.Frag) (H : Hp) : Option V → Option (Option Pla) → Prop
  | none, none => True
  | some v, some e => EntV K H v e
  | _, _ => False
structure RGd (K : PySem.W.Frag) (H : Hp) (r : RG) : Prop where
  st : ∀ k, StoOk (r.st k).os (r.st k).cs
  tab : ∀ x ∈ r.tabs, TabOk x.fs
  ents : ∀ x ∈ r.tabs, ∀ p, EntO K H (tent x.fs p) (x.en p)
  ndt : (r.tabs.map (·.t)).Nodup
  few : r.tabs.length ≤ 1000
  ndo : (r.ow.map (·.1)).Nodup
  inr : ∀ x ∈ r.ow, x.1 ∈ places r.nf r.ns
  two : r.nf + r.ns ≤ 1000
  hd : 0 ≤ r.hand
def RG.ps (r : RG) : PS where
  os := fun k => (r.st k).os
  cs := fun k => (r.st k).cs.map (·.2)
  own := fun pl => ((r.ow.find? fun x => decide (x.1 = pl)).map (·.2.2)).getD []
  ent := fun o => (r.tabs.find? fun x => decide (x.t = o.1)).bind fun x => x.en o.2
  hand := r.hand.toNat
/-- what all ops keep -/
structure Kp (r r' : RG) : Prop where
  nf : r'.nf = r.nf
  ns : r'.ns = r.ns
  tp : r'.tabs.map (fun x => (x.t, x.p)) = r.tabs.map (fun x => (x.t, x.p))
section
variable {K : PySem.W.Frag} {H H0 H' : Hp} {A : List Addr} {cs : Cells} {r r' r'' : RG} {g : Addr}
theorem Kp.refl : Kp r r := ⟨rfl, rfl, rfl⟩
theorem Kp.trans (h : Kp r r') (h' : Kp r' r'') : Kp r r'' := ⟨h'.nf.trans h.nf, h'.ns.trans h.ns, h'.tp.trans h.tp⟩
theorem Kp.ts (h : Kp r r') : r'.tabs.map (·.t) = r.tabs.map (·.t) := by
  have h1 := congrArg (List.map Prod.fst) h.tp
  rw [List.map_map, List.map_map] at h1
  exact h1
theorem EntV.mono {v : V} {e : Option Pla} (h : EntV K H v e) (O : Own H H' A cs) : EntV K H' v e := by
  cases e with
  | none => exact h
  | some pl =>
    obtain ⟨a, h1, h2⟩ := h
    exact ⟨a, h1, O.tp _ _ h2⟩
theorem EntO.mono {v : Option V} {e : Option (Option Pla)} (h : EntO K H v e) (O : Own H H' A cs) : EntO K H' v e := by
  cases v <;> cases e <;> first | exact h | exact EntV.mono h O
theorem RGd.mono (h : RGd K H r) (O : Own H H' A cs) : RGd K H' r := ⟨h.st, h.tab, fun x hx p => (h.ents x hx p).mono O, h.ndt, h.few, h.ndo, h.inr, h.two, h.hd⟩
theorem RGd.owl (h : RGd K H r) : r.ow.length ≤ 1000 := by
  have h1 := h.ndo
  have : (r.ow.map (·.1)).length ≤ (places r.nf r.ns).length := by
    have sub : ∀ {l m : List Pla}, l.Nodup → (∀ x ∈ l, x ∈ m) → l.length ≤ m.length := by
      intro l
      induction l with
      | nil => intro m _ _; exact Nat.zero_le _
      | cons a q ih =>
        intro m nd hm
        obtain ⟨n1, n2⟩ := List.nodup_cons.mp nd
        have h1 := ih (m := m.erase a) n2 fun o ho => (List.mem_erase_of_ne (fun z => n1 (by rw [← z]; exact ho))).mpr (hm o (.tail _ ho))
        have h2 := hm a (.head _)
        rw [List.length_erase_of_mem h2] at h1
        have h3 := List.length_pos_of_mem h2
        rw [List.length_cons]
        omega
    refine sub h1 fun x hx => ?_
    obtain ⟨y, hy, rfl⟩ := List.mem_map.mp hx
    exact h.inr y hy
  rw [List.length_map, places_len] at this
  have := h.two
  omega
theorem tabs_split {tabs : List TbG} {t : Int} (h : t ∈ tabs.map (·.t)) : ∃ l x q, tabs = l ++ x :: q ∧ x.t = t := by
  obtain ⟨x, hx, rfl⟩ := List.mem_map.mp h
  obtain ⟨l, q, rfl⟩ := List.append_of_mem hx
  exact ⟨l, x, q, rfl, rfl⟩
theorem tabs_find {l q : List TbG} {x : TbG} (nd : ((l ++ x :: q).map (·.t)).Nodup) {t : Int} : (l ++ x :: q).find? (fun y => decide (y.t = t)) = if t = x.t then some x else (l ++ q).find? (fun y => decide (y.t = t)) := by
  rw [List.map_append, List.map_cons] at nd
  obtain ⟨n1, n2, n3⟩ := List.nodup_append.mp nd
  obtain ⟨n4, n5⟩ := List.nodup_cons.mp n2
  rw [List.find?_append, List.find?_append, List.find?_cons]
  by_cases e : t = x.t
  · have hl : l.find? (fun y => decide (y.t = t)) = none := List.find?_eq_none.mpr fun y hy z => n3 y.t (List.mem_map.mpr ⟨y, hy, rfl⟩) x.t (.head _) ((of_decide_eq_true z).trans e)
    rw [hl, decide_eq_true e.symm, if_pos e]
    rfl
  · rw [if_neg e, decide_eq_false (fun z => e z.symm)]
theorem tabD_val (tabs : List TbG) (t : Int) : valV (tabD tabs) (Sum.inl t) = (tabs.find? fun x => decide (x.t = t)).map fun x => V.ref x.p := by
  induction tabs with
  | nil => rfl
  | cons x r ih =>
    rw [List.find?_cons]
    show valV ((Sum.inl x.t, V.ref x.p) :: tabD r) (Sum.inl t) = _
    by_cases e : x.t = t
    · rw [valV_pos (by show (Sum.inl x.t : Key) = _; rw [e]), decide_eq_true e]; rfl
    · rw [valV_neg (by show ¬ (Sum.inl x.t : Key) = _; exact fun z => e (Sum.inl.inj z)), decide_eq_false e]; exact ih
theorem plaK_inj {a b : Pla} (h : plaK a = plaK b) : a = b := by
  obtain ⟨k, n⟩ := a
  obtain ⟨k', n'⟩ := b
  have h1 := (List.cons.inj h).1
  have h2 := (List.cons.inj (List.cons.inj h).2).1
  have h3 : (n : Int) = n' := Sum.inl.inj h2
  have h4 : kindS k = kindS k' := Sum.inr.inj h1
  have h5 : n = n' := by omega
  subst h5
  cases k <;> cases k' <;> first | rfl | exact absurd h4 (by decide)
theorem owK_inj {a b : Ow2} (h : owK a = owK b) : a = b := Prod.ext (Sum.inl.inj (List.cons.inj h).1) (Sum.inl.inj (List.cons.inj (List.cons.inj h).2).1)
theorem ownD_val (ow : List (Pla × Addr × List Ow2)) (pl : Pla) : valV (ownD ow) (plaK pl) = (ow.find? fun x => decide (x.1 = pl)).map fun x => V.ref x.2.1 := by
  induction ow with
  | nil => rfl
  | cons x r ih =>
    rw [List.find?_cons]
    show valV ((plaK x.1, V.ref x.2.1) :: ownD r) (plaK pl) = _
    by_cases e : x.1 = pl
    · rw [valV_pos (by show plaK x.1 = _; rw [e]), decide_eq_true e]; rfl
    · rw [valV_neg (by show ¬ plaK x.1 = _; exact fun z => e (plaK_inj z)), decide_eq_false e]; exact ih
theorem inD_val (l : List Ow2) (o : Ow2) : valV (inD l) (owK o) = if o ∈ l then some (V.bl true) else none := by
  induction l with
  | nil => rfl
  | cons x r ih =>
    show valV ((owK x, V.bl true) :: inD r) (owK o) = _
    by_cases e : x = o
    · rw [valV_pos (by show owK x = _; rw [e]), if_pos (by rw [e]; exact .head _)]
    · rw [valV_neg (by show ¬ owK x = _; exact fun z => e (owK_inj z)), ih]
      by_cases h : o ∈ r
      · rw [if_pos h, if_pos (.tail _ h)]
      · rw [if_neg h, if_neg (fun z => (List.mem_cons.mp z).elim (fun y => e y.symm) h)]
theorem ow_find {l q : List (Pla × Addr × List Ow2)} {x : Pla × Addr × List Ow2} (nd : ((l ++ x :: q).map (·.1)).Nodup) {pl : Pla} : (l ++ x :: q).find? (fun y => decide (y.1 = pl)) = if pl = x.1 then some x else (l ++ q).find? (fun y => decide (y.1 = pl)) := by
  rw [List.map_append, List.map_cons] at nd
  obtain ⟨n1, n2, n3⟩ := List.nodup_append.mp nd
  obtain ⟨n4, n5⟩ := List.nodup_cons.mp n2
  rw [List.find?_append, List.find?_append, List.find?_cons]
  by_cases e : pl = x.1
  · have hl : l.find? (fun y => decide (y.1 = pl)) = none := List.find?_eq_none.mpr fun y hy z => n3 y.1 (List.mem_map.mpr ⟨y, hy, rfl⟩) x.1 (.head _) ((of_decide_eq_true z).trans e)
    rw [hl, decide_eq_true e.symm, if_pos e]
    rfl
  · rw [if_neg e, decide_eq_false (fun z => e z.symm)]
/-! ### blocks of cells -/
theorem cPg_st (k : Bool) (x : SG) (hp : x.p = (r.st k).p) : Sub (cPg K g r) (cSG K (r.st k)) (cSG K x) (cPg K g { r with st := fupd r.st k x }) := by
  have e : stD { r with st := fupd r.st k x } = stD r := by
    cases k
    · show [((Sum.inr "frame" : Key), V.ref (r.st true).p), (Sum.inr "slot", .ref x.p)] = _
      rw [hp]
    · show [((Sum.inr "frame" : Key), V.ref x.p), (Sum.inr "slot", .ref (r.st false).p)] = _
      rw [hp]
  unfold cPg
  rw [e]
  cases k
  · exact .there (.there (.there (.there (.app (.appl .all)))))
  · exact .there (.there (.there (.there (.appl .all))))
theorem cTbs_mid (l q : List TbG) (x : TbG) : cTbs K (l ++ x :: q) = cTbs K l ++ (cTb K x ++ cTbs K q) := by
  unfold cTbs
  rw [List.flatMap_append, List.flatMap_cons]
theorem tabD_mid (l q : List TbG) (x x' : TbG) (ht : x'.t = x.t) (hp : x'.p = x.p) : tabD (l ++ x' :: q) = tabD (l ++ x :: q) := by
  unfold tabD
  rw [List.map_append, List.map_append, List.map_cons, List.map_cons, ht, hp]
theorem cPg_tab {l q : List TbG} {x x' : TbG} (h : r.tabs = l ++ x :: q) (ht : x'.t = x.t) (hp : x'.p = x.p) : Sub (cPg K g r) (cTb K x) (cTb K x') (cPg K g { r with tabs := l ++ x' :: q }) := by
  unfold cPg
  dsimp only
  rw [h, tabD_mid l q x x' ht hp, cTbs_mid, cTbs_mid]
  exact .there (.there (.there (.there (.app (.app (.appl (.app (.appl .all))))))))
end

/-! ## rooms: paging, its promises -/
def OwAt (H : Hp) (b : Addr) (o : Ow2) : Prop := H b = some (.tup [.int o.1, .int o.2])
abbrev RG.has (r : RG) (t : Int) : Prop := t ∈ r.tabs.map (·.t)
def sp_Paging_entry (K : PySem.W.Frag) : Sp := sp2 fun self y H Q _ => ∃ g r b o, self = .ref g ∧ y = .ref b ∧ OwAt H b o ∧ RGd K H r ∧ Own H H (adr (cPg K g r)) (cPg K g r) ∧ r.has o.1 ∧ ∀ v, EntO K H v (r.ps.ent o) → Q (v.getD .non) H
def sp_Paging_lay (K : PySem.W.Frag) : Sp := sp3 fun self y z H Q _ => ∃ g r b o e, self = .ref g ∧ y = .ref b ∧ OwAt H b o ∧ EntV K H z e ∧ RGd K H r ∧ Own H H (adr (cPg K g r)) (cPg K g r) ∧ r.has o.1 ∧ 0 ≤ o.2 ∧ o.2 < 64 ∧
  (∀ pl, e = some pl → pl ∈ places r.nf r.ns ∧ o ∉ r.ps.own pl ∧ (r.ps.own pl).length < 10000) ∧
  ∀ H' r', Own H H' (adr (cPg K g r)) (cPg K g r') → RGd K H' r' → Kp r r' → r'.ps = layP r.ps o e → Q .non H'
theorem RG.ent_mid {r : RG} {l q : List TbG} {x : TbG} (h : r.tabs = l ++ x :: q) (nd : (r.tabs.map (·.t)).Nodup) (p : Int) : r.ps.ent (x.t, p) = x.en p := by
  show (r.tabs.find? (fun y => decide (y.t = x.t))).bind (fun y => y.en p) = _
  rw [h] at nd ⊢
  rw [tabs_find nd, if_pos rfl]
  rfl
theorem RGd.set_tab {K : PySem.W.Frag} {H : Hp} {r : RG} {l q : List TbG} {x x' : TbG} (h : RGd K H r) (e : r.tabs = l ++ x :: q) (ht : x'.t = x.t) (h1 : TabOk x'.fs) (h2 : ∀ p, EntO K H (tent x'.fs p) (x'.en p)) : RGd K H { r with tabs := l ++ x' :: q } := by
  have hm : ∀ y ∈ l ++ x' :: q, y = x' ∨ y ∈ r.tabs := fun y hy => by
    rw [e]
    rcases List.mem_append.mp hy with z | z
    · exact .inr (List.mem_append_left _ z)
    · rcases List.mem_cons.mp z with z | z
      · exact .inl z
      · exact .inr (List.mem_append_right _ (.tail _ z))
  refine ⟨h.st, fun y hy => ?_, fun y hy p => ?_, ?_, ?_, h.ndo, h.inr, h.two, h.hd⟩
  · rcases hm y hy with rfl | z
    · exact h1
    · exact h.tab y z
  · rcases hm y hy with rfl | z
    · exact h2 p
    · exact h.ents y z p
  · have := h.ndt
    rw [e, List.map_append, List.map_cons] at this
    show ((l ++ x' :: q).map (·.t)).Nodup
    rw [List.map_append, List.map_cons, ht]
    exact this
  · have := h.few
    rw [e, List.length_append, List.length_cons] at this
    show (l ++ x' :: q).length ≤ 1000
    rw [List.length_append, List.length_cons]
    exact this
theorem RG.ps_tab {r : RG} {l q : List TbG} {x x' : TbG} (e : r.tabs = l ++ x :: q) (nd : (r.tabs.map (·.t)).Nodup) (ht : x'.t = x.t) : (RG.ps { r with tabs := l ++ x' :: q }).ent = fun o => if o.1 = x.t then x'.en o.2 else r.ps.ent o := by
  funext o
  show ((l ++ x' :: q).find? (fun y => decide (y.t = o.1))).bind (fun y => y.en o.2) = if o.1 = x.t then x'.en o.2 else (r.tabs.find? (fun y => decide (y.t = o.1))).bind (fun y => y.en o.2)
  have nd' : ((l ++ x' :: q).map (·.t)).Nodup := by
    rw [e, List.map_append, List.map_cons] at nd
    rw [List.map_append, List.map_cons, ht]
    exact nd
  rw [e] at nd
  rw [e, tabs_find nd', tabs_find nd, ht]
  by_cases h : o.1 = x.t
  · rw [if_pos h, if_pos h]; rfl
  · rw [if_neg h, if_neg h, if_neg h]
theorem EntO.upd {K : PySem.W.Frag} {H : Hp} {fs fs' : Fs} {en : Int → Option (Option Pla)} {p : Int} {v : V} {e : Option Pla} (h : ∀ p, EntO K H (tent fs p) (en p)) (hv : EntV K H v e) (hm : ∀ m, tent fs' m = if m = p then some v else tent fs m) (m : Int) : EntO K H (tent fs' m) (fupd en p (some e) m) := by
  rw [hm]
  by_cases z : m = p
  · rw [if_pos z, z, fupd_same]
    exact hv
  · rw [if_neg z, fupd_ne z]
    exact h m
theorem sc_Paging_entry : FnScope ["self", "owner", "task", "page"] ["self", "owner"] (defScope s_Paging_entry) := ⟨rfl, rfl, rfl, by decide +kernel, rfl, by decide +kernel, by decide +kernel⟩
theorem ok_Paging_entry {P : Program} {w : World} {K : PySem.W.Frag} {mg : Str → Option Value} {base : Heap} (T : Txt K mg) : Cee P w K mg base 2 (He.fAd K ("Paging", some "entry")) ["self", "owner"] (sp_Paging_entry K) := by
  have c_Table_get : Cee P w K mg base 1 (He.fAd K ("Table", some "get")) ["self", "page"] (sp_Table_get K) := ok_Table_get T
  refine cee_of T.d_Paging_entry sc_Paging_entry (fun _ _ _ _ _ _ us hl => match us, hl with | [_, _], _ => rfl) (fun vs H Q E h => sp2_len h) (fun cdv A outer s H vs Q E hr h => ⟨_, (pss_cons (ps_asg (pv 1) (pg_tup rfl (pgs_cons (pg_name (i := 2) sc_Paging_entry.nd rfl (Or.inl rfl)) (pgs_cons (pg_name (i := 3) sc_Paging_entry.nd rfl (Or.inl rfl)) pgs_nil)))) (pss_one (ps_ret (pe_m (pe_dget (hu_of hr) (pe_fld (pv 0) rfl) (pv 2) (fun _ _ => rfl)) T.c_Table T.m_Table_get c_Table_get (hr.mono (by decide)) (takes_of rfl rfl rfl rfl) (pa_cons (pv 3) pa_nil))))), ?_⟩)
  obtain ⟨v0, v1, rfl, h⟩ := h
  dsimp only [cxOf, L2.start]
  obtain ⟨g, r, b, o, rfl, rfl, hb, gd, O, ht, k⟩ := h
  obtain ⟨t, p⟩ := o
  have hb : H b = some (.tup [.int t, .int p]) := hb
  obtain ⟨l, x, q, he, rfl⟩ := tabs_split ht
  have hg := O.get (a := g) (o := insPg K r) (.head _)
  have hTD := O.get (a := r.TD) (o := .dK (tabD r.tabs)) (.tail _ (.tail _ (.head _)))
  have hx : x ∈ r.tabs := by rw [he]; exact List.mem_append_right _ (.head _)
  have hv : valV (tabD r.tabs) (Sum.inl x.t) = some (.ref x.p) := by
    have nd := gd.ndt
    rw [he] at nd
    rw [tabD_val, he, tabs_find nd, if_pos rfl]
    rfl
  have Ox := O.blk (s' := cTb K x) (cPg_tab he rfl rfl)
  have hxp := Ox.get (.head _)
  walk_at "s"
  refine ask2 ⟨x.p, x.q, x.fs, p, rfl, rfl, Ox, ?_⟩
  have h1 := gd.ents x hx p
  rw [← RG.ent_mid he gd.ndt p] at h1
  exact k _ h1
theorem stD_val (r : RG) (k : Bool) : valV (stD r) (Sum.inr (kindS k)) = some (.ref (r.st k).p) := by cases k <;> rfl
theorem RGd.set_st {K : PySem.W.Frag} {H : Hp} {r : RG} (h : RGd K H r) (k : Bool) {x : SG} (ok : StoOk x.os x.cs) : RGd K H { r with st := fupd r.st k x } := by
  refine ⟨fun j => ?_, h.tab, h.ents, h.ndt, h.few, h.ndo, h.inr, h.two, h.hd⟩
  show StoOk (fupd r.st k x j).os (fupd r.st k x j).cs
  unfold fupd
  split
  · exact ok
  · exact h.st j
theorem RG.ps_st (r : RG) (k : Bool) (x : SG) : RG.ps { r with st := fupd r.st k x } = { r.ps with os := fupd r.ps.os k x.os, cs := fupd r.ps.cs k (x.cs.map (·.2)) } := by
  have e1 : (fun j => (fupd r.st k x j).os) = fupd r.ps.os k x.os := by
    funext j
    unfold fupd
    split <;> rfl
  have e2 : (fun j => (fupd r.st k x j).cs.map (·.2)) = fupd r.ps.cs k (x.cs.map (·.2)) := by
    funext j
    unfold fupd
    split <;> rfl
  show PS.mk (fun j => (fupd r.st k x j).os) (fun j => (fupd r.st k x j).cs.map (·.2)) _ _ _ = _
  rw [e1, e2]
  rfl
theorem fupd_id {κ α : Type} [DecidableEq κ] {f : κ → α} {k : κ} : fupd f k (f k) = f := by
  funext j
  unfold fupd
  split
  · rename_i h; rw [h]
  · rfl
/-- the counts of a store change at one place -/
theorem RG.ps_cnt (r : RG) (pl : Pla) (n : Int) : RG.ps { r with st := fupd r.st pl.1 { (r.st pl.1) with os := (r.st pl.1).os.set pl.2 n } } = cntP r.ps pl n := by
  rw [RG.ps_st]
  unfold cntP setAt
  show PS.mk _ (fupd r.ps.cs pl.1 (r.ps.cs pl.1)) _ _ _ = _
  rw [fupd_id]
  rfl
theorem blank_ne {K : PySem.W.Frag} {H : Hp} {v : V} {e : Option Pla} {Q : VK} (q : SqT K H (He.ga K "BLANK") [.str "blank"]) (h : EntV K H v e) (k : Q (.bl e.isSome) H) : rNeD K v (.ref (He.ga K "BLANK")) H Q := by
  have sb : SeqAt.shaped (.tuple [.str "blank"]) = true := by decide +kernel
  cases e with
  | none =>
    cases h
    refine ⟨_, _, .tup q (.cons (.str _) .nil), .tup q (.cons (.str _) .nil), sb, sb, ?_⟩
    exact k
  | some pl =>
    obtain ⟨a, rfl, ha⟩ := h
    refine ⟨_, _, .tup (SqT.of ha) (.cons (.str _) (.cons (.int _) .nil)), .tup q (.cons (.str _) .nil), ?_, sb, ?_⟩
    · have h0 : (PyData.canLay0 (.tuple [.str (kindS pl.1), .int pl.2]) && decide (PyData.depth (.tuple [.str (kindS pl.1), .int pl.2]) ≤ 64)) = true := by
        have hz : PyData.strOk (kindS pl.1) = true := by cases pl.1 <;> decide +kernel
        simp [PyData.canLay0, PyData.canLayAll0, PyData.depth, PyData.depthAll, hz]
      exact h0
    · have e : PyData.eqv (.tuple [.str (kindS pl.1), .int pl.2]) (.tuple [.str "blank"]) = false := by
        show (PyData.eqv (.str (kindS pl.1)) (.str "blank") && false) = false
        rw [Bool.and_false]
      rw [e]
      exact k
theorem blank_eq {K : PySem.W.Frag} {H : Hp} {v : V} {e : Option Pla} {Q : VK} (q : SqT K H (He.ga K "BLANK") [.str "blank"]) (h : EntV K H v e) (k : Q (.bl (!e.isSome)) H) : rEqD K v (.ref (He.ga K "BLANK")) H Q := by
  obtain ⟨d, d', a, b, c, e1, h1⟩ := blank_ne (Q := fun x H => Q (match x with | .bl b => .bl (!b) | y => y) H) q h k
  refine ⟨d, d', a, b, c, e1, ?_⟩
  have h1 : Q (.bl (!!PyData.eqv d d')) H := h1
  rwa [Bool.not_not] at h1
theorem ow_split {ow : List (Pla × Addr × List Ow2)} {pl : Pla} {x : Pla × Addr × List Ow2} (h : ow.find? (fun y => decide (y.1 = pl)) = some x) : ∃ l q, ow = l ++ (pl, x.2) :: q := by
  have e1 : x.1 = pl := by simpa using List.find?_some h
  obtain ⟨l, q, e2⟩ := List.append_of_mem (List.mem_of_find?_eq_some h)
  exact ⟨l, q, by rw [e2, ← e1]⟩
theorem ownD_mid (l q : List (Pla × Addr × List Ow2)) (pl : Pla) (a : Addr) (m m' : List Ow2) : ownD (l ++ (pl, a, m') :: q) = ownD (l ++ (pl, a, m) :: q) := by
  unfold ownD
  rw [List.map_append, List.map_append, List.map_cons, List.map_cons]
theorem inD_put {l : List Ow2} {o : Ow2} (h : o ∉ l) : L2.putK (inD l) (owK o) (V.bl true) = inD (l ++ [o]) := by
  rw [L2.putK_new _ (by rw [inD_val, if_neg h])]
  unfold inD
  rw [List.map_append]
  rfl
theorem ow_put {l q : List (Pla × Addr × List Ow2)} {pl : Pla} {a : Addr} {m m' : List Ow2} (nd : ((l ++ (pl, a, m) :: q).map (·.1)).Nodup) : (fun p => (((l ++ (pl, a, m') :: q).find? fun x => decide (x.1 = p)).map (·.2.2)).getD []) = fupd (fun p => (((l ++ (pl, a, m) :: q).find? fun x => decide (x.1 = p)).map (·.2.2)).getD []) pl m' := by
  have nd' : ((l ++ (pl, a, m') :: q).map (·.1)).Nodup := by
    rw [List.map_append, List.map_cons] at nd ⊢
    exact nd
  funext p
  unfold fupd
  dsimp only
  rw [ow_find nd', ow_find nd]
  by_cases h : p = pl
  · rw [if_pos h, if_pos h]; rfl
  · rw [if_neg h, if_neg h, if_neg h]
theorem cPg_ow {K : PySem.W.Frag} {g : Addr} {r : RG} {l q : List (Pla × Addr × List Ow2)} {pl : Pla} {a : Addr} {m : List Ow2} (m' : List Ow2) (h : r.ow = l ++ (pl, a, m) :: q) : At (cPg K g r) a (.dT (inD m)) (.dT (inD m')) (cPg K g { r with ow := l ++ (pl, a, m') :: q }) := by
  unfold cPg
  dsimp only
  rw [h, ownD_mid l q pl a m m']
  unfold cOw
  rw [List.map_append, List.map_append, List.map_cons, List.map_cons]
  exact .there (.there (.there (.there (.app (.app (.app (.app .here)))))))
theorem RGd.set_ow {K : PySem.W.Frag} {H : Hp} {r : RG} {l q : List (Pla × Addr × List Ow2)} {pl : Pla} {a : Addr} {m m' : List Ow2} (h : RGd K H r) (e : r.ow = l ++ (pl, a, m) :: q) : RGd K H { r with ow := l ++ (pl, a, m') :: q } := by
  refine ⟨h.st, h.tab, h.ents, h.ndt, h.few, ?_, fun y hy => ?_, h.two, h.hd⟩
  · have := h.ndo
    rw [e, List.map_append, List.map_cons] at this
    show ((l ++ (pl, a, m') :: q).map (·.1)).Nodup
    rw [List.map_append, List.map_cons]
    exact this
  · have hi := h.inr
    rw [e] at hi
    rcases List.mem_append.mp hy with z | z
    · exact hi y (List.mem_append_left _ z)
    · rcases List.mem_cons.mp z with rfl | z
      · exact hi (pl, a, m) (List.mem_append_right _ (.head _))
      · exact hi y (List.mem_append_right _ (.tail _ z))
theorem RG.ps_ow {r : RG} {l q : List (Pla × Addr × List Ow2)} {pl : Pla} {a : Addr} {m m' : List Ow2} (e : r.ow = l ++ (pl, a, m) :: q) (nd : (r.ow.map (·.1)).Nodup) : RG.ps { r with ow := l ++ (pl, a, m') :: q } = { r.ps with own := fupd r.ps.own pl m' } := by
  rw [e] at nd
  have h := ow_put (m' := m') nd
  show PS.mk _ _ (fun p => (((l ++ (pl, a, m') :: q).find? fun x => decide (x.1 = p)).map (·.2.2)).getD []) _ _ = PS.mk _ _ (fupd (fun p => ((r.ow.find? fun x => decide (x.1 = p)).map (·.2.2)).getD []) pl m') _ _
  rw [h, e]
  rfl
theorem RG.own_mid {r : RG} {l q : List (Pla × Addr × List Ow2)} {pl : Pla} {a : Addr} {m : List Ow2} (e : r.ow = l ++ (pl, a, m) :: q) (nd : (r.ow.map (·.1)).Nodup) : r.ps.own pl = m := by
  show ((r.ow.find? fun x => decide (x.1 = pl)).map (·.2.2)).getD [] = m
  rw [e] at nd ⊢
  rw [ow_find nd, if_pos rfl]
  rfl
theorem RG.own_none {r : RG} {pl : Pla} (h : r.ow.find? (fun x => decide (x.1 = pl)) = none) : r.ps.own pl = [] := by
  show ((r.ow.find? fun x => decide (x.1 = pl)).map (·.2.2)).getD [] = []
  rw [h]
  rfl
/-- a place gets a dict of owners -/
theorem RG.ps_ow_new {r : RG} {pl : Pla} {a : Addr} {m : List Ow2} (h : r.ow.find? (fun x => decide (x.1 = pl)) = none) : RG.ps { r with ow := r.ow ++ [(pl, a, m)] } = { r.ps with own := fupd r.ps.own pl m } := by
  show PS.mk _ _ (fun p => (((r.ow ++ [(pl, a, m)]).find? fun x => decide (x.1 = p)).map (·.2.2)).getD []) _ _ = PS.mk _ _ (fupd (fun p => ((r.ow.find? fun x => decide (x.1 = p)).map (·.2.2)).getD []) pl m) _ _
  congr 1
  funext p
  unfold fupd
  dsimp only
  rw [List.find?_append, List.find?_cons]
  by_cases e : p = pl
  · rw [if_pos e, e, h, decide_eq_true rfl]
    rfl
  · rw [if_neg e, decide_eq_false (fun z => e z.symm)]
    cases r.ow.find? (fun x => decide (x.1 = p)) <;> rfl
theorem RGd.new_ow {K : PySem.W.Frag} {H : Hp} {r : RG} {pl : Pla} {a : Addr} {m : List Ow2} (h : RGd K H r) (hn : r.ow.find? (fun x => decide (x.1 = pl)) = none) (hp : pl ∈ places r.nf r.ns) : RGd K H { r with ow := r.ow ++ [(pl, a, m)] } := by
  refine ⟨h.st, h.tab, h.ents, h.ndt, h.few, ?_, fun y hy => ?_, h.two, h.hd⟩
  · show ((r.ow ++ [(pl, a, m)]).map (·.1)).Nodup
    rw [List.map_append]
    refine List.nodup_append.mpr ⟨h.ndo, List.nodup_cons.mpr ⟨List.not_mem_nil, List.nodup_nil⟩, fun x hx y hy e => ?_⟩
    rw [List.mem_singleton.mp hy] at e
    obtain ⟨z, hz, e2⟩ := List.mem_map.mp hx
    exact List.find?_eq_none.mp hn z hz (decide_eq_true (e2.trans e))
  · rcases List.mem_append.mp hy with z | z
    · exact h.inr y z
    · rw [List.mem_singleton.mp z]
      exact hp
theorem own_ex {f : Pla → List Ow2} {pl : Pla} {m : List Ow2} {s : PS} (h : s.own = f) : { s with own := fupd f pl m } = { s with own := fupd s.own pl m } := by rw [h]
theorem sc_Paging_lay : FnScope ["self", "owner", "entry", "task", "page"] ["self", "owner", "entry"] (defScope s_Paging_lay) := ⟨rfl, rfl, rfl, by decide +kernel, rfl, by decide +kernel, by decide +kernel⟩
theorem ok_Paging_lay {P : Program} {w : World} {K : PySem.W.Frag} {mg : Str → Option Value} {base : Heap} (T : Txt K mg) : Cee P w K mg base 2 (He.fAd K ("Paging", some "lay")) ["self", "owner", "entry"] (sp_Paging_lay K) := by
  have c_Table_lay : Cee P w K mg base 1 (He.fAd K ("Table", some "lay")) ["self", "page", "entry"] (sp_Table_lay K) := ok_Table_lay T
  refine cee_of T.d_Paging_lay sc_Paging_lay (fun _ _ _ _ _ _ us hl => match us, hl with | [_, _, _], _ => rfl) (fun vs H Q E h => sp3_len h) (fun cdv A outer s H vs Q E hr h => ⟨_, (pss_cons (ps_asg (pv 1) (pg_tup rfl (pgs_cons (pg_name (i := 3) sc_Paging_lay.nd rfl (Or.inl rfl)) (pgs_cons (pg_name (i := 4) sc_Paging_lay.nd rfl (Or.inl rfl)) pgs_nil)))) (pss_cons (ps_expr (pe_m (pe_dget (hu_of hr) (pe_fld (pv 0) rfl) (pv 3) (fun _ _ => rfl)) T.c_Table T.m_Table_lay c_Table_lay (hr.mono (by decide)) (takes_of rfl rfl rfl rfl) (pa_cons (pv 4) (pa_cons (pv 2) pa_nil)))) (pss_one (ps_if (pt_cmpR (op_neD hr.units) (pv 2) (pe_glob (v := .ref (He.ga K "BLANK")) rfl T.g_BLANK rfl) (nomark _)) (pss_one (ps_dput (hu_of hr) (pe_bm PySem.F.plainAttrs_dict PySem.F.slot_dict_setdefault PySem.F.type_dict_setdefault (mt_setdefT (hu_of hr)) (pe_fld (pv 0) rfl) (pa_cons (pv 2) (pa_cons pe_dnewT pa_nil))) (pv 1) pe_bl rfl)) pss_nil)))), ?_⟩)
  obtain ⟨v0, v1, v2, rfl, h⟩ := h
  dsimp only [cxOf, L2.start]
  obtain ⟨g, r, b, o, e, rfl, rfl, hb, hz, gd, O, ht, h0, h1, hpl, k⟩ := h
  obtain ⟨t, p⟩ := o
  have hb : H b = some (.tup [.int t, .int p]) := hb
  obtain ⟨l, x, q, he, rfl⟩ := tabs_split ht
  have hg := O.get (a := g) (o := insPg K r) (.head _)
  have hTD := O.get (a := r.TD) (o := .dK (tabD r.tabs)) (.tail _ (.tail _ (.head _)))
  have hx : x ∈ r.tabs := by rw [he]; exact List.mem_append_right _ (.head _)
  have hv : valV (tabD r.tabs) (Sum.inl x.t) = some (.ref x.p) := by
    have nd := gd.ndt
    rw [he] at nd
    rw [tabD_val, he, tabs_find nd, if_pos rfl]
    rfl
  have Ox := O.blk (s' := cTb K x) (cPg_tab he rfl rfl)
  have hxp := Ox.get (.head _)
  walk_at "s"
  refine ask3 ⟨x.p, x.q, x.fs, p, rfl, rfl, h0, h1, gd.tab x hx, Ox, fun H2 fs' O2 ok2 hm => ?_⟩
  have O3 := O.call (cPg_tab (x' := ⟨x.t, x.p, x.q, fs', fupd x.en p (some e)⟩) he rfl rfl) O2
  have gd2 := (gd.mono O2).set_tab (x' := ⟨x.t, x.p, x.q, fs', fupd x.en p (some e)⟩) he rfl ok2 (EntO.upd (fun m => (gd.ents x hx m).mono O2) (hz.mono O2) hm)
  have hps : (RG.ps { r with tabs := l ++ ⟨x.t, x.p, x.q, fs', fupd x.en p (some e)⟩ :: q }).ent = fupd r.ps.ent (x.t, p) (some e) := by
    rw [RG.ps_tab (x' := ⟨x.t, x.p, x.q, fs', fupd x.en p (some e)⟩) he gd.ndt rfl]
    funext o
    by_cases z : o.1 = x.t
    · rw [if_pos z]
      show fupd x.en p (some e) o.2 = _
      by_cases z2 : o.2 = p
      · have e2 : o = (x.t, p) := Prod.ext z z2
        rw [e2, fupd_same, fupd_same]
      · rw [fupd_ne z2, fupd_ne (fun y => z2 (by rw [y]))]
        exact (RG.ent_mid he gd.ndt o.2).symm.trans (by rw [← z])
    · rw [if_neg z, fupd_ne (fun y => z (by rw [y]))]
  have hkp : Kp r { r with tabs := l ++ ⟨x.t, x.p, x.q, fs', fupd x.en p (some e)⟩ :: q } := ⟨rfl, rfl, by
    show (l ++ _ :: q).map _ = _
    rw [he, List.map_append, List.map_append]
    rfl⟩
  generalize hr2 : ({ r with tabs := l ++ ⟨x.t, x.p, x.q, fs', fupd x.en p (some e)⟩ :: q } : RG) = r2 at O3 gd2 hps hkp
  have eow : r2.ow = r.ow := by rw [← hr2]
  have enf : r2.nf = r.nf := hkp.nf
  have ens : r2.ns = r.ns := hkp.ns
  have eps : r2.ps = { r.ps with ent := fupd r.ps.ent (x.t, p) (some e) } := by
    rw [← hps, ← hr2]
    rfl
  have hz2 := hz.mono O2
  have hb2 := O2.tp _ _ hb
  have hg2 := O3.get (a := g) (o := insPg K r2) (.head _)
  clear O2 O Ox hxp hv hTD hg hz hb hm hr2 hps
  walk_at "s"
  dsimp only [tC]
  refine blank_ne (T.q_BLANK H2) hz2 ?_
  cases e with
  | none =>
    walk_at "s"
    exact k _ _ O3 gd2 hkp eps
  | some pl =>
    obtain ⟨p1, p2, p3⟩ := hpl pl rfl
    obtain ⟨a, rfl, ha⟩ := hz2
    have hOD := O3.get (a := r2.OD) (o := .dT (ownD r2.ow)) (.tail _ (.tail _ (.tail _ (.head _))))
    have howl := gd2.owl
    walk_at "s"
    intro d hd
    have O4 := O3.new (o := .dT []) hd
    have hbd : (upd H2 d (.dT [])) b = some (.tup ((owK (x.t, p)).map kV)) := (O3.self.new (o := .dT []) hd).tp _ _ hb2
    have had : (upd H2 d (.dT [])) a = some (.tup ((plaK pl).map kV)) := (O3.self.new (o := .dT []) hd).tp _ _ ha
    have hODd := O4.get (a := r2.OD) (o := .dT (ownD r2.ow)) (.tail _ (.tail _ (.tail _ (.tail _ (.head _)))))
    have hsz : (ownD r2.ow).length < sizeLine := sz_lt (by rw [List.length_map]; omega)
    have S4 := O3.self.new (o := .dT []) hd
    have eown : r2.ps.own = r.ps.own := by rw [eps]
    refine ⟨r2.OD, ownD r2.ow, plaK pl, a, .ref d, rfl, rfl, hODd, had, hsz, fun v hv => ?_, fun hv => ?_⟩
    · rw [ownD_val] at hv
      obtain ⟨y, hy, rfl⟩ := Option.map_eq_some_iff.mp hv
      obtain ⟨y1, ya, ym⟩ := y
      obtain ⟨l1, q1, e1⟩ := ow_split hy
      have e1 : r2.ow = l1 ++ (pl, ya, ym) :: q1 := e1
      have hown : r.ps.own pl = ym := by rw [← eown]; exact RG.own_mid e1 gd2.ndo
      rw [hown] at p2 p3
      have S5 := S4.drop (cs' := cPg K g r2) (.cons _ (.refl _))
      have hya := S5.get (cPg_ow (g := g) (K := K) [] e1).mem
      have hyl : (inD ym).length < sizeLine := sz_lt (by rw [List.length_map]; omega)
      have hdp := DPut.t (v := V.bl true) hya hbd hyl
      walk_at "s"
      rw [inD_put p2]
      have S6 := S5.wr (cPg_ow (ym ++ [(x.t, p)]) e1)
      refine k _ _ (O3.call .all S6) ((gd2.mono S6).set_ow e1) ⟨hkp.nf, hkp.ns, hkp.tp⟩ ?_
      rw [RG.ps_ow e1 gd2.ndo, eps]
      show _ = PS.mk _ _ (fupd r.ps.own pl (r.ps.own pl ++ [(x.t, p)])) _ _
      rw [hown]
    · rw [ownD_val, Option.map_eq_none_iff] at hv
      have hown : r.ps.own pl = [] := by rw [← eown]; exact RG.own_none hv
      have e2 : L2.putK (ownD r2.ow) (plaK pl) (V.ref d) = ownD (r2.ow ++ [(pl, d, [(x.t, p)])]) := by
        rw [L2.putK_new _ (by rw [ownD_val, hv]; rfl)]
        unfold ownD
        rw [List.map_append]
        rfl
      rw [e2]
      have S5 := S4.wr (a := r2.OD) (o' := .dT (ownD (r2.ow ++ [(pl, d, [(x.t, p)])]))) (.there (.there (.there (.there .here))))
      have hdd := S5.get (a := d) (o := .dT (inD [])) (.head _)
      have hbd := S5.tp _ _ hb2
      have hbd : (upd (upd H2 d (.dT [])) r2.OD (.dT (ownD (r2.ow ++ [(pl, d, [(x.t, p)])])))) b = some (.tup ((owK (x.t, p)).map kV)) := hbd
      have hyl : (inD []).length < sizeLine := sz_lt (by decide)
      have hdp := DPut.t (v := V.bl true) hdd hbd hyl
      walk_at "s"
      rw [inD_put (List.not_mem_nil)]
      have S6 := S5.wr (a := d) (o' := .dT (inD ([] ++ [(x.t, p)]))) .here
      have S7 : Own H2 _ (adr (cPg K g r2)) (cPg K g { r2 with ow := r2.ow ++ [(pl, d, [(x.t, p)])] }) := S6.last.eq (by
        unfold cPg
        dsimp only
        unfold cOw
        rw [List.map_append]
        simp only [List.cons_append, List.append_assoc]
        rfl)
      refine k _ _ (O3.call .all S7) ((gd2.mono S7).new_ow hv (by rw [enf, ens]; exact p1)) ⟨hkp.nf, hkp.ns, hkp.tp⟩ ?_
      rw [RG.ps_ow_new hv, eps]
      show _ = PS.mk _ _ (fupd r.ps.own pl (r.ps.own pl ++ [(x.t, p)])) _ _
      rw [hown]
      rfl

/-- a page more at a place -/
def shareP (s : PS) (o : Ow2) : Option Pla → PS
  | none => layP s o none
  | some pl => layP (cntP s pl (((s.own pl).length : Int) + 1)) o (some pl)
def sp_Paging_share (K : PySem.W.Frag) : Sp := sp3 fun self y z H Q _ => ∃ g r b o e, self = .ref g ∧ y = .ref b ∧ OwAt H b o ∧ EntV K H z e ∧ RGd K H r ∧ Own H H (adr (cPg K g r)) (cPg K g r) ∧ r.has o.1 ∧ 0 ≤ o.2 ∧ o.2 < 64 ∧
  (∀ pl, e = some pl → pl ∈ places r.nf r.ns ∧ o ∉ r.ps.own pl ∧ (r.ps.own pl).length < 10000 ∧ r.ps.own pl ≠ [] ∧ (r.ps.os pl.1)[pl.2]? = some ((r.ps.own pl).length : Int)) ∧
  ∀ H' r', Own H H' (adr (cPg K g r)) (cPg K g r') → RGd K H' r' → Kp r r' → r'.ps = shareP r.ps o e → Q .non H'
def sp_Paging_leave (K : PySem.W.Frag) : Sp := sp2 fun self y H Q _ => ∃ g r b o e, self = .ref g ∧ y = .ref b ∧ OwAt H b o ∧ RGd K H r ∧ Own H H (adr (cPg K g r)) (cPg K g r) ∧ r.has o.1 ∧ r.ps.ent o = some e ∧
  (∀ pl, e = some pl → o ∈ r.ps.own pl ∧ (r.ps.os pl.1)[pl.2]? = some ((r.ps.own pl).length : Int)) ∧
  ∀ H' r', Own H H' (adr (cPg K g r)) (cPg K g r') → RGd K H' r' → Kp r r' → r'.ps = leaveP r.ps o e → Q .non H'
theorem EntV.of {K : PySem.W.Frag} {H : Hp} {v : Option V} {e : Option Pla} (h : EntO K H v (some e)) : ∃ u, v = some u ∧ EntV K H u e := by
  cases v with
  | none => exact h.elim
  | some u => exact ⟨u, rfl, h⟩
theorem StoOk.cntset {os : List Int} {cs : List Pg} (h : StoOk os cs) (n : Nat) (x : Int) : StoOk (os.set n x) cs := ⟨by rw [List.length_set]; exact h.len, by rw [List.length_set]; exact h.few⟩
theorem cPg_cnt {K : PySem.W.Frag} {g : Addr} {r : RG} (pl : Pla) (n : Int) : Sub (cPg K g r) (cSG K (r.st pl.1)) (cSto K (r.st pl.1).p (r.st pl.1).q ((r.st pl.1).os.set pl.2 n) (r.st pl.1).cs) (cPg K g { r with st := fupd r.st pl.1 { (r.st pl.1) with os := (r.st pl.1).os.set pl.2 n } }) := cPg_st pl.1 { (r.st pl.1) with os := (r.st pl.1).os.set pl.2 n } rfl
theorem cnt_of {os : List Int} {n : Nat} {l : List Ow2} (h : os[n]? = some (l.length : Int)) (hl : l ≠ []) : cntS os (n : Int) = l.length ∧ cntS os (n : Int) ≠ 0 := by
  have h1 := cntS_nat h
  have h2 := List.length_pos_iff.mpr hl
  exact ⟨h1, by rw [h1]; omega⟩
theorem key_pla {H : Hp} {a : Addr} {pl : Pla} (h : H a = some (.tup ((plaK pl).map kV))) : H a = some (.tup (plaV pl)) := h
theorem sc_Paging_share : FnScope ["self", "owner", "entry"] ["self", "owner", "entry"] (defScope s_Paging_share) := ⟨rfl, rfl, rfl, by decide +kernel, rfl, by decide +kernel, by decide +kernel⟩
theorem ok_Paging_share {P : Program} {w : World} {K : PySem.W.Frag} {mg : Str → Option Value} {base : Heap} (T : Txt K mg) : Cee P w K mg base 4 (He.fAd K ("Paging", some "share")) ["self", "owner", "entry"] (sp_Paging_share K) := by
  have c_Store_more : Cee P w K mg base 3 (He.fAd K ("Store", some "more")) ["self", "page"] (sp_Store_more K) := ok_Store_more T
  have c_Paging_lay : Cee P w K mg base 2 (He.fAd K ("Paging", some "lay")) ["self", "owner", "entry"] (sp_Paging_lay K) := ok_Paging_lay T
  refine cee_of T.d_Paging_share sc_Paging_share (fun _ _ _ _ _ _ us hl => match us, hl with | [_, _, _], _ => rfl) (fun vs H Q E h => sp3_len h) (fun cdv A outer s H vs Q E hr h => ⟨_, (pss_cons (PS.box (ps_if (pt_cmpR (op_neD hr.units) (pv 2) (pe_glob (v := .ref (He.ga K "BLANK")) rfl T.g_BLANK rfl) (nomark _)) (pss_one (ps_expr (pe_m (pe_dget (hu_of hr) (pe_fld (pv 0) rfl) (pe_ix ix_tup (pv 2) pe_int (fun _ _ => rfl)) (fun _ _ => rfl)) T.c_Store T.m_Store_more c_Store_more (hr.mono (by decide)) (takes_of rfl rfl rfl rfl) (pa_cons (pe_ix ix_tup (pv 2) pe_int (fun _ _ => rfl)) pa_nil)))) pss_nil)) (pss_one (ps_expr (pe_m (pv 0) T.c_Paging T.m_Paging_lay c_Paging_lay (hr.mono (by decide)) (takes_of rfl rfl rfl rfl) (pa_cons (pv 1) (pa_cons (pv 2) pa_nil)))))), ?_⟩)
  obtain ⟨v0, v1, v2, rfl, h⟩ := h
  dsimp only [cxOf, L2.start]
  obtain ⟨g, r, b, o, e, rfl, rfl, hb, hz, gd, O, ht, h0, h1, hpl, k⟩ := h
  have hg := O.get (a := g) (o := insPg K r) (.head _)
  walk_at "b"
  dsimp only [tC]
  refine blank_ne (T.q_BLANK H) hz ?_
  cases e with
  | none =>
    walk_at "s"
    exact ask3 ⟨g, r, b, o, none, rfl, rfl, hb, hz, gd, O, ht, h0, h1, fun pl hp => (by cases hp), k⟩
  | some pl =>
    obtain ⟨p1, p2, p3, p4, p5⟩ := hpl pl rfl
    obtain ⟨a, rfl, ha⟩ := id hz
    have hSD := O.get (a := r.SD) (o := .dK (stD r)) (.tail _ (.head _))
    have hsv := stD_val r pl.1
    have Os := O.blk (s' := cSG K (r.st pl.1)) (cPg_st pl.1 (r.st pl.1) rfl)
    have hsp := Os.get (.head _)
    obtain ⟨c1, c2⟩ := cnt_of p5 p4
    walk_at "s"
    refine ask2 ⟨(r.st pl.1).p, (r.st pl.1).q, (r.st pl.1).os, (r.st pl.1).cs, pl.2, rfl, rfl, Os, fun _ H2 O2 => ?_, fun z => absurd z c2⟩
    have c1 : cntS (r.st pl.1).os (pl.2 : Int) = ((r.ps.own pl).length : Int) := c1
    rw [Int.toNat_natCast, c1] at O2
    have O3 := O.call (cPg_cnt pl _) O2
    have gd3 := (gd.mono O2).set_st pl.1 (x := { (r.st pl.1) with os := (r.st pl.1).os.set pl.2 (((r.ps.own pl).length : Int) + 1) }) ((gd.st pl.1).cntset _ _)
    have hps := RG.ps_cnt r pl (((r.ps.own pl).length : Int) + 1)
    have hg3 := O3.get (a := g) (.head _)
    walk_at "s"
    refine ask3 ⟨g, _, b, o, some pl, rfl, rfl, O2.tp _ _ hb, hz.mono O2, gd3, O3.self, ht, h0, h1, fun q hq => ?_, fun H4 r4 O4 gd4 kp4 hp4 => ?_⟩
    · cases hq
      exact ⟨p1, p2, p3⟩
    · refine k _ r4 (O3.call .all O4) gd4 ⟨kp4.nf, kp4.ns, kp4.tp⟩ ?_
      rw [hp4, hps]
      rfl
theorem sc_Paging_leave : FnScope ["self", "owner", "entry"] ["self", "owner"] (defScope s_Paging_leave) := ⟨rfl, rfl, rfl, by decide +kernel, rfl, by decide +kernel, by decide +kernel⟩
theorem ok_Paging_leave {P : Program} {w : World} {K : PySem.W.Frag} {mg : Str → Option Value} {base : Heap} (T : Txt K mg) : Cee P w K mg base 4 (He.fAd K ("Paging", some "leave")) ["self", "owner"] (sp_Paging_leave K) := by
  have c_Paging_entry : Cee P w K mg base 2 (He.fAd K ("Paging", some "entry")) ["self", "owner"] (sp_Paging_entry K) := ok_Paging_entry T
  have c_Store_less : Cee P w K mg base 3 (He.fAd K ("Store", some "less")) ["self", "page"] (sp_Store_less K) := ok_Store_less T
  refine cee_of T.d_Paging_leave sc_Paging_leave (fun _ _ _ _ _ _ us hl => match us, hl with | [_, _], _ => rfl) (fun vs H Q E h => sp2_len h) (fun cdv A outer s H vs Q E hr h => ⟨_, (pss_cons (ps_set (i := 2) sc_Paging_leave.nd rfl (Or.inl rfl) (pe_m (pv 0) T.c_Paging T.m_Paging_entry c_Paging_entry (hr.mono (by decide)) (takes_of rfl rfl rfl rfl) (pa_cons (pv 1) pa_nil))) (pss_one (ps_if (pt_cmpR (op_neD hr.units) (pv 2) (pe_glob (v := .ref (He.ga K "BLANK")) rfl T.g_BLANK rfl) (nomark _)) (pss_cons (ps_expr (pe_bm PySem.F.plainAttrs_dict PySem.F.slot_dict_pop PySem.F.type_dict_pop (mt_popT1 (hu_of hr)) (pe_dget (hu_of hr) (pe_fld (pv 0) rfl) (pv 2) (fun _ _ => rfl)) (pa_cons (pv 1) pa_nil))) (pss_one (ps_expr (pe_m (pe_dget (hu_of hr) (pe_fld (pv 0) rfl) (pe_ix ix_tup (pv 2) pe_int (fun _ _ => rfl)) (fun _ _ => rfl)) T.c_Store T.m_Store_less c_Store_less (hr.mono (by decide)) (takes_of rfl rfl rfl rfl) (pa_cons (pe_ix ix_tup (pv 2) pe_int (fun _ _ => rfl)) pa_nil))))) pss_nil))), ?_⟩)
  obtain ⟨v0, v1, rfl, h⟩ := h
  dsimp only [cxOf, L2.start]
  obtain ⟨g, r, b, o, e, rfl, rfl, hb, gd, O, ht, hent, hpl, k⟩ := h
  have hg := O.get (a := g) (o := insPg K r) (.head _)
  walk_at "s"
  refine ask2 ⟨g, r, b, o, rfl, rfl, hb, gd, O, ht, fun v hv => ?_⟩
  rw [hent] at hv
  obtain ⟨u, rfl, hu⟩ := EntV.of hv
  walk_at "s"
  dsimp only [tC, Option.getD_some]
  refine blank_ne (T.q_BLANK H) hu ?_
  cases e with
  | none =>
    walk_at "s"
    exact k _ r O gd Kp.refl rfl
  | some pl =>
    obtain ⟨p1, p2⟩ := hpl pl rfl
    obtain ⟨a, rfl, ha⟩ := id hu
    have ha : H a = some (.tup ((plaK pl).map kV)) := ha
    obtain ⟨x, hx⟩ : ∃ x, r.ow.find? (fun x => decide (x.1 = pl)) = some x := by
      cases hf : r.ow.find? (fun x => decide (x.1 = pl)) with
      | none => rw [RG.own_none hf] at p1; cases p1
      | some x => exact ⟨x, rfl⟩
    obtain ⟨x1, ya, ym⟩ := x
    obtain ⟨l1, q1, e1⟩ := ow_split hx
    have e1 : r.ow = l1 ++ (pl, ya, ym) :: q1 := e1
    have hown : r.ps.own pl = ym := RG.own_mid e1 gd.ndo
    rw [hown] at p1 p2
    have hOD := O.get (a := r.OD) (o := .dT (ownD r.ow)) (.tail _ (.tail _ (.tail _ (.head _))))
    have hdg : DGet H r.OD (.ref a) (some (.ref ya)) := by
      have := DGet.t hOD ha
      rw [ownD_val, hx] at this
      exact this
    have hya := O.get (cPg_ow (g := g) (K := K) [] e1).mem
    have hbk : H b = some (.tup ((owK o).map kV)) := hb
    have hvo : valV (inD ym) (owK o) = some (.bl true) := by rw [inD_val, if_pos p1]
    walk_at "s"
    refine ⟨inD ym, owK o, b, .bl true, rfl, rfl, hya, hbk, hvo, ?_⟩
    have ed : dropK (inD ym) (owK o) = inD (ym.filter fun x => decide (x ≠ o)) := by
      unfold dropK inD
      rw [List.filter_map]
      congr 1
      refine List.filter_congr fun y _ => ?_
      show decide (owK y ≠ owK o) = _
      exact decide_eq_decide.mpr ⟨fun h e => h (congrArg _ e), fun h e => h (owK_inj e)⟩
    rw [ed]
    have S2 := O.wr (cPg_ow (ym.filter fun x => decide (x ≠ o)) e1)
    have gd2 := (gd.mono S2).set_ow (m' := ym.filter fun x => decide (x ≠ o)) e1
    have hps2 := RG.ps_ow (m' := ym.filter fun x => decide (x ≠ o)) e1 gd.ndo
    generalize hr2 : ({ r with ow := l1 ++ (pl, ya, ym.filter fun x => decide (x ≠ o)) :: q1 } : RG) = r2 at S2 gd2 hps2
    have kp2 : Kp r r2 := by rw [← hr2]; exact ⟨rfl, rfl, rfl⟩
    have est : r2.st = r.st := by rw [← hr2]
    have hg2 := S2.get (a := g) (o := insPg K r2) (.head _)
    have hSD := S2.get (a := r2.SD) (o := .dK (stD r2)) (.tail _ (.head _))
    have hsv := stD_val r2 pl.1
    have Os := S2.blk (s' := cSG K (r2.st pl.1)) (cPg_st pl.1 (r2.st pl.1) rfl)
    have hsp := Os.get (.head _)
    have ha2 := key_pla (S2.tp _ _ ha)
    have p3 : ym ≠ [] := fun z => by rw [z] at p1; cases p1
    obtain ⟨c1, c2⟩ := cnt_of p2 p3
    have c1 : cntS (r2.st pl.1).os (pl.2 : Int) = (ym.length : Int) := by rw [est]; exact c1
    have c2 : cntS (r2.st pl.1).os (pl.2 : Int) ≠ 0 := by rw [est]; exact c2
    walk_at "s"
    refine ask2 ⟨(r2.st pl.1).p, (r2.st pl.1).q, (r2.st pl.1).os, (r2.st pl.1).cs, pl.2, rfl, rfl, Os, fun _ H3 O3 => ?_, fun z => absurd z c2⟩
    rw [Int.toNat_natCast, c1] at O3
    have O4 := S2.call (cPg_cnt pl _) O3
    have gd3 := (gd2.mono O3).set_st pl.1 (x := { (r2.st pl.1) with os := (r2.st pl.1).os.set pl.2 ((ym.length : Int) - 1) }) ((gd2.st pl.1).cntset _ _)
    refine k _ _ O4 gd3 (Kp.trans kp2 ⟨rfl, rfl, rfl⟩) ?_
    rw [RG.ps_cnt, hps2]
    show PS.mk _ _ _ _ _ = PS.mk (setAt r.ps.os pl (((r.ps.own pl).length : Int) - 1)) _ (fupd r.ps.own pl ((r.ps.own pl).filter fun x => decide (x ≠ o))) _ _
    rw [hown]

def sp_Paging_lifted (K : PySem.W.Frag) : Sp := sp2 fun self y H Q _ => ∃ g r a pl, self = .ref g ∧ y = .ref a ∧ H a = some (.tup (plaV pl)) ∧ RGd K H r ∧ Own H H (adr (cPg K g r)) (cPg K g r) ∧ r.ps.own pl ≠ [] ∧ (r.ps.own pl).length < 10000 ∧ (r.ps.os pl.1)[pl.2]? = some ((r.ps.own pl).length : Int) ∧
  ∀ H' r' T c lo bs, Own H H' (adr (cPg K g r)) ((c, .lst ((r.ps.cel pl).map V.int)) :: (lo, .lst (bs.map V.ref)) :: cPg K g r') → RGd K H' r' → Kp r r' → r'.ps = liftP r.ps pl → H' T = some (.tup [.ref c, .ref lo]) → Paired (fun b o => OwAt H' b o) bs (r.ps.own pl) → Q (.ref T) H'
theorem Paired.at_ {α β : Type} {R : α → β → Prop} : ∀ {as : List α} {bs : List β}, Paired R as bs → ∀ {i : Nat} {a : α}, as[i]? = some a → ∃ b, bs[i]? = some b ∧ R a b
  | _, _, .nil, _, _, h => by cases h
  | _, _, .cons h k, 0, _, e => by cases e; exact ⟨_, rfl, h⟩
  | _, _, .cons h k, i + 1, _, e => Paired.at_ k (i := i) e
/-- keys that were told as tuples -/
theorem keys_ow {H : Hp} {l : List Ow2} {bs : List Addr} (h : L2.IsKeys H (inD l) bs) : Paired (fun b o => OwAt H b o) bs l := by
  induction l generalizing bs with
  | nil =>
    have h : Paired _ [] bs := h
    cases h
    exact .nil
  | cons o r ih =>
    have h : Paired (fun (p : List Key × V) b => H b = some (.tup (p.1.map kV))) ((owK o, V.bl true) :: inD r) bs := h
    cases h with
    | cons h1 h2 => exact .cons h1 (ih h2)
/-- a place's dict of owners goes -/
theorem cPg_pop {K : PySem.W.Frag} {H0 H : Hp} {A : List Addr} {g : Addr} {r : RG} {l q : List (Pla × Addr × List Ow2)} {x : Pla × Addr × List Ow2} {pre : Cells} (e : r.ow = l ++ x :: q) (O : Own H0 H A (pre ++ cPg K g r)) : Own H0 (upd H r.OD (.dT (ownD (l ++ q)))) A (pre ++ cPg K g { r with ow := l ++ q }) := by
  have O1 := O.wr (a := r.OD) (o' := .dT (ownD (l ++ q))) (.app (.there (.there (.there .here))))
  refine O1.drop (.append (.refl _) ?_)
  unfold cPg
  dsimp only
  rw [e]
  unfold cOw
  rw [List.map_append, List.map_append]
  exact .cons₂ _ (.cons₂ _ (.cons₂ _ (.cons₂ _ (.append (.refl _) (.append (.refl _) (.append (.refl _) (.append (.refl _) (List.sublist_cons_self _ _))))))))
theorem RGd.pop_ow {K : PySem.W.Frag} {H : Hp} {r : RG} {l q : List (Pla × Addr × List Ow2)} {x : Pla × Addr × List Ow2} (h : RGd K H r) (e : r.ow = l ++ x :: q) : RGd K H { r with ow := l ++ q } := by
  have sub : List.Sublist (l ++ q) r.ow := by rw [e]; exact .append (.refl _) (List.sublist_cons_self _ _)
  exact ⟨h.st, h.tab, h.ents, h.ndt, h.few, h.ndo.sublist (sub.map _), fun y hy => h.inr y (sub.subset hy), h.two, h.hd⟩
theorem RG.ps_pop {r : RG} {l q : List (Pla × Addr × List Ow2)} {x : Pla × Addr × List Ow2} (e : r.ow = l ++ x :: q) (nd : (r.ow.map (·.1)).Nodup) : RG.ps { r with ow := l ++ q } = { r.ps with own := fupd r.ps.own x.1 [] } := by
  show PS.mk _ _ (fun p => (((l ++ q).find? fun x => decide (x.1 = p)).map (·.2.2)).getD []) _ _ = PS.mk _ _ (fupd (fun p => ((r.ow.find? fun x => decide (x.1 = p)).map (·.2.2)).getD []) x.1 []) _ _
  congr 1
  funext p
  rw [e] at nd ⊢
  unfold fupd
  dsimp only
  rw [ow_find nd]
  by_cases h : p = x.1
  · rw [if_pos h]
    have hn : (l ++ q).find? (fun y => decide (y.1 = p)) = none := List.find?_eq_none.mpr fun y hy z => by
      rw [List.map_append, List.map_cons] at nd
      obtain ⟨n1, n2, n3⟩ := List.nodup_append.mp nd
      obtain ⟨n4, n5⟩ := List.nodup_cons.mp n2
      have z := of_decide_eq_true z
      rcases List.mem_append.mp hy with w | w
      · exact n3 y.1 (List.mem_map.mpr ⟨y, w, rfl⟩) x.1 (.head _) (z.trans h)
      · exact n4 (List.mem_map.mpr ⟨y, w, z.trans h⟩)
    rw [hn]
    rfl
  · rw [if_neg h, if_neg h]
theorem drop_ownD {l q : List (Pla × Addr × List Ow2)} {x : Pla × Addr × List Ow2} (nd : ((l ++ x :: q).map (·.1)).Nodup) : dropK (ownD (l ++ x :: q)) (plaK x.1) = ownD (l ++ q) := by
  rw [List.map_append, List.map_cons] at nd
  obtain ⟨n1, n2, n3⟩ := List.nodup_append.mp nd
  obtain ⟨n4, n5⟩ := List.nodup_cons.mp n2
  unfold dropK ownD
  rw [List.map_append, List.map_append, List.map_cons, List.filter_append, List.filter_cons, if_neg (by simp)]
  congr 1
  · refine List.filter_eq_self.mpr fun z hz => ?_
    obtain ⟨y, hy, rfl⟩ := List.mem_map.mp hz
    exact decide_eq_true fun e => n3 y.1 (List.mem_map.mpr ⟨y, hy, rfl⟩) x.1 (.head _) (plaK_inj e)
  · refine List.filter_eq_self.mpr fun z hz => ?_
    obtain ⟨y, hy, rfl⟩ := List.mem_map.mp hz
    exact decide_eq_true fun e => n4 (List.mem_map.mpr ⟨y, hy, plaK_inj e⟩)
theorem sto_page {os : List Int} {cs : List Pg} (ok : StoOk os cs) {n : Nat} {x : Int} (h : os[n]? = some x) : ∃ y, cs[n]? = some y := by
  have := (List.getElem?_eq_some_iff.mp h).1
  exact ⟨cs[n]'(by rw [← ok.len]; exact this), List.getElem?_eq_getElem _⟩
theorem RG.cel_at {r : RG} {pl : Pla} {y : Pg} (h : (r.st pl.1).cs[pl.2]? = some y) : r.ps.cel pl = y.2 := by
  show ((((r.st pl.1).cs.map (·.2))[pl.2]?).getD []) = y.2
  rw [List.getElem?_map, h]
  rfl
theorem cPg_st2 {K : PySem.W.Frag} {g : Addr} {r : RG} (k : Bool) (x y : SG) (hp : y.p = x.p) : Sub (cPg K g { r with st := fupd r.st k x }) (cSG K x) (cSG K y) (cPg K g { r with st := fupd r.st k y }) := by
  have h := cPg_st (K := K) (g := g) (r := { r with st := fupd r.st k x }) k y (by show y.p = (fupd r.st k x k).p; rw [fupd_same]; exact hp)
  have e1 : (RG.st { r with st := fupd r.st k x } k) = x := fupd_same
  have e2 : fupd (fupd r.st k x) k y = fupd r.st k y := by
    funext j
    unfold fupd
    split <;> rfl
  rw [e1] at h
  have e3 : ({ ({ r with st := fupd r.st k x } : RG) with st := fupd (fupd r.st k x) k y } : RG) = { r with st := fupd r.st k y } := by rw [e2]
  exact e3 ▸ h
theorem sc_Paging_lifted : FnScope ["self", "entry", "store", "cells", "owners", "owner"] ["self", "entry"] (defScope s_Paging_lifted) := ⟨rfl, rfl, rfl, by decide +kernel, rfl, by decide +kernel, by decide +kernel⟩
theorem ok_Paging_lifted {P : Program} {w : World} {K : PySem.W.Frag} {mg : Str → Option Value} {base : Heap} (T : Txt K mg) : Cee P w K mg base 4 (He.fAd K ("Paging", some "lifted")) ["self", "entry"] (sp_Paging_lifted K) := by
  have c_Store_cells : Cee P w K mg base 3 (He.fAd K ("Store", some "cells")) ["self", "page"] (sp_Store_cells K) := ok_Store_cells T
  have c_Store_less : Cee P w K mg base 3 (He.fAd K ("Store", some "less")) ["self", "page"] (sp_Store_less K) := ok_Store_less T
  refine cee_of T.d_Paging_lifted sc_Paging_lifted (fun _ _ _ _ _ _ us hl => match us, hl with | [_, _], _ => rfl) (fun vs H Q E h => sp2_len h) (fun cdv A outer s H vs Q E hr h => ⟨_, (pss_cons (ps_set (i := 2) sc_Paging_lifted.nd rfl (Or.inl rfl) (pe_dget (hu_of hr) (pe_fld (pv 0) rfl) (pe_ix ix_tup (pv 1) pe_int (fun _ _ => rfl)) (fun _ _ => rfl))) (pss_cons (ps_set (i := 3) sc_Paging_lifted.nd rfl (Or.inl rfl) (pe_m (pv 2) T.c_Store T.m_Store_cells c_Store_cells (hr.mono (by decide)) (takes_of rfl rfl rfl rfl) (pa_cons (pe_ix ix_tup (pv 1) pe_int (fun _ _ => rfl)) pa_nil))) (pss_cons (ps_set (i := 4) sc_Paging_lifted.nd rfl (Or.inl rfl) (pe_callTy (call_list_dT rfl) (by rfl) T.n_list (by decide +kernel) (pa_cons (pe_bm PySem.F.plainAttrs_dict PySem.F.slot_dict_pop PySem.F.type_dict_pop (mt_popT1 (hu_of hr)) (pe_fld (pv 0) rfl) (pa_cons (pv 1) pa_nil)) pa_nil))) (pss_cons (ps_for (passes_of rfl) rfl (PI.box (pi_list (pv 4))) (pg_name (i := 5) sc_Paging_lifted.nd rfl (Or.inl rfl)) (pss_one (ps_expr (pe_m (pv 2) T.c_Store T.m_Store_less c_Store_less (hr.mono (by decide)) (takes_of rfl rfl rfl rfl) (pa_cons (pe_ix ix_tup (pv 1) pe_int (fun _ _ => rfl)) pa_nil))))) (pss_one (ps_ret (pe_tup (pa_cons (pv 3) (pa_cons (pv 4) pa_nil))))))))), ?_⟩)
  obtain ⟨v0, v1, rfl, h⟩ := h
  dsimp only [cxOf, L2.start]
  obtain ⟨g, r, a, pl, rfl, rfl, ha, gd, O, p1, p3, p2, k⟩ := h
  have hg := O.get (a := g) (o := insPg K r) (.head _)
  have hSD := O.get (a := r.SD) (o := .dK (stD r)) (.tail _ (.head _))
  have hsv := stD_val r pl.1
  have Os := O.blk (s' := cSG K (r.st pl.1)) (cPg_st pl.1 (r.st pl.1) rfl)
  have hsp := Os.get (.head _)
  obtain ⟨c1, c2⟩ := cnt_of p2 p1
  obtain ⟨y, hy⟩ := sto_page (gd.st pl.1) p2
  walk_at "s"
  refine ask2 ⟨(r.st pl.1).p, (r.st pl.1).q, (r.st pl.1).os, (r.st pl.1).cs, pl.2, rfl, rfl, gd.st pl.1, Os, fun _ x hx H2 c O2 => ?_, fun z => absurd z c2⟩
  rw [Int.toNat_natCast] at hx
  have hcel : x.2 = r.ps.cel pl := (RG.cel_at hx).symm
  rw [hcel] at O2
  have O3 : Own H H2 (adr (cPg K g r)) ([(c, .lst ((r.ps.cel pl).map V.int))] ++ cPg K g r) := (O.callE (e := [(c, .lst ((r.ps.cel pl).map V.int))]) (cPg_st pl.1 (r.st pl.1) rfl) O2).eq (by rw [fupd_id])
  obtain ⟨x0, hx0⟩ : ∃ x, r.ow.find? (fun x => decide (x.1 = pl)) = some x := by
    cases hf : r.ow.find? (fun x => decide (x.1 = pl)) with
    | none => exact absurd (RG.own_none hf) p1
    | some x => exact ⟨x, rfl⟩
  obtain ⟨x1, ya, ym⟩ := x0
  obtain ⟨l1, q1, e1⟩ := ow_split hx0
  have e1 : r.ow = l1 ++ (pl, ya, ym) :: q1 := e1
  have hown : r.ps.own pl = ym := RG.own_mid e1 gd.ndo
  have hg3 := O3.get (a := g) (o := insPg K r) (.tail _ (.head _))
  have hOD := O3.get (a := r.OD) (o := .dT (ownD r.ow)) (.tail _ (.tail _ (.tail _ (.tail _ (.head _)))))
  have ha3 : H2 a = some (.tup ((plaK pl).map kV)) := O2.tp _ _ ha
  have hvy : valV (ownD r.ow) (plaK pl) = some (.ref ya) := by rw [ownD_val, hx0]; rfl
  have hya3 := O3.get (.tail _ (cPg_ow (g := g) (K := K) [] e1).mem)
  walk_at "s"
  refine ⟨ownD r.ow, plaK pl, a, .ref ya, rfl, rfl, hOD, ha3, hvy, ?_⟩
  rw [show dropK (ownD r.ow) (plaK pl) = ownD (l1 ++ q1) by rw [e1]; exact drop_ownD (x := (pl, ya, ym)) (by rw [← e1]; exact gd.ndo)]
  have hne : ya ≠ r.OD := fun z => by
    rw [z, hOD] at hya3
    have h1 : ownD r.ow = inD ym := HO.dT.inj (Option.some.inj hya3)
    have h2 := congrArg (fun m => m.map (·.2)) h1
    rw [hown] at p1
    cases ym with
    | nil => exact p1 rfl
    | cons o m =>
      rw [e1] at h2
      cases l1 <;> cases h2
  have hya4 : (upd H2 r.OD (.dT (ownD (l1 ++ q1)))) ya = some (.dT (inD ym)) := by rw [upd_ne hne]; exact hya3
  have O5 := cPg_pop (pre := [(c, .lst ((r.ps.cel pl).map V.int))]) e1 O3
  have S5 := cPg_pop (pre := [(c, .lst ((r.ps.cel pl).map V.int))]) e1 O3.self
  have gd5 := ((gd.mono O2).mono S5).pop_ow e1
  have hps5 := RG.ps_pop e1 gd.ndo
  walk_at "s"
  refine ⟨inD ym, rfl, .inl hya4, fun lo bs hlo hbs => ?_⟩
  have hbs := keys_ow hbs
  have hbl : bs.length = ym.length := hbs.length
  have O6 := O5.new (o := .lst (bs.map V.ref)) hlo
  have S6 := S5.new (o := .lst (bs.map V.ref)) hlo
  have P6 := O5.self.new (o := .lst (bs.map V.ref)) hlo
  have hbs6 : Paired (fun b o => OwAt (upd (upd H2 r.OD (.dT (ownD (l1 ++ q1)))) lo (.lst (bs.map V.ref))) b o) bs ym := Paired.mapP hbs fun b o h => P6.tp _ _ h
  have gd6 := gd5.mono P6
  have ha6 := P6.tp _ _ (S5.tp _ _ ha3)
  rw [hown] at p2 p3
  generalize hr5 : ({ r with ow := l1 ++ q1 } : RG) = r5 at O6 gd6 hps5
  have est : r5.st = r.st := by rw [← hr5]
  have kp5 : Kp r r5 := by rw [← hr5]; exact ⟨rfl, rfl, rfl⟩
  have p2' : (r5.st pl.1).os[pl.2]? = some (ym.length : Int) := by rw [est]; exact p2
  have hsp5 : (r5.st pl.1).p = (r.st pl.1).p := by rw [est]
  have hnl : pl.2 < (r5.st pl.1).os.length := (List.getElem?_eq_some_iff.mp p2').1
  generalize hH6 : upd (upd H2 r.OD (.dT (ownD (l1 ++ q1)))) lo (.lst (bs.map V.ref)) = H6 at O6 gd6 ha6 hbs6
  have OO : Own H6 H6 (adr ((lo, .lst (bs.map V.ref)) :: (c, .lst ((r.ps.cel pl).map V.int)) :: cPg K g r5)) ((lo, .lst (bs.map V.ref)) :: (c, .lst ((r.ps.cel pl).map V.int)) :: cPg K g { r5 with st := fupd r5.st pl.1 { (r5.st pl.1) with os := (r5.st pl.1).os.set pl.2 ((ym.length : Int) - (0 : Nat)) } }) := O6.self.eq (by
    rw [show (r5.st pl.1).os.set pl.2 ((ym.length : Int) - (0 : Nat)) = (r5.st pl.1).os by
      rw [show (ym.length : Int) - ((0 : Nat) : Int) = ym.length by omega]
      obtain ⟨h1, h2⟩ := List.getElem?_eq_some_iff.mp p2'
      rw [← h2, List.set_getElem_self]]
    rw [show (fupd r5.st pl.1 { (r5.st pl.1) with os := (r5.st pl.1).os }) = r5.st from fupd_id]
    rfl)
  clear O3 O5 S5 S6 P6 hya3 hya4 gd5 hOD hg3 O2 hbs hlo
  walk_at "s"
  clear hH6
  rw [← hsp5]
  refine forL (K := K) (a := lo) (xs := bs.map V.ref) (fun j σ H' => ∃ v5 : Option V, σ = [some (.ref g), some (.ref a), some (.ref (r5.st pl.1).p), some (.ref c), some (.ref lo), v5] ∧ Own H6 H' (adr ((lo, .lst (bs.map V.ref)) :: (c, .lst ((r.ps.cel pl).map V.int)) :: cPg K g r5)) ((lo, .lst (bs.map V.ref)) :: (c, .lst ((r.ps.cel pl).map V.int)) :: cPg K g { r5 with st := fupd r5.st pl.1 { (r5.st pl.1) with os := (r5.st pl.1).os.set pl.2 ((ym.length : Int) - (j : Nat)) } })) ⟨_, rfl, OO⟩ (fun j σ H' _ ⟨_, _, O⟩ => SqL.of (O.get (.head _))) ?_ ?_
  · clear OO
    rintro j x σ H7 hx ⟨v5, rfl, O7⟩
    obtain ⟨b, hb, rfl⟩ := mget hx
    have hj := (List.getElem?_eq_some_iff.mp hb).1
    have ha7 : H7 a = some (.tup (plaV pl)) := O7.tp _ _ ha6
    have sb := cPg_st2 (K := K) (g := g) (r := r5) pl.1 { (r5.st pl.1) with os := (r5.st pl.1).os.set pl.2 ((ym.length : Int) - (j : Nat)) } { (r5.st pl.1) with os := (r5.st pl.1).os.set pl.2 ((ym.length : Int) - ((j + 1 : Nat) : Nat)) } rfl
    have Os := O7.blk (s := cSG K { (r5.st pl.1) with os := (r5.st pl.1).os.set pl.2 ((ym.length : Int) - (j : Nat)) }) (s' := cSto K (r5.st pl.1).p (r5.st pl.1).q ((r5.st pl.1).os.set pl.2 ((ym.length : Int) - ((j + 1 : Nat) : Nat))) (r5.st pl.1).cs) (.there (.there sb))
    have hsp := Os.get (.head _)
    have hc : cntS ((r5.st pl.1).os.set pl.2 ((ym.length : Int) - (j : Nat))) (pl.2 : Int) = (ym.length : Int) - (j : Nat) := cntS_nat (List.getElem?_set_self hnl)
    walk_at "s"
    refine ask2 ⟨(r5.st pl.1).p, (r5.st pl.1).q, _, (r5.st pl.1).cs, pl.2, rfl, rfl, Os, fun _ H8 O8 => ?_, fun z => by rw [hc] at z; omega⟩
    rw [Int.toNat_natCast, hc, List.set_set, show (ym.length : Int) - (j : Nat) - 1 = (ym.length : Int) - ((j + 1 : Nat) : Nat) by omega] at O8
    exact ⟨⟨_, rfl, O7.call (.there (.there sb)) O8⟩⟩
  · rintro σ H7 ⟨v5, rfl, O7⟩
    rw [List.length_map, hbl, Int.sub_self] at O7
    walk_at "s"
    intro T hT
    have O8 := (O6.call .all O7).newT (o := .tup [.ref c, .ref lo]) hT
    have S8 := O7.newT (o := .tup [.ref c, .ref lo]) hT
    refine k _ _ T c lo bs (O8.perm (List.Perm.swap _ _ _)) ((gd6.mono S8).set_st pl.1 (x := { (r5.st pl.1) with os := (r5.st pl.1).os.set pl.2 0 }) ((gd6.st pl.1).cntset _ _)) ⟨kp5.nf, kp5.ns, kp5.tp⟩ ?_ upd_same ?_
    · rw [RG.ps_cnt, hps5]
      rfl
    · rw [hown]
      exact Paired.mapP hbs6 fun b o h => S8.tp _ _ h

def sp_Paging_settle (K : PySem.W.Frag) : Sp := sp4 fun self x y z H Q _ => ∃ g r a pl c ns lo bs l, self = .ref g ∧ x = .ref a ∧ y = .ref c ∧ z = .ref lo ∧ H a = some (.tup (plaV pl)) ∧ H c = some (.lst (ns.map V.int)) ∧ H lo = some (.lst (bs.map V.ref)) ∧ lo ∉ adr (cPg K g r) ∧ Paired (fun b o => OwAt H b o) bs l ∧ RGd K H r ∧ Own H H (adr (cPg K g r)) (cPg K g r) ∧
  l ≠ [] ∧ l.Nodup ∧ l.length < 9000 ∧ (∀ o ∈ l, r.has o.1 ∧ 0 ≤ o.2 ∧ o.2 < 64) ∧ pl ∈ places r.nf r.ns ∧ (r.ps.os pl.1)[pl.2]? = some 1 ∧ r.ps.own pl = [] ∧
  ∀ H' r', Own H H' (adr (cPg K g r)) (cPg K g r') → RGd K H' r' → Kp r r' → r'.ps = settleP r.ps pl ns l → Q .non H'
theorem RG.ps_put (r : RG) (pl : Pla) (a : Addr) (ns : List Int) : RG.ps { r with st := fupd r.st pl.1 { (r.st pl.1) with cs := (r.st pl.1).cs.set pl.2 (a, ns) } } = { r.ps with cs := setAt r.ps.cs pl ns } := by
  rw [RG.ps_st]
  unfold setAt
  show PS.mk (fupd r.ps.os pl.1 (r.ps.os pl.1)) _ _ _ _ = _
  rw [fupd_id]
  congr 1
  show fupd r.ps.cs pl.1 (((r.st pl.1).cs.set pl.2 (a, ns)).map (·.2)) = _
  rw [List.map_set]
  rfl
theorem StoOk.cellset {os : List Int} {cs : List Pg} (h : StoOk os cs) (n : Nat) (x : Pg) : StoOk os (cs.set n x) := ⟨by rw [List.length_set]; exact h.len, h.few⟩
/-- behind the first j of the pages that settle -/
def settleJ (s : PS) (pl : Pla) (c : List Int) (l : List Ow2) (j : Nat) : PS := { s with os := setAt s.os pl l.length, cs := setAt s.cs pl c, own := fupd s.own pl (l.take j), ent := entAll s.ent (l.take j) (some pl) }
theorem fupd_fupd {κ α : Type} [DecidableEq κ] {f : κ → α} {k : κ} {u v : α} : fupd (fupd f k u) k v = fupd f k v := by
  funext j
  unfold fupd
  split <;> rfl
theorem settleJ_lay {s : PS} {pl : Pla} {c : List Int} {l : List Ow2} {j : Nat} {o : Ow2} (h : l[j]? = some o) : layP (settleJ s pl c l j) o (some pl) = settleJ s pl c l (j + 1) := by
  show PS.mk _ _ (fupd (fupd s.own pl (l.take j)) pl ((fupd s.own pl (l.take j)) pl ++ [o])) (fupd (entAll s.ent (l.take j) (some pl)) o (some (some pl))) _ = PS.mk _ _ (fupd s.own pl (l.take (j + 1))) (entAll s.ent (l.take (j + 1)) (some pl)) _
  rw [fupd_fupd, fupd_same, ← take_succ h]
  congr 1
  funext x
  unfold fupd entAll
  rw [take_succ h]
  by_cases e : x = o
  · rw [if_pos e, if_pos (by rw [e]; simp)]
  · rw [if_neg e]
    by_cases m : x ∈ l.take j
    · rw [if_pos m, if_pos (List.mem_append_left _ m)]
    · rw [if_neg m, if_neg (fun z => (List.mem_append.mp z).elim m fun y => e (List.mem_singleton.mp y))]
theorem Own.out {H0 H : Hp} {A : List Addr} {cs : Cells} {b : Addr} {o : HO} (O : Own H0 H A cs) (h : H0 b = some o) (hn : b ∉ A) : b ∉ Ow.adr cs := fun z => (O.nw _ z).elim hn fun y => by rw [h] at y; cases y
theorem sc_Paging_settle : FnScope ["self", "entry", "cells", "owners", "store", "owner"] ["self", "entry", "cells", "owners"] (defScope s_Paging_settle) := ⟨rfl, rfl, rfl, by decide +kernel, rfl, by decide +kernel, by decide +kernel⟩
theorem ok_Paging_settle {P : Program} {w : World} {K : PySem.W.Frag} {mg : Str → Option Value} {base : Heap} (T : Txt K mg) : Cee P w K mg base 4 (He.fAd K ("Paging", some "settle")) ["self", "entry", "cells", "owners"] (sp_Paging_settle K) := by
  have c_Store_put : Cee P w K mg base 3 (He.fAd K ("Store", some "put")) ["self", "page", "cells"] (sp_Store_put K) := ok_Store_put T
  have c_Store_more : Cee P w K mg base 3 (He.fAd K ("Store", some "more")) ["self", "page"] (sp_Store_more K) := ok_Store_more T
  have c_Paging_lay : Cee P w K mg base 2 (He.fAd K ("Paging", some "lay")) ["self", "owner", "entry"] (sp_Paging_lay K) := ok_Paging_lay T
  refine cee_of T.d_Paging_settle sc_Paging_settle (fun _ _ _ _ _ _ us hl => match us, hl with | [_, _, _, _], _ => rfl) (fun vs H Q E h => sp4_len h) (fun cdv A outer s H vs Q E hr h => ⟨_, (pss_cons (ps_set (i := 4) sc_Paging_settle.nd rfl (Or.inl rfl) (pe_dget (hu_of hr) (pe_fld (pv 0) rfl) (pe_ix ix_tup (pv 1) pe_int (fun _ _ => rfl)) (fun _ _ => rfl))) (pss_cons (ps_expr (pe_m (pv 4) T.c_Store T.m_Store_put c_Store_put (hr.mono (by decide)) (takes_of rfl rfl rfl rfl) (pa_cons (pe_ix ix_tup (pv 1) pe_int (fun _ _ => rfl)) (pa_cons (pv 2) pa_nil)))) (pss_cons (ps_for (passes_of rfl) rfl (PI.box (pi_list (pe_slice sl_list (pv 3) (po_some pe_int) po_none))) (pg_name (i := 5) sc_Paging_settle.nd rfl (Or.inl rfl)) (pss_one (ps_expr (pe_m (pv 4) T.c_Store T.m_Store_more c_Store_more (hr.mono (by decide)) (takes_of rfl rfl rfl rfl) (pa_cons (pe_ix ix_tup (pv 1) pe_int (fun _ _ => rfl)) pa_nil))))) (pss_one (ps_for (passes_of rfl) rfl (PI.box (pi_list (pv 3))) (pg_name (i := 5) sc_Paging_settle.nd rfl (Or.inl rfl)) (pss_one (ps_expr (pe_m (pv 0) T.c_Paging T.m_Paging_lay c_Paging_lay (hr.mono (by decide)) (takes_of rfl rfl rfl rfl) (pa_cons (pv 5) (pa_cons (pv 1) pa_nil)))))))))), ?_⟩)
  obtain ⟨v0, v1, v2, v3, rfl, h⟩ := h
  dsimp only [cxOf, L2.start]
  obtain ⟨g, r, a, pl, c, ns, lo, bs, l, rfl, rfl, rfl, rfl, ha, hc, hlo, hlon, hbs, gd, O, hl0, hnd, hll, hin, hpl, hos, hown, k⟩ := h
  have hbl : bs.length = l.length := hbs.length
  have hl1 := List.length_pos_iff.mpr hl0
  have hg := O.get (a := g) (o := insPg K r) (.head _)
  have hSD := O.get (a := r.SD) (o := .dK (stD r)) (.tail _ (.head _))
  have hsv := stD_val r pl.1
  have hos' : (r.st pl.1).os[pl.2]? = some 1 := hos
  have hnl : pl.2 < (r.st pl.1).os.length := (List.getElem?_eq_some_iff.mp hos').1
  have Os := O.blk (s' := cSG K (r.st pl.1)) (cPg_st pl.1 (r.st pl.1) rfl)
  have hsp := Os.get (.head _)
  have c1 : cntS (r.st pl.1).os (pl.2 : Int) = 1 := cntS_nat hos'
  walk_at "s"
  refine ask3 ⟨(r.st pl.1).p, (r.st pl.1).q, (r.st pl.1).os, (r.st pl.1).cs, pl.2, c, ns, rfl, rfl, rfl, hc, gd.st pl.1, Os, fun _ H2 c2 O2 => ?_, fun z => by rw [c1] at z; cases z⟩
  rw [Int.toNat_natCast] at O2
  have O3 := O.call (cPg_st pl.1 { (r.st pl.1) with cs := (r.st pl.1).cs.set pl.2 (c2, ns) } rfl) O2
  have gd3 := (gd.mono O2).set_st pl.1 (x := { (r.st pl.1) with cs := (r.st pl.1).cs.set pl.2 (c2, ns) }) ((gd.st pl.1).cellset _ _)
  have hps3 := RG.ps_put r pl c2 ns
  have est : (fupd r.st pl.1 { (r.st pl.1) with cs := (r.st pl.1).cs.set pl.2 (c2, ns) }) pl.1 = { (r.st pl.1) with cs := (r.st pl.1).cs.set pl.2 (c2, ns) } := fupd_same
  generalize hr3 : ({ r with st := fupd r.st pl.1 { (r.st pl.1) with cs := (r.st pl.1).cs.set pl.2 (c2, ns) } } : RG) = r3 at O3 gd3 hps3
  have est3 : r3.st pl.1 = { (r.st pl.1) with cs := (r.st pl.1).cs.set pl.2 (c2, ns) } := by rw [← hr3]; exact est
  have kp3 : Kp r r3 := by rw [← hr3]; exact ⟨rfl, rfl, rfl⟩
  have ha3 := O2.tp _ _ ha
  have hlo3 := O3.fr _ _ hlo hlon
  have hbs3 : Paired (fun b o => OwAt H2 b o) bs l := Paired.mapP hbs fun b o h => O2.tp _ _ h
  have hsp3 : (r3.st pl.1).p = (r.st pl.1).p := by rw [est3]
  have hos3 : (r3.st pl.1).os[pl.2]? = some 1 := by rw [est3]; exact hos'
  have hnl3 : pl.2 < (r3.st pl.1).os.length := (List.getElem?_eq_some_iff.mp hos3).1
  have hlon3 := O3.out hlo hlon
  clear hbs ha hlo hc Os hsp O2 est hg hSD hsv
  walk_at "s"
  intro l2 hl2
  have e1 : cutV (bs.map V.ref) (some 1) none = (bs.drop 1).map V.ref := (cutV_from _ 1).trans (List.map_drop).symm
  rw [e1]
  have S4 := O3.self.new (o := .lst ((bs.drop 1).map V.ref)) hl2
  have OO : Own H2 _ (adr (cPg K g r3)) ((l2, .lst ((bs.drop 1).map V.ref)) :: cPg K g { r3 with st := fupd r3.st pl.1 { (r3.st pl.1) with os := (r3.st pl.1).os.set pl.2 (1 + (0 : Nat)) } }) := S4.eq (by
    rw [show (r3.st pl.1).os.set pl.2 (1 + ((0 : Nat) : Int)) = (r3.st pl.1).os by
      rw [show (1 : Int) + ((0 : Nat) : Int) = 1 by omega]
      obtain ⟨h1, h2⟩ := List.getElem?_eq_some_iff.mp hos3
      conv => lhs; arg 3; rw [← h2]
      rw [List.set_getElem_self]]
    rw [show (fupd r3.st pl.1 { (r3.st pl.1) with os := (r3.st pl.1).os }) = r3.st from fupd_id])
  walk_at "s"
  rw [← hsp3]
  refine forL (K := K) (a := l2) (xs := (bs.drop 1).map V.ref) (fun j σ H' => ∃ v5 : Option V, σ = [some (.ref g), some (.ref a), some (.ref c), some (.ref lo), some (.ref (r3.st pl.1).p), v5] ∧ Own H2 H' (adr (cPg K g r3)) ((l2, .lst ((bs.drop 1).map V.ref)) :: cPg K g { r3 with st := fupd r3.st pl.1 { (r3.st pl.1) with os := (r3.st pl.1).os.set pl.2 (1 + (j : Nat)) } })) ⟨_, rfl, OO⟩ (fun j σ H' _ ⟨_, _, O⟩ => SqL.of (O.get (.head _))) ?_ ?_
  · clear OO S4
    rintro j x σ H5 hx ⟨v5, rfl, O5⟩
    obtain ⟨b, hb, rfl⟩ := mget hx
    have sb := cPg_st2 (K := K) (g := g) (r := r3) pl.1 { (r3.st pl.1) with os := (r3.st pl.1).os.set pl.2 (1 + (j : Nat)) } { (r3.st pl.1) with os := (r3.st pl.1).os.set pl.2 (1 + ((j + 1 : Nat) : Nat)) } rfl
    have Os := O5.blk (s := cSG K { (r3.st pl.1) with os := (r3.st pl.1).os.set pl.2 (1 + (j : Nat)) }) (s' := cSto K (r3.st pl.1).p (r3.st pl.1).q ((r3.st pl.1).os.set pl.2 (1 + ((j + 1 : Nat) : Nat))) (r3.st pl.1).cs) (.there sb)
    have hsp := Os.get (.head _)
    have ha5 := O5.tp _ _ ha3
    have hc : cntS ((r3.st pl.1).os.set pl.2 (1 + ((j : Nat) : Int))) (pl.2 : Int) = 1 + (j : Nat) := cntS_nat (List.getElem?_set_self hnl3)
    walk_at "s"
    refine ask2 ⟨(r3.st pl.1).p, (r3.st pl.1).q, _, (r3.st pl.1).cs, pl.2, rfl, rfl, Os, fun _ H6 O6 => ?_, fun z => by rw [hc] at z; omega⟩
    rw [Int.toNat_natCast, hc, List.set_set, show (1 : Int) + (j : Nat) + 1 = 1 + ((j + 1 : Nat) : Nat) by omega] at O6
    exact ⟨⟨_, rfl, O5.call (.there sb) O6⟩⟩
  · clear OO S4
    rintro σ H5 ⟨v5, rfl, O5⟩
    rw [List.length_map, List.length_drop, hbl, show (1 : Int) + ((l.length - 1 : Nat) : Int) = (l.length : Int) by omega] at O5
    have O6 := O5.drop (cs' := cPg K g { r3 with st := fupd r3.st pl.1 { (r3.st pl.1) with os := (r3.st pl.1).os.set pl.2 (l.length : Int) } }) (.cons _ (.refl _))
    have gd6 := (gd3.mono O5).set_st pl.1 (x := { (r3.st pl.1) with os := (r3.st pl.1).os.set pl.2 (l.length : Int) }) ((gd3.st pl.1).cntset _ _)
    have hps6 := RG.ps_cnt r3 pl (l.length : Int)
    rw [hps3] at hps6
    generalize hr6 : ({ r3 with st := fupd r3.st pl.1 { (r3.st pl.1) with os := (r3.st pl.1).os.set pl.2 (l.length : Int) } } : RG) = r6 at O6 gd6 hps6
    have kp6 : Kp r3 r6 := by rw [← hr6]; exact ⟨rfl, rfl, rfl⟩
    have hps6 : r6.ps = settleJ r.ps pl ns l 0 := by
      rw [hps6]
      show _ = PS.mk _ _ (fupd r.ps.own pl []) (entAll r.ps.ent [] (some pl)) _
      have e2 : fupd r.ps.own pl [] = r.ps.own := by rw [← hown]; exact fupd_id
      have e3 : entAll r.ps.ent [] (some pl) = r.ps.ent := by
        funext o
        exact if_neg List.not_mem_nil
      rw [e2, e3]
      rfl
    have hlo6 := O6.fr _ _ hlo3 hlon3
    have hlon6 := O6.out hlo3 hlon3
    have ha6 := O6.tp _ _ ha3
    have hbs6 : Paired (fun b o => OwAt H5 b o) bs l := Paired.mapP hbs3 fun b o h => O6.tp _ _ h
    have OR := (O3.call .all O6)
    clear O5 hr6 gd3
    walk_at "s"
    refine forL (K := K) (a := lo) (xs := bs.map V.ref) (fun j σ H' => ∃ (v5 : Option V) (r' : RG), σ = [some (.ref g), some (.ref a), some (.ref c), some (.ref lo), some (.ref (r3.st pl.1).p), v5] ∧ Own H5 H' (adr (cPg K g r6)) (cPg K g r') ∧ RGd K H' r' ∧ Kp r r' ∧ r'.ps = settleJ r.ps pl ns l j) ⟨_, r6, rfl, O6.self, gd6, kp3.trans kp6, hps6⟩ (fun j σ H' _ ⟨_, _, _, O, _⟩ => SqL.of (O.fr _ _ hlo6 hlon6)) ?_ ?_
    · clear O6 OR gd6 hps6
      rintro j x σ H7 hx ⟨v5, r', rfl, O7, gd7, kp7, hps7⟩
      obtain ⟨b, hb, rfl⟩ := mget hx
      obtain ⟨o, ho, hbo⟩ := Paired.at_ hbs6 hb
      have hom := List.mem_of_getElem? ho
      have hjl := (List.getElem?_eq_some_iff.mp ho).1
      obtain ⟨i1, i2, i3⟩ := hin o hom
      have hg7 := O7.get (a := g) (o := insPg K r') (.head _)
      have ha7 := O7.tp _ _ ha6
      have own7 : r'.ps.own pl = l.take j := by rw [hps7]; exact fupd_same
      walk_at "s"
      refine ask3 ⟨g, r', b, o, some pl, rfl, rfl, O7.tp _ _ hbo, ⟨a, rfl, ha7⟩, gd7, O7.self, by show o.1 ∈ r'.tabs.map (·.t); rw [kp7.ts]; exact i1, i2, i3, fun q hq => ?_, fun H8 r8 O8 gd8 kp8 hps8 => ?_⟩
      · cases hq
        rw [own7, kp7.nf, kp7.ns]
        refine ⟨hpl, fun z => ?_, ?_⟩
        · have e := at_split ho
          rw [e] at hnd
          exact (List.nodup_append.mp hnd).2.2 o z o (.head _) rfl
        · rw [List.length_take]
          omega
      · refine ⟨⟨_, r8, rfl, O7.call .all O8, gd8, kp7.trans kp8, ?_⟩⟩
        rw [hps8, hps7, settleJ_lay ho]
    · rintro σ H7 ⟨v5, r', rfl, O7, gd7, kp7, hps7⟩
      rw [List.length_map, hbl] at hps7
      refine k _ r' (OR.call .all O7) gd7 kp7 ?_
      rw [hps7]
      show PS.mk _ _ (fupd r.ps.own pl (l.take l.length)) (entAll r.ps.ent (l.take l.length) (some pl)) _ = _
      rw [List.take_length]
      rfl

/-! ## rooms: pages put out and fetched, in plain words -/
def putOutP (nf : Nat) (s : PS) (i : Nat) : PS := settleP (takeP { liftP s (true, s.hand) with hand := (s.hand + 1) % nf } (false, i)) (false, i) (s.cel (true, s.hand)) (s.own (true, s.hand))
/-- how a frame is found: s1 stands ahead of its taking -/
inductive FT (nf : Nat) (s : PS) : PS → Nat → Prop
  | free {j : Nat} (h : Least s (true, j)) : FT nf s s j
  | out {i j : Nat} (h0 : ∀ (n : Nat) x, (s.os true)[n]? = some x → x ≠ 0) (hi : Least s (false, i)) (h : Least (putOutP nf s i) (true, j)) : FT nf s (putOutP nf s i) j
section
variable {nf ns : Nat} {s s1 : PS} {pl : Pla} {o : Ow2} {l F : List Ow2} {c : List Int} {mp : Ow2 → Bool} {cl : Ow2 → List Int} {st : Ow2 → Nat} {i j : Nat}
theorem JP.hand' (J : JP nf ns s) (h : Nat) (hh : h < nf) : JP nf ns { s with hand := h } := ⟨J.ndl, J.cnt, J.rng, J.tab, J.lnf, J.lns, J.lnc, J.two, J.few, hh, J.pg⟩
theorem Vw.hand' (V : Vw s F mp cl st) (h : Nat) : Vw { s with hand := h } F mp cl st := ⟨V.map, V.blank, V.same, V.cell, V.reg, V.flo⟩
theorem lift_os {k : Bool} (h : k ≠ pl.1) : (liftP s pl).os k = s.os k := by
  show fupd s.os pl.1 ((s.os pl.1).set pl.2 0) k = _
  exact fupd_ne h
theorem settle_page (J : JP nf ns s) (h : ∀ o ∈ l, ∃ q, s.ent o = some q) : ∀ o ∈ l, 0 ≤ o.2 ∧ o.2 < 64 := fun o ho => by
  obtain ⟨q, e⟩ := h o ho
  exact J.pg o (by rw [e]; rfl)
theorem putOut_ok (J : JP nf ns s) (V : Vw s F mp cl st) (hi : Least s (false, i)) (hh : s.own (true, s.hand) ≠ []) : JP nf ns (putOutP nf s i) ∧ Vw (putOutP nf s i) F mp cl st := by
  have h2 : 0 < nf := by have := J.two; omega
  have J1 := (J.lift (true, s.hand)).hand' ((s.hand + 1) % nf) (Nat.mod_lt _ h2)
  have V1 := (V.lift J (true, s.hand)).hand' ((s.hand + 1) % nf)
  obtain ⟨g1, g2, g3, g4, g5, g6⟩ := V.group J (true, s.hand)
  have hos : (liftP s (true, s.hand)).os false = s.os false := lift_os (pl := (true, s.hand)) (show false ≠ true by decide)
  have h0 : (s.os false)[i]? = some 0 := hi.1
  have hr := (List.getElem?_eq_some_iff.mp h0).1
  have hown : s.own (false, i) = [] := J.zero (pl := (false, i)) h0
  have hown1 : (fupd s.own (true, s.hand) []) (false, i) = [] := by rw [fupd_ne (fun z => by cases z)]; exact hown
  have fr : ∀ o ∈ s.own (true, s.hand), ∀ q, o ∉ fupd s.own (true, s.hand) [] q := fun o ho q hq => by
    unfold fupd at hq
    split at hq
    · cases hq
    · rename_i h; exact h (J.uniq hq ho)
  have hr1 : (false, i).2 < ((liftP s (true, s.hand)).os false).length := by rw [hos]; exact hr
  refine ⟨J1.settle (n := 0) (b := []) hown1 hr1 (J.ndl _) fr (fun o ho => J.pg o (by rw [J.tab _ _ ho]; rfl)), ?_⟩
  have V2 := V1.settle (pl := (false, i)) (c := s.cel (true, s.hand)) J1 hown1 hr1 g2 g3 g4 g5 g6
  have e : F.filter (fun o => decide (o ∉ s.own (true, s.hand))) = F := List.filter_eq_self.mpr fun o ho => decide_eq_true fun z => g1 o z ho
  rw [e] at V2
  exact V2
theorem JP.full (J : JP nf ns s) (h0 : ∀ (n : Nat) x, (s.os true)[n]? = some x → x ≠ 0) : s.own (true, s.hand) ≠ [] := fun z => by
  have h1 := J.cnt (true, s.hand) (by show s.hand < (s.os true).length; rw [J.lnf]; exact J.hnd)
  rw [z] at h1
  exact h0 s.hand 0 h1 rfl
theorem FT.ok (f : FT nf s s1 j) (J : JP nf ns s) (V : Vw s F mp cl st) : JP nf ns s1 ∧ Vw s1 F mp cl st ∧ Least s1 (true, j) := by
  cases f with
  | free h => exact ⟨J, V, h⟩
  | out h0 hi h =>
    obtain ⟨h1, h2⟩ := putOut_ok J V hi (J.full h0)
    exact ⟨h1, h2, h⟩
/-- a group on its way settles in a frame -/
theorem FT.settle (f : FT nf s s1 j) (J : JP nf ns s) (V : Vw s l mp cl st) (nd : l.Nodup) (hm : ∀ o ∈ l, mp o = true) (hs : ∀ o ∈ l, st o ≠ 0) (he : ∀ o ∈ l, ∀ o' ∈ l, st o = st o') (hw : ∀ o ∈ l, ∀ o', o' ∉ l → mp o' = true → st o' ≠ st o) (hc : ∀ o ∈ l, cl o = c) : JP nf ns (settleP (takeP s1 (true, j)) (true, j) c l) ∧ Vw (settleP (takeP s1 (true, j)) (true, j) c l) [] mp cl st := by
  obtain ⟨J1, V1, L⟩ := f.ok J V
  have hr := (List.getElem?_eq_some_iff.mp L.1).1
  have h0 := J1.zero L.1
  refine ⟨J1.settle (n := 0) (b := []) h0 hr nd V1.flo (fun o ho => J1.pg o (by rw [V1.map, hm o ho])), ?_⟩
  have V2 := Vw.settle (F := []) (l := l) (c := c) (by rw [List.append_nil]; exact V1) J1 h0 hr hm hs he (fun o ho o' ho' => hw o ho o' (by rw [List.append_nil] at ho'; exact ho')) hc
  exact V2
/-- behind a step that leaves a frame free no page lies in a slot that lay in a frame -/
def P16 (s s' : PS) : Prop := (∃ n : Nat, (s'.os true)[n]? = some 0) → ∀ o n m, s.ent o = some (some (true, n)) → s'.ent o ≠ some (some (false, m))
theorem P16.refl : P16 s s := fun _ o n m h1 h2 => by rw [h1] at h2; cases h2
/-- frames that are taken stay so -/
def FrK (s s' : PS) : Prop := (∃ n : Nat, (s'.os true)[n]? = some 0) → ∃ n : Nat, (s.os true)[n]? = some 0
theorem FrK.refl : FrK s s := fun h => h
theorem P16.trans {s2 : PS} (h : P16 s s1) (h' : P16 s1 s2) (k' : FrK s1 s2) (hb : ∀ o n, s.ent o = some (some (true, n)) → ∃ q, s1.ent o = some (some q)) : P16 s s2 := fun hz o n m h1 h2 => by
  obtain ⟨⟨kk, q⟩, hq⟩ := hb o n h1
  cases kk with
  | false => exact h (k' hz) o n q h1 hq
  | true => exact h' hz o q m hq h2
theorem FrK.trans {s2 : PS} (h : FrK s s1) (h' : FrK s1 s2) : FrK s s2 := fun z => h (h' z)
theorem settle_os : (settleP (takeP s1 (true, j)) (true, j) c l).os true = (s1.os true).set j (l.length : Int) := by
  show setAt (setAt s1.os (true, j) 1) (true, j) (l.length : Int) true = _
  unfold setAt
  rw [fupd_same, fupd_same, List.set_set]
/-- where a frame is free behind it, none was put out -/
theorem FT.noz (f : FT nf s s1 j) (hl : l ≠ []) (hz : ∃ n : Nat, ((settleP (takeP s1 (true, j)) (true, j) c l).os true)[n]? = some 0) : s1 = s := by
  cases f with
  | free h => rfl
  | @out i _ h0 hi h =>
    obtain ⟨n, hn⟩ := hz
    rw [settle_os] at hn
    have eo : (putOutP nf s i).os true = (s.os true).set s.hand 0 := by
      show setAt (setAt (setAt s.os (true, s.hand) 0) (false, i) 1) (false, i) ((s.own (true, s.hand)).length : Int) true = _
      unfold setAt
      rw [fupd_ne (show true ≠ false by decide), fupd_ne (show true ≠ false by decide), fupd_same]
    rw [eo] at hn
    have hj : ((s.os true).set s.hand 0)[j]? = some 0 := by rw [← eo]; exact h.1
    have jh : j = s.hand := by
      by_cases e : j = s.hand
      · exact e
      · rw [List.getElem?_set_ne (fun z => e z.symm)] at hj
        exact absurd rfl (h0 j 0 hj)
    subst jh
    rw [List.set_set] at hn
    have hlen := List.length_pos_iff.mpr hl
    by_cases e : n = s.hand
    · subst e
      have h1 := (List.getElem?_eq_some_iff.mp hn).1
      rw [List.length_set] at h1
      rw [List.getElem?_set_self h1] at hn
      have := Option.some.inj hn
      omega
    · rw [List.getElem?_set_ne (fun z => e z.symm)] at hn
      exact absurd rfl (h0 n 0 hn)
theorem FT.frk (f : FT nf s s1 j) (hl : l ≠ []) : FrK s (settleP (takeP s1 (true, j)) (true, j) c l) := fun hz => by
  have e := f.noz hl hz
  cases f with
  | free h => exact ⟨j, h.1⟩
  | out h0 hi h =>
    obtain ⟨n, hn⟩ := hz
    rw [settle_os, e] at hn
    by_cases z : n = j
    · subst z
      have h1 := (List.getElem?_eq_some_iff.mp hn).1
      rw [List.length_set] at h1
      rw [List.getElem?_set_self h1] at hn
      have := Option.some.inj hn
      have := List.length_pos_iff.mpr hl
      omega
    · rw [List.getElem?_set_ne (fun y => z y.symm)] at hn
      exact ⟨n, hn⟩
theorem settle_ent : (settleP (takeP s1 (true, j)) (true, j) c l).ent o = if o ∈ l then some (some (true, j)) else s1.ent o := rfl
theorem FT.p16 (f : FT nf s s1 j) (hl : l ≠ []) : P16 s (settleP (takeP s1 (true, j)) (true, j) c l) := fun hz o n m h1 h2 => by
  have e := f.noz hl hz
  rw [settle_ent, e] at h2
  split at h2
  · cases h2
  · rw [h1] at h2
    cases h2
theorem fetch_ok {n : Nat} (J : JP nf ns s) (V : Vw s [] mp cl st) (he : s.ent o = some (some (false, n))) (f : FT nf (liftP s (false, n)) s1 j) : s.own (false, n) ≠ [] ∧ JP nf ns (settleP (takeP s1 (true, j)) (true, j) (s.cel (false, n)) (s.own (false, n))) ∧ Vw (settleP (takeP s1 (true, j)) (true, j) (s.cel (false, n)) (s.own (false, n))) [] mp cl st ∧ (settleP (takeP s1 (true, j)) (true, j) (s.cel (false, n)) (s.own (false, n))).ent o = some (some (true, j)) ∧ P16 s (settleP (takeP s1 (true, j)) (true, j) (s.cel (false, n)) (s.own (false, n))) ∧ FrK s (settleP (takeP s1 (true, j)) (true, j) (s.cel (false, n)) (s.own (false, n))) := by
  have ho := V.reg o _ (by simp) he
  have hl : s.own (false, n) ≠ [] := fun z => by rw [z] at ho; cases ho
  have V1 := V.lift J (false, n)
  rw [List.append_nil] at V1
  obtain ⟨g1, g2, g3, g4, g5, g6⟩ := V.group J (false, n)
  obtain ⟨J2, V2⟩ := f.settle (c := s.cel (false, n)) (J.lift (false, n)) V1 (J.ndl _) g2 g3 g4 (fun o ho o' ho' => g5 o ho o' (by rw [List.append_nil]; exact ho')) g6
  have eo : (liftP s (false, n)).os true = s.os true := lift_os (pl := (false, n)) (show true ≠ false by decide)
  have ee : (liftP s (false, n)).ent = s.ent := rfl
  refine ⟨hl, J2, V2, ?_, fun hz o' a b h1 h2 => f.p16 hl hz o' a b (by rw [ee]; exact h1) h2, fun hz => ?_⟩
  · rw [settle_ent, if_pos ho]
  · obtain ⟨a, ha⟩ := f.frk hl hz
    rw [eo] at ha
    exact ⟨a, ha⟩
/-- a page parts: it gets a frame of its own -/
theorem part_ok {e : Option Pla} {v : Nat} (J : JP nf ns s) (V : Vw s [] mp cl st) (he : s.ent o = some e) (f : FT nf (leaveP s o e) s1 j) (hv0 : v ≠ 0) (hv : ∀ o', mp o' = true → st o' ≠ v) : JP nf ns (settleP (takeP s1 (true, j)) (true, j) (cl o) [o]) ∧ Vw (settleP (takeP s1 (true, j)) (true, j) (cl o) [o]) [] mp cl (fupd st o v) ∧ (settleP (takeP s1 (true, j)) (true, j) (cl o) [o]).ent o = some (some (true, j)) := by
  have hmo : mp o = true := by rw [← V.map, he]; rfl
  have J1 : JP nf ns (leaveP s o e) := J.leave fun pl z => V.reg o pl (by simp) (by rw [he, z])
  have V1 := V.leave J he
  have V1' : Vw (leaveP s o e) [o] mp cl (fupd st o v) := by
    refine ⟨V1.map, fun x hx hm => ?_, fun x x' p p' h1 h2 h3 h4 => ?_, V1.cell, V1.reg, V1.flo⟩
    · rw [fupd_ne (fun z => hx (List.mem_singleton.mpr z))]
      exact V1.blank x hx hm
    · rw [fupd_ne (fun z => h1 (List.mem_singleton.mpr z)), fupd_ne (fun z => h2 (List.mem_singleton.mpr z))]
      exact V1.same x x' p p' h1 h2 h3 h4
  obtain ⟨J2, V2⟩ := f.settle (c := cl o) J1 V1' (List.nodup_cons.mpr ⟨List.not_mem_nil, List.nodup_nil⟩) (fun x hx => by rw [List.mem_singleton.mp hx]; exact hmo) (fun x hx => by rw [List.mem_singleton.mp hx, fupd_same]; exact hv0) (fun x hx y hy => by rw [List.mem_singleton.mp hx, List.mem_singleton.mp hy]) (fun x hx y hy hm => by
    rw [List.mem_singleton.mp hx, fupd_same, fupd_ne (fun z => hy (List.mem_singleton.mpr z))]
    exact hv y hm) (fun x hx => by rw [List.mem_singleton.mp hx])
  exact ⟨J2, V2, by rw [settle_ent, if_pos (List.mem_singleton.mpr rfl)]⟩
/-- the cells of a page that lies alone in a frame are put -/
theorem put_ok {c' : List Int} (J : JP nf ns s) (V : Vw s [] mp cl st) (he : s.ent o = some (some pl)) (ha : ∀ o', o' ≠ o → s.ent o' ≠ some (some pl)) : JP nf ns { s with cs := setAt s.cs pl c' } ∧ Vw { s with cs := setAt s.cs pl c' } [] mp (fupd cl o c') st := by
  have hr := J.rng pl o (V.reg o pl (by simp) he)
  refine ⟨⟨J.ndl, J.cnt, J.rng, J.tab, J.lnf, J.lns, fun k => (setAt_len _ _ _ _).trans (J.lnc k), J.two, J.few, J.hnd, J.pg⟩, ⟨V.map, V.blank, V.same, fun x p h1 h2 => ?_, V.reg, V.flo⟩⟩
  have h2 : s.ent x = some (some p) := h2
  show ((setAt s.cs pl c' p.1)[p.2]?).getD [] = _
  rw [setAt_get]
  by_cases z : p = pl
  · rw [if_pos ⟨z, by rw [J.lnc]; exact hr⟩]
    have hx : x = o := by
      by_cases y : x = o
      · exact y
      · exact absurd (by rw [h2, z]) (ha x y)
    rw [hx, fupd_same]
    rfl
  · rw [if_neg (fun y => z y.1), fupd_ne (fun y => z (by rw [y, he] at h2; exact (Option.some.inj (Option.some.inj h2)).symm))]
    exact V.cell x p h1 h2
/-- a page that alone is counted at its place is alone there -/
theorem alone_of (J : JP nf ns s) (V : Vw s [] mp cl st) (he : s.ent o = some (some pl)) (hc : (s.os pl.1)[pl.2]? = some 1) : s.own pl = [o] ∧ ∀ o', o' ≠ o → s.ent o' ≠ some (some pl) := by
  have ho := V.reg o pl (by simp) he
  have h1 := J.cnt pl (J.rng pl o ho)
  rw [hc] at h1
  have h2 := Option.some.inj h1
  have h3 : s.own pl = [o] := by
    match hm : s.own pl, h2 with
    | [], h2 => simp at h2
    | [x], _ =>
      rw [hm] at ho
      rw [List.mem_singleton.mp ho]
    | x :: y :: r, h2 => simp only [List.length_cons] at h2; omega
  refine ⟨h3, fun o' hne h4 => ?_⟩
  have h5 := V.reg o' pl (by simp) h4
  rw [h3] at h5
  exact hne (List.mem_singleton.mp h5)
/-- alone where it lies: it may stand by a poke of its own -/
theorem Vw.fresh {v : Nat} (V : Vw s [] mp cl st) (he : s.ent o = some (some pl)) (ha : ∀ o', o' ≠ o → s.ent o' ≠ some (some pl)) (hv0 : v ≠ 0) (hv : ∀ o', mp o' = true → st o' ≠ v) : Vw s [] mp cl (fupd st o v) := by
  have mpe : ∀ o q, s.ent o = some (some q) → mp o = true := fun o q h => by rw [← V.map, h]; rfl
  refine ⟨V.map, fun x hx hm => ?_, fun x x' p p' h1 h2 h3 h4 => ?_, V.cell, V.reg, V.flo⟩
  · by_cases z : x = o
    · subst z
      rw [fupd_same, he]
      exact ⟨fun y => (by cases y), fun y => absurd y hv0⟩
    · rw [fupd_ne z]
      exact V.blank x hx hm
  · by_cases z : x = o
    · subst z
      rw [he] at h3
      cases h3
      rw [fupd_same]
      by_cases z' : x' = x
      · subst z'
        rw [he] at h4
        cases h4
        rw [fupd_same]
        exact ⟨fun _ => rfl, fun _ => rfl⟩
      · rw [fupd_ne z']
        exact ⟨fun y => absurd (by rw [h4, y]) (ha x' z'), fun y => absurd y.symm (hv x' (mpe _ _ h4))⟩
    · rw [fupd_ne z]
      by_cases z' : x' = o
      · subst z'
        rw [he] at h4
        cases h4
        rw [fupd_same]
        exact ⟨fun y => absurd (by rw [h3, y]) (ha x z), fun y => absurd y (hv x (mpe _ _ h3))⟩
      · rw [fupd_ne z']
        exact V.same x x' p p' h1 h2 h3 h4
end

def cellE (s : PS) : Option Pla → List Int
  | none => zeros
  | some pl => s.cel pl
def sp_Paging_cells (K : PySem.W.Frag) : Sp := sp2 fun self y H Q _ => ∃ g r b o e, self = .ref g ∧ y = .ref b ∧ OwAt H b o ∧ RGd K H r ∧ Own H H (adr (cPg K g r)) (cPg K g r) ∧ r.has o.1 ∧ r.ps.ent o = some e ∧ (∀ pl, e = some pl → ∃ x, (r.ps.os pl.1)[pl.2]? = some x ∧ x ≠ 0) ∧
  ∀ H' c, Own H H' (adr (cPg K g r)) ((c, .lst ((cellE r.ps e).map V.int)) :: cPg K g r) → Q (.ref c) H'
def sp_Paging_put (K : PySem.W.Frag) : Sp := sp3 fun self y z H Q _ => ∃ g r b o pl c ns, self = .ref g ∧ y = .ref b ∧ z = .ref c ∧ OwAt H b o ∧ H c = some (.lst (ns.map V.int)) ∧ RGd K H r ∧ Own H H (adr (cPg K g r)) (cPg K g r) ∧ r.has o.1 ∧ r.ps.ent o = some (some pl) ∧ (∃ x, (r.ps.os pl.1)[pl.2]? = some x ∧ x ≠ 0) ∧
  ∀ H' r', Own H H' (adr (cPg K g r)) (cPg K g r') → RGd K H' r' → Kp r r' → r'.ps = { r.ps with cs := setAt r.ps.cs pl ns } → Q .non H'
theorem RG.has_of {r : RG} {o : Ow2} (h : (r.ps.ent o).isSome = true) : r.has o.1 := by
  have h : ((r.tabs.find? fun x => decide (x.t = o.1)).bind fun x => x.en o.2).isSome = true := h
  cases e : r.tabs.find? fun x => decide (x.t = o.1) with
  | none => rw [e] at h; cases h
  | some x => exact List.mem_map.mpr ⟨x, List.mem_of_find?_eq_some e, by simpa using List.find?_some e⟩
theorem sc_Paging_cells : FnScope ["self", "owner", "entry"] ["self", "owner"] (defScope s_Paging_cells) := ⟨rfl, rfl, rfl, by decide +kernel, rfl, by decide +kernel, by decide +kernel⟩
theorem ok_Paging_cells {P : Program} {w : World} {K : PySem.W.Frag} {mg : Str → Option Value} {base : Heap} (T : Txt K mg) : Cee P w K mg base 4 (He.fAd K ("Paging", some "cells")) ["self", "owner"] (sp_Paging_cells K) := by
  have c_Paging_entry : Cee P w K mg base 2 (He.fAd K ("Paging", some "entry")) ["self", "owner"] (sp_Paging_entry K) := ok_Paging_entry T
  have c_Store_cells : Cee P w K mg base 3 (He.fAd K ("Store", some "cells")) ["self", "page"] (sp_Store_cells K) := ok_Store_cells T
  refine cee_of T.d_Paging_cells sc_Paging_cells (fun _ _ _ _ _ _ us hl => match us, hl with | [_, _], _ => rfl) (fun vs H Q E h => sp2_len h) (fun cdv A outer s H vs Q E hr h => ⟨_, (pss_cons (ps_set (i := 2) sc_Paging_cells.nd rfl (Or.inl rfl) (pe_m (pv 0) T.c_Paging T.m_Paging_entry c_Paging_entry (hr.mono (by decide)) (takes_of rfl rfl rfl rfl) (pa_cons (pv 1) pa_nil))) (pss_cons (ps_if (pt_cmpR (op_eqD hr.units) (pv 2) (pe_glob (v := .ref (He.ga K "BLANK")) rfl T.g_BLANK rfl) (nomark _)) (pss_one (ps_ret (pe_op op_rep (pe_lst (pa_cons pe_int pa_nil)) (pe_gc (v := .int 8) rfl (gI T.g_PAGE_SIZE))))) pss_nil) (pss_one (ps_ret (pe_m (pe_dget (hu_of hr) (pe_fld (pv 0) rfl) (pe_ix ix_tup (pv 2) pe_int (fun _ _ => rfl)) (fun _ _ => rfl)) T.c_Store T.m_Store_cells c_Store_cells (hr.mono (by decide)) (takes_of rfl rfl rfl rfl) (pa_cons (pe_ix ix_tup (pv 2) pe_int (fun _ _ => rfl)) pa_nil)))))), ?_⟩)
  obtain ⟨v0, v1, rfl, h⟩ := h
  dsimp only [cxOf, L2.start]
  obtain ⟨g, r, b, o, e, rfl, rfl, hb, gd, O, ht, hent, hpl, k⟩ := h
  have hg := O.get (a := g) (o := insPg K r) (.head _)
  walk_at "s"
  refine ask2 ⟨g, r, b, o, rfl, rfl, hb, gd, O, ht, fun v hv => ?_⟩
  rw [hent] at hv
  obtain ⟨u, rfl, hu⟩ := EntV.of hv
  walk_at "s"
  dsimp only [tC, Option.getD_some]
  refine blank_eq (T.q_BLANK H) hu ?_
  cases e with
  | none =>
    have hsz : ([V.int 0] : List V).length * (8 : Int).toNat ≤ sizeLine := sz_le (by decide)
    walk_at "s"
    intro c1 hc1
    have O1 := O.new (o := .lst [V.int 0]) hc1
    walk_at "s"
    intro c hc
    exact k _ c ((O1.new (o := .lst (zeros.map V.int)) hc).drop (.cons₂ _ (.cons _ (.refl _))))
  | some pl =>
    obtain ⟨x, hx, hx0⟩ := hpl pl rfl
    obtain ⟨a, rfl, ha⟩ := id hu
    have hSD := O.get (a := r.SD) (o := .dK (stD r)) (.tail _ (.head _))
    have hsv := stD_val r pl.1
    have Os := O.blk (s' := cSG K (r.st pl.1)) (cPg_st pl.1 (r.st pl.1) rfl)
    have hsp := Os.get (.head _)
    have c1 : cntS (r.st pl.1).os (pl.2 : Int) = x := cntS_nat hx
    walk_at "s"
    refine ask2 ⟨(r.st pl.1).p, (r.st pl.1).q, (r.st pl.1).os, (r.st pl.1).cs, pl.2, rfl, rfl, gd.st pl.1, Os, fun _ x hx H2 c O2 => ?_, fun z => absurd (c1.symm.trans z) hx0⟩
    rw [Int.toNat_natCast] at hx
    have hcel : x.2 = r.ps.cel pl := (RG.cel_at hx).symm
    rw [hcel] at O2
    exact k _ c ((O.callE (e := [(c, .lst ((r.ps.cel pl).map V.int))]) (cPg_st pl.1 (r.st pl.1) rfl) O2).eq (by rw [fupd_id]; rfl))
theorem sc_Paging_put : FnScope ["self", "owner", "cells", "entry"] ["self", "owner", "cells"] (defScope s_Paging_put) := ⟨rfl, rfl, rfl, by decide +kernel, rfl, by decide +kernel, by decide +kernel⟩
theorem ok_Paging_put {P : Program} {w : World} {K : PySem.W.Frag} {mg : Str → Option Value} {base : Heap} (T : Txt K mg) : Cee P w K mg base 4 (He.fAd K ("Paging", some "put")) ["self", "owner", "cells"] (sp_Paging_put K) := by
  have c_Paging_entry : Cee P w K mg base 2 (He.fAd K ("Paging", some "entry")) ["self", "owner"] (sp_Paging_entry K) := ok_Paging_entry T
  have c_Store_put : Cee P w K mg base 3 (He.fAd K ("Store", some "put")) ["self", "page", "cells"] (sp_Store_put K) := ok_Store_put T
  refine cee_of T.d_Paging_put sc_Paging_put (fun _ _ _ _ _ _ us hl => match us, hl with | [_, _, _], _ => rfl) (fun vs H Q E h => sp3_len h) (fun cdv A outer s H vs Q E hr h => ⟨_, (pss_cons (ps_set (i := 3) sc_Paging_put.nd rfl (Or.inl rfl) (pe_m (pv 0) T.c_Paging T.m_Paging_entry c_Paging_entry (hr.mono (by decide)) (takes_of rfl rfl rfl rfl) (pa_cons (pv 1) pa_nil))) (pss_one (ps_expr (pe_m (pe_dget (hu_of hr) (pe_fld (pv 0) rfl) (pe_ix ix_tup (pv 3) pe_int (fun _ _ => rfl)) (fun _ _ => rfl)) T.c_Store T.m_Store_put c_Store_put (hr.mono (by decide)) (takes_of rfl rfl rfl rfl) (pa_cons (pe_ix ix_tup (pv 3) pe_int (fun _ _ => rfl)) (pa_cons (pv 2) pa_nil)))))), ?_⟩)
  obtain ⟨v0, v1, v2, rfl, h⟩ := h
  dsimp only [cxOf, L2.start]
  obtain ⟨g, r, b, o, pl, c, ns, rfl, rfl, rfl, hb, hc, gd, O, ht, hent, ⟨x, hx, hx0⟩, k⟩ := h
  have hg := O.get (a := g) (o := insPg K r) (.head _)
  walk_at "s"
  refine ask2 ⟨g, r, b, o, rfl, rfl, hb, gd, O, ht, fun v hv => ?_⟩
  rw [hent] at hv
  obtain ⟨u, rfl, hu⟩ := EntV.of hv
  obtain ⟨a, rfl, ha⟩ := id hu
  have hSD := O.get (a := r.SD) (o := .dK (stD r)) (.tail _ (.head _))
  have hsv := stD_val r pl.1
  have Os := O.blk (s' := cSG K (r.st pl.1)) (cPg_st pl.1 (r.st pl.1) rfl)
  have hsp := Os.get (.head _)
  have c1 : cntS (r.st pl.1).os (pl.2 : Int) = x := cntS_nat hx
  dsimp only [Option.getD_some]
  walk_at "s"
  refine ask3 ⟨(r.st pl.1).p, (r.st pl.1).q, (r.st pl.1).os, (r.st pl.1).cs, pl.2, c, ns, rfl, rfl, rfl, hc, gd.st pl.1, Os, fun _ H2 c2 O2 => ?_, fun z => absurd (c1.symm.trans z) hx0⟩
  rw [Int.toNat_natCast] at O2
  have O3 := O.call (cPg_st pl.1 { (r.st pl.1) with cs := (r.st pl.1).cs.set pl.2 (c2, ns) } rfl) O2
  have gd3 := (gd.mono O2).set_st pl.1 (x := { (r.st pl.1) with cs := (r.st pl.1).cs.set pl.2 (c2, ns) }) ((gd.st pl.1).cellset _ _)
  exact k _ _ O3 gd3 ⟨rfl, rfl, rfl⟩ (RG.ps_put r pl c2 ns)
def sp_Paging_put_out (K : PySem.W.Frag) : Sp := sp1 fun self H Q _ => ∃ g r i, self = .ref g ∧ RGd K H r ∧ JP r.nf r.ns r.ps ∧ Own H H (adr (cPg K g r)) (cPg K g r) ∧ r.ps.own (true, r.ps.hand) ≠ [] ∧ (r.ps.own (true, r.ps.hand)).length < 9000 ∧ Least r.ps (false, i) ∧
  ∀ H' r', Own H H' (adr (cPg K g r)) (cPg K g r') → RGd K H' r' → Kp r r' → r'.ps = putOutP r.nf r.ps i → Q .non H'
def sp_Paging_frame_taken (K : PySem.W.Frag) : Sp := sp1 fun self H Q _ => ∃ g r, self = .ref g ∧ RGd K H r ∧ JP r.nf r.ns r.ps ∧ Own H H (adr (cPg K g r)) (cPg K g r) ∧ (∀ pl, (r.ps.own pl).length < 9000) ∧ (∃ q : Pla, (r.ps.os q.1)[q.2]? = some 0) ∧
  ∀ H' r' T s1 j, Own H H' (adr (cPg K g r)) (cPg K g r') → RGd K H' r' → Kp r r' → FT r.nf r.ps s1 j → r'.ps = takeP s1 (true, j) → H' T = some (.tup (plaV (true, j))) → Q (.ref T) H'
/-- a store's least free page is taken -/
theorem RG.ps_take (r : RG) (pl : Pla) (a : Addr) : RG.ps { r with st := fupd r.st pl.1 { (r.st pl.1) with os := (r.st pl.1).os.set pl.2 1, cs := (r.st pl.1).cs.set pl.2 (a, zeros) } } = takeP r.ps pl := by
  rw [RG.ps_st]
  unfold takeP setAt
  show PS.mk _ (fupd r.ps.cs pl.1 (((r.st pl.1).cs.set pl.2 (a, zeros)).map (·.2))) _ _ _ = _
  rw [List.map_set]
  rfl
theorem cPg_take {K : PySem.W.Frag} {g : Addr} {r : RG} (pl : Pla) (a : Addr) : Sub (cPg K g r) (cSG K (r.st pl.1)) (cSto K (r.st pl.1).p (r.st pl.1).q ((r.st pl.1).os.set pl.2 1) ((r.st pl.1).cs.set pl.2 (a, zeros))) (cPg K g { r with st := fupd r.st pl.1 { (r.st pl.1) with os := (r.st pl.1).os.set pl.2 1, cs := (r.st pl.1).cs.set pl.2 (a, zeros) } }) := cPg_st pl.1 { (r.st pl.1) with os := (r.st pl.1).os.set pl.2 1, cs := (r.st pl.1).cs.set pl.2 (a, zeros) } rfl
theorem StoOk.take {os : List Int} {cs : List Pg} (h : StoOk os cs) (n : Nat) (x : Int) (y : Pg) : StoOk (os.set n x) (cs.set n y) := (h.cntset n x).cellset n y
theorem least_ex {l : List Int} (h : (0 : Int) ∈ l) : ∃ j : Nat, l[j]? = some 0 ∧ ∀ m : Nat, m < j → ∀ x, l[m]? = some x → x ≠ 0 := idx_find h
theorem sc_Paging_put_out : FnScope ["self", "cells", "owners"] ["self"] (defScope s_Paging_put_out) := ⟨rfl, rfl, rfl, by decide +kernel, rfl, by decide +kernel, by decide +kernel⟩
theorem ok_Paging_put_out {P : Program} {w : World} {K : PySem.W.Frag} {mg : Str → Option Value} {base : Heap} (T : Txt K mg) : Cee P w K mg base 5 (He.fAd K ("Paging", some "put_out")) ["self"] (sp_Paging_put_out K) := by
  have c_Paging_lifted : Cee P w K mg base 4 (He.fAd K ("Paging", some "lifted")) ["self", "entry"] (sp_Paging_lifted K) := ok_Paging_lifted T
  have c_Paging_settle : Cee P w K mg base 4 (He.fAd K ("Paging", some "settle")) ["self", "entry", "cells", "owners"] (sp_Paging_settle K) := ok_Paging_settle T
  have c_Store_take : Cee P w K mg base 1 (He.fAd K ("Store", some "take")) ["self"] (sp_Store_take K) := ok_Store_take T
  refine cee_of T.d_Paging_put_out sc_Paging_put_out (fun _ _ _ _ _ _ us hl => match us, hl with | [_], _ => rfl) (fun vs H Q E h => sp1_len h) (fun cdv A outer s H vs Q E hr h => ⟨_, (pss_cons (ps_asg (pe_m (pv 0) T.c_Paging T.m_Paging_lifted c_Paging_lifted (hr.mono (by decide)) (takes_of rfl rfl rfl rfl) (pa_cons (pe_tup (pa_cons pe_str (pa_cons (pe_fld (pv 0) rfl) pa_nil))) pa_nil)) (pg_tup rfl (pgs_cons (pg_name (i := 1) sc_Paging_put_out.nd rfl (Or.inl rfl)) (pgs_cons (pg_name (i := 2) sc_Paging_put_out.nd rfl (Or.inl rfl)) pgs_nil)))) (pss_cons (ps_fld (pv 0) (pe_op op_mod (pe_op op_add (pe_fld (pv 0) rfl) pe_int) (pe_fld (pv 0) rfl)) rfl) (pss_one (ps_expr (pe_m (pv 0) T.c_Paging T.m_Paging_settle c_Paging_settle (hr.mono (by decide)) (takes_of rfl rfl rfl rfl) (pa_cons (pe_tup (pa_cons pe_str (pa_cons (pe_m0 (pe_dget (hu_of hr) (pe_fld (pv 0) rfl) pe_str (fun _ _ => rfl)) T.c_Store T.m_Store_take c_Store_take (hr.mono (by decide)) (takes_of rfl rfl rfl rfl)) pa_nil))) (pa_cons (pv 1) (pa_cons (pv 2) pa_nil)))))))), ?_⟩)
  obtain ⟨v0, rfl, h⟩ := h
  dsimp only [cxOf, L2.start]
  obtain ⟨g, r, i, rfl, gd, J, O, h0, hlen, hi, k⟩ := h
  have hg := O.get (a := g) (o := insPg K r) (.head _)
  walk_at "s"
  intro a ha
  have hhd : (r.hand.toNat : Int) = r.hand := Int.toNat_of_nonneg gd.hd
  have S1 := O.newT (o := .tup [.str "frame", .int r.hand]) ha
  have hr0 : (true, r.ps.hand).2 < (r.ps.os (true, r.ps.hand).1).length := by show r.ps.hand < (r.ps.os true).length; rw [J.lnf]; exact J.hnd
  have hta : (upd H a (.tup [.str "frame", .int r.hand])) a = some (.tup (plaV (true, r.ps.hand))) := by
    rw [upd_same]
    show _ = some (HO.tup [.str "frame", .int (r.hand.toNat : Int)])
    rw [hhd]
  walk_at "s"
  refine ask2 ⟨g, r, a, (true, r.ps.hand), rfl, rfl, hta, gd.mono S1, S1.self, h0, Nat.lt_trans hlen (by decide), J.cnt _ hr0, fun H2 r2 T c lo bs O2 gd2 kp2 hps2 hT hbs => ?_⟩
  have O3 := S1.call .all O2
  have hnf0 : 0 < r.nf := by have := J.two; omega
  have hnfi : (0 : Int) < (r2.nf : Int) := by rw [kp2.nf]; omega
  have hhn : 0 ≤ (r2.hand + 1) % (r2.nf : Int) := Int.emod_nonneg _ (by omega)
  have hh2 : r2.hand.toNat = r.hand.toNat := congrArg PS.hand hps2
  have hg3 := O3.get (a := g) (o := insPg K r2) (.tail _ (.tail _ (.head _)))
  have O4 : Own H _ (adr (cPg K g r)) ((c, .lst ((r.ps.cel (true, r.ps.hand)).map V.int)) :: (lo, .lst (bs.map V.ref)) :: cPg K g { r2 with hand := (r2.hand + 1) % (r2.nf : Int) }) := O3.wr (a := g) (o' := insPg K { r2 with hand := (r2.hand + 1) % (r2.nf : Int) }) (.there (.there .here))
  have S4 : Own H2 _ (adr ((c, .lst ((r.ps.cel (true, r.ps.hand)).map V.int)) :: (lo, .lst (bs.map V.ref)) :: cPg K g r2)) ((c, .lst ((r.ps.cel (true, r.ps.hand)).map V.int)) :: (lo, .lst (bs.map V.ref)) :: cPg K g { r2 with hand := (r2.hand + 1) % (r2.nf : Int) }) := O3.self.wr (a := g) (o' := insPg K { r2 with hand := (r2.hand + 1) % (r2.nf : Int) }) (.there (.there .here))
  have gd4 : RGd K _ { r2 with hand := (r2.hand + 1) % (r2.nf : Int) } := ⟨gd2.st, gd2.tab, (gd2.mono S4).ents, gd2.ndt, gd2.few, gd2.ndo, gd2.inr, gd2.two, hhn⟩
  have hps4 : RG.ps { r2 with hand := (r2.hand + 1) % (r2.nf : Int) } = { liftP r.ps (true, r.ps.hand) with hand := (r.ps.hand + 1) % r.nf } := by
    have e1 : ((r2.hand + 1) % (r2.nf : Int)).toNat = (r.ps.hand + 1) % r.nf := by
      show _ = (r.hand.toNat + 1) % r.nf
      rw [← hh2, kp2.nf]
      obtain ⟨n, hn⟩ : ∃ n : Nat, r2.hand = n := ⟨r2.hand.toNat, (Int.toNat_of_nonneg gd2.hd).symm⟩
      rw [hn, Int.toNat_natCast]
      exact congrArg Int.toNat (Int.natCast_emod (n + 1) r.nf).symm
    rw [← hps2, ← e1]
    rfl
  have hbs4 := Paired.mapP hbs fun b o h => S4.tp _ _ h
  have kp4 : Kp r { r2 with hand := (r2.hand + 1) % (r2.nf : Int) } := ⟨kp2.nf, kp2.ns, kp2.tp⟩
  have hg4 := O4.get (a := g) (o := insPg K { r2 with hand := (r2.hand + 1) % (r2.nf : Int) }) (.tail _ (.tail _ (.head _)))
  have hSD := O4.get (a := r2.SD) (o := .dK (stD r2)) (.tail _ (.tail _ (.tail _ (.head _))))
  have hsv : valV (stD r2) (Sum.inr "slot") = some (.ref (r2.st false).p) := rfl
  have eos : r2.ps.os false = r.ps.os false := by
    rw [hps2]
    exact lift_os (pl := (true, r.ps.hand)) (show false ≠ true by decide)
  have hi4 : Least r2.ps (false, i) := ⟨by rw [eos]; exact hi.1, fun m hm x hx => hi.2 m hm x (by rw [eos] at hx; exact hx)⟩
  have Os := O4.blk (s := cSG K (r2.st false)) (s' := cSG K (r2.st false)) (.there (.there (cPg_st (r := { r2 with hand := (r2.hand + 1) % (r2.nf : Int) }) false (r2.st false) rfl)))
  have hsp := Os.get (.head _)
  have hosl : (r2.st false).os[i]? = some 0 := hi4.1
  have hlo4 := O4.get (a := lo) (o := .lst (bs.map V.ref)) (.tail _ (.head _))
  walk_at "s"
  refine ask1 ⟨(r2.st false).p, (r2.st false).q, (r2.st false).os, (r2.st false).cs, rfl, gd2.st false, Os, fun z => absurd (List.mem_of_getElem? hosl) z, fun j hj hm H5 c5 O5 => ?_⟩
  have hji : j = i := by
    by_cases h1 : j < i
    · exact absurd rfl (hi4.2 j h1 0 hj)
    · by_cases h2 : i < j
      · exact absurd rfl (hm i h2 0 hosl)
      · omega
  subst hji
  have O6 := O4.call (.there (.there (cPg_take (r := { r2 with hand := (r2.hand + 1) % (r2.nf : Int) }) (false, j) c5))) O5
  have gd6 := (gd4.mono O5).set_st false (x := { (r2.st false) with os := (r2.st false).os.set j 1, cs := (r2.st false).cs.set j (c5, zeros) }) ((gd2.st false).take _ _ _)
  have hps6 := RG.ps_take { r2 with hand := (r2.hand + 1) % (r2.nf : Int) } (false, j) c5
  rw [hps4] at hps6
  have hbs6 := Paired.mapP hbs4 fun b o h => O5.tp _ _ h
  clear hj hm O4 S4 gd4 hbs4 Os hsp hg4 hSD hlo4 O3 O2
  walk_at "s"
  intro T2 hT2
  have S7 := O6.self.newT (o := .tup [.str "slot", .int (j : Nat)]) hT2
  have hbs7 := Paired.mapP hbs6 fun b o h => S7.tp _ _ h
  have hg7 := S7.get (a := g) (.tail _ (.tail _ (.head _)))
  have hc7 := S7.get (a := c) (o := .lst ((r.ps.cel (true, r.ps.hand)).map V.int)) (.head _)
  have hlo7 := S7.get (a := lo) (o := .lst (bs.map V.ref)) (.tail _ (.head _))
  walk_at "s"
  refine ask4 ⟨g, _, T2, (false, j), c, r.ps.cel (true, r.ps.hand), lo, bs, r.ps.own (true, r.ps.hand), rfl, rfl, rfl, rfl, upd_same, hc7, hlo7, fun z => ?_, hbs7, gd6.mono S7, (S7.drop (.cons _ (.cons _ (.refl _)))).self, h0, J.ndl _, hlen, fun o ho => ?_, ?_, ?_, ?_, fun H8 r8 O8 gd8 kp8 hps8 => ?_⟩
  · exact S7.sep (X := [(c, .lst ((r.ps.cel (true, r.ps.hand)).map V.int)), (lo, .lst (bs.map V.ref))]) (.tail _ (.head _)) z
  · have he : (r.ps.ent o).isSome = true := by rw [J.tab _ _ ho]; rfl
    refine ⟨?_, J.pg o he⟩
    show o.1 ∈ r2.tabs.map (·.t)
    rw [kp2.ts]
    exact RG.has_of he
  · refine places_mem.mpr ?_
    show j < r2.ns
    rw [kp2.ns, ← J.lns]
    exact (List.getElem?_eq_some_iff.mp hi.1).1
  · rw [hps6]
    show (setAt (liftP r.ps (true, r.ps.hand)).os (false, j) 1 false)[j]? = some 1
    unfold setAt
    rw [fupd_same, lift_os (pl := (true, r.ps.hand)) (show false ≠ true by decide)]
    exact List.getElem?_set_self (List.getElem?_eq_some_iff.mp hi.1).1
  · rw [hps6]
    show fupd r.ps.own (true, r.ps.hand) [] (false, j) = []
    rw [fupd_ne (fun z => by cases z)]
    exact J.zero hi.1
  · have O9 := (((O6.call .all S7).drop (cs' := cPg K g _) (.cons _ (.cons _ (.refl _)))).call .all O8)
    refine k _ r8 O9 gd8 ⟨kp8.nf.trans kp2.nf, kp8.ns.trans kp2.ns, kp8.tp.trans kp2.tp⟩ ?_
    rw [hps8, hps6]
    rfl

theorem putOut_os {nf i : Nat} {s : PS} : (putOutP nf s i).os true = (s.os true).set s.hand 0 := by
  show setAt (setAt (setAt s.os (true, s.hand) 0) (false, i) 1) (false, i) ((s.own (true, s.hand)).length : Int) true = _
  unfold setAt
  rw [fupd_ne (show true ≠ false by decide), fupd_ne (show true ≠ false by decide), fupd_same]
theorem sc_Paging_frame_taken : FnScope ["self"] ["self"] (defScope s_Paging_frame_taken) := ⟨rfl, rfl, rfl, by decide +kernel, rfl, by decide +kernel, by decide +kernel⟩
theorem ok_Paging_frame_taken {P : Program} {w : World} {K : PySem.W.Frag} {mg : Str → Option Value} {base : Heap} (T : Txt K mg) : Cee P w K mg base 6 (He.fAd K ("Paging", some "frame_taken")) ["self"] (sp_Paging_frame_taken K) := by
  have c_Store_free : Cee P w K mg base 1 (He.fAd K ("Store", some "free")) ["self"] (sp_Store_free K) := ok_Store_free T
  have c_Paging_put_out : Cee P w K mg base 5 (He.fAd K ("Paging", some "put_out")) ["self"] (sp_Paging_put_out K) := ok_Paging_put_out T
  have c_Store_take : Cee P w K mg base 1 (He.fAd K ("Store", some "take")) ["self"] (sp_Store_take K) := ok_Store_take T
  refine cee_of T.d_Paging_frame_taken sc_Paging_frame_taken (fun _ _ _ _ _ _ us hl => match us, hl with | [_], _ => rfl) (fun vs H Q E h => sp1_len h) (fun cdv A outer s H vs Q E hr h => ⟨_, (pss_cons (PS.box (ps_if (pt_cmpR op_eq (pe_m0 (pe_dget (hu_of hr) (pe_fld (pv 0) rfl) pe_str (fun _ _ => rfl)) T.c_Store T.m_Store_free c_Store_free (hr.mono (by decide)) (takes_of rfl rfl rfl rfl)) pe_int (nomark _)) (pss_one (ps_expr (pe_m0 (pv 0) T.c_Paging T.m_Paging_put_out c_Paging_put_out (hr.mono (by decide)) (takes_of rfl rfl rfl rfl)))) pss_nil)) (pss_one (ps_ret (pe_tup (pa_cons pe_str (pa_cons (pe_m0 (pe_dget (hu_of hr) (pe_fld (pv 0) rfl) pe_str (fun _ _ => rfl)) T.c_Store T.m_Store_take c_Store_take (hr.mono (by decide)) (takes_of rfl rfl rfl rfl)) pa_nil)))))), ?_⟩)
  obtain ⟨v0, rfl, h⟩ := h
  dsimp only [cxOf, L2.start]
  obtain ⟨g, r, rfl, gd, J, O, hlen, ⟨q, hq⟩, k⟩ := h
  have eA : (r.ps.os true).count 0 = 0 → ∀ (n : Nat) x, (r.ps.os true)[n]? = some x → x ≠ 0 := fun h n x hx z => by
    have := List.count_pos_iff.mpr (List.mem_of_getElem? (z ▸ hx))
    omega
  refine cutS (fun σ' H2 => ∃ (r2 : RG) (s1 : PS), σ' = [some (.ref g)] ∧ Own H H2 (adr (cPg K g r)) (cPg K g r2) ∧ RGd K H2 r2 ∧ Kp r r2 ∧ r2.ps = s1 ∧ (∀ j, Least s1 (true, j) → FT r.nf r.ps s1 j) ∧ (0 : Int) ∈ s1.os true) (fun nx hn => ?_) ?_
  · have hg := O.get (a := g) (o := insPg K r) (.head _)
    have hSD := O.get (a := r.SD) (o := .dK (stD r)) (.tail _ (.head _))
    have hsv : valV (stD r) (Sum.inr "frame") = some (.ref (r.st true).p) := rfl
    have Os := O.blk (s' := cSG K (r.st true)) (cPg_st true (r.st true) rfl)
    have hsp := Os.get (.head _)
    walk_at "s"
    refine ask1 ⟨(r.st true).p, (r.st true).q, (r.st true).os, (r.st true).cs, rfl, Os, ?_⟩
    walk_at "s"
    refine if_ii (fun h => ?_) (fun h => ?_)
    · have h0 := eA (show (r.st true).os.count 0 = 0 by omega)
      have hq1 : q.1 = false := by
        cases e : q.1 with
        | false => rfl
        | true => rw [e] at hq; exact absurd rfl (h0 q.2 0 hq)
      obtain ⟨i, hi1, hi2⟩ := least_ex (List.mem_of_getElem? (show (r.ps.os false)[q.2]? = some 0 by rw [← hq1]; exact hq))
      walk_at "s"
      refine ask1 ⟨g, r, i, rfl, gd, J, O, J.full h0, hlen _, ⟨hi1, hi2⟩, fun H2 r2 O2 gd2 kp2 hps2 => ?_⟩
      refine hn _ _ ⟨r2, _, rfl, O2, gd2, kp2, hps2, fun j hj => .out h0 ⟨hi1, hi2⟩ hj, ?_⟩
      rw [putOut_os]
      exact List.mem_of_getElem? (List.getElem?_set_self (by rw [J.lnf]; exact J.hnd))
    · refine hn _ _ ⟨r, r.ps, rfl, O, gd, Kp.refl, rfl, fun j hj => .free hj, ?_⟩
      have h1 : (r.st true).os.count 0 ≠ 0 := fun z => h (by rw [z]; rfl)
      exact List.count_pos_iff.mp (Nat.pos_of_ne_zero h1)
  · rintro σ' H2 ⟨r2, s1, rfl, O2, gd2, kp2, hps2, hft, hz⟩
    have hg := O2.get (a := g) (o := insPg K r2) (.head _)
    have hSD := O2.get (a := r2.SD) (o := .dK (stD r2)) (.tail _ (.head _))
    have hsv : valV (stD r2) (Sum.inr "frame") = some (.ref (r2.st true).p) := rfl
    have Os := O2.blk (s' := cSG K (r2.st true)) (cPg_st true (r2.st true) rfl)
    have hsp := Os.get (.head _)
    have hz2 : (0 : Int) ∈ (r2.st true).os := by rw [← hps2] at hz; exact hz
    walk_at "s"
    refine ask1 ⟨(r2.st true).p, (r2.st true).q, (r2.st true).os, (r2.st true).cs, rfl, gd2.st true, Os, fun z => absurd hz2 z, fun j hj hm H5 c5 O5 => ?_⟩
    have hL : Least s1 (true, j) := by rw [← hps2]; exact ⟨hj, hm⟩
    have O6 := O2.call (cPg_take (true, j) c5) O5
    have gd6 := (gd2.mono O5).set_st true (x := { (r2.st true) with os := (r2.st true).os.set j 1, cs := (r2.st true).cs.set j (c5, zeros) }) ((gd2.st true).take _ _ _)
    have hps6 := RG.ps_take r2 (true, j) c5
    rw [hps2] at hps6
    walk_at "s"
    intro T hT
    have S7 := O6.self.newT (o := .tup [.str "frame", .int (j : Nat)]) hT
    exact k _ _ T s1 j (O6.call .all S7) (gd6.mono S7) ⟨kp2.nf, kp2.ns, kp2.tp⟩ (hft j hL) hps6 upd_same

/-- a state of rooms, as pages tell it -/
structure RSt (K : PySem.W.Frag) (H : Hp) (r : RG) (mp : Ow2 → Bool) (cl : Ow2 → List Int) (st : Ow2 → Nat) (L : List Ow2) : Prop where
  gd : RGd K H r
  jp : JP r.nf r.ns r.ps
  vw : Vw r.ps [] mp cl st
  all : ∀ o, mp o = true → o ∈ L
  few : L.length ≤ 1000
  zer : ∀ o, mp o = true → st o = 0 → cl o = zeros
theorem RSt.len {K : PySem.W.Frag} {H : Hp} {r : RG} {mp : Ow2 → Bool} {cl : Ow2 → List Int} {st : Ow2 → Nat} {L : List Ow2} (h : RSt K H r mp cl st L) (pl : Pla) : (r.ps.own pl).length < 9000 := by
  have h1 := ow_le (mp := L) (h.jp.ndl pl) fun o ho => h.all o (by rw [← h.vw.map, h.jp.tab pl o ho]; rfl)
  have := h.few
  omega
theorem RSt.ent {K : PySem.W.Frag} {H : Hp} {r : RG} {mp : Ow2 → Bool} {cl : Ow2 → List Int} {st : Ow2 → Nat} {L : List Ow2} (h : RSt K H r mp cl st L) {o : Ow2} (ho : mp o = true) : ∃ e, r.ps.ent o = some e ∧ r.has o.1 := by
  have h1 := h.vw.map o
  rw [ho] at h1
  obtain ⟨e, he⟩ := Option.isSome_iff_exists.mp h1
  exact ⟨e, he, RG.has_of h1⟩
theorem RSt.cnt {K : PySem.W.Frag} {H : Hp} {r : RG} {mp : Ow2 → Bool} {cl : Ow2 → List Int} {st : Ow2 → Nat} {L : List Ow2} (h : RSt K H r mp cl st L) {o : Ow2} {pl : Pla} (he : r.ps.ent o = some (some pl)) : o ∈ r.ps.own pl ∧ (r.ps.os pl.1)[pl.2]? = some ((r.ps.own pl).length : Int) ∧ ((r.ps.own pl).length : Int) ≠ 0 ∧ pl ∈ places r.nf r.ns := by
  have ho := h.vw.reg o pl (by simp) he
  have hr := h.jp.rng pl o ho
  have := List.length_pos_of_mem ho
  exact ⟨ho, h.jp.cnt pl hr, by omega, places_mem.mpr (by rw [← h.jp.len]; exact hr)⟩
def sp_Paging_fetch (K : PySem.W.Frag) : Sp := sp2 fun self y H Q _ => ∃ g r b o mp cl st L, self = .ref g ∧ y = .ref b ∧ OwAt H b o ∧ RSt K H r mp cl st L ∧ Own H H (adr (cPg K g r)) (cPg K g r) ∧ mp o = true ∧
  ∀ H' r', Own H H' (adr (cPg K g r)) (cPg K g r') → RSt K H' r' mp cl st L → Kp r r' → (∀ n, r'.ps.ent o ≠ some (some (false, n))) → P16 r.ps r'.ps → FrK r.ps r'.ps → Q .non H'
theorem sc_Paging_fetch : FnScope ["self", "owner", "entry", "cells", "owners"] ["self", "owner"] (defScope s_Paging_fetch) := ⟨rfl, rfl, rfl, by decide +kernel, rfl, by decide +kernel, by decide +kernel⟩
theorem ok_Paging_fetch {P : Program} {w : World} {K : PySem.W.Frag} {mg : Str → Option Value} {base : Heap} (T : Txt K mg) : Cee P w K mg base 7 (He.fAd K ("Paging", some "fetch")) ["self", "owner"] (sp_Paging_fetch K) := by
  have c_Paging_entry : Cee P w K mg base 2 (He.fAd K ("Paging", some "entry")) ["self", "owner"] (sp_Paging_entry K) := ok_Paging_entry T
  have c_Paging_lifted : Cee P w K mg base 4 (He.fAd K ("Paging", some "lifted")) ["self", "entry"] (sp_Paging_lifted K) := ok_Paging_lifted T
  have c_Paging_settle : Cee P w K mg base 4 (He.fAd K ("Paging", some "settle")) ["self", "entry", "cells", "owners"] (sp_Paging_settle K) := ok_Paging_settle T
  have c_Paging_frame_taken : Cee P w K mg base 6 (He.fAd K ("Paging", some "frame_taken")) ["self"] (sp_Paging_frame_taken K) := ok_Paging_frame_taken T
  refine cee_of T.d_Paging_fetch sc_Paging_fetch (fun _ _ _ _ _ _ us hl => match us, hl with | [_, _], _ => rfl) (fun vs H Q E h => sp2_len h) (fun cdv A outer s H vs Q E hr h => ⟨_, (pss_cons (ps_set (i := 2) sc_Paging_fetch.nd rfl (Or.inl rfl) (pe_m (pv 0) T.c_Paging T.m_Paging_entry c_Paging_entry (hr.mono (by decide)) (takes_of rfl rfl rfl rfl) (pa_cons (pv 1) pa_nil))) (pss_one (ps_if (pt_cmpR op_eq (pe_ix ix_tup (pv 2) pe_int (fun _ _ => rfl)) pe_str (nomark _)) (pss_cons (ps_asg (pe_m (pv 0) T.c_Paging T.m_Paging_lifted c_Paging_lifted (hr.mono (by decide)) (takes_of rfl rfl rfl rfl) (pa_cons (pv 2) pa_nil)) (pg_tup rfl (pgs_cons (pg_name (i := 3) sc_Paging_fetch.nd rfl (Or.inl rfl)) (pgs_cons (pg_name (i := 4) sc_Paging_fetch.nd rfl (Or.inl rfl)) pgs_nil)))) (pss_one (ps_expr (pe_m (pv 0) T.c_Paging T.m_Paging_settle c_Paging_settle (hr.mono (by decide)) (takes_of rfl rfl rfl rfl) (pa_cons (pe_m0 (pv 0) T.c_Paging T.m_Paging_frame_taken c_Paging_frame_taken (hr.mono (by decide)) (takes_of rfl rfl rfl rfl)) (pa_cons (pv 3) (pa_cons (pv 4) pa_nil))))))) pss_nil))), ?_⟩)
  obtain ⟨v0, v1, rfl, h⟩ := h
  dsimp only [cxOf, L2.start]
  obtain ⟨g, r, b, o, mp, cl, st, L, rfl, rfl, hb, R, O, hmo, k⟩ := h
  obtain ⟨e, he, hhas⟩ := R.ent hmo
  have hg := O.get (a := g) (o := insPg K r) (.head _)
  walk_at "s"
  refine ask2 ⟨g, r, b, o, rfl, rfl, hb, R.gd, O, hhas, fun v hv => ?_⟩
  rw [he] at hv
  obtain ⟨u, rfl, hu⟩ := EntV.of hv
  have stay : (∀ n, e ≠ some (false, n)) → Q .non H := fun hn => k _ r O R Kp.refl (fun n z => hn n (by rw [he] at z; exact Option.some.inj z)) P16.refl FrK.refl
  dsimp only [Option.getD_some]
  cases e with
  | none =>
    cases hu
    have hq := T.q_BLANK H
    walk_at "s"
    refine if_ss (fun z => absurd z (by decide)) (fun _ => ?_)
    exact stay fun n z => by cases z
  | some pl =>
    obtain ⟨a, rfl, ha⟩ := id hu
    obtain ⟨kk, n⟩ := pl
    cases kk with
    | true =>
      have ha : H a = some (.tup [.str "frame", .int (n : Nat)]) := ha
      walk_at "s"
      refine if_ss (fun z => absurd z (by decide)) (fun _ => ?_)
      exact stay fun n z => by cases z
    | false =>
      have hav : H a = some (.tup (plaV (false, n))) := ha
      have ha : H a = some (.tup [.str "slot", .int (n : Nat)]) := ha
      obtain ⟨c1, c2, c3, c4⟩ := R.cnt he
      have hne : r.ps.own (false, n) ≠ [] := fun z => by rw [z] at c1; cases c1
      walk_at "s"
      refine ask2 ⟨g, r, a, (false, n), rfl, rfl, hav, R.gd, O, hne, Nat.lt_trans (R.len _) (by decide), c2, fun H2 r2 T0 c lo bs O2 gd2 kp2 hps2 hT hbs => ?_⟩
      have O3 := O.call .all O2
      have hg3 := O3.get (a := g) (o := insPg K r2) (.tail _ (.tail _ (.head _)))
      walk_at "s"
      have J2 : JP r2.nf r2.ns r2.ps := by rw [hps2, kp2.nf, kp2.ns]; exact R.jp.lift _
      have O3' := O3.blk (s := cPg K g r2) (s' := []) (.there (.there .all))
      refine ask1 ⟨g, r2, rfl, gd2, J2, O3', fun pl => ?_, ?_, fun H4 r4 T4 s1 j O4 gd4 kp4 hft hps4 hT4 => ?_⟩
      · rw [hps2]
        show (fupd r.ps.own (false, n) [] pl).length < 9000
        unfold fupd
        split
        · exact Nat.zero_lt_of_lt (by decide : 0 < 9000)
        · exact R.len pl
      · rw [hps2]
        refine ⟨(false, n), ?_⟩
        show (setAt r.ps.os (false, n) 0 false)[n]? = some 0
        unfold setAt
        rw [fupd_same]
        exact List.getElem?_set_self (R.jp.rng _ _ c1)
      · rw [hps2, kp2.nf] at hft
        have V1 := R.vw.lift R.jp (false, n)
        rw [List.append_nil] at V1
        obtain ⟨J1, -, L1⟩ := hft.ok (R.jp.lift (false, n)) V1
        obtain ⟨f1, f2, f3, f4, f5, f6⟩ := fetch_ok R.jp R.vw he hft
        have O5 := O3.call (.there (.there .all)) O4
        have hbs5 := Paired.mapP hbs fun b o h => O4.tp _ _ h
        have hc5 := O5.get (a := c) (o := .lst ((r.ps.cel (false, n)).map V.int)) (.head _)
        have hlo5 := O5.get (a := lo) (o := .lst (bs.map V.ref)) (.tail _ (.head _))
        have hj := (List.getElem?_eq_some_iff.mp L1.1).1
        have hjn : j < r.nf := by rw [← J1.lnf]; exact hj
        walk_at "s"
        refine ask4 ⟨g, r4, T4, (true, j), c, r.ps.cel (false, n), lo, bs, r.ps.own (false, n), rfl, rfl, rfl, rfl, hT4, hc5, hlo5, fun z => O5.sep (X := [(c, .lst ((r.ps.cel (false, n)).map V.int)), (lo, .lst (bs.map V.ref))]) (.tail _ (.head _)) z, hbs5, gd4, (O5.drop (cs' := cPg K g r4) (.cons _ (.cons _ (.refl _)))).self, hne, R.jp.ndl _, R.len _, fun o' ho' => ?_, ?_, ?_, ?_, fun H8 r8 O8 gd8 kp8 hps8 => ?_⟩
        · have he' : (r.ps.ent o').isSome = true := by rw [R.jp.tab _ _ ho']; rfl
          refine ⟨?_, R.jp.pg o' he'⟩
          show o'.1 ∈ r4.tabs.map (·.t)
          rw [kp4.ts, kp2.ts]
          exact RG.has_of he'
        · refine places_mem.mpr ?_
          show j < r4.nf
          rw [kp4.nf, kp2.nf]
          exact hjn
        · rw [hps4]
          show (setAt s1.os (true, j) 1 true)[j]? = some 1
          unfold setAt
          rw [fupd_same]
          exact List.getElem?_set_self hj
        · rw [hps4]
          exact J1.zero L1.1
        · have O9 := (O5.drop (cs' := cPg K g r4) (.cons _ (.cons _ (.refl _)))).call .all O8
          have e8 : r8.ps = settleP (takeP s1 (true, j)) (true, j) (r.ps.cel (false, n)) (r.ps.own (false, n)) := by rw [hps8, hps4]
          have kp : Kp r r8 := ⟨kp8.nf.trans (kp4.nf.trans kp2.nf), kp8.ns.trans (kp4.ns.trans kp2.ns), kp8.tp.trans (kp4.tp.trans kp2.tp)⟩
          refine k _ r8 O9 ⟨gd8, by rw [e8, kp.nf, kp.ns]; exact f2, by rw [e8]; exact f3, R.all, R.few, R.zer⟩ kp ?_ (by rw [e8]; exact f5) (by rw [e8]; exact f6)
          intro m hm
          rw [e8, f4] at hm
          cases hm

/-- a page that lay alone lies alone, wherever it came -/
theorem alone_keep {s s' : PS} {o : Ow2} {pl pl' : Pla} {mp : Ow2 → Bool} {cl : Ow2 → List Int} {st : Ow2 → Nat} (V : Vw s [] mp cl st) (V' : Vw s' [] mp cl st) (he : s.ent o = some (some pl)) (ha : ∀ o', o' ≠ o → s.ent o' ≠ some (some pl)) (he' : s'.ent o = some (some pl')) : ∀ o', o' ≠ o → s'.ent o' ≠ some (some pl') := fun o' hne h => by
  have h1 : st o = st o' := (V'.same o o' pl' pl' (by simp) (by simp) he' h).mp rfl
  have hm : mp o' = true := by rw [← V'.map, h]; rfl
  have hmo : mp o = true := by rw [← V.map, he]; rfl
  cases e : s.ent o' with
  | none =>
    have := V.map o'
    rw [e, hm] at this
    cases this
  | some x =>
    cases x with
    | none =>
      have h2 := (V.blank o' (by simp) hm).mp e
      have h3 := (V.blank o (by simp) hmo).mpr (by rw [h1, h2])
      rw [he] at h3
      cases h3
    | some p =>
      have h2 := (V.same o o' pl p (by simp) (by simp) he e).mpr h1
      exact ha o' hne (by rw [e, h2])
theorem own_len {nf ns : Nat} {s : PS} {L : List Ow2} (J : JP nf ns s) (h : ∀ o, (s.ent o).isSome = true → o ∈ L) (hl : L.length ≤ 1000) (pl : Pla) : (s.own pl).length < 9000 := by
  have h1 := ow_le (mp := L) (J.ndl pl) fun o ho => h o (by rw [J.tab pl o ho]; rfl)
  omega
theorem leave_frk {s : PS} {o : Ow2} {e : Option Pla} (h : ∀ pl, e = some pl → 2 ≤ (s.own pl).length) : FrK s (leaveP s o e) := by
  cases e with
  | none => exact FrK.refl
  | some pl =>
    rintro ⟨n, hn⟩
    have hn : (setAt s.os pl (((s.own pl).length : Int) - 1) (true, n).1)[(true, n).2]? = some 0 := hn
    rw [setAt_get] at hn
    split at hn
    · have := Option.some.inj hn
      have := h pl rfl
      omega
    · exact ⟨n, hn⟩
theorem leave_ent {s : PS} {o : Ow2} {e : Option Pla} : (leaveP s o e).ent = s.ent := by cases e <;> rfl
def sp_Paging_part (K : PySem.W.Frag) : Sp := sp2 fun self y H Q _ => ∃ g r b o mp cl st L v, self = .ref g ∧ y = .ref b ∧ OwAt H b o ∧ RSt K H r mp cl st L ∧ Own H H (adr (cPg K g r)) (cPg K g r) ∧ mp o = true ∧ v ≠ 0 ∧ (∀ o', mp o' = true → st o' ≠ v) ∧ L.length ≤ r.nf + r.ns ∧
  ∀ H' r', Own H H' (adr (cPg K g r)) (cPg K g r') → RSt K H' r' mp cl (fupd st o v) L → Kp r r' → (∃ j, r'.ps.ent o = some (some (true, j))) → P16 r.ps r'.ps → FrK r.ps r'.ps → Q .non H'
theorem sc_Paging_part : FnScope ["self", "owner", "entry", "cells"] ["self", "owner"] (defScope s_Paging_part) := ⟨rfl, rfl, rfl, by decide +kernel, rfl, by decide +kernel, by decide +kernel⟩
theorem ok_Paging_part {P : Program} {w : World} {K : PySem.W.Frag} {mg : Str → Option Value} {base : Heap} (T : Txt K mg) : Cee P w K mg base 8 (He.fAd K ("Paging", some "part")) ["self", "owner"] (sp_Paging_part K) := by
  have c_Paging_entry : Cee P w K mg base 2 (He.fAd K ("Paging", some "entry")) ["self", "owner"] (sp_Paging_entry K) := ok_Paging_entry T
  have c_Store_count : Cee P w K mg base 1 (He.fAd K ("Store", some "count")) ["self", "page"] (sp_Store_count K) := ok_Store_count T
  have c_Paging_fetch : Cee P w K mg base 7 (He.fAd K ("Paging", some "fetch")) ["self", "owner"] (sp_Paging_fetch K) := ok_Paging_fetch T
  have c_Paging_cells : Cee P w K mg base 4 (He.fAd K ("Paging", some "cells")) ["self", "owner"] (sp_Paging_cells K) := ok_Paging_cells T
  have c_Paging_leave : Cee P w K mg base 4 (He.fAd K ("Paging", some "leave")) ["self", "owner"] (sp_Paging_leave K) := ok_Paging_leave T
  have c_Paging_settle : Cee P w K mg base 4 (He.fAd K ("Paging", some "settle")) ["self", "entry", "cells", "owners"] (sp_Paging_settle K) := ok_Paging_settle T
  have c_Paging_frame_taken : Cee P w K mg base 6 (He.fAd K ("Paging", some "frame_taken")) ["self"] (sp_Paging_frame_taken K) := ok_Paging_frame_taken T
  refine cee_of T.d_Paging_part sc_Paging_part (fun _ _ _ _ _ _ us hl => match us, hl with | [_, _], _ => rfl) (fun vs H Q E h => sp2_len h) (fun cdv A outer s H vs Q E hr h => ⟨_, (pss_cons (ps_set (i := 2) sc_Paging_part.nd rfl (Or.inl rfl) (pe_m (pv 0) T.c_Paging T.m_Paging_entry c_Paging_entry (hr.mono (by decide)) (takes_of rfl rfl rfl rfl) (pa_cons (pv 1) pa_nil))) (pss_cons (PS.box (ps_if (PW.pt (pw_and (pt_cmpR (op_neD hr.units) (pv 2) (pe_glob (v := .ref (He.ga K "BLANK")) rfl T.g_BLANK rfl) (nomark _)) (pw_and1 (pt_cmpR op_eq (pe_m (pe_dget (hu_of hr) (pe_fld (pv 0) rfl) (pe_ix ix_tup (pv 2) pe_int (fun _ _ => rfl)) (fun _ _ => rfl)) T.c_Store T.m_Store_count c_Store_count (hr.mono (by decide)) (takes_of rfl rfl rfl rfl) (pa_cons (pe_ix ix_tup (pv 2) pe_int (fun _ _ => rfl)) pa_nil)) pe_int (nomark _))))) (pss_cons (ps_expr (pe_m (pv 0) T.c_Paging T.m_Paging_fetch c_Paging_fetch (hr.mono (by decide)) (takes_of rfl rfl rfl rfl) (pa_cons (pv 1) pa_nil))) (pss_one ps_retN)) pss_nil)) (pss_cons (ps_set (i := 3) sc_Paging_part.nd rfl (Or.inl rfl) (pe_m (pv 0) T.c_Paging T.m_Paging_cells c_Paging_cells (hr.mono (by decide)) (takes_of rfl rfl rfl rfl) (pa_cons (pv 1) pa_nil))) (pss_cons (ps_expr (pe_m (pv 0) T.c_Paging T.m_Paging_leave c_Paging_leave (hr.mono (by decide)) (takes_of rfl rfl rfl rfl) (pa_cons (pv 1) pa_nil))) (pss_one (ps_expr (pe_m (pv 0) T.c_Paging T.m_Paging_settle c_Paging_settle (hr.mono (by decide)) (takes_of rfl rfl rfl rfl) (pa_cons (pe_m0 (pv 0) T.c_Paging T.m_Paging_frame_taken c_Paging_frame_taken (hr.mono (by decide)) (takes_of rfl rfl rfl rfl)) (pa_cons (pv 3) (pa_cons (pe_lst (pa_cons (pv 1) pa_nil)) pa_nil)))))))))), ?_⟩)
  obtain ⟨v0, v1, rfl, h⟩ := h
  dsimp only [cxOf, L2.start]
  obtain ⟨g, r, b, o, mp, cl, st, L, v, rfl, rfl, hb, R, O, hmo, hv0, hv, hL, k⟩ := h
  obtain ⟨e, he, hhas⟩ := R.ent hmo
  have hg := O.get (a := g) (o := insPg K r) (.head _)
  walk_at "s"
  refine ask2 ⟨g, r, b, o, rfl, rfl, hb, R.gd, O, hhas, fun w hw => ?_⟩
  rw [he] at hw
  obtain ⟨u, rfl, hu⟩ := EntV.of hw
  dsimp only [Option.getD_some]
  refine cutS (fun σ' H2 => σ' = [some (.ref g), some (.ref b), some u, none] ∧ H2 = H ∧ ∀ pl, e = some pl → 2 ≤ (r.ps.own pl).length) (fun nx hn => ?_) ?_
  · walk_at "s"
    dsimp only [tC]
    refine blank_ne (T.q_BLANK H) hu ?_
    cases e with
    | none =>
      walk_at "s"
      exact hn _ _ ⟨rfl, rfl, fun pl z => by cases z⟩
    | some pl =>
      obtain ⟨c1, c2, c3, c4⟩ := R.cnt he
      obtain ⟨a, rfl, ha⟩ := id hu
      have hSD := O.get (a := r.SD) (o := .dK (stD r)) (.tail _ (.head _))
      have hsv := stD_val r pl.1
      have Os := O.blk (s' := cSG K (r.st pl.1)) (cPg_st pl.1 (r.st pl.1) rfl)
      have hsp := Os.get (.head _)
      have d1 : cntS (r.st pl.1).os (pl.2 : Int) = ((r.ps.own pl).length : Int) := cntS_nat c2
      walk_at "s"
      refine ask2 ⟨(r.st pl.1).p, (r.st pl.1).q, (r.st pl.1).os, (r.st pl.1).cs, pl.2, rfl, rfl, Os, ?_⟩
      rw [d1]
      walk_at "s"
      refine if_ii (fun h1 => ?_) (fun h1 => ?_)
      · rw [h1] at c2
        obtain ⟨a1, a2⟩ := alone_of R.jp R.vw he c2
        walk_at "s"
        refine ask2 ⟨g, r, b, o, mp, cl, st, L, rfl, rfl, hb, R, O, hmo, fun H' r' O' R' kp hns p16 frk => ?_⟩
        obtain ⟨e', he', -⟩ := R'.ent hmo
        have he2 : ∃ j, r'.ps.ent o = some (some (true, j)) := by
          cases e' with
          | none =>
            have h2 := (R'.vw.blank o (by simp) hmo).mp he'
            have h3 := (R.vw.blank o (by simp) hmo).mpr h2
            rw [he] at h3
            cases h3
          | some p =>
            obtain ⟨kk, j⟩ := p
            cases kk with
            | true => exact ⟨j, he'⟩
            | false => exact absurd he' (hns j)
        obtain ⟨j, he2⟩ := he2
        refine k _ r' O' ⟨R'.gd, R'.jp, R'.vw.fresh he2 (alone_keep R.vw R'.vw he a2 he2) hv0 hv, R.all, R.few, fun x hx hz => ?_⟩ kp ⟨j, he2⟩ p16 frk
        unfold fupd at hz
        split at hz
        · exact absurd hz hv0
        · exact R.zer x hx hz
      · refine hn _ _ ⟨rfl, rfl, fun p z => ?_⟩
        cases z
        omega
  · rintro σ' H2 ⟨rfl, rfl, hmany⟩
    have hpl : ∀ pl, e = some pl → o ∈ r.ps.own pl ∧ (r.ps.os pl.1)[pl.2]? = some ((r.ps.own pl).length : Int) ∧ ((r.ps.own pl).length : Int) ≠ 0 := fun pl z => by
      subst z
      obtain ⟨c1, c2, c3, c4⟩ := R.cnt he
      exact ⟨c1, c2, c3⟩
    walk_at "s"
    refine ask2 ⟨g, r, b, o, e, rfl, rfl, hb, R.gd, O, hhas, he, fun pl z => ⟨_, (hpl pl z).2.1, (hpl pl z).2.2⟩, fun H2 c O2 => ?_⟩
    have hcel : cellE r.ps e = cl o := by
      cases e with
      | none => exact (R.zer o hmo ((R.vw.blank o (by simp) hmo).mp he)).symm
      | some pl => exact R.vw.cell o pl (by simp) he
    rw [hcel] at O2
    have hb2 := O2.tp _ _ hb
    have gd2 : RGd K H2 r := R.gd.mono O2
    walk_at "s"
    refine ask2 ⟨g, r, b, o, e, rfl, rfl, hb2, gd2, (O2.drop (cs' := cPg K g r) (.cons _ (.refl _))).self, hhas, he, fun pl z => ⟨(hpl pl z).1, (hpl pl z).2.1⟩, fun H3 r3 O3 gd3 kp3 hps3 => ?_⟩
    have O3' := O2.call (.there .all) O3
    have hb3 := O3.tp _ _ hb2
    have J3 : JP r3.nf r3.ns r3.ps := by
      rw [hps3, kp3.nf, kp3.ns]
      exact R.jp.leave fun pl z => (hpl pl z).1
    have ent3 : r3.ps.ent = r.ps.ent := by rw [hps3, leave_ent]
    have V3 := R.vw.leave R.jp he
    have hz3 : ∃ q : Pla, (r3.ps.os q.1)[q.2]? = some 0 := by
      have hoL := R.all o hmo
      refine J3.room (mp := L.erase o) (fun pl x hx => ?_) ?_
      · have hx2 : x ≠ o := fun z => by
          rw [hps3] at hx
          exact V3.flo o (by simp) pl (z ▸ hx)
        refine (List.mem_erase_of_ne hx2).mpr (R.all x ?_)
        rw [← R.vw.map, ← ent3, J3.tab pl x hx]
        rfl
      · rw [List.length_erase_of_mem hoL, kp3.nf, kp3.ns]
        have := List.length_pos_of_mem hoL
        omega
    have hg3 := O3.get (a := g) (o := insPg K r3) (.head _)
    walk_at "s"
    refine ask1 ⟨g, r3, rfl, gd3, J3, O3.self, own_len J3 (fun x hx => R.all x (by rw [← R.vw.map, ← ent3]; exact hx)) R.few, hz3, fun H4 r4 T4 s1 j O4 gd4 kp4 hft hps4 hT4 => ?_⟩
    rw [hps3, kp3.nf] at hft
    have O4' := O3'.call (.there .all) O4
    have hb4 := O4.tp _ _ hb3
    have J3' : JP r.nf r.ns (leaveP r.ps o e) := R.jp.leave fun pl z => (hpl pl z).1
    obtain ⟨J1, -, L1⟩ := hft.ok J3' V3
    obtain ⟨f1, f2, f3⟩ := part_ok R.jp R.vw he hft hv0 hv
    have hj := (List.getElem?_eq_some_iff.mp L1.1).1
    have hjn : j < r.nf := by rw [← J1.lnf]; exact hj
    walk_at "s"
    intro l5 hl5
    have O5 := O4'.new (o := .lst [V.ref b]) hl5
    have S5 := O4.self.new (o := .lst [V.ref b]) hl5
    have hc5 := O5.get (a := c) (o := .lst ((cl o).map V.int)) (.tail _ (.head _))
    walk_at "s"
    have own1 : s1.own (true, j) = [] := J1.zero L1.1
    refine ask4 ⟨g, r4, T4, (true, j), c, cl o, l5, [b], [o], rfl, rfl, rfl, rfl, S5.tp _ _ hT4, hc5, upd_same, fun z => S5.sep (X := [(l5, .lst [V.ref b])]) (.head _) z, .cons (S5.tp _ _ hb4) .nil, gd4.mono S5, (S5.drop (cs' := cPg K g r4) (.cons _ (.refl _))).self, (by simp), List.nodup_cons.mpr ⟨List.not_mem_nil, List.nodup_nil⟩, by show 1 < 9000; decide, fun o' ho' => ?_, ?_, ?_, ?_, fun H8 r8 O8 gd8 kp8 hps8 => ?_⟩
    · rw [List.mem_singleton.mp ho']
      refine ⟨?_, R.jp.pg o (by rw [he]; rfl)⟩
      show o.1 ∈ r4.tabs.map (·.t)
      rw [kp4.ts, kp3.ts]
      exact hhas
    · refine places_mem.mpr ?_
      show j < r4.nf
      rw [kp4.nf, kp3.nf]
      exact hjn
    · rw [hps4]
      show (setAt s1.os (true, j) 1 true)[j]? = some 1
      unfold setAt
      rw [fupd_same]
      exact List.getElem?_set_self hj
    · rw [hps4]
      exact own1
    · have O9 := (O5.drop (cs' := cPg K g r4) (.cons _ (.cons _ (.refl _)))).call .all O8
      have e8 : r8.ps = settleP (takeP s1 (true, j)) (true, j) (cl o) [o] := by rw [hps8, hps4]
      have kp : Kp r r8 := ⟨kp8.nf.trans (kp4.nf.trans kp3.nf), kp8.ns.trans (kp4.ns.trans kp3.ns), kp8.tp.trans (kp4.tp.trans kp3.tp)⟩
      refine k _ r8 O9 ⟨gd8, by rw [e8, kp.nf, kp.ns]; exact f1, by rw [e8]; exact f2, R.all, R.few, fun x hx hz => ?_⟩ kp ⟨j, by rw [e8]; exact f3⟩ ?_ ?_
      · unfold fupd at hz
        split at hz
        · exact absurd hz hv0
        · exact R.zer x hx hz
      · rw [e8]
        intro hz o' n m h1 h2
        exact hft.p16 (by simp) hz o' n m (by rw [leave_ent]; exact h1) h2
      · rw [e8]
        exact (leave_frk hmany).trans (hft.frk (by simp))

def sp_Paging___init__ (K : PySem.W.Frag) : Sp := sp3 fun self x y H Q _ => ∃ (p dx : Addr) (nf ns : Nat), self = .ref p ∧ x = .int nf ∧ y = .int ns ∧ 2 ≤ nf ∧ nf + ns ≤ 1000 ∧ Own H H [p] [(p, .ins (He.ga K "Paging") dx [])] ∧
  ∀ H' r, Own H H' [p] (cPg K p r) → RGd K H' r → r.nf = nf → r.ns = ns → r.tabs = [] → JP nf ns r.ps → Q .non H'
def sp_Paging_counts (K : PySem.W.Frag) : Sp := sp3 fun self x y H Q _ => ∃ g r kd, self = .ref g ∧ x = .str (kindS kd) ∧ y = .int ((r.ps.os kd).length : Nat) ∧ (r.ps.os kd).length ≤ 1000 ∧ Own H H (adr (cPg K g r)) (cPg K g r) ∧
  ∀ H' c, Own H H' (adr (cPg K g r)) ((c, .lst ((r.ps.os kd).map V.int)) :: cPg K g r) → Q (.ref c) H'
def sp_pages_asked (K : PySem.W.Frag) : Sp := sp2 fun x y H Q E => ∃ p n : Int, x = .int p ∧ y = .int n ∧ (badP p n = true → E (Rf.noPage.cls K) none H) ∧ (badP p n = false → ∀ H' a, Own H H' [] [(a, .lst ((pgs p n.toNat).map V.int))] → Q (.ref a) H')
/-- the stretches of addresses: page, first and last place within -/
abbrev Seg := Int × Int × Int
inductive Segs : Int → Nat → List Seg → Prop
  | nil {a : Int} : Segs a 0 []
  | cons {a : Int} {k n : Nat} {l : List Seg} (h0 : 0 < k) (h8 : a % 8 + k ≤ 8) (he : n = 0 ∨ a % 8 + k = 8) (t : Segs (a + k) n l) : Segs a (k + n) ((a / 8, a % 8, a % 8 + k) :: l)
abbrev segV (s : Seg) : List V := [.int s.1, .int s.2.1, .int s.2.2]
def sp_stretches_of (K : PySem.W.Frag) : Sp := sp2 fun x y H Q _ => ∃ (a : Int) (n : Nat), x = .int a ∧ y = .int n ∧ n ≤ 600 ∧
  ∀ H' l (ts : List Addr) (ss : List Seg), Own H H' [] [(l, .lst (ts.map V.ref))] → Paired (fun b s => H' b = some (.tup (segV s))) ts ss → Segs a n ss → Q (.ref l) H'
theorem Paired.snoc {α β : Type} {R : α → β → Prop} {as : List α} {bs : List β} {a : α} {b : β} (h : Paired R as bs) (k : R a b) : Paired R (as ++ [a]) (bs ++ [b]) := by
  induction h with
  | nil => exact .cons k .nil
  | cons h' _ ih => exact .cons h' ih
theorem JP.init {nf ns : Nat} {s : PS} (h2 : 2 ≤ nf) (hle : nf + ns ≤ 1000) (ho : ∀ b, s.os b = List.replicate (if b = true then nf else ns) 0) (hc : ∀ b, (s.cs b).length = if b = true then nf else ns) (hw : ∀ pl, s.own pl = []) (he : ∀ o, s.ent o = none) (hh : s.hand = 0) : JP nf ns s := by
  refine ⟨fun pl => by rw [hw]; exact List.nodup_nil, fun pl h => ?_, fun pl o h => (by rw [hw] at h; cases h), fun pl o h => (by rw [hw] at h; cases h), by rw [ho]; exact List.length_replicate, by rw [ho]; exact List.length_replicate, fun k => by rw [hc, ho]; exact List.length_replicate.symm, h2, hle, by rw [hh]; omega, fun o h => (by rw [he] at h; cases h)⟩
  rw [hw, ho]
  rw [ho, List.length_replicate] at h
  rw [List.getElem?_replicate, if_pos h]
  rfl
theorem perm_four {α : Type} (a b c d : α) (R : List α) : List.Perm (a :: b :: c :: d :: R) (c :: d :: b :: a :: R) := by
  refine ((List.Perm.swap c b (d :: R)).cons a).trans ?_
  refine (List.Perm.swap c a (b :: d :: R)).trans ((?_ : List.Perm (a :: b :: d :: R) (d :: b :: a :: R)).cons c)
  refine ((List.Perm.swap d b R).cons a).trans ?_
  refine (List.Perm.swap d a (b :: R)).trans ((List.Perm.swap b a R).cons d)
theorem perm_init {α : Type} (X Y : List α) (a b : α) : List.Perm (X ++ (Y ++ [a, b])) (b :: a :: (Y ++ X)) := by
  refine List.perm_append_comm.trans ?_
  rw [List.append_assoc]
  exact (List.perm_middle (l₁ := Y) (a := a) (l₂ := b :: X)).trans (((List.perm_middle (l₁ := Y) (a := b) (l₂ := X)).cons a).trans (List.Perm.swap _ _ _))
theorem sc_pages_asked : FnScope ["page", "many"] ["page", "many"] (defScope s_pages_asked) := ⟨rfl, rfl, rfl, by decide +kernel, rfl, by decide +kernel, by decide +kernel⟩
theorem ok_pages_asked {P : Program} {w : World} {K : PySem.W.Frag} {mg : Str → Option Value} {base : Heap} (T : Txt K mg) : Cee P w K mg base 1 (He.fAd K ("pages_asked", none)) ["page", "many"] (sp_pages_asked K) := by
  refine cee_of T.d_pages_asked sc_pages_asked (fun _ _ _ _ _ _ us hl => match us, hl with | [_, _], _ => rfl) (fun vs H Q E h => sp2_len h) (fun cdv A outer s H vs Q E hr h => ⟨_, (pss_cons (PS.box (ps_if (PW.pt (pw_or (pt_cmpR op_lt (pv 1) pe_int (nomark _)) (pw_or (pt_cmpR op_lt (pv 0) pe_int (nomark _)) (pw_or1 (pt_cmpR op_gt (pe_op op_add (pv 0) (pv 1)) (pe_gc (v := .int 64) rfl (gI T.g_PAGES)) (nomark _)))))) (pss_one (ps_raise rfl (takes_of rfl rfl rfl rfl) (pmk_own PySem.F.excBase_ValueError T.x_NoPage.1 T.g_NoPage T.x_NoPage.2.1 (raises_own T.x_NoPage.2.2.1 T.x_NoPage.2.2.2) rfl))) pss_nil)) (pss_one (ps_ret (pe_listRg rfl (by rfl) T.n_list (prg_2 (by rfl) T.n_range (pv 0) (pe_op op_add (pv 0) (pv 1))))))), ?_⟩)
  obtain ⟨v0, v1, rfl, h⟩ := h
  dsimp only [cxOf, L2.start]
  obtain ⟨p, n, rfl, rfl, e, k⟩ := h
  walk_at "s"
  refine cutS (fun σ' H2 => σ' = [some (.int p), some (.int n)] ∧ H2 = H ∧ badP p n = false) (fun nx hn => ?_) ?_
  · walk_at "s"
    refine if_d (fun h1 => e (decide_eq_true (.inl h1))) (fun h1 => ?_)
    walk_at "s"
    refine if_d (fun h2 => e (decide_eq_true (.inr (.inl h2)))) (fun h2 => ?_)
    walk_at "s"
    refine if_d (fun h3 => e (decide_eq_true (by omega))) (fun h3 => ?_)
    exact hn _ _ ⟨rfl, rfl, decide_eq_false (by omega)⟩
  rintro σ' H2 ⟨rfl, rfl, hb⟩
  have hb' := of_decide_eq_false hb
  walk_at "s"
  refine ⟨RgOk.of_le (by omega) (by omega) (by omega) (by omega), fun q hq => ?_⟩
  have e2 : rgV p (p + n) = (pgs p n.toNat).map V.int := by
    unfold rgV pgs
    rw [List.map_map, show (p + n - p).toNat = n.toNat by omega]
    rfl
  rw [e2]
  exact k hb _ q (Own.start.new hq)
theorem sc_stretches_of : FnScope ["address", "many", "found", "at", "end"] ["address", "many"] (defScope s_stretches_of) := ⟨rfl, rfl, rfl, by decide +kernel, rfl, by decide +kernel, by decide +kernel⟩
theorem ok_stretches_of {P : Program} {w : World} {K : PySem.W.Frag} {mg : Str → Option Value} {base : Heap} (T : Txt K mg) : Cee P w K mg base 1 (He.fAd K ("stretches_of", none)) ["address", "many"] (sp_stretches_of K) := by
  refine cee_of T.d_stretches_of sc_stretches_of (fun _ _ _ _ _ _ us hl => match us, hl with | [_, _], _ => rfl) (fun vs H Q E h => sp2_len h) (fun cdv A outer s H vs Q E hr h => ⟨_, (pss_cons (ps_set (i := 2) sc_stretches_of.nd rfl (Or.inl rfl) (pe_lst pa_nil)) (pss_cons (ps_set (i := 3) sc_stretches_of.nd rfl (Or.inl rfl) (pv 0)) (pss_cons (PS.box (ps_while (passes_of rfl) (pt_cmpR op_lt (pv 3) (pe_op op_add (pv 0) (pv 1)) (nomark _)) (pss_cons (ps_set (i := 4) sc_stretches_of.nd rfl (Or.inl rfl) (pe_callB (call_min2 rfl) (by rfl) T.n_min (by decide +kernel) (pa_cons (pe_op op_add (pv 0) (pv 1)) (pa_cons (pe_op op_mul (pe_op op_add (pe_op op_fdiv (pv 3) (pe_gc (v := .int 8) rfl (gI T.g_PAGE_SIZE))) pe_int) (pe_gc (v := .int 8) rfl (gI T.g_PAGE_SIZE))) pa_nil)))) (pss_cons (ps_expr (pe_bm PySem.F.plainAttrs_list PySem.F.slot_list_append PySem.F.type_list_append mt_append (pv 2) (pa_cons (pe_tup (pa_cons (pe_op op_fdiv (pv 3) (pe_gc (v := .int 8) rfl (gI T.g_PAGE_SIZE))) (pa_cons (pe_op op_mod (pv 3) (pe_gc (v := .int 8) rfl (gI T.g_PAGE_SIZE))) (pa_cons (pe_op op_sub (pe_op op_add (pe_op op_mod (pv 3) (pe_gc (v := .int 8) rfl (gI T.g_PAGE_SIZE))) (pv 4)) (pv 3)) pa_nil)))) pa_nil))) (pss_one (ps_set (i := 3) sc_stretches_of.nd rfl (Or.inl rfl) (pv 4))))))) (pss_one (ps_ret (pv 2)))))), ?_⟩)
  obtain ⟨v0, v1, rfl, h⟩ := h
  dsimp only [cxOf, L2.start]
  obtain ⟨a, n, rfl, rfl, hn, k⟩ := h
  walk_at "s"
  intro l hl
  have O0 := Own.start.new (o := .lst []) hl
  walk_at "s"
  refine whI (fun m σ H' => ∃ (d : Nat) (w4 : Option V) (ts : List Addr) (ss : List Seg), σ = [some (.int a), some (.int n), some (.ref l), some (.int (a + d)), w4] ∧ d ≤ n ∧ m = n - d ∧ Own H H' [] [(l, .lst (ts.map V.ref))] ∧ Paired (fun b s => H' b = some (.tup (segV s))) ts ss ∧ ss.length ≤ d ∧ (∀ rest, Segs (a + d) (n - d) rest → Segs a n (ss ++ rest))) _ ⟨0, none, [], [], by rw [show a + ((0 : Nat) : Int) = a from Int.add_zero a]; rfl, by omega, rfl, O0, .nil, Nat.le_refl _, fun rest h => by rw [show a + ((0 : Nat) : Int) = a from Int.add_zero a] at h; exact h⟩ ?_
  rintro m σ H1 ⟨d, w4, ts, ss, rfl, hd, rfl, O1, hp, hsl, hs⟩
  walk_at "s"
  refine if_d (fun h => ?_) (fun h => ?_)
  · refine whN ?_
    walk_at "s"
    intro b hb
    have hk : ∃ kk : Nat, (if (a + (d : Int)) / 8 * 8 + 8 < a + (n : Int) then (a + (d : Int)) / 8 * 8 + 8 else a + (n : Int)) = a + ((d + kk : Nat) : Int) ∧ 0 < kk ∧ d + kk ≤ n ∧ (a + (d : Int)) % 8 + kk ≤ 8 ∧ (n - (d + kk) = 0 ∨ (a + (d : Int)) % 8 + kk = 8) := by
      by_cases z : (a + (d : Int)) / 8 * 8 + 8 < a + (n : Int)
      · rw [if_pos z]
        exact ⟨((a + (d : Int)) / 8 * 8 + 8 - (a + d)).toNat, by omega, by omega, by omega, by omega, by omega⟩
      · rw [if_neg z]
        exact ⟨n - d, by omega, by omega, by omega, by omega, by omega⟩
    obtain ⟨kk, hk1, hk2, hk3, hk4, hk5⟩ := hk
    generalize hmin : (if (_ : Int) < _ then (_ : Int) else _) = mn
    have hmn : mn = a + ((d + kk : Nat) : Int) := by
      rw [← hmin, ← hk1]
      have e : ((a + (d : Int)) / 8 + 1) * 8 = (a + (d : Int)) / 8 * 8 + 8 := by omega
      rw [e]
    have hseg : (HO.tup [(fun i j => V.int (i / j)) (a + (d : Int)) 8, (fun i j => V.int (i % j)) (a + (d : Int)) 8, (fun i j => V.int (i - j)) ((a + (d : Int)) % 8 + mn) (a + (d : Int))]) = .tup (segV ((a + (d : Int)) / 8, (a + (d : Int)) % 8, (a + (d : Int)) % 8 + (kk : Nat))) := by
      show HO.tup [_, _, V.int _] = HO.tup [_, _, V.int _]
      rw [show (a + (d : Int)) % 8 + mn - (a + (d : Int)) = (a + (d : Int)) % 8 + (kk : Nat) by omega]
    rw [hseg]
    have O2 := O1.newT (o := .tup (segV ((a + (d : Int)) / 8, (a + (d : Int)) % 8, (a + (d : Int)) % 8 + (kk : Nat)))) hb
    have S2 := O1.self.newT (o := .tup (segV ((a + (d : Int)) / 8, (a + (d : Int)) % 8, (a + (d : Int)) % 8 + (kk : Nat)))) hb
    have hlen : (ts.map V.ref).length < 100000 := by rw [List.length_map, hp.length]; omega
    walk_at "s"
    rw [hmn]
    have O3 := O2.wr (o' := .lst (ts.map V.ref ++ [.ref b])) .here
    have S3 := S2.wr (o' := .lst (ts.map V.ref ++ [.ref b])) .here
    refine ⟨n - (d + kk), by omega, d + kk, _, ts ++ [b], ss ++ [_], rfl, hk3, rfl, ?_, (Paired.mapP hp fun b' s h => S3.tp _ _ h).snoc (b := ((a + (d : Int)) / 8, (a + (d : Int)) % 8, (a + (d : Int)) % 8 + (kk : Nat))) ?_, by rw [List.length_append]; show ss.length + 1 ≤ _; omega, fun rest hr => ?_⟩
    · rw [List.map_append]
      exact O3
    · have hl1 := O1.get (a := l) (o := .lst (ts.map V.ref)) (.head _)
      have hbl : b ≠ l := fun z => by rw [z, hl1] at hb; cases hb
      rw [upd_ne hbl]
      exact upd_same
    · rw [List.append_assoc]
      refine hs _ ?_
      have e1 : n - d = kk + (n - (d + kk)) := by omega
      rw [e1]
      refine .cons hk2 hk4 hk5 ?_
      rw [show a + (d : Int) + (kk : Nat) = a + ((d + kk : Nat) : Int) by omega]
      exact hr
  · have hdn : d = n := by omega
    subst hdn
    walk_at "s"
    have h1 := hs [] (by rw [Nat.sub_self]; exact .nil)
    rw [List.append_nil] at h1
    exact k _ l ts ss O1 hp h1
theorem sc_Paging___init__ : FnScope ["self", "frames", "slots"] ["self", "frames", "slots"] (defScope s_Paging___init__) := ⟨rfl, rfl, rfl, by decide +kernel, rfl, by decide +kernel, by decide +kernel⟩
theorem ok_Paging___init__ {P : Program} {w : World} {K : PySem.W.Frag} {mg : Str → Option Value} {base : Heap} (T : Txt K mg) : Cee P w K mg base 3 (He.fAd K ("Paging", some "__init__")) ["self", "frames", "slots"] (sp_Paging___init__ K) := by
  have c_Store___init__ : Cee P w K mg base 1 (He.fAd K ("Store", some "__init__")) ["self", "many"] (sp_Store___init__ K) := ok_Store___init__ T
  refine cee_of T.d_Paging___init__ sc_Paging___init__ (fun _ _ _ _ _ _ us hl => match us, hl with | [_, _, _], _ => rfl) (fun vs H Q E h => sp3_len h) (fun cdv A outer s H vs Q E hr h => ⟨_, (pss_cons (ps_fld (pv 0) (pe_disp (pps_cons pe_str (pe_n T.m_Store c_Store___init__ (hr.mono (by decide)) (by rfl) T.g_Store (pa_cons (pv 1) pa_nil)) (pps_cons pe_str (pe_n T.m_Store c_Store___init__ (hr.mono (by decide)) (by rfl) T.g_Store (pa_cons (pv 2) pa_nil)) pps_nil)) (by rfl) (by rfl) (fun z => by cases z) (by decide)) rfl) (pss_cons (ps_fld (pv 0) (pv 1) rfl) (pss_cons (ps_fld (pv 0) (pv 2) rfl) (pss_cons (ps_fld (pv 0) pe_dnewK rfl) (pss_cons (ps_fld (pv 0) pe_dnewT rfl) (pss_one (ps_fld (pv 0) pe_int rfl))))))), ?_⟩)
  obtain ⟨v0, v1, v2, rfl, h⟩ := h
  dsimp only [cxOf, L2.start]
  obtain ⟨p, dx, nf, ns, rfl, rfl, rfl, h2, hle, O, k⟩ := h
  walk_at "s"
  intro a1 ha1
  have O1 := O.new (o := .dK []) ha1
  walk_at "s"
  intro x1 dx1 hx1 hdx1 hne1
  have O2 := O1.inst (C := He.ga K "Store") hx1 hdx1 hne1
  refine ask2 ⟨x1, dx1, nf, rfl, rfl, by omega, O2.blk (s' := []) .one, fun H3 q1 cs1 O3 hl1 hz1 => ?_⟩
  have O4 := O2.call .one O3
  walk_at "s"
  intro x2 dx2 hx2 hdx2 hne2
  have O5 := O4.inst (C := He.ga K "Store") hx2 hdx2 hne2
  refine ask2 ⟨x2, dx2, ns, rfl, rfl, by omega, O5.blk (s' := []) .one, fun H6 q2 cs2 O6 hl2 hz2 => ?_⟩
  have O7 := O5.call .one O6
  walk_at "s"
  refine ⟨(rfl : _ = List.map (fun kv : Key × V => (kV kv.1, kv.2)) [(Sum.inr "frame", V.ref x1), (Sum.inr "slot", V.ref x2)]), by show 2 ≤ 15; decide, ?_⟩
  have O8 := (O7.perm (perm_init _ _ _ _)).wr (a := a1) (o' := .dK [(Sum.inr "frame", V.ref x1), (Sum.inr "slot", V.ref x2)]) (.there .here)
  walk_at "s"
  intro TD hTD
  have O9 := ((((O8.wr (a := p) (o' := .ins (He.ga K "Paging") dx [("stores", .ref a1)]) .here).wr (a := p) (o' := .ins (He.ga K "Paging") dx [("stores", .ref a1), ("frames", .int nf)]) .here).wr (a := p) (o' := .ins (He.ga K "Paging") dx [("stores", .ref a1), ("frames", .int nf), ("slots", .int ns)]) .here).new (o := .dK []) hTD).wr (a := p) (o' := .ins (He.ga K "Paging") dx [("stores", .ref a1), ("frames", .int nf), ("slots", .int ns), ("tables", .ref TD)]) (.there .here)
  walk_at "s"
  intro OD hOD
  have O10 := ((O9.new (o := .dT []) hOD).wr (a := p) (o' := .ins (He.ga K "Paging") dx [("stores", .ref a1), ("frames", .int nf), ("slots", .int ns), ("tables", .ref TD), ("owners", .ref OD)]) (.there (.there .here))).wr (a := p) (o' := .ins (He.ga K "Paging") dx [("stores", .ref a1), ("frames", .int nf), ("slots", .int ns), ("tables", .ref TD), ("owners", .ref OD), ("hand", .int 0)]) (.there (.there .here))
  walk_at "s"
  have gr : ∀ (b : Bool), ((fun b : Bool => if b = true then (⟨x1, q1, List.replicate nf 0, cs1⟩ : SG) else ⟨x2, q2, List.replicate ns 0, cs2⟩) b).os = List.replicate (if b = true then nf else ns) 0 := fun b => by cases b <;> rfl
  have gc : ∀ (b : Bool), ((fun b : Bool => if b = true then (⟨x1, q1, List.replicate nf 0, cs1⟩ : SG) else ⟨x2, q2, List.replicate ns 0, cs2⟩) b).cs.length = (if b = true then nf else ns) := fun b => by cases b; exact hl2; exact hl1
  refine k _ ⟨dx, a1, TD, OD, fun b => if b = true then ⟨x1, q1, List.replicate nf 0, cs1⟩ else ⟨x2, q2, List.replicate ns 0, cs2⟩, nf, ns, [], [], 0⟩ (O10.perm ?_) ⟨fun b => ⟨?_, ?_⟩, by simp, by simp, List.nodup_nil, Nat.zero_le _, List.nodup_nil, by simp, hle, Int.le_refl _⟩ rfl rfl rfl (JP.init h2 hle gr (fun b => (List.length_map _).trans (gc b)) (fun _ => rfl) (fun _ => rfl) rfl)
  · show List.Perm _ (_ :: _ :: _ :: _ :: (cSto K x1 q1 (List.replicate nf 0) cs1 ++ (cSto K x2 q2 (List.replicate ns 0) cs2 ++ [])))
    rw [List.append_nil]
    exact perm_four _ _ _ _ _
  · rw [gr, gc, List.length_replicate]
  · rw [gr, List.length_replicate]
    split <;> omega

/-! ## rooms: worlds that pages tell -/
section
variable {nf ns : Nat} {s : PS} {pl : Pla} {o o' : Ow2} {F : List Ow2} {mp : Ow2 → Bool} {cl : Ow2 → List Int} {st : Ow2 → Nat}
/-- a page leaves where it lay, others may be on their way -/
theorem Vw.leaveF {e : Option Pla} (V : Vw s F mp cl st) (J : JP nf ns s) (ho : o ∉ F) (he : s.ent o = some e) : Vw (leaveP s o e) (o :: F) mp cl st := by
  have ee : (leaveP s o e).ent = s.ent := by cases e <;> rfl
  have ec : (leaveP s o e).cs = s.cs := by cases e <;> rfl
  have ecl : ∀ q, (leaveP s o e).cel q = s.cel q := fun q => by unfold PS.cel; rw [ec]
  have eo : ∀ q x, x ∈ (leaveP s o e).own q ↔ (x ∈ s.own q ∧ ¬ (e = some q ∧ x = o)) := fun q x => by
    cases e with
    | none => exact ⟨fun h => ⟨h, fun z => by cases z.1⟩, fun h => h.1⟩
    | some p =>
      show x ∈ fupd s.own p _ q ↔ _
      unfold fupd
      split
      · rename_i h
        subst h
        rw [List.mem_filter, decide_eq_true_eq]
        exact ⟨fun z => ⟨z.1, fun y => z.2 y.2⟩, fun z => ⟨z.1, fun y => z.2 ⟨rfl, y⟩⟩⟩
      · rename_i h
        exact ⟨fun z => ⟨z, fun y => h (Option.some.inj y.1).symm⟩, fun z => z.1⟩
  have nF : ∀ x, x ∉ o :: F → x ∉ F ∧ x ≠ o := fun x h => ⟨fun z => h (.tail _ z), fun z => h (by rw [z]; exact .head _)⟩
  refine ⟨fun x => by rw [ee]; exact V.map x, fun x hx hm => by rw [ee]; exact V.blank x (nF x hx).1 hm, fun x x' p p' h1 h2 h3 h4 => ?_, fun x p h1 h2 => ?_, fun x p h1 h2 => ?_, fun x hx q hq => ?_⟩
  · rw [ee] at h3 h4
    exact V.same x x' p p' (nF x h1).1 (nF x' h2).1 h3 h4
  · rw [ee] at h2
    rw [ecl]
    exact V.cell x p (nF x h1).1 h2
  · rw [ee] at h2
    exact (eo p x).mpr ⟨V.reg x p (nF x h1).1 h2, fun z => (nF x h1).2 z.2⟩
  · obtain ⟨h1, h2⟩ := (eo q x).mp hq
    rcases List.mem_cons.mp hx with z | z
    · subst z
      have h3 := J.tab q x h1
      rw [he] at h3
      exact h2 ⟨Option.some.inj h3, rfl⟩
    · exact V.flo x z q h1
/-- pages are mapped no more -/
def unmP (s : PS) (P : Ow2 → Bool) : PS := { s with ent := fun o => if P o = true then none else s.ent o }
theorem unm_ok {P : Ow2 → Bool} (J : JP nf ns s) (V : Vw s F mp cl st) (h1 : ∀ o ∈ F, P o = true) (h2 : ∀ o, P o = true → mp o = true → o ∈ F) : JP nf ns (unmP s P) ∧ Vw (unmP s P) [] (fun o => mp o && !P o) cl st := by
  have hP : ∀ o q, o ∈ s.own q → ¬ P o = true := fun o q h z => V.flo o (h2 o z (by rw [← V.map, J.tab q o h]; rfl)) q h
  have hF : ∀ o x, (unmP s P).ent o = some x → o ∉ F ∧ s.ent o = some x ∧ ¬ P o = true := fun o x h => by
    have h : (if P o = true then none else s.ent o) = some x := h
    split at h
    · cases h
    · rename_i z; exact ⟨fun y => z (h1 o y), h, z⟩
  refine ⟨⟨J.ndl, J.cnt, J.rng, fun q o h => ?_, J.lnf, J.lns, J.lnc, J.two, J.few, J.hnd, fun o h => ?_⟩, ⟨fun o => ?_, fun o _ hm => ?_, fun o o' p p' _ _ h3 h4 => ?_, fun o p _ h => ?_, fun o p _ h => ?_, fun o h => by cases h⟩⟩
  · show (if P o = true then none else s.ent o) = _
    rw [if_neg (hP o q h)]
    exact J.tab q o h
  · obtain ⟨x, hx⟩ := Option.isSome_iff_exists.mp h
    exact J.pg o (by rw [(hF o x hx).2.1]; rfl)
  · show (if P o = true then none else s.ent o).isSome = (mp o && !P o)
    by_cases z : P o = true
    · rw [if_pos z, z]
      cases mp o <;> rfl
    · rw [if_neg z, V.map, Bool.eq_false_iff.mpr z]
      cases mp o <;> rfl
  · obtain ⟨m1, m2⟩ := Bool.and_eq_true_iff.mp hm
    have hn : ¬ P o = true := fun z => by rw [z] at m2; cases m2
    show (if P o = true then none else s.ent o) = some none ↔ _
    rw [if_neg hn]
    exact V.blank o (fun y => hn (h1 o y)) m1
  · obtain ⟨a1, a2, _⟩ := hF _ _ h3
    obtain ⟨b1, b2, _⟩ := hF _ _ h4
    exact V.same o o' p p' a1 b1 a2 b2
  · obtain ⟨a1, a2, _⟩ := hF _ _ h
    exact V.cell o p a1 a2
  · obtain ⟨a1, a2, _⟩ := hF _ _ h
    exact V.reg o p a1 a2
/-- a page is mapped, blank -/
theorem lay_blank (J : JP nf ns s) (V : Vw s [] mp cl st) (he : s.ent o = none) (hp : 0 ≤ o.2 ∧ o.2 < 64) : JP nf ns (layP s o none) ∧ Vw (layP s o none) [] (fupd mp o true) (fupd cl o zeros) (fupd st o 0) := by
  have ee : ∀ x, (layP s o none).ent x = if x = o then some none else s.ent x := fun x => rfl
  have hF : ∀ x q, (layP s o none).ent x = some (some q) → x ≠ o ∧ s.ent x = some (some q) := fun x q h => by
    rw [ee] at h
    split at h
    · cases h
    · rename_i z; exact ⟨z, h⟩
  refine ⟨⟨J.ndl, J.cnt, J.rng, fun q x h => ?_, J.lnf, J.lns, J.lnc, J.two, J.few, J.hnd, fun x h => ?_⟩, ⟨fun x => ?_, fun x _ hm => ?_, fun x x' p p' _ _ h3 h4 => ?_, fun x p _ h => ?_, fun x p _ h => ?_, fun x h => by cases h⟩⟩
  · rw [ee, if_neg (fun z => by have := J.tab q x h; rw [z, he] at this; cases this)]
    exact J.tab q x h
  · rw [ee] at h
    split at h
    · rename_i z; rw [z]; exact hp
    · exact J.pg x h
  · rw [ee]
    unfold fupd
    split
    · rfl
    · exact V.map x
  · rw [ee]
    unfold fupd at hm ⊢
    split
    · exact ⟨fun _ => rfl, fun _ => rfl⟩
    · rename_i z
      rw [if_neg z] at hm
      exact V.blank x (by simp) hm
  · obtain ⟨a1, a2⟩ := hF _ _ h3
    obtain ⟨b1, b2⟩ := hF _ _ h4
    rw [fupd_ne a1, fupd_ne b1]
    exact V.same x x' p p' (by simp) (by simp) a2 b2
  · obtain ⟨a1, a2⟩ := hF _ _ h
    rw [fupd_ne a1]
    exact V.cell x p (by simp) a2
  · obtain ⟨a1, a2⟩ := hF _ _ h
    exact V.reg x p (by simp) a2
/-- a page more lies where another lies -/
def shareW (s : PS) (o : Ow2) (e : Option Pla) : PS := layP (match e with | none => s | some pl => cntP s pl (((s.own pl).length : Int) + 1)) o e
theorem share_ok {e : Option Pla} (J : JP nf ns s) (V : Vw s [] mp cl st) (hs : s.ent o' = some e) (he : s.ent o = none) (hp : 0 ≤ o.2 ∧ o.2 < 64) (hz : mp o' = true → st o' = 0 → cl o' = zeros) : JP nf ns (shareW s o e) ∧ Vw (shareW s o e) [] (fupd mp o true) (fupd cl o (cl o')) (fupd st o (st o')) := by
  have hm' : mp o' = true := by rw [← V.map, hs]; rfl
  cases e with
  | none =>
    have h0 : st o' = 0 := (V.blank o' (by simp) hm').mp hs
    rw [h0, hz hm' h0]
    exact lay_blank J V he hp
  | some pl =>
    have ee : ∀ x, (shareW s o (some pl)).ent x = if x = o then some (some pl) else s.ent x := fun x => rfl
    have ho' := V.reg o' pl (by simp) hs
    have hr := J.rng pl o' ho'
    have hno : ∀ q, o ∉ s.own q := fun q h => by have := J.tab q o h; rw [he] at this; cases this
    have eo : ∀ q, (shareW s o (some pl)).own q = if q = pl then s.own pl ++ [o] else s.own q := fun q => rfl
    have ecl : ∀ q, (shareW s o (some pl)).cel q = s.cel q := fun q => rfl
    have olen : ∀ k, ((shareW s o (some pl)).os k).length = (s.os k).length := fun k => setAt_len _ _ _ _
    have ne : o ≠ o' := fun z => by rw [z, hs] at he; cases he
    have src : ∀ x q, (shareW s o (some pl)).ent x = some (some q) → ∃ y, s.ent y = some (some q) ∧ (fupd st o (st o')) x = st y ∧ (fupd cl o (cl o')) x = cl y := fun x q h => by
      rw [ee] at h
      split at h
      · rename_i z
        cases h
        exact ⟨o', hs, by rw [z, fupd_same], by rw [z, fupd_same]⟩
      · rename_i z
        exact ⟨x, h, by rw [fupd_ne z], by rw [fupd_ne z]⟩
    refine ⟨⟨fun q => ?_, fun q hq => ?_, fun q x h => ?_, fun q x h => ?_, (olen _).trans J.lnf, (olen _).trans J.lns, fun k => (J.lnc k).trans (olen k).symm, J.two, J.few, J.hnd, fun x h => ?_⟩, ⟨fun x => ?_, fun x _ hm => ?_, fun x x' p p' _ _ h3 h4 => ?_, fun x p _ h => ?_, fun x p _ h => ?_, fun x h => by cases h⟩⟩
    · rw [eo]
      split
      · exact List.nodup_append.mpr ⟨J.ndl pl, List.nodup_cons.mpr ⟨List.not_mem_nil, List.nodup_nil⟩, fun a ha b hb e => hno pl (by rw [← List.mem_singleton.mp hb, ← e]; exact ha)⟩
      · exact J.ndl q
    · rw [olen] at hq
      show (setAt s.os pl (((s.own pl).length : Int) + 1) q.1)[q.2]? = some (((shareW s o (some pl)).own q).length : Int)
      rw [setAt_get, eo]
      by_cases z : q = pl
      · rw [if_pos ⟨z, hr⟩, if_pos z, List.length_append]
        rfl
      · rw [if_neg (fun y => z y.1), if_neg z]
        exact J.cnt q hq
    · rw [olen]
      rw [eo] at h
      split at h
      · rename_i z; rw [z]; exact hr
      · exact J.rng q x h
    · rw [ee]
      rw [eo] at h
      split at h
      · rename_i z
        rcases List.mem_append.mp h with y | y
        · rw [if_neg (fun u : x = o => hno pl (u ▸ y)), z]
          exact J.tab pl x y
        · rw [if_pos (List.mem_singleton.mp y), z]
      · rw [if_neg (fun u : x = o => hno q (u ▸ h))]
        exact J.tab q x h
    · rw [ee] at h
      split at h
      · rename_i z; rw [z]; exact hp
      · exact J.pg x h
    · rw [ee]
      unfold fupd
      split
      · rfl
      · exact V.map x
    · rw [ee]
      unfold fupd at hm ⊢
      split
      · refine ⟨fun z => (by cases z), fun z => ?_⟩
        have := (V.blank o' (by simp) hm').mpr z
        rw [hs] at this
        cases this
      · rename_i z
        rw [if_neg z] at hm
        exact V.blank x (by simp) hm
    · obtain ⟨y, y1, y2, _⟩ := src _ _ h3
      obtain ⟨y', y1', y2', _⟩ := src _ _ h4
      rw [y2, y2']
      exact V.same y y' p p' (by simp) (by simp) y1 y1'
    · obtain ⟨y, y1, _, y3⟩ := src _ _ h
      rw [y3, ecl]
      exact V.cell y p (by simp) y1
    · rw [eo]
      rw [ee] at h
      split at h
      · rename_i z
        cases h
        rw [if_pos rfl, z]
        exact List.mem_append_right _ (.head _)
      · have h5 := V.reg x p (by simp) h
        split
        · rename_i z; rw [z] at h5; exact List.mem_append_left _ h5
        · exact h5
end

/-! ## deeds keep what rooms are -/
theorem ROk.nil : ROk [] := ⟨List.nodup_nil, (by simp), (by simp)⟩
theorem ROk.drop1 {r : ARm} (h : ROk r) (k : Int) : ROk (dropA r k) :=
  ⟨h.nd.sublist ((dropA_sub r k).map _), fun j hj => h.key j (((dropA_sub r k).map _).subset hj), fun x hx => h.wide x ((dropA_sub r k).subset hx)⟩
theorem ROk.drop {r : ARm} (h : ROk r) (ps : List Int) : ROk (dropR r ps) := by
  unfold dropR
  induction ps generalizing r with
  | nil => exact h
  | cons p q ih => exact ih (h.drop1 p)
theorem ROk.map {r : ARm} {p n : Int} (h : ROk r) (hb : ¬ badP p n = true) (hno : ¬ anyP r (pgs p n.toNat) = true) : ROk (mapR r (pgs p n.toNat)) := by
  have hb' := of_decide_eq_false (Bool.eq_false_iff.mpr hb)
  have hkeys : (mapR r (pgs p n.toNat)).map (·.1) = r.map (·.1) ++ pgs p n.toNat := by
    unfold mapR
    rw [List.map_append, List.map_map]
    refine congrArg _ ?_
    exact List.map_id _
  refine ⟨?_, ?_, ?_⟩
  · rw [hkeys]
    refine List.nodup_append.mpr ⟨h.nd, pgs_nd _ _, fun a ha b hb e => ?_⟩
    subst e
    exact hno (anyP_yes hb (lk_some.mpr ha))
  · intro k hk
    rw [hkeys] at hk
    rcases List.mem_append.mp hk with z | z
    · exact h.key k z
    · have := pgs_mem.mp z
      omega
  · intro x hx
    unfold mapR at hx
    rcases List.mem_append.mp hx with z | z
    · exact h.wide x z
    · obtain ⟨y, _, rfl⟩ := List.mem_map.mp z
      rfl
theorem ROk.set {r : ARm} (h : ROk r) (k : Int) (v : List Int) (hv : v.length = 8 ∨ k ∉ r.map (·.1)) : ROk (setA r k v) := by
  refine ⟨by rw [setA_keys]; exact h.nd, fun j hj => h.key j (by rw [setA_keys] at hj; exact hj), fun x hx => ?_⟩
  unfold setA at hx
  obtain ⟨y, hy, e⟩ := List.mem_map.mp hx
  by_cases z : y.1 = k
  · rw [if_pos z] at e
    subst e
    rcases hv with hv | hv
    · exact hv
    · exact absurd (List.mem_map.mpr ⟨y, hy, z⟩) hv
  · rw [if_neg z] at e
    subst e
    exact h.wide _ hy
theorem ROk.poke {r : ARm} (h : ROk r) (a : Int) (cs : List Int) : ROk (pokeR r a cs) := by
  induction cs generalizing r a with
  | nil => exact h
  | cons c q ih =>
    refine ih ?_ (a + 1)
    unfold putR
    refine h.set _ _ ?_
    cases e : r.lookup (a / 8) with
    | none => exact .inr (lk_none.mp e)
    | some row => exact .inl ((List.length_set ..).trans (h.wide _ (lk_mem e)))
theorem WOk.nil : WOk [] := ⟨List.nodup_nil, (by simp), (by simp)⟩
theorem WOk.dropW {w : AWl} (h : WOk w) (k : Int) : WOk (dropA w k) :=
  ⟨h.nd.sublist ((dropA_sub w k).map _), fun x hx => h.rms x ((dropA_sub w k).subset hx), Nat.le_trans (dropA_sub w k).length_le h.few⟩
theorem setA_len {α : Type} (m : List (Int × α)) (k : Int) (v : α) : (setA m k v).length = m.length := List.length_map _
theorem WOk.setW {w : AWl} (h : WOk w) (k : Int) {r : ARm} (hr : ROk r) : WOk (setA w k r) := by
  refine ⟨by rw [setA_keys]; exact h.nd, fun x hx => ?_, by rw [setA_len]; exact h.few⟩
  unfold setA at hx
  obtain ⟨y, hy, e⟩ := List.mem_map.mp hx
  by_cases z : y.1 = k
  · rw [if_pos z] at e
    subst e
    exact hr
  · rw [if_neg z] at e
    subst e
    exact h.rms _ hy
theorem WOk.snocW {w : AWl} (h : WOk w) {k : Int} {r : ARm} (hk : w.lookup k = none) (hr : ROk r) (hl : w.length < 1000) : WOk (w ++ [(k, r)]) := by
  refine ⟨?_, fun x hx => ?_, by rw [List.length_append]; exact hl⟩
  · rw [List.map_append]
    refine List.nodup_append.mpr ⟨h.nd, List.nodup_cons.mpr ⟨List.not_mem_nil, List.nodup_nil⟩, fun a ha b hb e => ?_⟩
    rw [List.mem_singleton.mp hb] at e
    subst e
    exact lk_none.mp hk ha
  · rcases List.mem_append.mp hx with z | z
    · exact h.rms x z
    · rw [List.mem_singleton.mp z]; exact hr
theorem WOk.atA {w : AWl} (ok : WOk w) {t : Int} {r : ARm} (h : w.lookup t = some r) : ROk r := ok.rms _ (lk_mem h)
theorem lk_no {α : Type} {w : List (Int × α)} {t : Int} (h : ¬ (w.lookup t).isSome = true) : w.lookup t = none := by
  cases e : w.lookup t with
  | none => rfl
  | some x => rw [e] at h; exact absurd rfl h
theorem sem_keep {tot : Int} {w w' : AWl} {d : RDeed} {o : Option (List Int)} (h : sem tot w d = .ok (w', o)) (ok : WOk w) (hl : w.length < 1000) : WOk w' ∧ w'.length ≤ w.length + 1 := by
  cases d with
  | begin t =>
    obtain ⟨hno, e⟩ := if_ok h
    cases e
    exact ⟨ok.snocW (lk_no hno) ROk.nil hl, by rw [List.length_append]; exact Nat.le_refl _⟩
  | close t =>
    obtain ⟨_, e⟩ := if_ok3 h
    cases e
    exact ⟨ok.dropW t, Nat.le_succ_of_le (dropA_sub w t).length_le⟩
  | map t p n =>
    cases hw : w.lookup t with
    | none => rw [sem_map0 hw] at h; cases h
    | some r =>
      rw [sem_map1 hw] at h
      obtain ⟨hb, h⟩ := if_ok2 h
      obtain ⟨hany, h⟩ := if_ok2 h
      obtain ⟨_, e⟩ := if_ok h
      cases e
      exact ⟨ok.setW t ((ok.atA hw).map hb hany), by rw [setA_len]; exact Nat.le_succ _⟩
  | drop t p n =>
    cases hw : w.lookup t with
    | none => rw [sem_drop0 hw] at h; cases h
    | some r =>
      rw [sem_drop1 hw] at h
      obtain ⟨hb, h⟩ := if_ok2 h
      obtain ⟨_, e⟩ := if_ok3 h
      cases e
      exact ⟨ok.setW t ((ok.atA hw).drop _), by rw [setA_len]; exact Nat.le_succ _⟩
  | peek t a n =>
    cases hw : w.lookup t with
    | none => rw [sem_peek0 hw] at h; cases h
    | some r =>
      rw [sem_peek1 hw] at h
      obtain ⟨hb, h⟩ := if_ok2 h
      obtain ⟨_, e⟩ := if_ok3 h
      cases e
      exact ⟨ok, Nat.le_succ _⟩
  | poke t a cs =>
    cases hw : w.lookup t with
    | none => rw [sem_poke0 hw] at h; cases h
    | some r =>
      rw [sem_poke1 hw] at h
      obtain ⟨hb, h⟩ := if_ok2 h
      obtain ⟨_, e⟩ := if_ok3 h
      cases e
      exact ⟨ok.setW t ((ok.atA hw).poke _ _), by rw [setA_len]; exact Nat.le_succ _⟩
  | copy t o =>
    cases hw : w.lookup t with
    | none => rw [sem_copy0 hw] at h; cases h
    | some r =>
      rw [sem_copy1 hw] at h
      obtain ⟨hno, h⟩ := if_ok2 h
      obtain ⟨_, e⟩ := if_ok h
      cases e
      exact ⟨ok.snocW (lk_no hno) (ok.atA hw) hl, by rw [List.length_append]; exact Nat.le_refl _⟩
theorem sem_keepN {tot : Int} {w : AWl} {d : RDeed} (ok : WOk w) (hl : w.length < 1000) : WOk (nextA w (sem tot w d)) ∧ (nextA w (sem tot w d)).length ≤ w.length + 1 := by
  cases h : sem tot w d with
  | error e => exact ⟨ok, Nat.le_succ _⟩
  | ok x => exact sem_keep (o := x.2) h ok hl
theorem wd_mem {D : Addr} {w : Wl} {t : Int} {a : Addr} {r : Ch} (h : w.lookup t = some (a, r)) : (a, HO.dK (Ch.kvs r)) ∈ cWl D w := .tail _ (rm_mem h)
theorem wp_mem {D : Addr} {w : Wl} {t k : Int} {a : Addr} {r : Ch} {b : Pg} (h : w.lookup t = some (a, r)) (hb : r.lookup k = some b) : (b.1, HO.lst (b.2.map V.int)) ∈ cWl D w := .tail _ (pg_mem h hb)
theorem cWl_mid (D : Addr) (l q : Wl) (t : Int) (a : Addr) (r : Ch) : cWl D (l ++ (t, a, r) :: q) = (D, .dK (wlD (l ++ (t, a, r) :: q))) :: (cRms l ++ (cCh a r ++ cRms q)) := by
  unfold cWl
  rw [cRms_mid]
theorem pgs_get {p : Int} {n j : Nat} (h : j < n) : (pgs p n)[j]? = some (p + j) := by
  unfold pgs
  rw [List.getElem?_map, List.getElem?_range h]
  rfl
theorem map_new {r r' : Ch} {g : Int} {n j : Nat} (hr' : r'.pure = mapR r.pure ((pgs g n).take j)) (hj : j < n) (hno : ¬ anyP r.pure (pgs g n) = true) : (Sum.inl (g + j) : Key) ∉ (Ch.kvs r').map (·.1) ∧ r'.length = r.length + j := by
  have hkeys : r'.pure.map (·.1) = r.pure.map (·.1) ++ (pgs g n).take j := by
    rw [hr']
    unfold mapR
    rw [List.map_append, List.map_map]
    refine congrArg _ ?_
    rw [List.map_map]
    exact List.map_id _
  constructor
  · intro z
    rw [List.map_map] at z
    obtain ⟨u, hu, e⟩ := List.mem_map.mp z
    have e : u.1 = g + j := Sum.inl.inj e
    have h1 : g + j ∈ r'.pure.map (·.1) := by
      rw [List.map_map]
      exact List.mem_map.mpr ⟨u, hu, e⟩
    rw [hkeys] at h1
    rcases List.mem_append.mp h1 with h1 | h1
    · exact hno (anyP_yes (List.mem_of_getElem? (pgs_get hj)) (lk_some.mpr h1))
    · exact nd_take (pgs_nd _ _) (pgs_get hj) h1
  · have h1 := congrArg List.length hkeys
    simp only [List.length_map, List.length_append, List.length_take, pgs_len] at h1
    omega
theorem Ch.ndp {r : Ch} (h : ROk r.pure) : (r.map (·.1)).Nodup := by
  have := h.nd
  rw [List.map_map] at this
  exact this
theorem sem_t0 {w : Wl} {t : Int} (h : ¬ (w.abs.lookup t).isSome = true) : w.lookup t = none := by
  rw [Wl.look_abs] at h
  cases z : w.lookup t with
  | none => rfl
  | some y => rw [z] at h; exact absurd rfl h
theorem sem_t1 {w : Wl} {t : Int} (h : (w.abs.lookup t).isSome = true) : ∃ a r, w.lookup t = some (a, r) := by
  rw [Wl.look_abs] at h
  cases z : w.lookup t with
  | none => rw [z] at h; cases h
  | some y => exact ⟨_, _, rfl⟩
theorem sem_page {tot : Int} {w : Wl} {t k : Int} {a : Addr} {r : Ch} {b : Pg} (hw : w.lookup t = some (a, r)) (hb : r.lookup k = some b) (rok : ROk r.pure) : sem tot w.abs (.peek t (8 * k) 8) = .ok (w.abs, some b.2) := by
  have hk : 0 ≤ k ∧ k < 64 := rok.key k (by rw [List.map_map]; exact lk_some.mp (by rw [hb]; rfl))
  have h8 := rok.eight hb
  rw [sem_peek1 (Wl.abs_some hw), if_neg (by unfold badA; rw [decide_eq_true_eq]; omega)]
  have hdiv : ∀ i : Nat, i < 8 → (8 * k + (i : Int)) / 8 = k := fun i hi => by omega
  rw [if_pos (allA_yes fun i hi => by
    have hi : i < 8 := hi
    rw [hdiv i hi, Ch.look_abs, hb]; rfl)]
  have e : peekR r.pure (8 * k) (8 : Int).toNat = b.2 := by
    refine List.ext_getElem? fun i => ?_
    unfold peekR
    rw [List.getElem?_map]
    by_cases hi : i < 8
    · rw [List.getElem?_range (show i < (8 : Int).toNat from hi)]
      have h1 : r.lookup ((8 * k + (i : Int)) / 8) = some b := by rw [hdiv i hi]; exact hb
      show some (cellR r.pure (8 * k + (i : Int))) = _
      rw [cellR_at h1, show ((8 * k + (i : Int)) % 8).toNat = i by omega, List.getElem?_eq_getElem (by omega)]
      rfl
    · rw [List.getElem?_eq_none (by rw [List.length_range]; exact Nat.le_of_not_lt hi), List.getElem?_eq_none (by omega)]
      rfl
  rw [e]
theorem pgs_one (k : Int) : pgs k (1 : Int).toNat = [k] := by
  show [k + ((0 : Nat) : Int)] = [k]
  rw [show k + ((0 : Nat) : Int) = k from Int.add_zero k]
theorem heldA_cons (x : Int × ARm) (w : AWl) : heldA (x :: w) = x.2.length + heldA w := by
  unfold heldA
  rw [List.map_cons, List.sum_cons]
  exact Int.natCast_add _ _
theorem heldA_app (l q : AWl) : heldA (l ++ q) = heldA l + heldA q := by
  induction l with
  | nil => show heldA q = 0 + heldA q; omega
  | cons x r ih => rw [List.cons_append, heldA_cons, heldA_cons, ih]; omega
theorem heldA_le {w : AWl} {c : Nat} (h : ∀ x ∈ w, x.2.length ≤ c) : heldA w ≤ ((w.length * c : Nat) : Int) := by
  induction w with
  | nil => show ((0 : Nat) : Int) ≤ _; omega
  | cons x r ih =>
    have h1 := h x (.head _)
    have h2 := ih fun y hy => h y (.tail _ hy)
    rw [heldA_cons, List.length_cons, Nat.succ_mul]
    omega
theorem heldA_set {w : AWl} {t : Int} {r r' : ARm} (nd : (w.map (·.1)).Nodup) (h : w.lookup t = some r) : heldA (setA w t r') = heldA w - r.length + r'.length := by
  obtain ⟨l, q, rfl, _⟩ := lk_split h
  rw [setA_mid nd, heldA_app, heldA_app, heldA_cons, heldA_cons]
  dsimp only
  omega
theorem pokeR_keys (r : ARm) (a : Int) (cs : List Int) : (pokeR r a cs).map (·.1) = r.map (·.1) := by
  induction cs generalizing r a with
  | nil => rfl
  | cons c q ih =>
    refine (ih _ _).trans ?_
    unfold putR
    exact setA_keys _ _ _
theorem pokeR_len (r : ARm) (a : Int) (cs : List Int) : (pokeR r a cs).length = r.length := by
  have := congrArg List.length (pokeR_keys r a cs)
  rwa [List.length_map, List.length_map] at this

/-! ## rooms: the world that they tell -/
abbrev mpW (w : AWl) (o : Ow2) : Bool := ((w.lookup o.1).bind fun r => r.lookup o.2).isSome
abbrev clW (w : AWl) (o : Ow2) : List Int := ((w.lookup o.1).bind fun r => r.lookup o.2).getD []
def owL (w : AWl) : List Ow2 := w.flatMap fun x => x.2.map fun y => (x.1, y.1)
theorem owL_mem {w : AWl} {o : Ow2} (h : mpW w o = true) : o ∈ owL w := by
  unfold mpW at h
  cases e : w.lookup o.1 with
  | none => rw [e] at h; cases h
  | some r =>
    rw [e] at h
    have h : (r.lookup o.2).isSome = true := h
    obtain ⟨y, hy, e2⟩ := List.mem_map.mp (lk_some.mp h)
    refine List.mem_flatMap.mpr ⟨_, lk_mem e, List.mem_map.mpr ⟨y, hy, ?_⟩⟩
    show (o.1, y.1) = o
    rw [e2]
theorem owL_len (w : AWl) : ((owL w).length : Int) = heldA w := by
  induction w with
  | nil => rfl
  | cons x r ih =>
    rw [heldA_cons, ← ih]
    show (((x.2.map fun y => (x.1, y.1)) ++ owL r).length : Int) = _
    rw [List.length_append, List.length_map]
    omega
/-- a state of rooms, as a world tells it; st: by which poke a page stands -/
structure RmS (K : PySem.W.Frag) (H : Hp) (r : RG) (w : AWl) (st : Ow2 → Nat) : Prop where
  gd : RGd K H r
  jp : JP r.nf r.ns r.ps
  vw : Vw r.ps [] (mpW w) (clW w) st
  ts : r.tabs.map (·.t) = w.map (·.1)
  held : heldA w ≤ ((r.nf + r.ns : Nat) : Int)
  ok : WOk w
  zer : ∀ o, mpW w o = true → st o = 0 → clW w o = zeros
theorem RmS.owl {K : PySem.W.Frag} {H : Hp} {r : RG} {w : AWl} {st : Ow2 → Nat} (R : RmS K H r w st) : (owL w).length ≤ r.nf + r.ns := by
  have := R.held
  rw [← owL_len] at this
  omega
theorem RmS.rst {K : PySem.W.Frag} {H : Hp} {r : RG} {w : AWl} {st : Ow2 → Nat} (R : RmS K H r w st) : RSt K H r (mpW w) (clW w) st (owL w) := ⟨R.gd, R.jp, R.vw, fun _ h => owL_mem h, Nat.le_trans R.owl R.gd.two, R.zer⟩
theorem RmS.mono {K : PySem.W.Frag} {H H' : Hp} {A : List Addr} {cs : Cells} {r : RG} {w : AWl} {st : Ow2 → Nat} (R : RmS K H r w st) (O : Own H H' A cs) : RmS K H' r w st := ⟨R.gd.mono O, R.jp, R.vw, R.ts, R.held, R.ok, R.zer⟩
/-! ### lookups behind deeds -/
theorem mp_eq {w w' : AWl} (h : ∀ o : Ow2, ((w.lookup o.1).bind fun r => r.lookup o.2) = ((w'.lookup o.1).bind fun r => r.lookup o.2)) : mpW w = mpW w' ∧ clW w = clW w' := ⟨funext fun o => by unfold mpW; rw [h], funext fun o => by unfold clW; rw [h]⟩
theorem look_begin {w : AWl} {t : Int} (h : w.lookup t = none) (o : Ow2) : (((w ++ [(t, [])] : AWl).lookup o.1).bind fun r => r.lookup o.2) = ((w.lookup o.1).bind fun r => r.lookup o.2) := by
  rw [lk_app]
  by_cases z : o.1 = t
  · rw [z, h]
    show ((([(t, [])] : AWl).lookup t).bind _) = none
    rw [List.lookup_cons, show (t == t) = true by simp]
    rfl
  · have e : ([(t, [])] : AWl).lookup o.1 = none := by
      rw [List.lookup_cons, show (o.1 == t) = false by simpa using z]
      rfl
    rw [e]
    cases w.lookup o.1 <;> rfl
theorem look_drop {w : AWl} {t : Int} (o : Ow2) : (((dropA w t).lookup o.1).bind fun r => r.lookup o.2) = if o.1 = t then none else ((w.lookup o.1).bind fun r => r.lookup o.2) := by
  rw [lk_dropA]
  by_cases z : o.1 = t
  · rw [if_pos z, if_pos z]; rfl
  · rw [if_neg z, if_neg z]
theorem look_set {w : AWl} {t : Int} {r r' : ARm} (h : w.lookup t = some r) (o : Ow2) : (((setA w t r').lookup o.1).bind fun r => r.lookup o.2) = if o.1 = t then r'.lookup o.2 else ((w.lookup o.1).bind fun r => r.lookup o.2) := by
  rw [lk_setA]
  by_cases z : o.1 = t
  · rw [if_pos z, if_pos z, h]; rfl
  · rw [if_neg z, if_neg z]
theorem look_copy {w : AWl} {t : Int} {r : ARm} (h : w.lookup t = none) (o : Ow2) : (((w ++ [(t, r)] : AWl).lookup o.1).bind fun r => r.lookup o.2) = if o.1 = t then r.lookup o.2 else ((w.lookup o.1).bind fun r => r.lookup o.2) := by
  rw [lk_app]
  by_cases z : o.1 = t
  · rw [if_pos z, z, h]
    show ((([(t, r)] : AWl).lookup t).bind _) = _
    rw [List.lookup_cons, show (t == t) = true by simp]
    rfl
  · have e : ([(t, r)] : AWl).lookup o.1 = none := by
      rw [List.lookup_cons, show (o.1 == t) = false by simpa using z]
      rfl
    rw [if_neg z, e]
    cases w.lookup o.1 <;> rfl
theorem lk_row {α : Type} {v : α} (ps : List Int) (p : Int) : (ps.map fun q => (q, v)).lookup p = if p ∈ ps then some v else none := by
  induction ps with
  | nil => rfl
  | cons a q ih =>
    rw [List.map_cons, List.lookup_cons]
    by_cases z : p = a
    · subst z
      rw [show (p == p) = true by simp, if_pos (.head _)]
    · rw [show (p == a) = false by simpa using z]
      refine ih.trans ?_
      by_cases y : p ∈ q
      · rw [if_pos y, if_pos (.tail _ y)]
      · rw [if_neg y, if_neg (fun u => (List.mem_cons.mp u).elim z y)]
theorem lk_mapR (r : ARm) (ps : List Int) (p : Int) : (mapR r ps).lookup p = (r.lookup p).or (if p ∈ ps then some zeros else none) := by
  unfold mapR
  rw [lk_app, lk_row]
theorem lk_dropR (r : ARm) (ps : List Int) (p : Int) : (dropR r ps).lookup p = if p ∈ ps then none else r.lookup p := by
  unfold dropR
  induction ps generalizing r with
  | nil => rfl
  | cons a q ih =>
    show (List.foldl dropA (dropA r a) q).lookup p = _
    rw [ih, lk_dropA]
    by_cases y : p ∈ q
    · rw [if_pos y, if_pos (.tail _ y)]
    · rw [if_neg y]
      by_cases z : p = a
      · rw [if_pos z, if_pos (by rw [z]; exact .head _)]
      · rw [if_neg z, if_neg (fun u => (List.mem_cons.mp u).elim z y)]
/-- cells of one page, put at once -/
theorem lk_pokeR : ∀ (cs : List Int) (r : ARm) (a : Int) (row : List Int), r.lookup (a / 8) = some row → row.length = 8 → a % 8 + (cs.length : Int) ≤ 8 → ∀ p, (pokeR r a cs).lookup p = if p = a / 8 ∧ cs ≠ [] then some (row.take (a % 8).toNat ++ cs ++ row.drop ((a % 8).toNat + cs.length)) else r.lookup p
  | [], r, a, row, h, h8, hl, p => by rw [if_neg (fun z => z.2 rfl)]; rfl
  | c :: cs, r, a, row, h, h8, hl, p => by
    rw [List.length_cons] at hl
    have h0 : 0 ≤ a % 8 := Int.emod_nonneg _ (by decide)
    have e1 : (putR r a c).lookup p = if p = a / 8 then some (row.set (a % 8).toNat c) else r.lookup p := by
      unfold putR
      rw [lk_setA, h]
      rfl
    by_cases hn : cs = []
    · subst hn
      show (putR r a c).lookup p = _
      rw [e1]
      by_cases z : p = a / 8
      · rw [if_pos z, if_pos ⟨z, by simp⟩]
        have hlt : (a % 8).toNat < row.length := by omega
        rw [List.set_eq_take_append_cons_drop, if_pos hlt]
        simp
      · rw [if_neg z, if_neg (fun y => z y.1)]
    · have hd : (a + 1) / 8 = a / 8 := by
        have := List.length_pos_iff.mpr hn
        omega
      have hm : (a + 1) % 8 = a % 8 + 1 := by
        have := List.length_pos_iff.mpr hn
        omega
      have ih := lk_pokeR cs (putR r a c) (a + 1) (row.set (a % 8).toNat c) (by
        unfold putR
        rw [hd, lk_setA, if_pos rfl, h]
        rfl) (by rw [List.length_set]; exact h8) (by omega) p
      show (pokeR (putR r a c) (a + 1) cs).lookup p = _
      rw [ih, hd, e1]
      by_cases z : p = a / 8
      · rw [if_pos ⟨z, hn⟩, if_pos ⟨z, by simp⟩, hm]
        have hlt : (a % 8).toNat < row.length := by omega
        have e2 : (a % 8 + 1).toNat = (a % 8).toNat + 1 := by omega
        rw [e2, List.set_eq_take_append_cons_drop, if_pos hlt]
        have l1 : (row.take (a % 8).toNat).length = (a % 8).toNat := by rw [List.length_take]; omega
        congr 1
        have e3 : (row.take (a % 8).toNat ++ c :: row.drop ((a % 8).toNat + 1)).take ((a % 8).toNat + 1) = row.take (a % 8).toNat ++ [c] := by
          rw [List.take_append, l1, show (a % 8).toNat + 1 - (a % 8).toNat = 1 by omega, List.take_of_length_le (by omega)]
          rfl
        have e4 : (row.take (a % 8).toNat ++ c :: row.drop ((a % 8).toNat + 1)).drop ((a % 8).toNat + 1 + cs.length) = row.drop ((a % 8).toNat + (c :: cs).length) := by
          rw [List.drop_append, l1, List.drop_of_length_le (by omega), show (a % 8).toNat + 1 + cs.length - (a % 8).toNat = cs.length + 1 by omega, List.length_cons]
          show (row.drop ((a % 8).toNat + 1)).drop cs.length = _
          rw [List.drop_drop]
          congr 1
          omega
        rw [e3, e4]
        simp
      · rw [if_neg (fun y : p = a / 8 ∧ cs ≠ [] => z y.1), if_neg z, if_neg (fun y : p = a / 8 ∧ (c :: cs) ≠ [] => z y.1)]
theorem pokeR_app (r : ARm) (a : Int) (xs ys : List Int) : pokeR r a (xs ++ ys) = pokeR (pokeR r a xs) (a + xs.length) ys := by
  induction xs generalizing r a with
  | nil => show pokeR r a ys = pokeR r (a + 0) ys; rw [Int.add_zero]
  | cons x q ih =>
    show pokeR (putR r a x) (a + 1) (q ++ ys) = pokeR (pokeR (putR r a x) (a + 1) q) _ ys
    rw [ih, List.length_cons, show a + 1 + (q.length : Int) = a + ((q.length + 1 : Nat) : Int) by omega]
/-- cells of one page, told at once -/
theorem peekR_page {r : ARm} {a : Int} {row : List Int} {k : Nat} (h : r.lookup (a / 8) = some row) (h8 : row.length = 8) (hk : a % 8 + (k : Int) ≤ 8) : peekR r a k = (row.take ((a % 8).toNat + k)).drop (a % 8).toNat := by
  have h0 : 0 ≤ a % 8 := Int.emod_nonneg _ (by decide)
  refine List.ext_getElem? fun i => ?_
  unfold peekR
  rw [List.getElem?_map, List.getElem?_drop]
  by_cases hi : i < k
  · rw [List.getElem?_range hi, List.getElem?_take, if_pos (by omega)]
    show some (cellR r (a + i)) = _
    unfold cellR
    rw [show (a + (i : Int)) / 8 = a / 8 by omega, h, show ((a + (i : Int)) % 8).toNat = (a % 8).toNat + i by omega]
    show some ((row[(a % 8).toNat + i]?).getD 0) = _
    rw [List.getElem?_eq_getElem (by omega)]
    rfl
  · rw [List.getElem?_eq_none (by rw [List.length_range]; omega), List.getElem?_take, if_neg (by omega)]
    rfl
theorem peekR_app (r : ARm) (a : Int) (m k : Nat) : peekR r a (m + k) = peekR r a m ++ peekR r (a + m) k := by
  unfold peekR
  rw [List.range_add, List.map_append, List.map_map]
  refine congrArg _ (List.map_congr_left fun i _ => ?_)
  show cellR r (a + ((m + i : Nat) : Int)) = cellR r (a + m + i)
  rw [show a + ((m + i : Nat) : Int) = a + m + i by omega]

def cRo (K : PySem.W.Frag) (p dx g : Addr) (r : RG) : Cells := (p, .ins (He.ga K "Rooms") dx [("paging", .ref g)]) :: cPg K g r
/-- behind a peek or poke: where its last cell's page lies -/
def lastP (r : RG) : RDeed → Prop
  | .peek t a n => 0 < n → ∀ m, r.ps.ent (t, (a + n - 1) / 8) ≠ some (some (false, m))
  | .poke t a cs => cs ≠ [] → ∀ m, r.ps.ent (t, (a + cs.length - 1) / 8) ≠ some (some (false, m))
  | _ => True
/-- the stands behind the first n cells of a poke -/
def pokeS (t a : Int) (n : Nat) (x : (Ow2 → Nat) × Nat) : (Ow2 → Nat) × Nat := (List.range n).foldl (fun x k => if k = 0 ∨ (a + (k : Nat)) % 8 = 0 then (fupd x.1 (t, (a + (k : Nat)) / 8) (x.2 + 1), x.2 + 1) else x) x
def stS (st : Ow2 → Nat) (c : Nat) : RDeed → (Ow2 → Nat)
  | .map t p n => fun o => if o.1 = t ∧ o.2 ∈ pgs p n.toNat then 0 else st o
  | .copy t u => fun o => if o.1 = u then st (t, o.2) else st o
  | .poke t a cs => (pokeS t a cs.length (st, c)).1
  | _ => st
def RAns (K : PySem.W.Frag) (H : Hp) (p dx g : Addr) (r : RG) (st : Ow2 → Nat) (d : RDeed) (a : Except Rf (AWl × Option (List Int))) (Q : VK) (E : XK) : Prop :=
  match a with
  | .error e => ∀ H', Own H H' (adr (cRo K p dx g r)) (cRo K p dx g r) → E (e.cls K) none H'
  | .ok (w', none) => ∀ H' r', Own H H' (adr (cRo K p dx g r)) (cRo K p dx g r') → RmS K H' r' w' st → r'.nf = r.nf → r'.ns = r.ns → P16 r.ps r'.ps → lastP r' d → Q .non H'
  | .ok (w', some xs) => ∀ H' r' l, Own H H' (adr (cRo K p dx g r)) ((l, .lst (xs.map V.int)) :: cRo K p dx g r') → RmS K H' r' w' st → r'.nf = r.nf → r'.ns = r.ns → P16 r.ps r'.ps → lastP r' d → Q (.ref l) H'
def sp_Rooms___init__ (K : PySem.W.Frag) : Sp := sp3 fun self x y H Q _ => ∃ (p dx : Addr) (nf ns : Nat), self = .ref p ∧ x = .int nf ∧ y = .int ns ∧ 2 ≤ nf ∧ nf + ns ≤ 1000 ∧ Own H H [p] [(p, .ins (He.ga K "Rooms") dx [])] ∧
  ∀ H' g r, Own H H' [p] (cRo K p dx g r) → RmS K H' r [] (fun _ => 0) → r.nf = nf → r.ns = ns → Q .non H'
def sp_Rooms_table_of (K : PySem.W.Frag) : Sp := sp2 fun self x H Q E => ∃ p dx g r w st t, self = .ref p ∧ x = .int t ∧ RmS K H r w st ∧ Own H H (adr (cRo K p dx g r)) (cRo K p dx g r) ∧
  (w.lookup t = none → E (Rf.noTask.cls K) none H) ∧ (∀ row x, w.lookup t = some row → x ∈ r.tabs → x.t = t → Q (.ref x.p) H)
def sp_Rooms_begin (K : PySem.W.Frag) : Sp := sp2 fun self x H Q E => ∃ p dx g r w st c t, self = .ref p ∧ x = .int t ∧ RmS K H r w st ∧ w.length < 1000 ∧ Own H H (adr (cRo K p dx g r)) (cRo K p dx g r) ∧ RAns K H p dx g r (stS st c (.begin t)) (.begin t) (sem ((r.nf + r.ns : Nat) : Int) w (.begin t)) Q E
def sp_Rooms_held (K : PySem.W.Frag) : Sp := sp1 fun self H Q _ => ∃ p dx g r w st, self = .ref p ∧ RmS K H r w st ∧ Own H H (adr (cRo K p dx g r)) (cRo K p dx g r) ∧ ∀ H', Own H H' (adr (cRo K p dx g r)) (cRo K p dx g r) → Q (.int (heldA w)) H'
def sp_Rooms_ask_room (K : PySem.W.Frag) : Sp := sp2 fun self n H Q E => ∃ p dx g r w st i, self = .ref p ∧ n = .int i ∧ RmS K H r w st ∧ Own H H (adr (cRo K p dx g r)) (cRo K p dx g r) ∧ (heldA w + i > ((r.nf + r.ns : Nat) : Int) → ∀ H', Own H H' (adr (cRo K p dx g r)) (cRo K p dx g r) → E (Rf.noRoom.cls K) none H') ∧ (¬ heldA w + i > ((r.nf + r.ns : Nat) : Int) → ∀ H', Own H H' (adr (cRo K p dx g r)) (cRo K p dx g r) → Q .non H')
def sp_Rooms_look_mapped (K : PySem.W.Frag) : Sp := sp3 fun self y z H Q E => ∃ p x a, ∃ ps : List Int, self = .ref p ∧ y = .ref x.p ∧ z = .ref a ∧ H a = some (.lst (ps.map V.int)) ∧ ps.length ≤ 600 ∧ (∀ q, EntO K H (tent x.fs q) (x.en q)) ∧ a ∉ adr (cTb K x) ∧ Own H H (adr (cTb K x)) (cTb K x) ∧
  (∀ q ∈ ps, x.en q = none → ∀ H', Own H H' (adr (cTb K x)) (cTb K x) → E (Rf.noPage.cls K) none H') ∧ ((∀ q ∈ ps, (x.en q).isSome = true) → ∀ H', Own H H' (adr (cTb K x)) (cTb K x) → Q .non H')
theorem RmS.tab {K : PySem.W.Frag} {H : Hp} {r : RG} {w : AWl} {st : Ow2 → Nat} (R : RmS K H r w st) {t : Int} {row : ARm} (h : w.lookup t = some row) : ∃ l x q, r.tabs = l ++ x :: q ∧ x.t = t := tabs_split (by rw [R.ts]; exact lk_some.mp (by rw [h]; rfl))
theorem RmS.en {K : PySem.W.Frag} {H : Hp} {r : RG} {w : AWl} {st : Ow2 → Nat} (R : RmS K H r w st) {x : TbG} {row : ARm} (hx : x ∈ r.tabs) (h : w.lookup x.t = some row) (m : Int) : (x.en m).isSome = (row.lookup m).isSome := by
  obtain ⟨l, q, e1⟩ := List.append_of_mem hx
  have h1 := R.vw.map (x.t, m)
  rw [RG.ent_mid e1 R.gd.ndt m] at h1
  rw [h1]
  unfold mpW
  rw [h]
  rfl
theorem EntO.some {K : PySem.W.Frag} {H : Hp} {v : Option V} {e : Option (Option Pla)} (h : EntO K H v e) : v.isSome = e.isSome := by
  cases v <;> cases e <;> first | rfl | exact h.elim
theorem EntO.dec {K : PySem.W.Frag} {H : Hp} {v : Option V} {e : Option (Option Pla)} (h : EntO K H v e) : decide (v.getD .non = .non) = e.isNone := by
  cases e with
  | none =>
    cases v with
    | none => rfl
    | some u => exact h.elim
  | some e =>
    obtain ⟨u, rfl, h2⟩ := EntV.of h
    refine decide_eq_false fun z => ?_
    have z : u = .non := z
    subst z
    cases e with
    | none => cases h2
    | some pl => obtain ⟨a, h3, _⟩ := h2; cases h3
theorem RmS.pages {K : PySem.W.Frag} {H : Hp} {r : RG} {w : AWl} {st : Ow2 → Nat} (R : RmS K H r w st) {x : TbG} {row : ARm} {ns : List Int} (hx : x ∈ r.tabs) (h : w.lookup x.t = some row) (hs : ns.Pairwise (· < ·)) (hm : ∀ m, m ∈ ns ↔ (tent x.fs m).isSome = true) : ns.length = row.length ∧ ∀ m, m ∈ ns ↔ (row.lookup m).isSome = true := by
  have h1 : ∀ m, m ∈ ns ↔ (row.lookup m).isSome = true := fun m => by rw [hm, (R.gd.ents x hx m).some, R.en hx h]
  refine ⟨?_, h1⟩
  have h2 : List.Perm ns (row.map (·.1)) := (List.perm_ext_iff_of_nodup (hs.imp fun {a b} h z => by omega) (R.ok.atA h).nd).mpr fun m => (h1 m).trans lk_some
  rw [h2.length_eq, List.length_map]
theorem RmS.row {K : PySem.W.Frag} {H : Hp} {r : RG} {w : AWl} {st : Ow2 → Nat} (R : RmS K H r w st) {j : Nat} {x : TbG} (h : r.tabs[j]? = some x) : ∃ row, w[j]? = some (x.t, row) ∧ w.lookup x.t = some row := by
  have h1 : (w.map (·.1))[j]? = some x.t := by rw [← R.ts, List.getElem?_map, h]; rfl
  rw [List.getElem?_map] at h1
  cases e : w[j]? with
  | none => rw [e] at h1; cases h1
  | some y =>
    rw [e] at h1
    have h2 : y.1 = x.t := Option.some.inj h1
    refine ⟨y.2, by rw [← h2], ?_⟩
    refine lk_nd R.ok.nd ?_
    rw [← h2]
    exact List.mem_of_getElem? e
theorem RmS.tab0 {K : PySem.W.Frag} {H : Hp} {r : RG} {w : AWl} {st : Ow2 → Nat} (R : RmS K H r w st) {t : Int} (h : w.lookup t = none) : r.tabs.find? (fun x => decide (x.t = t)) = none := List.find?_eq_none.mpr fun x hx z => lk_none.mp h (by rw [← R.ts]; exact List.mem_map.mpr ⟨x, hx, of_decide_eq_true z⟩)
theorem RmS.len {K : PySem.W.Frag} {H : Hp} {r : RG} {w : AWl} {st : Ow2 → Nat} (R : RmS K H r w st) : r.tabs.length = w.length := by
  have := congrArg List.length R.ts
  rwa [List.length_map, List.length_map] at this
theorem RmS.nil {K : PySem.W.Frag} {H : Hp} {r : RG} (gd : RGd K H r) (J : JP r.nf r.ns r.ps) (h : r.tabs = []) : RmS K H r [] (fun _ => 0) := by
  have he : ∀ o, r.ps.ent o = none := fun o => by
    show (r.tabs.find? _).bind _ = none
    rw [h]
    rfl
  exact ⟨gd, J, ⟨fun o => by rw [he]; rfl, fun o _ hm => (by cases hm), fun o o' p p' _ _ h3 _ => (by rw [he] at h3; cases h3), fun o p _ h3 => (by rw [he] at h3; cases h3), fun o p _ h3 => (by rw [he] at h3; cases h3), fun o ho => by cases ho⟩, by rw [h]; rfl, by show (0 : Int) ≤ _; omega, WOk.nil, fun o hm => by cases hm⟩
def RG.addTab (r : RG) (x : TbG) : RG := { r with tabs := r.tabs ++ [x] }
theorem perm_tab (K : PySem.W.Frag) (a b c d e : Addr × HO) (S1 S2 : Cells) (T : List TbG) (x : TbG) (W : Cells) : List.Perm (cTb K x ++ (a :: b :: c :: d :: e :: (S1 ++ (S2 ++ (cTbs K T ++ W))))) (a :: b :: c :: d :: e :: (S1 ++ (S2 ++ (cTbs K (T ++ [x]) ++ W)))) := by
  have e1 : cTbs K (T ++ [x]) = cTbs K T ++ cTb K x := by
    unfold cTbs
    rw [List.flatMap_append, List.flatMap_cons, List.flatMap_nil, List.append_nil]
  rw [e1]
  have h := List.Perm.append_right W (List.perm_append_comm (l₁ := cTb K x) (l₂ := [a, b, c, d, e] ++ (S1 ++ (S2 ++ cTbs K T))))
  simpa [List.append_assoc] using h
theorem RG.addTab_ps {r : RG} {x : TbG} (h : x.en = fun _ => none) (h0 : r.tabs.find? (fun y => decide (y.t = x.t)) = none) : (r.addTab x).ps = r.ps := by
  unfold RG.ps RG.addTab
  dsimp only
  congr 1
  funext o
  rw [List.find?_append]
  cases e : r.tabs.find? (fun y => decide (y.t = o.1)) with
  | some y => rfl
  | none =>
    show ((List.find? (fun y => decide (y.t = o.1)) [x]).bind fun y => y.en o.2) = none
    rw [List.find?_cons]
    by_cases z : x.t = o.1
    · rw [decide_eq_true z]
      show x.en o.2 = none
      rw [h]
    · rw [decide_eq_false z]
      rfl
theorem RGd.addTab {K : PySem.W.Frag} {H : Hp} {r : RG} {t : Int} {a : Addr} {q : Addr × Addr} (h : RGd K H r) (h0 : r.tabs.find? (fun y => decide (y.t = t)) = none) (hl : r.tabs.length < 1000) : RGd K H (r.addTab ⟨t, a, q, [], fun _ => none⟩) := by
  have hm : ∀ y ∈ r.tabs ++ [(⟨t, a, q, [], fun _ => none⟩ : TbG)], y ∈ r.tabs ∨ y = ⟨t, a, q, [], fun _ => none⟩ := fun y hy => (List.mem_append.mp hy).imp id List.mem_singleton.mp
  refine ⟨h.st, fun y hy => ?_, fun y hy p => ?_, ?_, ?_, h.ndo, h.inr, h.two, h.hd⟩
  · rcases hm y hy with z | z
    · exact h.tab y z
    · rw [z]; exact TabOk.nil
  · rcases hm y hy with z | z
    · exact h.ents y z p
    · rw [z]; exact True.intro
  · show ((r.tabs ++ [_]).map fun y : TbG => y.t).Nodup
    rw [List.map_append]
    refine List.nodup_append.mpr ⟨h.ndt, List.nodup_cons.mpr ⟨List.not_mem_nil, List.nodup_nil⟩, fun u hu v hv e => ?_⟩
    rw [List.mem_singleton.mp hv] at e
    obtain ⟨y, hy, e2⟩ := List.mem_map.mp hu
    exact List.find?_eq_none.mp h0 y hy (decide_eq_true (by rw [e2, e]))
  · show (r.tabs ++ [_]).length ≤ 1000
    rw [List.length_append]
    exact hl
theorem tabs_sub {K : PySem.W.Frag} {l q T : List TbG} {x : TbG} (h : T = l ++ x :: q) : Sub (cTbs K T) (cTb K x) (cTb K x) (cTbs K T) := by
  rw [h, cTbs_mid]
  exact .app (.appl .all)
theorem heldA_sum (w : AWl) : (w.map fun x => ((x.2.length : Nat) : Int)).sum = heldA w := by
  induction w with
  | nil => rfl
  | cons x r ih => rw [List.map_cons, List.sum_cons, ih, heldA_cons]
theorem sc_Rooms___init__ : FnScope ["self", "frames", "slots"] ["self", "frames", "slots"] (defScope s_Rooms___init__) := ⟨rfl, rfl, rfl, by decide +kernel, rfl, by decide +kernel, by decide +kernel⟩
theorem ok_Rooms___init__ {P : Program} {w : World} {K : PySem.W.Frag} {mg : Str → Option Value} {base : Heap} (T : Txt K mg) : Cee P w K mg base 5 (He.fAd K ("Rooms", some "__init__")) ["self", "frames", "slots"] (sp_Rooms___init__ K) := by
  have c_Paging___init__ : Cee P w K mg base 3 (He.fAd K ("Paging", some "__init__")) ["self", "frames", "slots"] (sp_Paging___init__ K) := ok_Paging___init__ T
  refine cee_of T.d_Rooms___init__ sc_Rooms___init__ (fun _ _ _ _ _ _ us hl => match us, hl with | [_, _, _], _ => rfl) (fun vs H Q E h => sp3_len h) (fun cdv A outer s H vs Q E hr h => ⟨_, (pss_one (ps_fld (pv 0) (pe_n T.m_Paging c_Paging___init__ (hr.mono (by decide)) (by rfl) T.g_Paging (pa_cons (pv 1) (pa_cons (pv 2) pa_nil))) rfl)), ?_⟩)
  obtain ⟨v0, v1, v2, rfl, h⟩ := h
  dsimp only [cxOf, L2.start]
  obtain ⟨p, dx, nf, ns, rfl, rfl, rfl, h2, hle, O, k⟩ := h
  walk_at "s"
  intro g dg hg hdg hne
  have O2 := O.inst (C := He.ga K "Paging") hg hdg hne
  refine ask3 ⟨g, dg, nf, ns, rfl, rfl, rfl, h2, hle, O2.blk (s' := []) .one, fun H3 r O3 gd hnf hns ht J => ?_⟩
  have O4 := O2.call .one O3
  walk_at "s"
  subst hnf hns
  exact k _ g r ((O4.perm (List.perm_append_singleton _ _)).wr (o' := .ins (He.ga K "Rooms") dx [("paging", .ref g)]) .here) ((RmS.nil gd J ht).mono ((O4.perm (List.perm_append_singleton _ _)).self.wr (o' := .ins (He.ga K "Rooms") dx [("paging", .ref g)]) .here)) rfl rfl
theorem sc_Rooms_table_of : FnScope ["self", "task"] ["self", "task"] (defScope s_Rooms_table_of) := ⟨rfl, rfl, rfl, by decide +kernel, rfl, by decide +kernel, by decide +kernel⟩
theorem ok_Rooms_table_of {P : Program} {w : World} {K : PySem.W.Frag} {mg : Str → Option Value} {base : Heap} (T : Txt K mg) : Cee P w K mg base 1 (He.fAd K ("Rooms", some "table_of")) ["self", "task"] (sp_Rooms_table_of K) := by
  refine cee_of T.d_Rooms_table_of sc_Rooms_table_of (fun _ _ _ _ _ _ us hl => match us, hl with | [_, _], _ => rfl) (fun vs H Q E h => sp2_len h) (fun cdv A outer s H vs Q E hr h => ⟨_, (pss_cons (ps_if (pt_cmp (pc_dnotin (hu_of hr) (pv 1) (pe_fld (pe_fld (pv 0) rfl) rfl)) (by with_unfolding_all rfl)) (pss_one (ps_raise rfl (takes_of rfl rfl rfl rfl) (pmk_own PySem.F.excBase_ValueError T.x_NoTask.1 T.g_NoTask T.x_NoTask.2.1 (raises_own T.x_NoTask.2.2.1 T.x_NoTask.2.2.2) rfl))) pss_nil) (pss_one (ps_ret (pe_dget (hu_of hr) (pe_fld (pe_fld (pv 0) rfl) rfl) (pv 1) (fun _ _ => rfl))))), ?_⟩)
  obtain ⟨v0, v1, rfl, h⟩ := h
  dsimp only [cxOf, L2.start]
  obtain ⟨p, dx, g, r, w, st, t, rfl, rfl, R, O, e, k⟩ := h
  have hp := O.get (a := p) (o := .ins (He.ga K "Rooms") dx [("paging", .ref g)]) (.head _)
  have hg := O.get (a := g) (o := insPg K r) (.tail _ (.head _))
  have hT := O.get (a := r.TD) (o := .dK (tabD r.tabs)) (.tail _ (.tail _ (.tail _ (.head _))))
  walk_at "s"
  dsimp only
  rw [tabD_val]
  cases hw : w.lookup t with
  | none =>
    rw [R.tab0 hw]
    refine if_t rfl ?_
    exact e hw
  | some row =>
    obtain ⟨l, x, q, e1, rfl⟩ := R.tab hw
    have hf : r.tabs.find? (fun y => decide (y.t = x.t)) = some x := by
      have nd := R.gd.ndt
      rw [e1] at nd ⊢
      rw [tabs_find nd, if_pos rfl]
    have hv : valV (tabD r.tabs) (Sum.inl x.t) = some (.ref x.p) := by rw [tabD_val, hf]; rfl
    rw [hf]
    refine if_f rfl ?_
    walk_at "s"
    exact k row x hw (by rw [e1]; simp) rfl
theorem sc_Rooms_begin : FnScope ["self", "task"] ["self", "task"] (defScope s_Rooms_begin) := ⟨rfl, rfl, rfl, by decide +kernel, rfl, by decide +kernel, by decide +kernel⟩
theorem ok_Rooms_begin {P : Program} {w : World} {K : PySem.W.Frag} {mg : Str → Option Value} {base : Heap} (T : Txt K mg) : Cee P w K mg base 3 (He.fAd K ("Rooms", some "begin")) ["self", "task"] (sp_Rooms_begin K) := by
  have c_Table___init__ : Cee P w K mg base 1 (He.fAd K ("Table", some "__init__")) ["self"] (sp_Table___init__ K) := ok_Table___init__ T
  refine cee_of T.d_Rooms_begin sc_Rooms_begin (fun _ _ _ _ _ _ us hl => match us, hl with | [_, _], _ => rfl) (fun vs H Q E h => sp2_len h) (fun cdv A outer s H vs Q E hr h => ⟨_, (pss_cons (ps_if (pt_cmp (pc_din (hu_of hr) (pv 1) (pe_fld (pe_fld (pv 0) rfl) rfl)) (by with_unfolding_all rfl)) (pss_one (ps_raise rfl (takes_of rfl rfl rfl rfl) (pmk_own PySem.F.excBase_ValueError T.x_Taken.1 T.g_Taken T.x_Taken.2.1 (raises_own T.x_Taken.2.2.1 T.x_Taken.2.2.2) rfl))) pss_nil) (pss_one (ps_dput (hu_of hr) (pe_fld (pe_fld (pv 0) rfl) rfl) (pv 1) (pe_n0 T.m_Table c_Table___init__ (hr.mono (by decide)) (by rfl) T.g_Table) rfl))), ?_⟩)
  obtain ⟨v0, v1, rfl, h⟩ := h
  dsimp only [cxOf, L2.start]
  obtain ⟨p, dx, g, r, w, st, c, t, rfl, rfl, R, hlen, O, k⟩ := h
  have hp := O.get (a := p) (o := .ins (He.ga K "Rooms") dx [("paging", .ref g)]) (.head _)
  have hg := O.get (a := g) (o := insPg K r) (.tail _ (.head _))
  have hT := O.get (a := r.TD) (o := .dK (tabD r.tabs)) (.tail _ (.tail _ (.tail _ (.head _))))
  walk_at "s"
  dsimp only
  rw [tabD_val]
  cases hw : w.lookup t with
  | some row =>
    rw [sem_begin1 (by rw [hw]; rfl)] at k
    obtain ⟨l, x, q, e1, rfl⟩ := R.tab hw
    have hf : r.tabs.find? (fun y => decide (y.t = x.t)) = some x := by
      have nd := R.gd.ndt
      rw [e1] at nd ⊢
      rw [tabs_find nd, if_pos rfl]
    rw [hf]
    refine if_t rfl ?_
    exact k _ O
  | none =>
    rw [sem_begin0 hw] at k
    rw [R.tab0 hw]
    refine if_f rfl ?_
    dsimp only [tNext, sDPut]
    walk_at "s"
    intro a da ha hda hne
    have O2 := O.inst (C := He.ga K "Table") ha hda hne
    refine ask1 ⟨a, da, rfl, O2.blk (s' := []) .one, fun H3 q O3 => ?_⟩
    have O4 := O2.call .one O3
    have hp4 := O4.get (a := p) (o := .ins (He.ga K "Rooms") dx [("paging", .ref g)]) (List.mem_append_right _ (.head _))
    have hg4 := O4.get (a := g) (o := insPg K r) (List.mem_append_right _ (.tail _ (.head _)))
    have hT4 := O4.get (a := r.TD) (o := .dK (tabD r.tabs)) (List.mem_append_right _ (.tail _ (.tail _ (.tail _ (.head _)))))
    have hlt : (tabD r.tabs).length < 100000 := by rw [List.length_map, R.len]; omega
    have hnew : putK (tabD r.tabs) (Sum.inl t) (.ref a) = tabD (r.tabs ++ [⟨t, a, q, [], fun _ => none⟩]) := by
      rw [L2.putK_new _ (by rw [tabD_val, R.tab0 hw]; rfl)]
      unfold tabD
      rw [List.map_append]
      rfl
    walk_at "s"
    rw [hnew]
    have O5 := O4.wr (a := r.TD) (o' := .dK (tabD (r.tabs ++ [⟨t, a, q, [], fun _ => none⟩]))) (cs' := cTab K a q [] ++ ((p, .ins (He.ga K "Rooms") dx [("paging", .ref g)]) :: (g, insPg K r) :: (r.SD, .dK (stD r)) :: (r.TD, .dK (tabD (r.tabs ++ [⟨t, a, q, [], fun _ => none⟩]))) :: (r.OD, .dT (ownD r.ow)) :: (cSG K (r.st true) ++ (cSG K (r.st false) ++ (cTbs K r.tabs ++ cOw r.ow))))) (.app (.there (.there (.there .here))))
    have S5 := O4.self.wr (a := r.TD) (o' := .dK (tabD (r.tabs ++ [⟨t, a, q, [], fun _ => none⟩]))) (cs' := cTab K a q [] ++ ((p, .ins (He.ga K "Rooms") dx [("paging", .ref g)]) :: (g, insPg K r) :: (r.SD, .dK (stD r)) :: (r.TD, .dK (tabD (r.tabs ++ [⟨t, a, q, [], fun _ => none⟩]))) :: (r.OD, .dT (ownD r.ow)) :: (cSG K (r.st true) ++ (cSG K (r.st false) ++ (cTbs K r.tabs ++ cOw r.ow))))) (.app (.there (.there (.there .here))))
    refine k _ (r.addTab ⟨t, a, q, [], fun _ => none⟩) (O5.perm (perm_tab K _ _ _ _ _ _ _ r.tabs ⟨t, a, q, [], fun _ => none⟩ _)) ?_ rfl rfl ?_ True.intro
    · have gd5 := R.gd.mono O5
      have hps : (r.addTab ⟨t, a, q, [], fun _ => none⟩).ps = r.ps := RG.addTab_ps rfl (R.tab0 hw)
      obtain ⟨m1, m2⟩ := mp_eq (look_begin hw)
      refine ⟨gd5.addTab (R.tab0 hw) (by rw [R.len]; exact hlen), by rw [hps]; exact R.jp, by rw [hps, m1, m2]; exact R.vw, ?_, ?_, R.ok.snocW hw ROk.nil hlen, fun o => by rw [m1, m2]; exact R.zer o⟩
      · show ((r.tabs ++ [_]).map fun y : TbG => y.t) = _
        rw [List.map_append, List.map_append, R.ts]
        rfl
      · rw [heldA_app]
        have := R.held
        show heldA w + heldA [(t, [])] ≤ _
        rw [heldA_cons]
        show heldA w + ((0 : Nat) + heldA []) ≤ ((r.nf + r.ns : Nat) : Int)
        have : heldA [] = 0 := rfl
        omega
    · rw [RG.addTab_ps rfl (R.tab0 hw)]
      exact fun _ o n m h1 h2 => by rw [h1] at h2; cases h2
theorem sc_Rooms_held : FnScope ["self", "table"] ["self"] (defScope s_Rooms_held) := ⟨rfl, rfl, rfl, by decide +kernel, rfl, by decide +kernel, by decide +kernel⟩
theorem ok_Rooms_held {P : Program} {w : World} {K : PySem.W.Frag} {mg : Str → Option Value} {base : Heap} (T : Txt K mg) : Cee P w K mg base 2 (He.fAd K ("Rooms", some "held")) ["self"] (sp_Rooms_held K) := by
  have c_Table_pages : Cee P w K mg base 1 (He.fAd K ("Table", some "pages")) ["self"] (sp_Table_pages K) := ok_Table_pages T
  refine cee_of T.d_Rooms_held sc_Rooms_held (fun _ _ _ _ _ _ us hl => match us, hl with | [_], _ => rfl) (fun vs H Q E h => sp1_len h) (fun cdv A outer s H vs Q E hr h => ⟨_, (pss_one (ps_ret (pe_callB (cr_sum rfl) (by rfl) T.n_sum (by decide +kernel) (pa_cons (pe_lock (pe_lc (own := [("table", 1)]) (by rfl) sc_Rooms_held.nd (PI.box (pi_values (pe_fld (pe_fld (pv 0) rfl) rfl))) (blkOk_by (own := [("table", 1)]) (N := ["self", "table"]) (sc := defScope s_Rooms_held) (by decide +kernel)) (fun _ _ _ _ _ => (pg_name (i := 1) sc_Rooms_held.nd rfl (Or.inl rfl))) (fun _ _ _ _ _ => pts_nil) (fun _ _ _ _ _ => (pe_callB (show CallR _ (.builtin "len") (rLenSq K) from call_len_seq) (by rfl) T.n_len (by decide +kernel) (pa_cons (pe_m0 (pv 1) T.c_Table T.m_Table_pages c_Table_pages (hr.mono (by decide)) takes0) pa_nil))))) pa_nil)))), ?_⟩)
  obtain ⟨v0, rfl, h⟩ := h
  dsimp only [cxOf, L2.start]
  obtain ⟨p, dx, g, r, w, st, rfl, R, O, k⟩ := h
  have hp := O.get (a := p) (o := .ins (He.ga K "Rooms") dx [("paging", .ref g)]) (.head _)
  have hg := O.get (a := g) (o := insPg K r) (.tail _ (.head _))
  have hT := O.get (a := r.TD) (o := .dK (tabD r.tabs)) (.tail _ (.tail _ (.tail _ (.head _))))
  walk_at "s"
  refine ⟨_, hT, True.intro, fun od => ?_⟩
  have O1 := O.wr (a := r.TD) (o' := .frz od (.dK (tabD r.tabs))) (.there (.there (.there .here)))
  walk_at "s"
  refine lcW (walk_values (d := r.TD) (o := od) (kvs := tabD r.tabs)) (fun L j H2 => Own H H2 (adr (cRo K p dx g r)) ((L, .lst ((w.take j).map fun x => V.int x.2.length)) :: (p, .ins (He.ga K "Rooms") dx [("paging", .ref g)]) :: (g, insPg K r) :: (r.SD, .dK (stD r)) :: (r.TD, .frz od (.dK (tabD r.tabs))) :: (r.OD, .dT (ownD r.ow)) :: (cSG K (r.st true) ++ (cSG K (r.st false) ++ (cTbs K r.tabs ++ cOw r.ow))))) (fun L hL => O1.new hL) (fun L j H2 _ O => O.get (.tail _ (.tail _ (.tail _ (.tail _ (.head _)))))) ?_ ?_
  · rintro L j x H2 H3 hj O2 ⟨rfl, k2, hx⟩
    obtain ⟨y, hy⟩ : ∃ y, r.tabs[j]? = some y := ⟨r.tabs[j]'(by simpa using hj), List.getElem?_eq_getElem _⟩
    rw [List.getElem?_map, hy] at hx
    cases hx
    have hlen : ((w.take j).map fun x => V.int x.2.length).length < 100000 := by
      have := R.ok.few
      rw [List.length_map, List.length_take]
      omega
    obtain ⟨row, hr1, hr2⟩ := R.row hy
    have hyt := List.mem_of_getElem? hy
    obtain ⟨l, q, e1⟩ := List.append_of_mem hyt
    have hyp := O2.get (a := y.p) (o := .ins (He.ga K "Table") y.q.1 [("firsts", .ref y.q.2)]) (.tail _ (.tail _ (.tail _ (.tail _ (.tail _ (.tail _ (List.mem_append_right _ (List.mem_append_right _ (List.mem_append_left _ (List.mem_flatMap.mpr ⟨y, hyt, .head _⟩))))))))))
    walk_at "s"
    have Os := O2.blk (s := cTb K y) (s' := cTb K y) (.there (.there (.there (.there (.there (.there (.app (.app (.appl (tabs_sub e1))))))))))
    refine ask1 ⟨y.p, y.q, y.fs, rfl, R.gd.tab y hyt, Os, fun H4 b ns O4 hs hm => ?_⟩
    obtain ⟨p1, p2⟩ := R.pages hyt hr2 hs hm
    have hb4 := O4.get (a := b) (o := .lst (ns.map V.int)) (.head _)
    have O5 := (O2.callE (e := [(b, .lst (ns.map V.int))]) (.there (.there (.there (.there (.there (.there (.app (.app (.appl (tabs_sub e1))))))))) ) O4)
    have hL5 := O5.get (a := L) (o := .lst ((w.take j).map fun x => V.int x.2.length)) (.tail _ (.head _))
    walk_at "s"
    rw [List.length_map, p1, take_succ hr1, List.map_append]
    exact ⟨(O5.wr (a := L) (o' := .lst ((w.take j).map (fun x => V.int x.2.length) ++ [V.int (row.length : Nat)])) (.there .here)).drop (.cons _ (.refl _))⟩
  · rintro L H2 O2
    rw [show (tabD r.tabs).length = w.length from (List.length_map _).trans R.len, List.take_length] at O2
    refine ⟨O2.get (.tail _ (.tail _ (.tail _ (.tail _ (.head _))))), ?_⟩
    have O3 := O2.wr (a := r.TD) (o' := .dK (tabD r.tabs)) (.there (.there (.there (.there .here))))
    have hs : SqL K (upd H2 r.TD (.dK (tabD r.tabs))) L ((w.map fun x => ((x.2.length : Nat) : Int)).map V.int) := by
      rw [List.map_map]
      exact SqL.of (O3.get (.head _))
    walk_at "s"
    rw [heldA_sum]
    exact k _ (O3.drop (.cons _ (.refl _)))
theorem sc_Rooms_ask_room : FnScope ["self", "many"] ["self", "many"] (defScope s_Rooms_ask_room) := ⟨rfl, rfl, rfl, by decide +kernel, rfl, by decide +kernel, by decide +kernel⟩
theorem ok_Rooms_ask_room {P : Program} {w : World} {K : PySem.W.Frag} {mg : Str → Option Value} {base : Heap} (T : Txt K mg) : Cee P w K mg base 3 (He.fAd K ("Rooms", some "ask_room")) ["self", "many"] (sp_Rooms_ask_room K) := by
  have c_Rooms_held : Cee P w K mg base 2 (He.fAd K ("Rooms", some "held")) ["self"] (sp_Rooms_held K) := ok_Rooms_held T
  refine cee_of T.d_Rooms_ask_room sc_Rooms_ask_room (fun _ _ _ _ _ _ us hl => match us, hl with | [_, _], _ => rfl) (fun vs H Q E h => sp2_len h) (fun cdv A outer s H vs Q E hr h => ⟨_, (pss_one (ps_if (pt_cmpR op_gt (pe_op op_add (pe_m0 (pv 0) T.c_Rooms T.m_Rooms_held c_Rooms_held (hr.mono (by decide)) (takes_of rfl rfl rfl rfl)) (pv 1)) (pe_op op_add (pe_fld (pe_fld (pv 0) rfl) rfl) (pe_fld (pe_fld (pv 0) rfl) rfl)) (nomark _)) (pss_one (ps_raise rfl (takes_of rfl rfl rfl rfl) (pmk_own PySem.F.excBase_ValueError T.x_NoRoom.1 T.g_NoRoom T.x_NoRoom.2.1 (raises_own T.x_NoRoom.2.2.1 T.x_NoRoom.2.2.2) rfl))) pss_nil)), ?_⟩)
  obtain ⟨v0, v1, rfl, h⟩ := h
  dsimp only [cxOf, L2.start]
  obtain ⟨p, dx, g, r, w, st, i, rfl, rfl, R, O, e, k⟩ := h
  walk_at "s"
  refine ask1 ⟨p, dx, g, r, w, st, rfl, R, O, fun H2 O2 => ?_⟩
  have hp := O2.get (a := p) (o := .ins (He.ga K "Rooms") dx [("paging", .ref g)]) (.head _)
  have hg := O2.get (a := g) (o := insPg K r) (.tail _ (.head _))
  walk_at "s"
  refine if_d (fun h => ?_) (fun h => ?_)
  · exact e (by omega) _ O2
  · exact k (by omega) _ O2
theorem sc_Rooms_look_mapped : FnScope ["self", "table", "pages", "one"] ["self", "table", "pages"] (defScope s_Rooms_look_mapped) := ⟨rfl, rfl, rfl, by decide +kernel, rfl, by decide +kernel, by decide +kernel⟩
theorem ok_Rooms_look_mapped {P : Program} {w : World} {K : PySem.W.Frag} {mg : Str → Option Value} {base : Heap} (T : Txt K mg) : Cee P w K mg base 2 (He.fAd K ("Rooms", some "look_mapped")) ["self", "table", "pages"] (sp_Rooms_look_mapped K) := by
  have c_Table_get : Cee P w K mg base 1 (He.fAd K ("Table", some "get")) ["self", "page"] (sp_Table_get K) := ok_Table_get T
  refine cee_of T.d_Rooms_look_mapped sc_Rooms_look_mapped (fun _ _ _ _ _ _ us hl => match us, hl with | [_, _, _], _ => rfl) (fun vs H Q E h => sp3_len h) (fun cdv A outer s H vs Q E hr h => ⟨_, (pss_one (ps_if (pt_val (pe_callB (cr_any rfl) (by rfl) T.n_any (by decide +kernel) (pa_cons (pe_lc (own := [("one", 3)]) (by rfl) sc_Rooms_look_mapped.nd (PI.box (pi_list (pv 2))) (blkOk_by (own := [("one", 3)]) (N := ["self", "table", "pages", "one"]) (sc := defScope s_Rooms_look_mapped) (by decide +kernel)) (fun _ _ _ _ _ => (pg_name (i := 3) sc_Rooms_look_mapped.nd rfl (Or.inl rfl))) (fun _ _ _ _ _ => pts_nil) (fun _ _ _ _ _ => (pe_cmpR op_isN (pe_m (pv 1) T.c_Table T.m_Table_get c_Table_get (hr.mono (by decide)) takes0 (pa_cons (pv 3) pa_nil)) pe_non (nomark _)))) pa_nil))) (pss_one (ps_raise rfl (takes_of rfl rfl rfl rfl) (pmk_own PySem.F.excBase_ValueError T.x_NoPage.1 T.g_NoPage T.x_NoPage.2.1 (raises_own T.x_NoPage.2.2.1 T.x_NoPage.2.2.2) rfl))) pss_nil)), ?_⟩)
  obtain ⟨v0, v1, v2, rfl, h⟩ := h
  dsimp only [cxOf, L2.start]
  obtain ⟨p, x, a, ps, rfl, rfl, rfl, ha, hl, hen, han, O, e, k⟩ := h
  walk_at "s"
  refine lcL (K := K) (a := a) (xs := ps.map V.int) (fun L j H2 => Own H H2 (adr (cTb K x)) ((L, .lst (((ps.take j).map fun q => (x.en q).isNone).map V.bl)) :: cTb K x)) (fun L hL => O.new hL) (fun L j H2 _ O2 => SqL.of (O2.fr _ _ ha han)) ?_ ?_
  · rintro L j y H2 hj O2
    obtain ⟨q, hq, rfl⟩ := mget hj
    have hxp := O2.get (a := x.p) (o := .ins (He.ga K "Table") x.q.1 [("firsts", .ref x.q.2)]) (.tail _ (.head _))
    have hlen : (((ps.take j).map fun q => (x.en q).isNone).map V.bl).length < 100000 := by
      rw [List.length_map, List.length_map, List.length_take]
      omega
    have hq2 := (hen q).mono O2
    walk_at "s"
    refine ask2 ⟨x.p, x.q, x.fs, q, rfl, rfl, O2.blk (s' := []) (.there .all), ?_⟩
    have hd := hq2.dec
    walk_at "s"
    rw [hd]
    rw [take_succ hq, List.map_append, List.map_append]
    exact ⟨O2.wr .here⟩
  · rintro L H2 O2
    rw [List.length_map, List.take_length] at O2
    refine ⟨L, (ps.map fun q => (x.en q).isNone), rfl, SqL.of (O2.get (.head _)), ?_⟩
    have O3 := O2.drop (cs' := cTb K x) (.cons _ (.refl _))
    cases hb : (ps.map fun q => (x.en q).isNone).any id with
    | true =>
      obtain ⟨b, hb1, hb2⟩ := List.any_eq_true.mp hb
      obtain ⟨q, hq, rfl⟩ := List.mem_map.mp hb1
      walk_at "s"
      exact e q hq (Option.isNone_iff_eq_none.mp hb2) _ O3
    | false =>
      walk_at "s"
      refine k (fun q hq => ?_) _ O3
      have h1 := List.any_eq_false.mp hb _ (List.mem_map.mpr ⟨q, hq, rfl⟩)
      cases hz : x.en q with
      | none => rw [hz] at h1; exact absurd rfl h1
      | some _ => rfl

def sp_Rooms_map (K : PySem.W.Frag) : Sp := sp4 fun self x y z H Q E => ∃ p dx g r w st c t n m, self = .ref p ∧ x = .int t ∧ y = .int n ∧ z = .int m ∧ RmS K H r w st ∧ Own H H (adr (cRo K p dx g r)) (cRo K p dx g r) ∧ RAns K H p dx g r (stS st c (.map t n m)) (.map t n m) (sem ((r.nf + r.ns : Nat) : Int) w (.map t n m)) Q E
def sp_Rooms_drop (K : PySem.W.Frag) : Sp := sp4 fun self x y z H Q E => ∃ p dx g r w st c t n m, self = .ref p ∧ x = .int t ∧ y = .int n ∧ z = .int m ∧ RmS K H r w st ∧ Own H H (adr (cRo K p dx g r)) (cRo K p dx g r) ∧ RAns K H p dx g r (stS st c (.drop t n m)) (.drop t n m) (sem ((r.nf + r.ns : Nat) : Int) w (.drop t n m)) Q E
def sp_Rooms_close (K : PySem.W.Frag) : Sp := sp2 fun self x H Q E => ∃ p dx g r w st c t, self = .ref p ∧ x = .int t ∧ RmS K H r w st ∧ Own H H (adr (cRo K p dx g r)) (cRo K p dx g r) ∧ RAns K H p dx g r (stS st c (.close t)) (.close t) (sem ((r.nf + r.ns : Nat) : Int) w (.close t)) Q E
def sp_Rooms_copy (K : PySem.W.Frag) : Sp := sp3 fun self x y H Q E => ∃ p dx g r w st c t u, self = .ref p ∧ x = .int t ∧ y = .int u ∧ RmS K H r w st ∧ w.length < 1000 ∧ Own H H (adr (cRo K p dx g r)) (cRo K p dx g r) ∧ RAns K H p dx g r (stS st c (.copy t u)) (.copy t u) (sem ((r.nf + r.ns : Nat) : Int) w (.copy t u)) Q E
theorem Vw.congr {s : PS} {F : List Ow2} {mp : Ow2 → Bool} {cl cl' : Ow2 → List Int} {st st' : Ow2 → Nat} (V : Vw s F mp cl st) (h1 : ∀ o, mp o = true → cl' o = cl o) (h2 : ∀ o, mp o = true → st' o = st o) : Vw s F mp cl' st' := by
  have me : ∀ o x, s.ent o = some x → mp o = true := fun o x h => by rw [← V.map, h]; rfl
  refine ⟨V.map, fun o ho hm => by rw [h2 o hm]; exact V.blank o ho hm, fun o o' p p' a b c d => ?_, fun o p a b => by rw [h1 o (me _ _ b)]; exact V.cell o p a b, V.reg, V.flo⟩
  rw [h2 o (me _ _ c), h2 o' (me _ _ d)]
  exact V.same o o' p p' a b c d
/-- the end of a deed: a world from what pages tell -/
theorem RmS.fin {K : PySem.W.Frag} {H : Hp} {r : RG} {w : AWl} {mp : Ow2 → Bool} {cl : Ow2 → List Int} {st : Ow2 → Nat} (gd : RGd K H r) (J : JP r.nf r.ns r.ps) (V : Vw r.ps [] mp cl st) (hm : ∀ o, mp o = mpW w o) (hc : ∀ o, mpW w o = true → cl o = clW w o) (ts : r.tabs.map (·.t) = w.map (·.1)) (hh : heldA w ≤ ((r.nf + r.ns : Nat) : Int)) (ok : WOk w) (hz : ∀ o, mpW w o = true → st o = 0 → clW w o = zeros) : RmS K H r w st := by
  have e : mp = mpW w := funext hm
  subst e
  exact ⟨gd, J, V.congr (fun o h => (hc o h).symm) (fun _ _ => rfl), ts, hh, ok, hz⟩
/-- the entries of pages that are there stay -/
def Ents (s s' : PS) : Prop := ∀ o, (s.ent o).isSome = true → s'.ent o = s.ent o ∨ s'.ent o = none
theorem Ents.p16 {s s' : PS} (h : Ents s s') : P16 s s' := fun _ o n m h1 h2 => by
  rcases h o (by rw [h1]; rfl) with z | z
  · rw [z, h1] at h2; cases h2
  · rw [z] at h2; cases h2
theorem RmS.find {K : PySem.W.Frag} {H : Hp} {r : RG} {w : AWl} {st : Ow2 → Nat} (R : RmS K H r w st) {t : Int} {row : ARm} (h : w.lookup t = some row) : ∃ l x q, r.tabs = l ++ x :: q ∧ x.t = t ∧ x ∈ r.tabs ∧ r.tabs.find? (fun y => decide (y.t = t)) = some x := by
  obtain ⟨l, x, q, e1, e2⟩ := R.tab h
  refine ⟨l, x, q, e1, e2, by rw [e1]; simp, ?_⟩
  have nd := R.gd.ndt
  rw [e1] at nd ⊢
  rw [tabs_find nd, if_pos e2.symm]
/-- a table keeps its place -/
theorem Kp.tab {K : PySem.W.Frag} {H : Hp} {r r' : RG} (h : Kp r r') (gd : RGd K H r') {x : TbG} (hx : x ∈ r.tabs) : ∃ l y q, r'.tabs = l ++ y :: q ∧ y.t = x.t ∧ y.p = x.p := by
  have h1 : (x.t, x.p) ∈ r'.tabs.map fun x => (x.t, x.p) := by rw [h.tp]; exact List.mem_map.mpr ⟨x, hx, rfl⟩
  obtain ⟨y, hy, e⟩ := List.mem_map.mp h1
  obtain ⟨l, q, e2⟩ := List.append_of_mem hy
  exact ⟨l, y, q, e2, (Prod.mk.inj e).1, (Prod.mk.inj e).2⟩
theorem cRo_tab {K : PySem.W.Frag} {p dx g : Addr} {r : RG} {l q : List TbG} {x : TbG} (h : r.tabs = l ++ x :: q) : Sub (cRo K p dx g r) (cTb K x) (cTb K x) (cRo K p dx g r) := by
  have h1 := cPg_tab (K := K) (g := g) (r := r) (x' := x) h rfl rfl
  rw [← h] at h1
  exact .there h1
theorem sc_Rooms_map : FnScope ["self", "task", "page", "many", "table", "asked", "one"] ["self", "task", "page", "many"] (defScope s_Rooms_map) := ⟨rfl, rfl, rfl, by decide +kernel, rfl, by decide +kernel, by decide +kernel⟩
theorem ok_Rooms_map {P : Program} {w : World} {K : PySem.W.Frag} {mg : Str → Option Value} {base : Heap} (T : Txt K mg) : Cee P w K mg base 4 (He.fAd K ("Rooms", some "map")) ["self", "task", "page", "many"] (sp_Rooms_map K) := by
  have c_Rooms_table_of : Cee P w K mg base 1 (He.fAd K ("Rooms", some "table_of")) ["self", "task"] (sp_Rooms_table_of K) := ok_Rooms_table_of T
  have c_pages_asked : Cee P w K mg base 1 (He.fAd K ("pages_asked", none)) ["page", "many"] (sp_pages_asked K) := ok_pages_asked T
  have c_Table_get : Cee P w K mg base 1 (He.fAd K ("Table", some "get")) ["self", "page"] (sp_Table_get K) := ok_Table_get T
  have c_Rooms_ask_room : Cee P w K mg base 3 (He.fAd K ("Rooms", some "ask_room")) ["self", "many"] (sp_Rooms_ask_room K) := ok_Rooms_ask_room T
  have c_Paging_lay : Cee P w K mg base 2 (He.fAd K ("Paging", some "lay")) ["self", "owner", "entry"] (sp_Paging_lay K) := ok_Paging_lay T
  refine cee_of T.d_Rooms_map sc_Rooms_map (fun _ _ _ _ _ _ us hl => match us, hl with | [_, _, _, _], _ => rfl) (fun vs H Q E h => sp4_len h) (fun cdv A outer s H vs Q E hr h => ⟨_, (pss_cons (ps_set (i := 4) sc_Rooms_map.nd rfl (Or.inr rfl) (pe_m (pv 0) T.c_Rooms T.m_Rooms_table_of c_Rooms_table_of (hr.mono (by decide)) (takes_of rfl rfl rfl rfl) (pa_cons (pv 1) pa_nil))) (pss_cons (ps_set (i := 5) sc_Rooms_map.nd rfl (Or.inl rfl) (pe_f c_pages_asked (hr.mono (by decide)) (takes_of rfl rfl rfl rfl) (by rfl) T.g_pages_asked (pa_cons (pv 2) (pa_cons (pv 3) pa_nil)))) (pss_cons (ps_if (pt_val (pe_callB (cr_any rfl) (by rfl) T.n_any (by decide +kernel) (pa_cons (pe_lc (own := [("one", 6)]) (by rfl) sc_Rooms_map.nd (PI.box (pi_list (pv 5))) (blkOk_by (own := [("one", 6)]) (N := ["self", "task", "page", "many", "table", "asked", "one"]) (sc := defScope s_Rooms_map) (by decide +kernel)) (fun _ _ _ _ _ => (pg_name (i := 6) sc_Rooms_map.nd rfl (Or.inl rfl))) (fun _ _ _ _ _ => pts_nil) (fun _ _ _ _ _ => (pe_cmpR op_notN (pe_m (pv 4) T.c_Table T.m_Table_get c_Table_get (hr.mono (by decide)) takes0 (pa_cons (pv 6) pa_nil)) pe_non (nomark _)))) pa_nil))) (pss_one (ps_raise rfl (takes_of rfl rfl rfl rfl) (pmk_own PySem.F.excBase_ValueError T.x_Taken.1 T.g_Taken T.x_Taken.2.1 (raises_own T.x_Taken.2.2.1 T.x_Taken.2.2.2) rfl))) pss_nil) (pss_cons (ps_expr (pe_m (pv 0) T.c_Rooms T.m_Rooms_ask_room c_Rooms_ask_room (hr.mono (by decide)) (takes_of rfl rfl rfl rfl) (pa_cons (pv 3) pa_nil))) (pss_one (ps_for (passes_of rfl) rfl (PI.box (pi_list (pv 5))) (pg_name (i := 6) sc_Rooms_map.nd rfl (Or.inl rfl)) (pss_one (ps_expr (pe_m (pe_fld (pv 0) rfl) T.c_Paging T.m_Paging_lay c_Paging_lay (hr.mono (by decide)) (takes_of rfl rfl rfl rfl) (pa_cons (pe_tup (pa_cons (pv 1) (pa_cons (pv 6) pa_nil))) (pa_cons (pe_glob (v := .ref (He.ga K "BLANK")) rfl T.g_BLANK rfl) pa_nil))))))))))), ?_⟩)
  obtain ⟨v0, v1, v2, v3, rfl, h⟩ := h
  dsimp only [cxOf, L2.start]
  obtain ⟨p, dx, g, r, w, st, c, t, n, m, rfl, rfl, rfl, rfl, R, O, k⟩ := h
  walk_at "s"
  cases hw : w.lookup t with
  | none =>
    rw [sem_map0 hw] at k
    exact ask2 ⟨p, dx, g, r, w, st, t, rfl, rfl, R, O, fun _ => k _ O, fun row x z => by cases hw.symm.trans z⟩
  | some row =>
    rw [sem_map1 hw] at k
    obtain ⟨l, x, q, e1, ext, hx, hf⟩ := R.find hw
    refine ask2 ⟨p, dx, g, r, w, st, t, rfl, rfl, R, O, fun z => (by cases hw.symm.trans z), fun row' x' z hx' ht' => ?_⟩
    have exx : x' = x := by
      have h1 := R.gd.ndt
      obtain ⟨l2, q2, e2⟩ := List.append_of_mem hx'
      have := tabs_find (t := t) (l := l2) (q := q2) (x := x') (by rw [← e2]; exact h1)
      rw [if_pos ht'.symm, ← e2, hf] at this
      exact (Option.some.inj this).symm
    subst exx
    walk_at "s"
    refine ask2 ⟨n, m, rfl, rfl, fun hb => ?_, fun hb H2 la O2 => ?_⟩
    · rw [if_pos hb] at k
      exact k _ O
    rw [if_neg (by rw [hb]; exact Bool.false_ne_true)] at k
    have hb' := of_decide_eq_false hb
    have O3 := O.callN O2
    have R2 := R.mono O3
    walk_at "s"
    refine lcL (K := K) (a := la) (xs := (pgs n m.toNat).map V.int) (fun L j H3 => Own H H3 (adr (cRo K p dx g r)) ((L, .lst ((((pgs n m.toNat).take j).map fun y => (x'.en y).isSome).map V.bl)) :: (la, .lst ((pgs n m.toNat).map V.int)) :: cRo K p dx g r)) (fun L hL => O3.new hL) (fun L j H3 _ O4 => SqL.of (O4.get (.tail _ (.head _)))) ?_ ?_
    · rintro L j y H3 hj O4
      obtain ⟨y, hy, rfl⟩ := mget hj
      have Ox := O4.blk (s := cTb K x') (s' := cTb K x') (.there (.there (cRo_tab e1)))
      have hxp := Ox.get (a := x'.p) (o := .ins (He.ga K "Table") x'.q.1 [("firsts", .ref x'.q.2)]) (.head _)
      have hlen : ((((pgs n m.toNat).take j).map fun y => (x'.en y).isSome).map V.bl).length < 100000 := by
        rw [List.length_map, List.length_map, List.length_take, pgs_len]
        omega
      have hd := (((R.gd.ents x' hx) y).mono O4).dec
      walk_at "s"
      have hL4 := O4.get (a := L) (o := .lst ((((pgs n m.toNat).take j).map fun y => (x'.en y).isSome).map V.bl)) (.head _)
      refine ask2 ⟨x'.p, x'.q, x'.fs, y, rfl, rfl, Ox, ?_⟩
      walk_at "s"
      rw [hd, show (!(x'.en y).isNone) = (x'.en y).isSome by cases x'.en y <;> rfl, take_succ hy, List.map_append, List.map_append]
      exact ⟨O4.wr .here⟩
    · rintro L H3 O4
      rw [List.length_map, List.take_length] at O4
      refine ⟨L, _, rfl, SqL.of (O4.get (.head _)), ?_⟩
      have O5 := O4.drop (cs' := (la, .lst ((pgs n m.toNat).map V.int)) :: cRo K p dx g r) (.cons _ (.refl _))
      have hany : ((pgs n m.toNat).map fun y => (x'.en y).isSome).any id = anyP row (pgs n m.toNat) := by
        unfold anyP
        rw [List.any_map]
        congr 1
        funext y
        exact R.en hx (ext.symm ▸ hw) y
      rw [hany]
      cases hp : anyP row (pgs n m.toNat) with
      | true =>
        rw [if_pos hp] at k
        walk_at "s"
        exact k _ (O5.drop (.cons _ (.refl _)))
      | false =>
        rw [if_neg (by rw [hp]; exact Bool.false_ne_true)] at k
        walk_at "s"
        refine ask2 ⟨p, dx, g, r, w, st, m, rfl, rfl, R.mono O5, (O5.self.drop (cs' := cRo K p dx g r) (.cons _ (.refl _))).self, fun hg H4 O6 => ?_, fun hg H4 O6 => ?_⟩
        · rw [if_pos hg] at k
          exact k _ ((O5.call (.there .all) O6).drop (.cons _ (.refl _)))
        rw [if_neg hg] at k
        have O7 := O5.call (.there .all) O6
        walk_at "s"
        have hnew : ∀ y ∈ pgs n m.toNat, row.lookup y = none := fun y hy => by
          cases e : row.lookup y with
          | none => rfl
          | some z => exact absurd (anyP_yes hy (by rw [e]; rfl)) (by rw [hp]; exact Bool.false_ne_true)
        have hmw : ∀ o, mpW (setA w t (mapR row (pgs n m.toNat))) o = (mpW w o || (decide (o.1 = t) && decide (o.2 ∈ pgs n m.toNat))) := fun o => by
          unfold mpW
          rw [look_set hw]
          by_cases z : o.1 = t
          · rw [if_pos z, z, hw, lk_mapR, decide_eq_true rfl]
            show ((row.lookup o.2).or _).isSome = ((row.lookup o.2).isSome || _)
            by_cases y : o.2 ∈ pgs n m.toNat
            · rw [if_pos y, decide_eq_true y]
              cases row.lookup o.2 <;> rfl
            · rw [if_neg y, decide_eq_false y]
              cases row.lookup o.2 <;> rfl
          · rw [if_neg z, decide_eq_false z, Bool.false_and, Bool.or_false]
        have hcn : ∀ o : Ow2, o.1 = t → o.2 ∈ pgs n m.toNat → clW (setA w t (mapR row (pgs n m.toNat))) o = zeros := fun o z y => by
          unfold clW
          rw [look_set hw, if_pos z, lk_mapR, hnew _ y, if_pos y]
          rfl
        have hco : ∀ o : Ow2, mpW w o = true → clW (setA w t (mapR row (pgs n m.toNat))) o = clW w o ∧ stS st c (.map t n m) o = st o := fun o ho => by
          have hne : ¬ (o.1 = t ∧ o.2 ∈ pgs n m.toNat) := fun ⟨z, y⟩ => by
            unfold mpW at ho
            rw [z, hw] at ho
            have ho : (row.lookup o.2).isSome = true := ho
            rw [hnew _ y] at ho
            cases ho
          refine ⟨?_, if_neg hne⟩
          unfold clW
          rw [look_set hw]
          by_cases z : o.1 = t
          · rw [if_pos z, lk_mapR, if_neg (fun y => hne ⟨z, y⟩), z, hw]
            show ((row.lookup o.2).or none).getD [] = (row.lookup o.2).getD []
            cases row.lookup o.2 <;> rfl
          · rw [if_neg z]
        have V7 : Vw r.ps [] (mpW w) (clW (setA w t (mapR row (pgs n m.toNat)))) (stS st c (.map t n m)) := R.vw.congr (fun o h => (hco o h).1) (fun o h => (hco o h).2)
        have gd7 := R.gd.mono O7
        have h0 : (fun o => mpW w o || (decide (o.1 = t) && decide (o.2 ∈ (pgs n m.toNat).take 0))) = mpW w := by
          funext o
          rw [List.take_zero, decide_eq_false (fun z : o.2 ∈ ([] : List Int) => by cases z), Bool.and_false, Bool.or_false]
        clear O2 O3 O4 O5 O6 R2
        refine forL (K := K) (a := la) (xs := (pgs n m.toNat).map V.int) (fun j σ H' => ∃ (v6 : Option V) (r' : RG), σ = [some (.ref p), some (.int t), some (.int n), some (.int m), some (.ref x'.p), some (.ref la), v6] ∧ Own H H' (adr (cRo K p dx g r)) ((la, .lst ((pgs n m.toNat).map V.int)) :: cRo K p dx g r') ∧ RGd K H' r' ∧ Kp r r' ∧ JP r'.nf r'.ns r'.ps ∧ Vw r'.ps [] (fun o => mpW w o || (decide (o.1 = t) && decide (o.2 ∈ (pgs n m.toNat).take j))) (clW (setA w t (mapR row (pgs n m.toNat)))) (stS st c (.map t n m)) ∧ ∀ o, (r.ps.ent o).isSome = true → r'.ps.ent o = r.ps.ent o) ⟨_, r, rfl, O7, gd7, Kp.refl, R.jp, by rw [h0]; exact V7, fun _ _ => rfl⟩ (fun i σ H' _ ⟨_, _, _, O, _⟩ => SqL.of (O.get (.head _))) ?_ ?_
        · clear O7 gd7
          rintro j y σ H8 hj ⟨v6, r8, rfl, O8, gd8, kp8, J8, V8, E8⟩
          obtain ⟨y, hy, rfl⟩ := mget hj
          have hyn : y ∉ (pgs n m.toNat).take j := nd_take (pgs_nd _ _) hy
          have hym := List.mem_of_getElem? hy
          have hyr := pgs_mem.mp hym
          have he : r8.ps.ent (t, y) = none := by
            have h1 := V8.map (t, y)
            have h2 : mpW w (t, y) = false := by
              unfold mpW
              rw [hw]
              show (row.lookup y).isSome = false
              rw [hnew y hym]
              rfl
            rw [h2, decide_eq_false hyn, Bool.and_false, Bool.or_false] at h1
            cases e : r8.ps.ent (t, y) with
            | none => rfl
            | some z => rw [e] at h1; cases h1
          have hp8 := O8.get (a := p) (o := .ins (He.ga K "Rooms") dx [("paging", .ref g)]) (.tail _ (.head _))
          walk_at "s"
          intro T hT
          have S9 := O8.self.newT (o := .tup [.int t, .int y]) hT
          have O9 := O8.newT (o := .tup [.int t, .int y]) hT
          walk_at "s"
          refine ask3 ⟨g, r8, T, (t, y), none, rfl, rfl, upd_same, rfl, gd8.mono S9, (O9.drop (cs' := cPg K g r8) (.cons _ (.cons _ (.refl _)))).self, ?_, by show (0 : Int) ≤ y; omega, by show y < 64; omega, fun pl z => (by cases z), fun H10 r10 O10 gd10 kp10 hps10 => ?_⟩
          · show t ∈ r8.tabs.map (·.t)
            rw [kp8.ts, R.ts]
            exact lk_some.mp (by rw [hw]; rfl)
          obtain ⟨J10, V10⟩ := lay_blank J8 V8 he ⟨by show (0 : Int) ≤ y; omega, by show y < 64; omega⟩
          refine ⟨_, r10, rfl, O9.call (.there (.there .all)) O10, gd10, kp8.trans kp10, by rw [hps10, kp10.nf, kp10.ns]; exact J10, ?_, fun o ho => ?_⟩
          · rw [hps10]
            have e1 : (fun o => mpW w o || (decide (o.1 = t) && decide (o.2 ∈ (pgs n m.toNat).take (j + 1)))) = fupd (fun o => mpW w o || (decide (o.1 = t) && decide (o.2 ∈ (pgs n m.toNat).take j))) (t, y) true := by
              funext o
              unfold fupd
              rw [take_succ hy]
              by_cases z : o = (t, y)
              · rw [if_pos z, z, decide_eq_true rfl, decide_eq_true (List.mem_append_right _ (.head _))]
                cases mpW w (t, y) <;> rfl
              · rw [if_neg z]
                by_cases u : o.1 = t
                · have hne : o.2 ≠ y := fun v => z (Prod.ext u v)
                  have : (o.2 ∈ (pgs n m.toNat).take j ++ [y]) ↔ o.2 ∈ (pgs n m.toNat).take j := ⟨fun h => (List.mem_append.mp h).elim id fun v => absurd (List.mem_singleton.mp v) hne, fun h => List.mem_append_left _ h⟩
                  rw [decide_eq_decide.mpr this]
                · show _ = (mpW w o || (decide (o.1 = t) && decide (o.2 ∈ (pgs n m.toNat).take j)))
                  rw [decide_eq_false u, Bool.false_and, Bool.false_and]
            have e2 : clW (setA w t (mapR row (pgs n m.toNat))) = fupd (clW (setA w t (mapR row (pgs n m.toNat)))) (t, y) zeros := by
              rw [← hcn (t, y) rfl hym]
              exact fupd_id.symm
            have e3 : stS st c (.map t n m) = fupd (stS st c (.map t n m)) (t, y) 0 := by
              have : stS st c (.map t n m) (t, y) = 0 := if_pos ⟨rfl, hym⟩
              rw [← this]
              exact fupd_id.symm
            rw [e1, e2, e3]
            exact V10
          · rw [hps10]
            show (if o = (t, y) then some none else r8.ps.ent o) = _
            rw [if_neg (fun z => by rw [← E8 o ho, z, he] at ho; cases ho)]
            exact E8 o ho
        · clear O7 gd7
          rintro σ H8 ⟨v6, r8, rfl, O8, gd8, kp8, J8, V8, E8⟩
          rw [List.length_map, List.take_length] at V8
          refine k _ r8 (O8.drop (.cons _ (.refl _))) (RmS.fin gd8 J8 V8 (fun o => (hmw o).symm) (fun _ _ => rfl) ?_ ?_ (R.ok.setW t ((R.ok.atA hw).map (by rw [hb]; exact Bool.false_ne_true) (by rw [hp]; exact Bool.false_ne_true))) (fun o h1 h2 => ?_)) kp8.nf kp8.ns (Ents.p16 fun o ho => .inl (E8 o ho)) True.intro
          · rw [kp8.ts, R.ts, setA_keys]
          · rw [heldA_set R.ok.nd hw]
            have h1 : (mapR row (pgs n m.toNat)).length = row.length + m.toNat := by
              unfold mapR
              rw [List.length_append, List.length_map, pgs_len]
            rw [h1, kp8.nf, kp8.ns]
            omega
          · by_cases z : o.1 = t ∧ o.2 ∈ pgs n m.toNat
            · exact hcn o z.1 z.2
            · have h3 : mpW w o = true := by
                rw [hmw] at h1
                cases e : mpW w o with
                | true => rfl
                | false =>
                  rw [e, Bool.false_or] at h1
                  obtain ⟨a1, a2⟩ := Bool.and_eq_true_iff.mp h1
                  exact absurd ⟨of_decide_eq_true a1, of_decide_eq_true a2⟩ z
              rw [(hco o h3).1]
              rw [(hco o h3).2] at h2
              exact R.zer o h3 h2

theorem RG.clear_ps {r : RG} {l q : List TbG} {x : TbG} {fs' : Fs} {y : Int} (e : r.tabs = l ++ x :: q) (nd : (r.tabs.map (·.t)).Nodup) : RG.ps { r with tabs := l ++ ⟨x.t, x.p, x.q, fs', fupd x.en y none⟩ :: q } = unmP r.ps (fun o => decide (o = (x.t, y))) := by
  have h := RG.ps_tab (x' := ⟨x.t, x.p, x.q, fs', fupd x.en y none⟩) e nd rfl
  show PS.mk _ _ _ (RG.ps { r with tabs := l ++ ⟨x.t, x.p, x.q, fs', fupd x.en y none⟩ :: q }).ent _ = PS.mk _ _ _ _ _
  rw [h]
  congr 1
  funext o
  show _ = if decide (o = (x.t, y)) = true then none else r.ps.ent o
  by_cases z : o.1 = x.t
  · rw [if_pos z]
    show fupd x.en y none o.2 = _
    unfold fupd
    by_cases u : o.2 = y
    · rw [if_pos u, if_pos (decide_eq_true (Prod.ext z u))]
    · rw [if_neg u, if_neg (fun v => u (congrArg Prod.snd (of_decide_eq_true v)))]
      have h2 := RG.ent_mid e nd o.2
      rw [← h2, ← z]
  · rw [if_neg z, if_neg (fun v => z (congrArg Prod.fst (of_decide_eq_true v)))]
theorem EntO.clr {K : PySem.W.Frag} {H : Hp} {fs fs' : Fs} {en : Int → Option (Option Pla)} {p : Int} (h : ∀ p, EntO K H (tent fs p) (en p)) (hm : ∀ m, tent fs' m = if m = p then none else tent fs m) : ∀ m, EntO K H (tent fs' m) (fupd en p none m) := fun m => by
  rw [hm]
  unfold fupd
  by_cases z : m = p
  · rw [if_pos z, if_pos z]; exact True.intro
  · rw [if_neg z, if_neg z]; exact h m
theorem Vw.ofs {nf ns : Nat} {s : PS} {F : List Ow2} {mp : Ow2 → Bool} {cl : Ow2 → List Int} {st : Ow2 → Nat} {o : Ow2} {e : Option Pla} (V : Vw s F mp cl st) (J : JP nf ns s) (ho : o ∉ F) (he : s.ent o = some e) : ∀ pl, e = some pl → o ∈ s.own pl ∧ (s.os pl.1)[pl.2]? = some ((s.own pl).length : Int) := fun pl z => by
  subst z
  have h1 := V.reg o pl ho he
  exact ⟨h1, J.cnt pl (J.rng pl o h1)⟩
theorem dropR_len (r : ARm) (ps : List Int) : (dropR r ps).length ≤ r.length := by
  unfold dropR
  induction ps generalizing r with
  | nil => exact Nat.le_refl _
  | cons a q ih => exact Nat.le_trans (ih (dropA r a)) (dropA_sub r a).length_le
theorem sc_Rooms_drop : FnScope ["self", "task", "page", "many", "table", "asked", "one"] ["self", "task", "page", "many"] (defScope s_Rooms_drop) := ⟨rfl, rfl, rfl, by decide +kernel, rfl, by decide +kernel, by decide +kernel⟩
theorem ok_Rooms_drop {P : Program} {w : World} {K : PySem.W.Frag} {mg : Str → Option Value} {base : Heap} (T : Txt K mg) : Cee P w K mg base 5 (He.fAd K ("Rooms", some "drop")) ["self", "task", "page", "many"] (sp_Rooms_drop K) := by
  have c_Rooms_table_of : Cee P w K mg base 1 (He.fAd K ("Rooms", some "table_of")) ["self", "task"] (sp_Rooms_table_of K) := ok_Rooms_table_of T
  have c_pages_asked : Cee P w K mg base 1 (He.fAd K ("pages_asked", none)) ["page", "many"] (sp_pages_asked K) := ok_pages_asked T
  have c_Rooms_look_mapped : Cee P w K mg base 2 (He.fAd K ("Rooms", some "look_mapped")) ["self", "table", "pages"] (sp_Rooms_look_mapped K) := ok_Rooms_look_mapped T
  have c_Paging_leave : Cee P w K mg base 4 (He.fAd K ("Paging", some "leave")) ["self", "owner"] (sp_Paging_leave K) := ok_Paging_leave T
  have c_Table_clear : Cee P w K mg base 1 (He.fAd K ("Table", some "clear")) ["self", "page"] (sp_Table_clear K) := ok_Table_clear T
  refine cee_of T.d_Rooms_drop sc_Rooms_drop (fun _ _ _ _ _ _ us hl => match us, hl with | [_, _, _, _], _ => rfl) (fun vs H Q E h => sp4_len h) (fun cdv A outer s H vs Q E hr h => ⟨_, (pss_cons (ps_set (i := 4) sc_Rooms_drop.nd rfl (Or.inl rfl) (pe_m (pv 0) T.c_Rooms T.m_Rooms_table_of c_Rooms_table_of (hr.mono (by decide)) (takes_of rfl rfl rfl rfl) (pa_cons (pv 1) pa_nil))) (pss_cons (ps_set (i := 5) sc_Rooms_drop.nd rfl (Or.inl rfl) (pe_f c_pages_asked (hr.mono (by decide)) (takes_of rfl rfl rfl rfl) (by rfl) T.g_pages_asked (pa_cons (pv 2) (pa_cons (pv 3) pa_nil)))) (pss_cons (ps_expr (pe_m (pv 0) T.c_Rooms T.m_Rooms_look_mapped c_Rooms_look_mapped (hr.mono (by decide)) (takes_of rfl rfl rfl rfl) (pa_cons (pv 4) (pa_cons (pv 5) pa_nil)))) (pss_one (ps_for (passes_of rfl) rfl (PI.box (pi_list (pv 5))) (pg_name (i := 6) sc_Rooms_drop.nd rfl (Or.inl rfl)) (pss_cons (ps_expr (pe_m (pe_fld (pv 0) rfl) T.c_Paging T.m_Paging_leave c_Paging_leave (hr.mono (by decide)) (takes_of rfl rfl rfl rfl) (pa_cons (pe_tup (pa_cons (pv 1) (pa_cons (pv 6) pa_nil))) pa_nil))) (pss_one (ps_expr (pe_m (pv 4) T.c_Table T.m_Table_clear c_Table_clear (hr.mono (by decide)) (takes_of rfl rfl rfl rfl) (pa_cons (pv 6) pa_nil)))))))))), ?_⟩)
  obtain ⟨v0, v1, v2, v3, rfl, h⟩ := h
  dsimp only [cxOf, L2.start]
  obtain ⟨p, dx, g, r, w, st, c, t, n, m, rfl, rfl, rfl, rfl, R, O, k⟩ := h
  walk_at "s"
  cases hw : w.lookup t with
  | none =>
    rw [sem_drop0 hw] at k
    exact ask2 ⟨p, dx, g, r, w, st, t, rfl, rfl, R, O, fun _ => k _ O, fun row x z => by cases hw.symm.trans z⟩
  | some row =>
    rw [sem_drop1 hw] at k
    obtain ⟨l, x, q, e1, ext, hx, hf⟩ := R.find hw
    refine ask2 ⟨p, dx, g, r, w, st, t, rfl, rfl, R, O, fun z => (by cases hw.symm.trans z), fun row' x' z hx' ht' => ?_⟩
    have exx : x' = x := by
      have h1 := R.gd.ndt
      obtain ⟨l2, q2, e2⟩ := List.append_of_mem hx'
      have := tabs_find (t := t) (l := l2) (q := q2) (x := x') (by rw [← e2]; exact h1)
      rw [if_pos ht'.symm, ← e2, hf] at this
      exact (Option.some.inj this).symm
    subst exx
    walk_at "s"
    refine ask2 ⟨n, m, rfl, rfl, fun hb => ?_, fun hb H2 la O2 => ?_⟩
    · rw [if_pos hb] at k
      exact k _ O
    rw [if_neg (by rw [hb]; exact Bool.false_ne_true)] at k
    have hb' := of_decide_eq_false hb
    have O3 := O.callN O2
    have R2 := R.mono O3
    have ha3 := O3.get (a := la) (o := .lst ((pgs n m.toNat).map V.int)) (.head _)
    have hp3 := O3.get (a := p) (o := .ins (He.ga K "Rooms") dx [("paging", .ref g)]) (.tail _ (.head _))
    have Ox := O3.blk (s := cTb K x') (s' := cTb K x') (.there (cRo_tab e1))
    have hlan : la ∉ adr (cTb K x') := fun z => by
      obtain ⟨⟨b, ob⟩, hb1, hb2⟩ := List.mem_map.mp z
      have hb2 : b = la := hb2
      subst hb2
      have h1 := Ox.get hb1
      rw [ha3] at h1
      rcases List.mem_cons.mp hb1 with y | y
      · cases y; cases h1
      · rcases List.mem_cons.mp y with y | y
        · cases y; cases h1
        · obtain ⟨u, _, hu⟩ := List.mem_map.mp y
          cases hu; cases h1
    have hen : ∀ q, EntO K H2 (tent x'.fs q) (x'.en q) := fun q => R2.gd.ents x' hx q
    have hr : ∀ y, (x'.en y).isSome = (row.lookup y).isSome := fun y => R.en hx (ext.symm ▸ hw) y
    walk_at "s"
    refine ask3 ⟨p, x', la, pgs n m.toNat, rfl, rfl, rfl, ha3, by rw [pgs_len]; omega, hen, hlan, Ox, fun y hy hn H4 O4 => ?_, fun hall H4 O4 => ?_⟩
    · rw [if_neg (fun z => allP_no hy (by
        have h1 := hr y
        rw [hn] at h1
        cases e : row.lookup y with
        | none => rfl
        | some _ => rw [e] at h1; cases h1) z)] at k
      exact k _ ((O3.call (.there (cRo_tab e1)) O4).drop (.cons _ (.refl _)))
    have hal : ∀ y ∈ pgs n m.toNat, (row.lookup y).isSome = true := fun y hy => by rw [← hr]; exact hall y hy
    rw [if_pos (allP_yes hal)] at k
    have O5 := O3.call (.there (cRo_tab e1)) O4
    have gd5 := R.gd.mono O5
    have h0 : (fun o => mpW w o && !(decide (o.1 = t) && decide (o.2 ∈ (pgs n m.toNat).take 0))) = mpW w := by
      funext o
      rw [List.take_zero, decide_eq_false (fun z : o.2 ∈ ([] : List Int) => by cases z), Bool.and_false]
      exact Bool.and_true _
    clear O2 O3 O4 R2 ha3 Ox hen hlan
    walk_at "s"
    refine forL (K := K) (a := la) (xs := (pgs n m.toNat).map V.int) (fun j σ H' => ∃ (v6 : Option V) (r' : RG), σ = [some (.ref p), some (.int t), some (.int n), some (.int m), some (.ref x'.p), some (.ref la), v6] ∧ Own H H' (adr (cRo K p dx g r)) ((la, .lst ((pgs n m.toNat).map V.int)) :: cRo K p dx g r') ∧ RGd K H' r' ∧ Kp r r' ∧ JP r'.nf r'.ns r'.ps ∧ Vw r'.ps [] (fun o => mpW w o && !(decide (o.1 = t) && decide (o.2 ∈ (pgs n m.toNat).take j))) (clW w) st ∧ Ents r.ps r'.ps) ⟨_, r, rfl, O5, gd5, Kp.refl, R.jp, by rw [h0]; exact R.vw, fun _ _ => .inl rfl⟩ (fun i σ H' _ ⟨_, _, _, O, _⟩ => SqL.of (O.get (.head _))) ?_ ?_
    · clear O5 gd5
      rintro j y σ H8 hj ⟨v6, r8, rfl, O8, gd8, kp8, J8, V8, E8⟩
      obtain ⟨y, hy, rfl⟩ := mget hj
      have hyn : y ∉ (pgs n m.toNat).take j := nd_take (pgs_nd _ _) hy
      have hym := List.mem_of_getElem? hy
      obtain ⟨e, he⟩ : ∃ e, r8.ps.ent (t, y) = some e := by
        have h1 := V8.map (t, y)
        have h2 : mpW w (t, y) = true := by
          unfold mpW
          rw [hw]
          exact hal y hym
        dsimp only at h1
        rw [h2, decide_eq_false hyn, Bool.and_false] at h1
        exact Option.isSome_iff_exists.mp h1
      have hp8 := O8.get (a := p) (o := .ins (He.ga K "Rooms") dx [("paging", .ref g)]) (.tail _ (.head _))
      walk_at "s"
      intro T hT
      have S9 := O8.self.newT (o := .tup [.int t, .int y]) hT
      have O9 := O8.newT (o := .tup [.int t, .int y]) hT
      walk_at "s"
      have hof := V8.ofs J8 (by simp) he
      refine ask2 ⟨g, r8, T, (t, y), e, rfl, rfl, upd_same, gd8.mono S9, (O9.drop (cs' := cPg K g r8) (.cons _ (.cons _ (.refl _)))).self, RG.has_of (by rw [he]; rfl), he, hof, fun H10 r10 O10 gd10 kp10 hps10 => ?_⟩
      have O11 := O9.call (.there (.there .all)) O10
      have kp11 := kp8.trans kp10
      obtain ⟨l2, x2, q2, e2, t2, p2⟩ := kp11.tab (K := K) gd10 hx
      have Ox2 := O11.blk (s := cTb K x2) (s' := cTb K x2) (.there (cRo_tab e2))
      have hxp2 := Ox2.get (a := x2.p) (o := .ins (He.ga K "Table") x2.q.1 [("firsts", .ref x2.q.2)]) (.head _)
      have J11 := J8.leave (o := (t, y)) (e := e) fun pl z => (hof pl z).1
      have V11 := V8.leave J8 he
      rw [← hps10] at J11 V11
      rw [← kp10.nf, ← kp10.ns] at J11
      rw [p2] at hxp2
      have hx2 : x2 ∈ r10.tabs := by rw [e2]; simp
      walk_at "s"
      refine ask2 ⟨x2.p, x2.q, x2.fs, y, by rw [p2], rfl, gd10.tab x2 hx2, Ox2, fun H12 fs' O12 ok12 hm12 => ?_⟩
      have O13 := O11.call (.there (.there (cPg_tab (x' := ⟨x2.t, x2.p, x2.q, fs', fupd x2.en y none⟩) e2 rfl rfl))) O12
      have gd13 := (gd10.mono O12).set_tab (x' := ⟨x2.t, x2.p, x2.q, fs', fupd x2.en y none⟩) e2 rfl ok12 (EntO.clr (fun p => (gd10.mono O12).ents x2 hx2 p) hm12)
      have hps13 := (RG.clear_ps (fs' := fs') (y := y) e2 gd10.ndt).trans (show _ = unmP r10.ps (fun o => decide (o = (t, y))) by rw [t2, ext])
      obtain ⟨J14, V14⟩ := unm_ok (P := fun o => decide (o = (t, y))) J11 V11 (fun o ho => decide_eq_true (List.mem_singleton.mp ho)) (fun o ho _ => List.mem_singleton.mpr (of_decide_eq_true ho))
      rw [← hps13] at J14 V14
      refine ⟨_, _, rfl, O13, gd13, ⟨kp11.nf, kp11.ns, ?_⟩, ?_, ?_, fun o ho => ?_⟩
      · rw [← kp11.tp, e2]
        show (l2 ++ _ :: q2).map _ = (l2 ++ _ :: q2).map _
        rw [List.map_append, List.map_append]
        rfl
      · exact J14
      · have e3 : (fun o => mpW w o && !(decide (o.1 = t) && decide (o.2 ∈ (pgs n m.toNat).take (j + 1)))) = fun o => (mpW w o && !(decide (o.1 = t) && decide (o.2 ∈ (pgs n m.toNat).take j))) && !decide (o = (t, y)) := by
          funext o
          rw [take_succ hy]
          by_cases z : o = (t, y)
          · rw [decide_eq_true z, z, decide_eq_true rfl, decide_eq_true (List.mem_append_right _ (.head _))]
            show (mpW w (t, y) && false) = (_ && false)
            rw [Bool.and_false, Bool.and_false]
          · rw [decide_eq_false z]
            show _ = (_ && true)
            rw [Bool.and_true]
            by_cases u : o.1 = t
            · have hne : o.2 ≠ y := fun v => z (Prod.ext u v)
              have : (o.2 ∈ (pgs n m.toNat).take j ++ [y]) ↔ o.2 ∈ (pgs n m.toNat).take j := ⟨fun h => (List.mem_append.mp h).elim id fun v => absurd (List.mem_singleton.mp v) hne, fun h => List.mem_append_left _ h⟩
              rw [decide_eq_decide.mpr this]
            · rw [decide_eq_false u, Bool.false_and, Bool.false_and]
        rw [e3]
        exact V14
      · rw [hps13]
        by_cases z : o = (t, y)
        · exact .inr (if_pos (decide_eq_true z))
        · have h1 : (unmP r10.ps (fun o => decide (o = (t, y)))).ent o = r8.ps.ent o := by
            refine (if_neg (fun u => z (of_decide_eq_true u))).trans ?_
            rw [hps10, leave_ent]
          rw [h1]
          exact E8 o ho
    · clear O5 gd5
      rintro σ H8 ⟨v6, r8, rfl, O8, gd8, kp8, J8, V8, E8⟩
      rw [List.length_map, List.take_length] at V8
      have hmw : ∀ o, mpW (setA w t (dropR row (pgs n m.toNat))) o = (mpW w o && !(decide (o.1 = t) && decide (o.2 ∈ pgs n m.toNat))) ∧ (mpW (setA w t (dropR row (pgs n m.toNat))) o = true → clW w o = clW (setA w t (dropR row (pgs n m.toNat))) o) := fun o => by
        unfold mpW clW
        rw [look_set hw]
        by_cases z : o.1 = t
        · rw [if_pos z, z, hw, lk_dropR, decide_eq_true rfl]
          by_cases y : o.2 ∈ pgs n m.toNat
          · rw [if_pos y, decide_eq_true y]
            exact ⟨(Bool.and_false _).symm, fun h => by cases h⟩
          · rw [if_neg y, decide_eq_false y]
            exact ⟨(Bool.and_true _).symm, fun _ => rfl⟩
        · rw [if_neg z, decide_eq_false z]
          exact ⟨(Bool.and_true _).symm, fun _ => rfl⟩
      refine k _ r8 (O8.drop (.cons _ (.refl _))) (RmS.fin gd8 J8 V8 (fun o => (hmw o).1.symm) (fun o h => (hmw o).2 h) ?_ ?_ (R.ok.setW t ((R.ok.atA hw).drop _)) (fun o h1 h2 => ?_)) kp8.nf kp8.ns (Ents.p16 E8) True.intro
      · rw [kp8.ts, R.ts, setA_keys]
      · rw [heldA_set R.ok.nd hw, kp8.nf, kp8.ns]
        have h1 : (dropR row (pgs n m.toNat)).length ≤ row.length := dropR_len _ _
        have := R.held
        omega
      · rw [← (hmw o).2 h1]
        rw [(hmw o).1] at h1
        exact R.zer o (Bool.and_eq_true_iff.mp h1).1 h2

theorem heldA_drop {w : AWl} {t : Int} {row : ARm} (nd : (w.map (·.1)).Nodup) (h : w.lookup t = some row) : heldA (dropA w t) = heldA w - row.length := by
  obtain ⟨l, q, rfl, _⟩ := lk_split h
  rw [dropA_mid nd, heldA_app, heldA_app, heldA_cons]
  show _ = heldA l + ((row.length : Int) + heldA q) - row.length
  omega
theorem keys_drop {l q : List TbG} {x : TbG} {w : AWl} (ts : (l ++ x :: q).map (fun y : TbG => y.t) = w.map (·.1)) (nd : ((l ++ x :: q).map fun y : TbG => y.t).Nodup) : (l ++ q).map (fun y : TbG => y.t) = (dropA w x.t).map (·.1) := by
  have h1 : (dropA w x.t).map (·.1) = (w.map (·.1)).filter fun k => decide (k ≠ x.t) := by
    unfold dropA
    rw [List.filter_map]
    rfl
  rw [h1, ← ts, List.map_append, List.map_append, List.map_cons, List.filter_append, List.filter_cons, if_neg (by simp)]
  rw [List.map_append, List.map_cons] at nd
  obtain ⟨_, n2, n3⟩ := List.nodup_append.mp nd
  have n4 := (List.nodup_cons.mp n2).1
  congr 1
  · exact (List.filter_eq_self.mpr fun k hk => decide_eq_true (show k ≠ x.t from fun z => n3 k hk x.t (.head _) z)).symm
  · exact (List.filter_eq_self.mpr fun k hk => decide_eq_true (show k ≠ x.t from fun z => n4 (z ▸ hk))).symm
theorem RG.pop_ps {r : RG} {l q : List TbG} {x : TbG} (e : r.tabs = l ++ x :: q) (nd : (r.tabs.map (·.t)).Nodup) : RG.ps { r with tabs := l ++ q } = unmP r.ps (fun o => decide (o.1 = x.t)) := by
  unfold RG.ps unmP
  dsimp only
  congr 1
  funext o
  rw [e] at nd ⊢
  rw [tabs_find nd]
  by_cases z : o.1 = x.t
  · refine Eq.trans ?_ (if_pos (decide_eq_true z)).symm
    rw [z]
    have h1 : (l ++ q).find? (fun y => decide (y.t = x.t)) = none := List.find?_eq_none.mpr fun y hy u => by
      have u := of_decide_eq_true u
      rw [List.map_append, List.map_cons] at nd
      obtain ⟨_, n2, n3⟩ := List.nodup_append.mp nd
      rcases List.mem_append.mp hy with v | v
      · exact n3 y.t (List.mem_map.mpr ⟨y, v, rfl⟩) x.t (.head _) u
      · exact (List.nodup_cons.mp n2).1 (u ▸ List.mem_map.mpr ⟨y, v, rfl⟩)
    rw [h1]
    rfl
  · refine Eq.trans ?_ (if_neg (fun u => z (of_decide_eq_true u))).symm
    rw [if_neg z]
theorem RGd.pop {K : PySem.W.Frag} {H : Hp} {r : RG} {l q : List TbG} {x : TbG} (h : RGd K H r) (e : r.tabs = l ++ x :: q) : RGd K H { r with tabs := l ++ q } := by
  have hs : List.Sublist (l ++ q) r.tabs := by rw [e]; exact List.Sublist.append (List.Sublist.refl l) (List.sublist_cons_self x q)
  exact ⟨h.st, fun y hy => h.tab y (hs.subset hy), fun y hy => h.ents y (hs.subset hy), h.ndt.sublist (hs.map _), Nat.le_trans hs.length_le h.few, h.ndo, h.inr, h.two, h.hd⟩
theorem tabD_drop {l q : List TbG} {x : TbG} (nd : ((l ++ x :: q).map fun y : TbG => y.t).Nodup) : dropK (tabD (l ++ x :: q)) (Sum.inl x.t) = tabD (l ++ q) := by
  rw [List.map_append, List.map_cons] at nd
  obtain ⟨_, n2, n3⟩ := List.nodup_append.mp nd
  have n4 := (List.nodup_cons.mp n2).1
  unfold dropK tabD
  rw [List.map_append, List.map_append, List.map_cons, List.filter_append, List.filter_cons, if_neg (by simp)]
  congr 1
  · refine List.filter_eq_self.mpr fun z hz => ?_
    obtain ⟨y, hy, rfl⟩ := List.mem_map.mp hz
    exact decide_eq_true fun u => n3 y.t (List.mem_map.mpr ⟨y, hy, rfl⟩) x.t (.head _) (Sum.inl.inj u)
  · refine List.filter_eq_self.mpr fun z hz => ?_
    obtain ⟨y, hy, rfl⟩ := List.mem_map.mp hz
    exact decide_eq_true fun u => n4 (Sum.inl.inj u ▸ List.mem_map.mpr ⟨y, hy, rfl⟩)
theorem nd_int {ns : List Int} (h : ns.Pairwise (· < ·)) : ns.Nodup := h.imp fun {a b} h z => by omega
/-- a new table, no pages -/
theorem RmS.addTab {K : PySem.W.Frag} {H H' : Hp} {A : List Addr} {cs : Cells} {r : RG} {w : AWl} {st : Ow2 → Nat} {t : Int} {a : Addr} {q : Addr × Addr} (R : RmS K H r w st) (hw : w.lookup t = none) (hlen : w.length < 1000) (O : Own H H' A cs) : RmS K H' (r.addTab ⟨t, a, q, [], fun _ => none⟩) (w ++ [(t, [])]) st := by
  have gd5 := R.gd.mono O
  have hps : (r.addTab ⟨t, a, q, [], fun _ => none⟩).ps = r.ps := RG.addTab_ps rfl (R.tab0 hw)
  obtain ⟨m1, m2⟩ := mp_eq (look_begin hw)
  refine ⟨gd5.addTab (R.tab0 hw) (by rw [R.len]; exact hlen), by rw [hps]; exact R.jp, by rw [hps, m1, m2]; exact R.vw, ?_, ?_, R.ok.snocW hw ROk.nil hlen, fun o => by rw [m1, m2]; exact R.zer o⟩
  · show ((r.tabs ++ [_]).map fun y : TbG => y.t) = _
    rw [List.map_append, List.map_append, R.ts]
    rfl
  · rw [heldA_app]
    have := R.held
    show heldA w + heldA [(t, [])] ≤ _
    rw [heldA_cons]
    show heldA w + ((0 : Nat) + heldA []) ≤ ((r.nf + r.ns : Nat) : Int)
    have : heldA [] = 0 := rfl
    omega
theorem share_eq (s : PS) (o : Ow2) (e : Option Pla) : shareP s o e = shareW s o e := by cases e <;> rfl
theorem sc_Rooms_close : FnScope ["self", "task", "page"] ["self", "task"] (defScope s_Rooms_close) := ⟨rfl, rfl, rfl, by decide +kernel, rfl, by decide +kernel, by decide +kernel⟩
theorem ok_Rooms_close {P : Program} {w : World} {K : PySem.W.Frag} {mg : Str → Option Value} {base : Heap} (T : Txt K mg) : Cee P w K mg base 5 (He.fAd K ("Rooms", some "close")) ["self", "task"] (sp_Rooms_close K) := by
  have c_Rooms_table_of : Cee P w K mg base 1 (He.fAd K ("Rooms", some "table_of")) ["self", "task"] (sp_Rooms_table_of K) := ok_Rooms_table_of T
  have c_Table_pages : Cee P w K mg base 1 (He.fAd K ("Table", some "pages")) ["self"] (sp_Table_pages K) := ok_Table_pages T
  have c_Paging_leave : Cee P w K mg base 4 (He.fAd K ("Paging", some "leave")) ["self", "owner"] (sp_Paging_leave K) := ok_Paging_leave T
  refine cee_of T.d_Rooms_close sc_Rooms_close (fun _ _ _ _ _ _ us hl => match us, hl with | [_, _], _ => rfl) (fun vs H Q E h => sp2_len h) (fun cdv A outer s H vs Q E hr h => ⟨_, (pss_cons (ps_for (passes_of rfl) rfl (PI.box (pi_list (pe_m0 (pe_m (pv 0) T.c_Rooms T.m_Rooms_table_of c_Rooms_table_of (hr.mono (by decide)) (takes_of rfl rfl rfl rfl) (pa_cons (pv 1) pa_nil)) T.c_Table T.m_Table_pages c_Table_pages (hr.mono (by decide)) (takes_of rfl rfl rfl rfl)))) (pg_name (i := 2) sc_Rooms_close.nd rfl (Or.inl rfl)) (pss_one (ps_expr (pe_m (pe_fld (pv 0) rfl) T.c_Paging T.m_Paging_leave c_Paging_leave (hr.mono (by decide)) (takes_of rfl rfl rfl rfl) (pa_cons (pe_tup (pa_cons (pv 1) (pa_cons (pv 2) pa_nil))) pa_nil))))) (pss_one (ps_expr (pe_dpop1 (pe_fld (pe_fld (pv 0) rfl) rfl) (pv 1) ⟨rfl, rfl, rfl, rfl⟩)))), ?_⟩)
  obtain ⟨v0, v1, rfl, h⟩ := h
  dsimp only [cxOf, L2.start]
  obtain ⟨p, dx, g, r, w, st, c, t, rfl, rfl, R, O, k⟩ := h
  walk_at "s"
  cases hw : w.lookup t with
  | none =>
    rw [sem_close0 hw] at k
    exact ask2 ⟨p, dx, g, r, w, st, t, rfl, rfl, R, O, fun _ => k _ O, fun row x z => by cases hw.symm.trans z⟩
  | some row =>
    rw [sem_close1 (by rw [hw]; rfl)] at k
    obtain ⟨l, x, q, e1, ext, hx, hf⟩ := R.find hw
    refine ask2 ⟨p, dx, g, r, w, st, t, rfl, rfl, R, O, fun z => (by cases hw.symm.trans z), fun row' x' z hx' ht' => ?_⟩
    have exx : x' = x := by
      have h1 := R.gd.ndt
      obtain ⟨l2, q2, e2⟩ := List.append_of_mem hx'
      have := tabs_find (t := t) (l := l2) (q := q2) (x := x') (by rw [← e2]; exact h1)
      rw [if_pos ht'.symm, ← e2, hf] at this
      exact (Option.some.inj this).symm
    subst exx
    have Ox := O.blk (s := cTb K x') (s' := cTb K x') (cRo_tab e1)
    have hxp := Ox.get (a := x'.p) (o := .ins (He.ga K "Table") x'.q.1 [("firsts", .ref x'.q.2)]) (.head _)
    walk_at "s"
    refine ask1 ⟨x'.p, x'.q, x'.fs, rfl, R.gd.tab x' hx, Ox, fun H2 la ns O2 hs hm => ?_⟩
    have O3 := O.callE (e := [(la, .lst (ns.map V.int))]) (cRo_tab e1) O2
    obtain ⟨hln, hmem⟩ := R.pages hx (ext.symm ▸ hw) hs hm
    have hnd := nd_int hs
    have gd3 := R.gd.mono O3
    have hla := O3.get (a := la) (o := .lst (ns.map V.int)) (.head _)
    clear Ox O2
    walk_at "s"
    refine forL (K := K) (a := la) (xs := ns.map V.int) (fun j σ H' => ∃ (v2 : Option V) (r' : RG) (F : List Ow2), σ = [some (.ref p), some (.int t), v2] ∧ Own H H' (adr (cRo K p dx g r)) ((la, .lst (ns.map V.int)) :: cRo K p dx g r') ∧ RGd K H' r' ∧ Kp r r' ∧ JP r'.nf r'.ns r'.ps ∧ (∀ o, o ∈ F ↔ o.1 = t ∧ o.2 ∈ ns.take j) ∧ Vw r'.ps F (mpW w) (clW w) st ∧ r'.ps.ent = r.ps.ent) ⟨_, r, [], rfl, O3, gd3, Kp.refl, R.jp, fun o => ⟨fun z => (by cases z), fun z => (by cases z.2)⟩, R.vw, rfl⟩ (fun i σ H' _ ⟨_, _, _, _, O, _⟩ => SqL.of (O.get (.head _))) ?_ ?_
    · clear O3 gd3
      rintro j y σ H8 hj ⟨v2, r8, F, rfl, O8, gd8, kp8, J8, hF, V8, E8⟩
      obtain ⟨y, hy, rfl⟩ := mget hj
      have hyn : y ∉ ns.take j := nd_take hnd hy
      have hym := List.mem_of_getElem? hy
      obtain ⟨e, he⟩ : ∃ e, r8.ps.ent (t, y) = some e := by
        have h1 := V8.map (t, y)
        have h2 : mpW w (t, y) = true := by
          unfold mpW
          rw [hw]
          exact (hmem y).mp hym
        rw [h2] at h1
        exact Option.isSome_iff_exists.mp h1
      have hnF : (t, y) ∉ F := fun z => hyn ((hF _).mp z).2
      have hp8 := O8.get (a := p) (o := .ins (He.ga K "Rooms") dx [("paging", .ref g)]) (.tail _ (.head _))
      walk_at "s"
      intro T hT
      have S9 := O8.self.newT (o := .tup [.int t, .int y]) hT
      have O9 := O8.newT (o := .tup [.int t, .int y]) hT
      walk_at "s"
      have hof := V8.ofs J8 hnF he
      refine ask2 ⟨g, r8, T, (t, y), e, rfl, rfl, upd_same, gd8.mono S9, (O9.drop (cs' := cPg K g r8) (.cons _ (.cons _ (.refl _)))).self, RG.has_of (by rw [he]; rfl), he, hof, fun H10 r10 O10 gd10 kp10 hps10 => ?_⟩
      have J11 := J8.leave (o := (t, y)) (e := e) fun pl z => (hof pl z).1
      have V11 := V8.leaveF J8 hnF he
      refine ⟨_, r10, (t, y) :: F, rfl, O9.call (.there (.there .all)) O10, gd10, kp8.trans kp10, by rw [hps10, kp10.nf, kp10.ns]; exact J11, fun o => ?_, by rw [hps10]; exact V11, by rw [hps10, leave_ent]; exact E8⟩
      rw [take_succ hy, List.mem_cons, List.mem_append, List.mem_singleton, hF]
      constructor
      · rintro (z | ⟨z1, z2⟩)
        · rw [z]; exact ⟨rfl, .inr rfl⟩
        · exact ⟨z1, .inl z2⟩
      · rintro ⟨z1, z2 | z2⟩
        · exact .inr ⟨z1, z2⟩
        · exact .inl (Prod.ext z1 z2)
    · rintro σ H8 ⟨v2, r8, F, rfl, O8, gd8, kp8, J8, hF, V8, E8⟩
      rw [List.length_map, List.take_length] at hF
      have hp8 := O8.get (a := p) (o := .ins (He.ga K "Rooms") dx [("paging", .ref g)]) (.tail _ (.head _))
      have hg8 := O8.get (a := g) (o := insPg K r8) (.tail _ (.tail _ (.head _)))
      have hT8 := O8.get (a := r8.TD) (o := .dK (tabD r8.tabs)) (.tail _ (.tail _ (.tail _ (.tail _ (.head _)))))
      obtain ⟨l2, x2, q2, e2, t2, p2⟩ := kp8.tab (K := K) gd8 hx
      have hv : valV (tabD r8.tabs) (Sum.inl t) = some (.ref x2.p) := by
        have nd := gd8.ndt
        rw [tabD_val, e2]
        rw [e2] at nd
        rw [tabs_find nd, if_pos (by rw [t2, ext])]
        rfl
      walk_at "s"
      have nd2 : ((l2 ++ x2 :: q2).map fun y : TbG => y.t).Nodup := by rw [← e2]; exact gd8.ndt
      have ht2 : x2.t = t := t2.trans ext
      have hD : dropK (tabD r8.tabs) (Sum.inl t) = tabD (l2 ++ q2) := by rw [e2, ← ht2]; exact tabD_drop nd2
      rw [hD]
      have O9 := O8.wr (a := r8.TD) (o' := .dK (tabD (l2 ++ q2))) (.there (.there (.there (.there .here))))
      have O10 := O9.drop (cs' := cRo K p dx g { r8 with tabs := l2 ++ q2 }) (by
        unfold cRo cPg
        dsimp only
        rw [e2, cTbs_mid, show cTbs K (l2 ++ q2) = cTbs K l2 ++ cTbs K q2 from List.flatMap_append]
        exact .cons _ (.cons₂ _ (.cons₂ _ (.cons₂ _ (.cons₂ _ (.cons₂ _ (.append (.refl _) (.append (.refl _) (.append (.append (.refl _) (List.sublist_append_right _ _)) (.refl _))))))))))
      have gd10 := (gd8.pop e2).mono (O8.self.wr (a := r8.TD) (o' := .dK (tabD (l2 ++ q2))) (.there (.there (.there (.there .here)))))
      have hps := RG.pop_ps e2 gd8.ndt
      have hmw : ∀ o, mpW (dropA w t) o = (mpW w o && !decide (o.1 = x2.t)) ∧ (mpW (dropA w t) o = true → clW w o = clW (dropA w t) o ∧ mpW w o = true) := fun o => by
        unfold mpW clW
        rw [look_drop, ht2]
        by_cases z : o.1 = t
        · rw [if_pos z, decide_eq_true z]
          exact ⟨(Bool.and_false _).symm, fun h => by cases h⟩
        · rw [if_neg z, decide_eq_false z]
          exact ⟨(Bool.and_true _).symm, fun h => ⟨rfl, h⟩⟩
      obtain ⟨J10, V10⟩ := unm_ok (P := fun o => decide (o.1 = x2.t)) J8 V8 (fun o ho => decide_eq_true (((hF o).mp ho).1.trans ht2.symm)) (fun o ho hmo => by
        have z : o.1 = t := (of_decide_eq_true ho).trans ht2
        refine (hF o).mpr ⟨z, (hmem _).mpr ?_⟩
        unfold mpW at hmo
        rw [z, hw] at hmo
        exact hmo)
      rw [← hps] at J10 V10
      refine k _ _ O10 (RmS.fin gd10 J10 V10 (fun o => (hmw o).1.symm) (fun o h => ((hmw o).2 h).1) ?_ ?_ (R.ok.dropW t) (fun o h1 h2 => ?_)) kp8.nf kp8.ns (Ents.p16 fun o ho => ?_) True.intro
      · show (l2 ++ q2).map _ = _
        rw [← ht2]
        exact keys_drop (by rw [← e2, kp8.ts, R.ts]) nd2
      · rw [heldA_drop R.ok.nd hw]
        have := R.held
        show _ ≤ ((r8.nf + r8.ns : Nat) : Int)
        rw [kp8.nf, kp8.ns]
        omega
      · obtain ⟨h3, h4⟩ := (hmw o).2 h1
        rw [← h3]
        exact R.zer o h4 h2
      · rw [hps]
        by_cases z : o.1 = x2.t
        · exact .inr (if_pos (decide_eq_true z))
        · refine .inl ((if_neg (fun u => z (of_decide_eq_true u))).trans ?_)
          rw [E8]

theorem sc_Rooms_copy : FnScope ["self", "task", "other", "table", "page"] ["self", "task", "other"] (defScope s_Rooms_copy) := ⟨rfl, rfl, rfl, by decide +kernel, rfl, by decide +kernel, by decide +kernel⟩
theorem ok_Rooms_copy {P : Program} {w : World} {K : PySem.W.Frag} {mg : Str → Option Value} {base : Heap} (T : Txt K mg) : Cee P w K mg base 5 (He.fAd K ("Rooms", some "copy")) ["self", "task", "other"] (sp_Rooms_copy K) := by
  have c_Rooms_table_of : Cee P w K mg base 1 (He.fAd K ("Rooms", some "table_of")) ["self", "task"] (sp_Rooms_table_of K) := ok_Rooms_table_of T
  have c_Rooms_ask_room : Cee P w K mg base 3 (He.fAd K ("Rooms", some "ask_room")) ["self", "many"] (sp_Rooms_ask_room K) := ok_Rooms_ask_room T
  have c_Table_pages : Cee P w K mg base 1 (He.fAd K ("Table", some "pages")) ["self"] (sp_Table_pages K) := ok_Table_pages T
  have c_Table___init__ : Cee P w K mg base 1 (He.fAd K ("Table", some "__init__")) ["self"] (sp_Table___init__ K) := ok_Table___init__ T
  have c_Paging_share : Cee P w K mg base 4 (He.fAd K ("Paging", some "share")) ["self", "owner", "entry"] (sp_Paging_share K) := ok_Paging_share T
  have c_Table_get : Cee P w K mg base 1 (He.fAd K ("Table", some "get")) ["self", "page"] (sp_Table_get K) := ok_Table_get T
  refine cee_of T.d_Rooms_copy sc_Rooms_copy (fun _ _ _ _ _ _ us hl => match us, hl with | [_, _, _], _ => rfl) (fun vs H Q E h => sp3_len h) (fun cdv A outer s H vs Q E hr h => ⟨_, (pss_cons (ps_set (i := 3) sc_Rooms_copy.nd rfl (Or.inl rfl) (pe_m (pv 0) T.c_Rooms T.m_Rooms_table_of c_Rooms_table_of (hr.mono (by decide)) (takes_of rfl rfl rfl rfl) (pa_cons (pv 1) pa_nil))) (pss_cons (ps_if (pt_cmp (pc_din (hu_of hr) (pv 2) (pe_fld (pe_fld (pv 0) rfl) rfl)) (by with_unfolding_all rfl)) (pss_one (ps_raise rfl (takes_of rfl rfl rfl rfl) (pmk_own PySem.F.excBase_ValueError T.x_Taken.1 T.g_Taken T.x_Taken.2.1 (raises_own T.x_Taken.2.2.1 T.x_Taken.2.2.2) rfl))) pss_nil) (pss_cons (ps_expr (pe_m (pv 0) T.c_Rooms T.m_Rooms_ask_room c_Rooms_ask_room (hr.mono (by decide)) (takes_of rfl rfl rfl rfl) (pa_cons (pe_callB call_len_seq (by rfl) T.n_len (by decide +kernel) (pa_cons (pe_m0 (pv 3) T.c_Table T.m_Table_pages c_Table_pages (hr.mono (by decide)) (takes_of rfl rfl rfl rfl)) pa_nil)) pa_nil))) (pss_cons (ps_dput (hu_of hr) (pe_fld (pe_fld (pv 0) rfl) rfl) (pv 2) (pe_n0 T.m_Table c_Table___init__ (hr.mono (by decide)) (by rfl) T.g_Table) rfl) (pss_one (ps_for (passes_of rfl) rfl (PI.box (pi_list (pe_m0 (pv 3) T.c_Table T.m_Table_pages c_Table_pages (hr.mono (by decide)) (takes_of rfl rfl rfl rfl)))) (pg_name (i := 4) sc_Rooms_copy.nd rfl (Or.inl rfl)) (pss_one (ps_expr (pe_m (pe_fld (pv 0) rfl) T.c_Paging T.m_Paging_share c_Paging_share (hr.mono (by decide)) (takes_of rfl rfl rfl rfl) (pa_cons (pe_tup (pa_cons (pv 2) (pa_cons (pv 4) pa_nil))) (pa_cons (pe_m (pv 3) T.c_Table T.m_Table_get c_Table_get (hr.mono (by decide)) (takes_of rfl rfl rfl rfl) (pa_cons (pv 4) pa_nil)) pa_nil))))))))))), ?_⟩)
  obtain ⟨v0, v1, v2, rfl, h⟩ := h
  dsimp only [cxOf, L2.start]
  obtain ⟨p, dx, g, r, w, st, c, t, u, rfl, rfl, rfl, R, hlen, O, k⟩ := h
  walk_at "s"
  cases hw : w.lookup t with
  | none =>
    rw [sem_copy0 hw] at k
    exact ask2 ⟨p, dx, g, r, w, st, t, rfl, rfl, R, O, fun _ => k _ O, fun row x z => by cases hw.symm.trans z⟩
  | some row =>
    rw [sem_copy1 hw] at k
    obtain ⟨l, x, q, e1, ext, hx, hf⟩ := R.find hw
    refine ask2 ⟨p, dx, g, r, w, st, t, rfl, rfl, R, O, fun z => (by cases hw.symm.trans z), fun row' x' z hx' ht' => ?_⟩
    have exx : x' = x := by
      have h1 := R.gd.ndt
      obtain ⟨l2, q2, e2⟩ := List.append_of_mem hx'
      have := tabs_find (t := t) (l := l2) (q := q2) (x := x') (by rw [← e2]; exact h1)
      rw [if_pos ht'.symm, ← e2, hf] at this
      exact (Option.some.inj this).symm
    subst exx
    have Ox := O.blk (s := cTb K x') (s' := cTb K x') (cRo_tab e1)
    have hxp := Ox.get (a := x'.p) (o := .ins (He.ga K "Table") x'.q.1 [("firsts", .ref x'.q.2)]) (.head _)
    have hp := O.get (a := p) (o := .ins (He.ga K "Rooms") dx [("paging", .ref g)]) (.head _)
    have hg := O.get (a := g) (o := insPg K r) (.tail _ (.head _))
    have hT := O.get (a := r.TD) (o := .dK (tabD r.tabs)) (.tail _ (.tail _ (.tail _ (.head _))))
    walk_at "s"
    dsimp only
    rw [tabD_val]
    cases hu : w.lookup u with
    | some row2 =>
      rw [if_pos (by rw [hu]; rfl)] at k
      obtain ⟨_, _, _, _, _, _, hf2⟩ := R.find hu
      rw [hf2]
      refine if_t rfl ?_
      exact k _ O
    | none =>
      rw [if_neg (by rw [hu]; exact Bool.false_ne_true)] at k
      rw [R.tab0 hu]
      refine if_f rfl ?_
      dsimp only [tNext]
      walk_at "s"
      refine ask1 ⟨x'.p, x'.q, x'.fs, rfl, R.gd.tab x' hx, Ox, fun H2 la ns O2 hs hm => ?_⟩
      have O3 := O.callE (e := [(la, .lst (ns.map V.int))]) (cRo_tab e1) O2
      obtain ⟨hln, hmem⟩ := R.pages hx (ext.symm ▸ hw) hs hm
      have hla := O3.get (a := la) (o := .lst (ns.map V.int)) (.head _)
      have hp3 := O3.get (a := p) (o := .ins (He.ga K "Rooms") dx [("paging", .ref g)]) (.tail _ (.head _))
      clear Ox O2
      walk_at "s"
      rw [List.length_map, hln]
      refine ask2 ⟨p, dx, g, r, w, st, row.length, rfl, rfl, R.mono O3, (O3.drop (cs' := cRo K p dx g r) (.cons _ (.refl _))).self, fun hg H4 O4 => ?_, fun hg H4 O4 => ?_⟩
      · rw [if_pos hg] at k
        exact k _ ((O3.call (.there .all) O4).drop (.cons _ (.refl _)))
      rw [if_neg hg] at k
      have O5 := (O3.call (.there .all) O4).drop (cs' := cRo K p dx g r) (.cons _ (.refl _))
      clear O3 O4 hla hp3
      dsimp only [tNext, sDPut]
      walk_at "s"
      intro a da ha hda hne
      have O6 := O5.inst (C := He.ga K "Table") ha hda hne
      refine ask1 ⟨a, da, rfl, O6.blk (s' := []) .one, fun H7 q7 O7 => ?_⟩
      have O8 := O6.call .one O7
      have hp8 := O8.get (a := p) (o := .ins (He.ga K "Rooms") dx [("paging", .ref g)]) (List.mem_append_right _ (.head _))
      have hg8 := O8.get (a := g) (o := insPg K r) (List.mem_append_right _ (.tail _ (.head _)))
      have hT8 := O8.get (a := r.TD) (o := .dK (tabD r.tabs)) (List.mem_append_right _ (.tail _ (.tail _ (.tail _ (.head _)))))
      have hlt : (tabD r.tabs).length < 100000 := by rw [List.length_map, R.len]; omega
      have hnew : putK (tabD r.tabs) (Sum.inl u) (.ref a) = tabD (r.tabs ++ [⟨u, a, q7, [], fun _ => none⟩]) := by
        rw [L2.putK_new _ (by rw [tabD_val, R.tab0 hu]; rfl)]
        unfold tabD
        rw [List.map_append]
        rfl
      have O9 := O8.wr (a := r.TD) (o' := .dK (tabD (r.tabs ++ [⟨u, a, q7, [], fun _ => none⟩]))) (cs' := cTab K a q7 [] ++ ((p, .ins (He.ga K "Rooms") dx [("paging", .ref g)]) :: (g, insPg K r) :: (r.SD, .dK (stD r)) :: (r.TD, .dK (tabD (r.tabs ++ [⟨u, a, q7, [], fun _ => none⟩]))) :: (r.OD, .dT (ownD r.ow)) :: (cSG K (r.st true) ++ (cSG K (r.st false) ++ (cTbs K r.tabs ++ cOw r.ow))))) (.app (.there (.there (.there .here))))
      have O10 := O9.perm (perm_tab K _ _ _ _ _ _ _ r.tabs ⟨u, a, q7, [], fun _ => none⟩ _)
      have R10 := R.addTab (a := a) (q := q7) hu hlen O9
      have hps10 : (r.addTab ⟨u, a, q7, [], fun _ => none⟩).ps = r.ps := RG.addTab_ps rfl (R.tab0 hu)
      have O10 : Own H _ (adr (cRo K p dx g r)) (cRo K p dx g (r.addTab ⟨u, a, q7, [], fun _ => none⟩)) := O10
      have hx10 : x' ∈ (r.addTab ⟨u, a, q7, [], fun _ => none⟩).tabs := List.mem_append_left _ hx
      have hnf10 : (r.addTab ⟨u, a, q7, [], fun _ => none⟩).nf = r.nf := rfl
      have hns10 : (r.addTab ⟨u, a, q7, [], fun _ => none⟩).ns = r.ns := rfl
      have e10 : (r.addTab ⟨u, a, q7, [], fun _ => none⟩).tabs = l ++ x' :: (q ++ [⟨u, a, q7, [], fun _ => none⟩]) := by
        show r.tabs ++ [_] = _
        rw [e1]
        simp
      have Ox10 := O10.blk (s := cTb K x') (s' := cTb K x') (cRo_tab e10)
      have hxp10 := Ox10.get (a := x'.p) (o := .ins (He.ga K "Table") x'.q.1 [("firsts", .ref x'.q.2)]) (.head _)
      rw [← hnew] at hxp10
      clear O5 O6 O7 O9
      walk_at "s"
      rw [hnew]
      rw [hnew] at hxp10
      generalize hr10 : r.addTab ⟨u, a, q7, [], fun _ => none⟩ = r10 at O10 R10 hps10 hx10 hnf10 hns10 e10 Ox10
      refine ask1 ⟨x'.p, x'.q, x'.fs, rfl, R.gd.tab x' hx, Ox10, fun H11 lb ns2 O11 hs2 hm2 => ?_⟩
      have O12 := O10.callE (e := [(lb, .lst (ns2.map V.int))]) (cRo_tab e10) O11
      have hwt : (w ++ [(u, [])] : AWl).lookup x'.t = some row := by
        rw [lk_app, ext, hw]
        rfl
      obtain ⟨-, hmem2⟩ := R10.pages hx10 hwt hs2 hm2
      have hnd := nd_int hs2
      have hlb := O12.get (a := lb) (o := .lst (ns2.map V.int)) (.head _)
      have hut : u ≠ t := fun z => by rw [z, hw] at hu; cases hu
      have hmw : ∀ o, mpW (w ++ [(u, row)]) o = (mpW w o || (decide (o.1 = u) && decide (o.2 ∈ ns2))) := fun o => by
        unfold mpW
        rw [look_copy hu]
        by_cases z : o.1 = u
        · rw [if_pos z, z, hu, decide_eq_true rfl]
          show (row.lookup o.2).isSome = _
          by_cases y : o.2 ∈ ns2
          · rw [decide_eq_true y, (hmem2 _).mp y]; rfl
          · rw [decide_eq_false y]
            exact Bool.eq_false_iff.mpr fun v => y ((hmem2 _).mpr v)
        · rw [if_neg z, decide_eq_false z, Bool.false_and, Bool.or_false]
      have hcu : ∀ o : Ow2, o.1 = u → clW (w ++ [(u, row)]) o = clW w (t, o.2) ∧ stS st c (.copy t u) o = st (t, o.2) := fun o z => by
        refine ⟨?_, if_pos z⟩
        unfold clW
        rw [look_copy hu, if_pos z, hw]
        rfl
      have hco : ∀ o : Ow2, o.1 ≠ u → clW (w ++ [(u, row)]) o = clW w o ∧ stS st c (.copy t u) o = st o := fun o z => by
        refine ⟨?_, if_neg z⟩
        unfold clW
        rw [look_copy hu, if_neg z]
      have hmu : ∀ o, mpW w o = true → o.1 ≠ u := fun o h z => by
        unfold mpW at h
        rw [z, hu] at h
        cases h
      have V12 : Vw r10.ps [] (mpW w) (clW (w ++ [(u, row)])) (stS st c (.copy t u)) := by
        rw [hps10]
        exact R.vw.congr (fun o h => (hco o (hmu o h)).1) (fun o h => (hco o (hmu o h)).2)
      have h0 : (fun o => mpW w o || (decide (o.1 = u) && decide (o.2 ∈ ns2.take 0))) = mpW w := by
        funext o
        rw [List.take_zero, decide_eq_false (fun z : o.2 ∈ ([] : List Int) => by cases z), Bool.and_false, Bool.or_false]
      have gd12 := R10.gd.mono O11
      have J12 := R10.jp
      clear O10 O11 Ox10
      walk_at "s"
      refine forL (K := K) (a := lb) (xs := ns2.map V.int) (fun j σ H' => ∃ (v4 : Option V) (r' : RG), σ = [some (.ref p), some (.int t), some (.int u), some (.ref x'.p), v4] ∧ Own H H' (adr (cRo K p dx g r)) ((lb, .lst (ns2.map V.int)) :: cRo K p dx g r') ∧ RGd K H' r' ∧ Kp r10 r' ∧ JP r'.nf r'.ns r'.ps ∧ Vw r'.ps [] (fun o => mpW w o || (decide (o.1 = u) && decide (o.2 ∈ ns2.take j))) (clW (w ++ [(u, row)])) (stS st c (.copy t u)) ∧ ∀ o, (r.ps.ent o).isSome = true → r'.ps.ent o = r.ps.ent o) ⟨_, r10, rfl, O12, gd12, Kp.refl, J12, by rw [h0]; exact V12, fun o _ => by rw [hps10]⟩ (fun i σ H' _ ⟨_, _, _, O, _⟩ => SqL.of (O.get (.head _))) ?_ ?_
      · clear O12 gd12
        rintro j y σ H8 hj ⟨v4, r8, rfl, O8, gd8, kp8, J8, V8, E8⟩
        obtain ⟨y, hy, rfl⟩ := mget hj
        have hyn : y ∉ ns2.take j := nd_take hnd hy
        have hym := List.mem_of_getElem? hy
        have hrow := (hmem2 y).mp hym
        have hyk := (R.ok.atA hw).key y (lk_some.mp hrow)
        obtain ⟨e, he⟩ : ∃ e, r8.ps.ent (t, y) = some e := by
          have h1 := V8.map (t, y)
          have h2 : mpW w (t, y) = true := by
            unfold mpW
            rw [hw]
            exact hrow
          dsimp only at h1
          rw [h2, Bool.true_or] at h1
          exact Option.isSome_iff_exists.mp h1
        have he0 : r8.ps.ent (u, y) = none := by
          have h1 := V8.map (u, y)
          have h2 : mpW w (u, y) = false := by
            unfold mpW
            rw [hu]
            rfl
          dsimp only at h1
          rw [h2, decide_eq_false hyn, Bool.and_false, Bool.or_false] at h1
          cases e : r8.ps.ent (u, y) with
          | none => rfl
          | some z => rw [e] at h1; cases h1
        obtain ⟨l8, x8, q8, e8, t8, p8⟩ := kp8.tab (K := K) gd8 hx10
        have hx8 : x8 ∈ r8.tabs := by rw [e8]; simp
        have hp8 := O8.get (a := p) (o := .ins (He.ga K "Rooms") dx [("paging", .ref g)]) (.tail _ (.head _))
        walk_at "s"
        intro T hT
        have S9 := O8.self.newT (o := .tup [.int u, .int y]) hT
        have O9 := O8.newT (o := .tup [.int u, .int y]) hT
        have Ox9 := O9.blk (s := cTb K x8) (s' := cTb K x8) (.there (cRo_tab e8))
        have hxp9 := Ox9.get (a := x8.p) (o := .ins (He.ga K "Table") x8.q.1 [("firsts", .ref x8.q.2)]) (.head _)
        rw [p8] at hxp9
        have gd9 := gd8.mono S9
        walk_at "s"
        refine ask2 ⟨x8.p, x8.q, x8.fs, y, by rw [p8], rfl, Ox9, ?_⟩
        have h3 := gd9.ents x8 hx8 y
        have h4 := RG.ent_mid e8 gd8.ndt y
        rw [t8, ext, he] at h4
        rw [← h4] at h3
        obtain ⟨v, hv1, hv2⟩ := EntV.of h3
        rw [hv1]
        walk_at "s"
        have hof := V8.ofs J8 (by simp) he
        refine ask3 ⟨g, r8, T, (u, y), e, rfl, rfl, upd_same, hv2, gd9, (O9.drop (cs' := cPg K g r8) (.cons _ (.cons _ (.refl _)))).self, ?_, hyk.1, hyk.2, fun pl z => ?_, fun H10 r11 O11 gd11 kp11 hps11 => ?_⟩
        · show u ∈ r8.tabs.map (·.t)
          rw [kp8.ts, R10.ts]
          simp
        · obtain ⟨a1, a2⟩ := hof pl z
          have hr := J8.rng pl _ a1
          refine ⟨places_mem.mpr (by rw [← J8.len]; exact hr), fun v => by (have := J8.tab pl _ v; rw [he0] at this; cases this), ?_, fun v => by (rw [v] at a1; cases a1), a2⟩
          have h5 := own_len J8 (L := owL (w ++ [(u, row)])) (fun o ho => owL_mem (by
            rw [V8.map] at ho
            rw [hmw]
            cases hh : mpW w o with
            | true => rfl
            | false =>
              rw [hh, Bool.false_or] at ho
              obtain ⟨b1, b2⟩ := Bool.and_eq_true_iff.mp ho
              rw [b1, decide_eq_true (List.mem_of_mem_take (of_decide_eq_true b2))]
              rfl)) (by
            have h6 := owL_len (w ++ [(u, row)])
            rw [heldA_app, heldA_cons] at h6
            have : heldA [] = 0 := rfl
            have := R.gd.two
            dsimp only at h6
            omega) pl
          omega
        · rw [share_eq] at hps11
          obtain ⟨J13, V13⟩ := share_ok J8 V8 he he0 hyk (fun h1 h2 => by
            have h7 : (t, y).1 ≠ u := fun z => hut z.symm
            rw [(hco _ h7).1]
            rw [(hco _ h7).2] at h2
            refine R.zer _ ?_ h2
            unfold mpW
            rw [hw]
            exact hrow)
          refine ⟨_, r11, rfl, O9.call (.there (.there .all)) O11, gd11, kp8.trans kp11, by rw [hps11, kp11.nf, kp11.ns]; exact J13, ?_, fun o ho => ?_⟩
          · rw [hps11]
            have e1 : (fun o => mpW w o || (decide (o.1 = u) && decide (o.2 ∈ ns2.take (j + 1)))) = fupd (fun o => mpW w o || (decide (o.1 = u) && decide (o.2 ∈ ns2.take j))) (u, y) true := by
              funext o
              unfold fupd
              rw [take_succ hy]
              by_cases z : o = (u, y)
              · rw [if_pos z, z, decide_eq_true rfl, decide_eq_true (List.mem_append_right _ (.head _))]
                cases mpW w (u, y) <;> rfl
              · rw [if_neg z]
                by_cases v : o.1 = u
                · have hne : o.2 ≠ y := fun v2 => z (Prod.ext v v2)
                  have : (o.2 ∈ ns2.take j ++ [y]) ↔ o.2 ∈ ns2.take j := ⟨fun h => (List.mem_append.mp h).elim id fun v => absurd (List.mem_singleton.mp v) hne, fun h => List.mem_append_left _ h⟩
                  rw [decide_eq_decide.mpr this]
                · show _ = (mpW w o || (decide (o.1 = u) && decide (o.2 ∈ ns2.take j)))
                  rw [decide_eq_false v, Bool.false_and, Bool.false_and]
            have h7 : (t, y).1 ≠ u := fun z => hut z.symm
            have e2 : fupd (clW (w ++ [(u, row)])) (u, y) (clW (w ++ [(u, row)]) (t, y)) = clW (w ++ [(u, row)]) := by
              have : clW (w ++ [(u, row)]) (t, y) = clW (w ++ [(u, row)]) (u, y) := by rw [(hco (t, y) h7).1, (hcu (u, y) rfl).1]
              rw [this]
              exact fupd_id
            have e3 : fupd (stS st c (.copy t u)) (u, y) (stS st c (.copy t u) (t, y)) = stS st c (.copy t u) := by
              have : stS st c (.copy t u) (t, y) = stS st c (.copy t u) (u, y) := by rw [(hco (t, y) h7).2, (hcu (u, y) rfl).2]
              rw [this]
              exact fupd_id
            rw [e2, e3] at V13
            rw [e1]
            exact V13
          · rw [hps11, ← E8 o ho]
            have hne : o ≠ (u, y) := fun z => by rw [← E8 o ho, z, he0] at ho; cases ho
            cases e with
            | none => exact if_neg hne
            | some pl => exact if_neg hne
      · rintro σ H8 ⟨v4, r8, rfl, O8, gd8, kp8, J8, V8, E8⟩
        rw [List.length_map, List.take_length] at V8
        refine k _ r8 (O8.drop (.cons _ (.refl _))) (RmS.fin gd8 J8 V8 (fun o => (hmw o).symm) (fun _ _ => rfl) ?_ ?_ (R.ok.snocW hu (R.ok.atA hw) hlen) (fun o h1 h2 => ?_)) (kp8.nf.trans hnf10) (kp8.ns.trans hns10) (Ents.p16 fun o ho => .inl (E8 o ho)) True.intro
        · rw [kp8.ts, R10.ts, List.map_append, List.map_append]
          rfl
        · rw [heldA_app, heldA_cons, kp8.nf, kp8.ns, hnf10, hns10]
          have : heldA [] = 0 := rfl
          show heldA w + ((row.length : Int) + heldA []) ≤ _
          omega
        · by_cases z : o.1 = u
          · rw [(hcu o z).1]
            rw [(hcu o z).2] at h2
            refine R.zer (t, o.2) ?_ h2
            unfold mpW at h1 ⊢
            rw [look_copy hu, if_pos z] at h1
            rw [hw]
            exact h1
          · rw [(hco o z).1]
            rw [(hco o z).2] at h2
            refine R.zer o ?_ h2
            unfold mpW at h1 ⊢
            rw [look_copy hu, if_neg z] at h1
            exact h1

theorem Segs.pages {a : Int} {n : Nat} {l : List Seg} (h : Segs a n l) : ∀ q, q ∈ l.map (·.1) ↔ ∃ i : Nat, i < n ∧ q = (a + i) / 8 := by
  induction h with
  | nil => exact fun q => ⟨fun z => (by cases z), fun ⟨i, hi, _⟩ => absurd hi (Nat.not_lt_zero _)⟩
  | @cons a k n l h0 h8 he t ih =>
    intro q
    have hm : 0 ≤ a % 8 := Int.emod_nonneg _ (by decide)
    rw [List.map_cons, List.mem_cons, ih]
    constructor
    · rintro (z | ⟨i, hi, z⟩)
      · exact ⟨0, by omega, by rw [z]; show a / 8 = (a + 0) / 8; rw [Int.add_zero]⟩
      · exact ⟨k + i, by omega, by rw [z]; congr 1; omega⟩
    · rintro ⟨i, hi, z⟩
      by_cases y : i < k
      · exact .inl (by rw [z]; show (a + (i : Int)) / 8 = a / 8; omega)
      · exact .inr ⟨i - k, by omega, by rw [z]; congr 1; omega⟩
theorem Segs.len {a : Int} {n : Nat} {l : List Seg} (h : Segs a n l) : l.length ≤ n := by
  induction h with
  | nil => exact Nat.le_refl _
  | cons h0 h8 he t ih => rw [List.length_cons]; omega
def sp_Rooms_stretches (K : PySem.W.Frag) : Sp := sp4 fun self x y z H Q E => ∃ p dx g r w st t a n, self = .ref p ∧ x = .int t ∧ y = .int a ∧ z = .int n ∧ RmS K H r w st ∧ Own H H (adr (cRo K p dx g r)) (cRo K p dx g r) ∧
  (w.lookup t = none → E (Rf.noTask.cls K) none H) ∧
  (∀ row, w.lookup t = some row →
    ((badA a n = true ∨ allA row a n.toNat = false) → ∀ H', Own H H' (adr (cRo K p dx g r)) (cRo K p dx g r) → E (Rf.noPage.cls K) none H') ∧
    (badA a n = false → allA row a n.toNat = true → ∀ H' l (ts : List Addr) (ss : List Seg), Own H H' (adr (cRo K p dx g r)) ((l, .lst (ts.map V.ref)) :: cRo K p dx g r) → Paired (fun b s => H' b = some (.tup (segV s))) ts ss → Segs a n.toNat ss → Q (.ref l) H'))
theorem tab_lst {K : PySem.W.Frag} {H H0 : Hp} {A : List Addr} {x : TbG} {a : Addr} {xs : List V} (O : Own H0 H A (cTb K x)) (h : H a = some (.lst xs)) : a ∉ adr (cTb K x) := fun z => by
  obtain ⟨⟨b, ob⟩, hb1, hb2⟩ := List.mem_map.mp z
  have hb2 : b = a := hb2
  subst hb2
  have h1 := O.get hb1
  rw [h] at h1
  rcases List.mem_cons.mp hb1 with y | y
  · cases y; cases h1
  · rcases List.mem_cons.mp y with y | y
    · cases y; cases h1
    · obtain ⟨u, _, hu⟩ := List.mem_map.mp y
      cases hu; cases h1
theorem sc_Rooms_stretches : FnScope ["self", "task", "address", "many", "table", "found", "page", "low", "high"] ["self", "task", "address", "many"] (defScope s_Rooms_stretches) := ⟨rfl, rfl, rfl, by decide +kernel, rfl, by decide +kernel, by decide +kernel⟩
theorem ok_Rooms_stretches {P : Program} {w : World} {K : PySem.W.Frag} {mg : Str → Option Value} {base : Heap} (T : Txt K mg) : Cee P w K mg base 3 (He.fAd K ("Rooms", some "stretches")) ["self", "task", "address", "many"] (sp_Rooms_stretches K) := by
  have c_Rooms_table_of : Cee P w K mg base 1 (He.fAd K ("Rooms", some "table_of")) ["self", "task"] (sp_Rooms_table_of K) := ok_Rooms_table_of T
  have c_stretches_of : Cee P w K mg base 1 (He.fAd K ("stretches_of", none)) ["address", "many"] (sp_stretches_of K) := ok_stretches_of T
  have c_Rooms_look_mapped : Cee P w K mg base 2 (He.fAd K ("Rooms", some "look_mapped")) ["self", "table", "pages"] (sp_Rooms_look_mapped K) := ok_Rooms_look_mapped T
  refine cee_of T.d_Rooms_stretches sc_Rooms_stretches (fun _ _ _ _ _ _ us hl => match us, hl with | [_, _, _, _], _ => rfl) (fun vs H Q E h => sp4_len h) (fun cdv A outer s H vs Q E hr h => ⟨_, (pss_cons (ps_set (i := 4) sc_Rooms_stretches.nd rfl (Or.inl rfl) (pe_m (pv 0) T.c_Rooms T.m_Rooms_table_of c_Rooms_table_of (hr.mono (by decide)) (takes_of rfl rfl rfl rfl) (pa_cons (pv 1) pa_nil))) (pss_cons (PS.box (ps_if (PW.pt (pw_or (pt_cmpR op_lt (pv 3) pe_int (nomark _)) (pw_or1 (PW.pt (pw_and (pt_cmpR op_gt (pv 3) pe_int (nomark _)) (pw_and1 (PW.pt (pw_or (pt_cmpR op_lt (pv 2) pe_int (nomark _)) (pw_or1 (pt_cmpR op_gt (pe_op op_add (pv 2) (pv 3)) (pe_op op_mul (pe_gc (v := .int 64) rfl (gI T.g_PAGES)) (pe_gc (v := .int 8) rfl (gI T.g_PAGE_SIZE))) (nomark _))))))))))) (pss_one (ps_raise rfl (takes_of rfl rfl rfl rfl) (pmk_own PySem.F.excBase_ValueError T.x_NoPage.1 T.g_NoPage T.x_NoPage.2.1 (raises_own T.x_NoPage.2.2.1 T.x_NoPage.2.2.2) rfl))) pss_nil)) (pss_cons (ps_set (i := 5) sc_Rooms_stretches.nd rfl (Or.inl rfl) (pe_f c_stretches_of (hr.mono (by decide)) (takes_of rfl rfl rfl rfl) (by rfl) T.g_stretches_of (pa_cons (pv 2) (pa_cons (pv 3) pa_nil)))) (pss_cons (ps_expr (pe_m (pv 0) T.c_Rooms T.m_Rooms_look_mapped c_Rooms_look_mapped (hr.mono (by decide)) (takes_of rfl rfl rfl rfl) (pa_cons (pv 4) (pa_cons (pe_lc (own := [("page", 6), ("low", 7), ("high", 8)]) (by rfl) sc_Rooms_stretches.nd (PI.box (pi_list (pv 5))) (blkOk_by (own := [("page", 6), ("low", 7), ("high", 8)]) (N := ["self", "task", "address", "many", "table", "found", "page", "low", "high"]) (sc := defScope s_Rooms_stretches) (by decide +kernel)) (fun _ _ _ _ _ => (show PG _ _ (gTup K 3 (gCons (gName 6) (gCons (gName 7) (gCons (gName 8) gNil)))) from (pg_tup rfl (pgs_cons (pg_name (i := 6) sc_Rooms_stretches.nd rfl (Or.inl rfl)) (pgs_cons (pg_name (i := 7) sc_Rooms_stretches.nd rfl (Or.inl rfl)) (pgs_cons (pg_name (i := 8) sc_Rooms_stretches.nd rfl (Or.inl rfl)) pgs_nil)))))) (fun _ _ _ _ _ => pts_nil) (fun _ _ _ _ _ => (pv 6))) pa_nil)))) (pss_one (ps_ret (pv 5))))))), ?_⟩)
  obtain ⟨v0, v1, v2, v3, rfl, h⟩ := h
  dsimp only [cxOf, L2.start]
  obtain ⟨p, dx, g, r, w, st, t, a, n, rfl, rfl, rfl, rfl, R, O, e, k⟩ := h
  walk_at "s"
  cases hw : w.lookup t with
  | none => exact ask2 ⟨p, dx, g, r, w, st, t, rfl, rfl, R, O, fun z => e z, fun row x z => by cases hw.symm.trans z⟩
  | some row =>
    obtain ⟨k1, k2⟩ := k row hw
    obtain ⟨l, x, q, e1, ext, hx, hf⟩ := R.find hw
    refine ask2 ⟨p, dx, g, r, w, st, t, rfl, rfl, R, O, fun z => (by cases hw.symm.trans z), fun row' x' z hx' ht' => ?_⟩
    have exx : x' = x := by
      have h1 := R.gd.ndt
      obtain ⟨l2, q2, e2⟩ := List.append_of_mem hx'
      have := tabs_find (t := t) (l := l2) (q := q2) (x := x') (by rw [← e2]; exact h1)
      rw [if_pos ht'.symm, ← e2, hf] at this
      exact (Option.some.inj this).symm
    subst exx
    walk_at "s"
    refine cutS (fun σ' H2 => σ' = [some (.ref p), some (.int t), some (.int a), some (.int n), some (.ref x'.p), none, none, none, none] ∧ H2 = H ∧ badA a n = false) (fun nx hn => ?_) ?_
    · walk_at "s"
      refine if_d (fun h1 => k1 (.inl (decide_eq_true (.inl h1))) _ O) (fun h1 => ?_)
      walk_at "s"
      refine if_d (fun h2 => ?_) (fun h2 => ?_)
      · walk_at "s"
        refine if_d (fun h3 => k1 (.inl (decide_eq_true (.inr ⟨h2, .inl h3⟩))) _ O) (fun h3 => ?_)
        walk_at "s"
        refine if_d (fun h4 => k1 (.inl (decide_eq_true (by omega))) _ O) (fun h4 => ?_)
        exact hn _ _ ⟨rfl, rfl, decide_eq_false (by omega)⟩
      · exact hn _ _ ⟨rfl, rfl, decide_eq_false (by omega)⟩
    rintro σ' H2 ⟨rfl, rfl, hb⟩
    have hb' := of_decide_eq_false hb
    walk_at "s"
    refine ask2 ⟨a, n.toNat, rfl, by rw [Int.toNat_of_nonneg (by omega)], by omega, fun H3 f ts ss O3 hp hs => ?_⟩
    have O4 := O.callN O3
    have hsl := hs.len
    have hpl := hp.length
    walk_at "s"
    refine lcL (K := K) (a := f) (xs := ts.map V.ref) (fun L j H5 => Own H3 H5 (adr ((f, .lst (ts.map V.ref)) :: cRo K p dx g r)) ((L, .lst (((ss.take j).map (·.1)).map V.int)) :: (f, .lst (ts.map V.ref)) :: cRo K p dx g r)) (fun L hL => O4.self.new hL) (fun L j H5 _ O5 => SqL.of (O5.get (.tail _ (.head _)))) ?_ ?_
    · rintro L j y H5 hj O5
      obtain ⟨T, hT, rfl⟩ := mget hj
      obtain ⟨s, hs2, hs3⟩ := Paired.at_ hp hT
      have hT5 := O5.tp _ _ hs3
      have hlen : (((ss.take j).map fun s : Seg => s.1).map V.int).length < 100000 := by
        rw [List.length_map, List.length_map, List.length_take]
        omega
      have hL5 := O5.get (a := L) (o := .lst (((ss.take j).map (·.1)).map V.int)) (.head _)
      obtain ⟨s1, s2, s3⟩ := s
      walk_at "s"
      rw [take_succ hs2, List.map_append, List.map_append]
      exact ⟨O5.wr .here⟩
    · rintro L H5 O5
      rw [List.length_map, hpl, List.take_length] at O5
      have O6 := O4.call .all O5
      have hL6 := O6.get (a := L) (o := .lst ((ss.map (·.1)).map V.int)) (.head _)
      have hp6 := O6.get (a := p) (o := .ins (He.ga K "Rooms") dx [("paging", .ref g)]) (.tail _ (.tail _ (.head _)))
      have Ox := O6.blk (s := cTb K x') (s' := cTb K x') (.there (.there (cRo_tab e1)))
      have hr : ∀ y, (x'.en y).isSome = (row.lookup y).isSome := fun y => R.en hx (ext.symm ▸ hw) y
      walk_at "s"
      refine ask3 ⟨p, x', L, ss.map (·.1), rfl, rfl, rfl, hL6, by rw [List.length_map]; omega, fun q => (R.gd.mono O6).ents x' hx q, tab_lst Ox hL6, Ox, fun y hy hn H7 O7 => ?_, fun hall H7 O7 => ?_⟩
      · obtain ⟨i, hi, rfl⟩ := (hs.pages y).mp hy
        have h1 := hr ((a + i) / 8)
        rw [hn] at h1
        exact k1 (.inr (allA_no hi (by
          cases e : row.lookup ((a + (i : Int)) / 8) with
          | none => rfl
          | some _ => rw [e] at h1; cases h1))) _ ((O6.call (.there (.there (cRo_tab e1))) O7).drop (.cons _ (.cons _ (.refl _))))
      · walk_at "s"
        refine k2 hb (allA_yes fun i hi => ?_) _ f ts ss ((O6.call (.there (.there (cRo_tab e1))) O7).drop (.cons _ (.refl _))) (Paired.mapP hp fun b s h => O7.tp _ _ (O5.tp _ _ h)) hs
        rw [← hr]
        exact hall _ ((hs.pages _).mpr ⟨i, hi, rfl⟩)

def sp_Rooms_peek (K : PySem.W.Frag) : Sp := sp4 fun self x y z H Q E => (∃ p dx g r w st c t a n, self = .ref p ∧ x = .int t ∧ y = .int a ∧ z = .int n ∧ RmS K H r w st ∧ Own H H (adr (cRo K p dx g r)) (cRo K p dx g r) ∧ RAns K H p dx g r (stS st c (.peek t a n)) (.peek t a n) (sem ((r.nf + r.ns : Nat) : Int) w (.peek t a n)) Q E) ∨ ∃ p dx g r w st t a row, self = .ref p ∧ x = .int t ∧ y = .int a ∧ z = .int 0 ∧ RmS K H r w st ∧ w.lookup t = some row ∧ Own H H (adr (cRo K p dx g r)) (cRo K p dx g r) ∧ ∀ H' l, Own H H' (adr (cRo K p dx g r)) ((l, .lst ([] : List V)) :: cRo K p dx g r) → Q (.ref l) H'
theorem RmS.ofR {K : PySem.W.Frag} {H H' : Hp} {r r' : RG} {w w' : AWl} {st st' : Ow2 → Nat} {L : List Ow2} (R : RmS K H r w st) (R' : RSt K H' r' (mpW w') (clW w') st' L) (kp : Kp r r') (hk : w'.map (·.1) = w.map (·.1)) (hh : heldA w' = heldA w) (ok : WOk w') : RmS K H' r' w' st' :=
  ⟨R'.gd, R'.jp, R'.vw, by rw [kp.ts, R.ts, hk], by rw [hh, kp.nf, kp.ns]; exact R.held, ok, R'.zer⟩
/-- a page that lies somewhere lies somewhere behind -/
theorem keep_place {s s' : PS} {mp : Ow2 → Bool} {cl cl' : Ow2 → List Int} {st st' : Ow2 → Nat} (V : Vw s [] mp cl st) (V' : Vw s' [] mp cl' st') (h : ∀ o, st o ≠ 0 → st' o ≠ 0) : ∀ o n, s.ent o = some (some (true, n)) → ∃ q, s'.ent o = some (some q) := fun o n he => by
  have hm : mp o = true := by rw [← V.map, he]; rfl
  have h0 : st o ≠ 0 := fun z => by
    have := (V.blank o (by simp) hm).mpr z
    rw [he] at this
    cases this
  have h1 := V'.map o
  rw [hm] at h1
  obtain ⟨x, hx⟩ := Option.isSome_iff_exists.mp h1
  cases x with
  | some q => exact ⟨q, hx⟩
  | none => exact absurd ((V'.blank o (by simp) hm).mp hx) (h o h0)
theorem Segs.head {a : Int} {n : Nat} {s : Seg} {l : List Seg} (h : Segs a n (s :: l)) : ∃ k n' : Nat, n = k + n' ∧ 0 < k ∧ a % 8 + k ≤ 8 ∧ (n' = 0 ∨ a % 8 + k = 8) ∧ s = (a / 8, a % 8, a % 8 + k) ∧ Segs (a + k) n' l := by
  cases h with
  | cons h0 h8 he t => exact ⟨_, _, rfl, h0, h8, he, rfl, t⟩
theorem Segs.nil0 {a : Int} {n : Nat} {l : List Seg} (h : Segs a n l) (e : l = []) : n = 0 := by
  cases h with
  | nil => rfl
  | cons => cases e
theorem mp_row {w : AWl} {t : Int} {row : ARm} (hw : w.lookup t = some row) (y : Int) : mpW w (t, y) = (row.lookup y).isSome ∧ clW w (t, y) = (row.lookup y).getD [] := by
  unfold mpW clW
  rw [hw]
  exact ⟨rfl, rfl⟩
theorem sc_Rooms_peek : FnScope ["self", "task", "address", "many", "cells", "page", "low", "high"] ["self", "task", "address", "many"] (defScope s_Rooms_peek) := ⟨rfl, rfl, rfl, by decide +kernel, rfl, by decide +kernel, by decide +kernel⟩
theorem ok_Rooms_peek {P : Program} {w : World} {K : PySem.W.Frag} {mg : Str → Option Value} {base : Heap} (T : Txt K mg) : Cee P w K mg base 8 (He.fAd K ("Rooms", some "peek")) ["self", "task", "address", "many"] (sp_Rooms_peek K) := by
  have c_Rooms_stretches : Cee P w K mg base 3 (He.fAd K ("Rooms", some "stretches")) ["self", "task", "address", "many"] (sp_Rooms_stretches K) := ok_Rooms_stretches T
  have c_Paging_fetch : Cee P w K mg base 7 (He.fAd K ("Paging", some "fetch")) ["self", "owner"] (sp_Paging_fetch K) := ok_Paging_fetch T
  have c_Paging_cells : Cee P w K mg base 4 (He.fAd K ("Paging", some "cells")) ["self", "owner"] (sp_Paging_cells K) := ok_Paging_cells T
  refine cee_of T.d_Rooms_peek sc_Rooms_peek (fun _ _ _ _ _ _ us hl => match us, hl with | [_, _, _, _], _ => rfl) (fun vs H Q E h => sp4_len h) (fun cdv A outer s H vs Q E hr h => ⟨_, (pss_cons (ps_set (i := 4) sc_Rooms_peek.nd rfl (Or.inl rfl) (pe_lst pa_nil)) (pss_cons (ps_for (passes_of rfl) rfl (PI.box (pi_list (pe_m (pv 0) T.c_Rooms T.m_Rooms_stretches c_Rooms_stretches (hr.mono (by decide)) (takes_of rfl rfl rfl rfl) (pa_cons (pv 1) (pa_cons (pv 2) (pa_cons (pv 3) pa_nil)))))) (pg_tup rfl (pgs_cons (pg_name (i := 5) sc_Rooms_peek.nd rfl (Or.inl rfl)) (pgs_cons (pg_name (i := 6) sc_Rooms_peek.nd rfl (Or.inl rfl)) (pgs_cons (pg_name (i := 7) sc_Rooms_peek.nd rfl (Or.inl rfl)) pgs_nil)))) (pss_cons (ps_expr (pe_m (pe_fld (pv 0) rfl) T.c_Paging T.m_Paging_fetch c_Paging_fetch (hr.mono (by decide)) (takes_of rfl rfl rfl rfl) (pa_cons (pe_tup (pa_cons (pv 1) (pa_cons (pv 5) pa_nil))) pa_nil))) (pss_one (ps_expr (pe_bm PySem.F.plainAttrs_list PySem.F.slot_list_extend PySem.F.type_list_extend mt_extend (pv 4) (pa_cons (pe_slice sl_list (pe_m (pe_fld (pv 0) rfl) T.c_Paging T.m_Paging_cells c_Paging_cells (hr.mono (by decide)) (takes_of rfl rfl rfl rfl) (pa_cons (pe_tup (pa_cons (pv 1) (pa_cons (pv 5) pa_nil))) pa_nil)) (po_some (pv 6)) (po_some (pv 7))) pa_nil)))))) (pss_one (ps_ret (pv 4))))), ?_⟩)
  obtain ⟨v0, v1, v2, v3, rfl, h⟩ := h
  dsimp only [cxOf, L2.start]
  rcases h with ⟨p, dx, g, r, w, st, c, t, a, n, rfl, rfl, rfl, rfl, R, O, k⟩ | ⟨p, dx, g, r, w, st, t, a, row, rfl, rfl, rfl, rfl, R, hw, O, k⟩
  · walk_at "s"
    intro L hL
    have O1 := O.new (o := .lst []) hL
    have R1 := R.mono O1
    have hp1 := O1.get (a := p) (o := .ins (He.ga K "Rooms") dx [("paging", .ref g)]) (.tail _ (.head _))
    walk_at "s"
    refine ask4 ⟨p, dx, g, r, w, st, t, a, n, rfl, rfl, rfl, rfl, R1, (O1.drop (cs' := cRo K p dx g r) (.cons _ (.refl _))).self, fun hw => ?_, fun row hw => ⟨fun hbad H2 O2 => ?_, fun hb hal H2 f ts ss O2 hp hs => ?_⟩⟩
    · rw [sem_peek0 hw] at k
      exact k _ (O1.drop (.cons _ (.refl _)))
    · rw [sem_peek1 hw] at k
      rw [ite3 (by rcases hbad with z | z; exact .inl z; exact .inr z)] at k
      exact k _ ((O1.call (.there .all) O2).drop (.cons _ (.refl _)))
    · rw [sem_peek1 hw, if_neg (by rw [hb]; exact Bool.false_ne_true), if_pos hal] at k
      have hb' := of_decide_eq_false hb
      have O3 := O1.callE (e := [(f, .lst (ts.map V.ref))]) (.there .all) O2
      have hf3 := O3.get (a := f) (o := .lst (ts.map V.ref)) (.head _)
      have R3 := R1.mono O2
      have hsl := hs.len
      have hpl := hp.length
      clear O1 O2 R1 hp1
      walk_at "s"
      refine forL (K := K) (a := f) (xs := ts.map V.ref) (fun j σ H' => ∃ (v5 v6 v7 : Option V) (r' : RG) (m : Nat), σ = [some (.ref p), some (.int t), some (.int a), some (.int n), some (.ref L), v5, v6, v7] ∧ m ≤ n.toNat ∧ Segs (a + m) (n.toNat - m) (ss.drop j) ∧ Own H H' (adr (cRo K p dx g r)) ((f, .lst (ts.map V.ref)) :: (L, .lst ((peekR row a m).map V.int)) :: cRo K p dx g r') ∧ Paired (fun b s => H' b = some (.tup (segV s))) ts ss ∧ RmS K H' r' w st ∧ r'.nf = r.nf ∧ r'.ns = r.ns ∧ P16 r.ps r'.ps ∧ FrK r.ps r'.ps ∧ (0 < m → ∀ q, r'.ps.ent (t, (a + m - 1) / 8) ≠ some (some (false, q)))) ⟨_, _, _, r, 0, rfl, Nat.zero_le _, by rw [show a + ((0 : Nat) : Int) = a from Int.add_zero a]; exact hs, O3, hp, R3, rfl, rfl, P16.refl, FrK.refl, fun z => absurd z (Nat.lt_irrefl 0)⟩ (fun i σ H' _ ⟨_, _, _, _, _, _, _, _, O, _⟩ => SqL.of (O.get (.head _))) ?_ ?_
      · clear O3 hf3 R3 hp
        rintro j y σ H8 hj ⟨v5, v6, v7, r8, m, rfl, hm, hs8, O8, hp8, R8, hnf8, hns8, p16, frk, hlast⟩
        obtain ⟨T, hT, rfl⟩ := mget hj
        obtain ⟨s, hs2, hs3⟩ := Paired.at_ hp8 hT
        have hjl := (List.getElem?_eq_some_iff.mp hs2).1
        have hdrop : ss.drop j = s :: ss.drop (j + 1) := by
          rw [List.drop_eq_getElem_cons hjl]
          rw [← (List.getElem?_eq_some_iff.mp hs2).2]
        rw [hdrop] at hs8
        obtain ⟨kk, n', hk1, hk2, hk3, hk4, rfl, hs9⟩ := hs8.head
        have hp0 := O8.get (a := p) (o := .ins (He.ga K "Rooms") dx [("paging", .ref g)]) (.tail _ (.tail _ (.head _)))
        walk_at "s"
        intro T1 hT1
        dsimp only
        have hpg : (row.lookup ((a + (m : Int)) / 8)).isSome = true := allA_at hal (i := m) (by omega)
        obtain ⟨cel, hcel⟩ := Option.isSome_iff_exists.mp hpg
        have h8 : cel.length = 8 := (R.ok.atA hw).wide _ (lk_mem hcel)
        have hmr := mp_row hw ((a + (m : Int)) / 8)
        rw [hcel] at hmr
        have S9 := O8.self.newT (o := .tup [.int t, .int ((a + (m : Int)) / 8)]) hT1
        have O9 := O8.newT (o := .tup [.int t, .int ((a + (m : Int)) / 8)]) hT1
        walk_at "s"
        refine ask2 ⟨g, r8, T1, (t, (a + (m : Int)) / 8), mpW w, clW w, st, owL w, rfl, rfl, upd_same, (R8.mono S9).rst, (O9.drop (cs' := cPg K g r8) (.cons _ (.cons _ (.cons _ (.refl _))))).self, hmr.1, fun H10 r10 O10 R10' kp10 hns10 p1610 frk10 => ?_⟩
        have R10 : RmS K H10 r10 w st := R8.ofR R10' kp10 rfl rfl R8.ok
        have O11 := O9.call (.there (.there (.there .all))) O10
        have hp11 := O11.get (a := p) (o := .ins (He.ga K "Rooms") dx [("paging", .ref g)]) (.tail _ (.tail _ (.head _)))
        walk_at "s"
        intro T2 hT2
        have S12 := O11.self.newT (o := .tup [.int t, .int ((a + (m : Int)) / 8)]) hT2
        have O12 := O11.newT (o := .tup [.int t, .int ((a + (m : Int)) / 8)]) hT2
        have R12 := R10.mono S12
        obtain ⟨e, he, hhas⟩ := R12.rst.ent hmr.1
        walk_at "s"
        refine ask2 ⟨g, r10, T2, (t, (a + (m : Int)) / 8), e, rfl, rfl, upd_same, R12.gd, (O12.drop (cs' := cPg K g r10) (.cons _ (.cons _ (.cons _ (.refl _))))).self, hhas, he, fun pl z => ?_, fun H13 c13 O13 => ?_⟩
        · subst z
          obtain ⟨c1, c2, c3, c4⟩ := R12.rst.cnt he
          exact ⟨_, c2, c3⟩
        have hce : cellE r10.ps e = cel := by
          have h1 : clW w (t, (a + (m : Int)) / 8) = cel := hmr.2
          rw [← h1]
          cases e with
          | none => exact (R12.zer _ hmr.1 ((R12.vw.blank _ (by simp) hmr.1).mp he)).symm
          | some pl => exact R12.vw.cell _ pl (by simp) he
        rw [hce] at O13
        have O14 := O12.callE (e := [(c13, .lst (cel.map V.int))]) (.there (.there (.there .all))) O13
        have hc14 := O14.get (a := c13) (o := .lst (cel.map V.int)) (.head _)
        walk_at "s"
        intro c15 hc15
        have O15 := O14.new (o := .lst (cutV (cel.map V.int) (some ((a + (m : Int)) % 8)) (some ((a + (m : Int)) % 8 + (kk : Nat))))) hc15
        have hcut : cutV (cel.map V.int) (some ((a + (m : Int)) % 8)) (some ((a + (m : Int)) % 8 + (kk : Nat))) = (peekR row (a + m) kk).map V.int := by
          have hmm : 0 ≤ (a + (m : Int)) % 8 := Int.emod_nonneg _ (by decide)
          obtain ⟨lo, hlo⟩ : ∃ lo : Nat, (a + (m : Int)) % 8 = lo := ⟨((a + (m : Int)) % 8).toNat, (Int.toNat_of_nonneg hmm).symm⟩
          rw [peekR_page hcel h8 hk3, hlo, Int.toNat_natCast, show (lo : Int) + (kk : Nat) = ((lo + kk : Nat) : Int) by omega, cutV_mid _ lo (lo + kk) (by omega) (by rw [List.length_map]; omega), List.map_drop, List.map_take, List.drop_take]
        rw [hcut] at O15 ⊢
        walk_at "s"
        have hL15 := O15.wr (a := L) (o' := .lst ((peekR row a m).map V.int ++ (peekR row (a + m) kk).map V.int)) (.there (.there (.there .here)))
        have T15 : ∀ (b : Addr) (vs : List V), H8 b = some (.tup vs) → (upd (upd H13 c15 (.lst ((peekR row (a + m) kk).map V.int))) L (.lst ((peekR row a m).map V.int ++ (peekR row (a + m) kk).map V.int))) b = some (.tup vs) := fun b vs hb => by
          have h1 := O13.tp _ _ (S12.tp _ _ (O10.tp _ _ (S9.tp _ _ hb)))
          have h2 := O15.self.wr (a := L) (o' := .lst ((peekR row a m).map V.int ++ (peekR row (a + m) kk).map V.int)) (.there (.there (.there .here)))
          refine h2.tp _ _ ?_
          have : b ≠ c15 := fun z => by rw [z, hc15] at h1; cases h1
          rw [upd_ne this]
          exact h1
        refine ⟨by
          rw [List.length_map, List.length_map, peekR_len, peekR_len]
          have : (600 : Nat) ≤ sizeLine := by decide
          omega, ⟨_, _, _, r10, m + kk, rfl, by omega, ?_, ?_, Paired.mapP hp8 fun b s h => T15 b _ h, ?_, kp10.nf.trans hnf8, kp10.ns.trans hns8, p16.trans p1610 frk10 (keep_place R.vw R8.vw fun o h => h), frk.trans frk10, fun _ q => ?_⟩⟩
        · rw [show a + ((m + kk : Nat) : Int) = a + m + kk by omega, show n.toNat - (m + kk) = n' by omega]
          exact hs9
        · rw [peekR_app, List.map_append]
          exact hL15.drop (.cons _ (.cons _ (.refl _)))
        · exact (R12.mono O13).mono ((O14.self.new (o := .lst ((peekR row (a + m) kk).map V.int)) hc15).wr (a := L) (o' := .lst ((peekR row a m).map V.int ++ (peekR row (a + m) kk).map V.int)) (.there (.there (.there .here))))
        · rw [show (a + ((m + kk : Nat) : Int) - 1) / 8 = (a + m) / 8 by omega]
          exact hns10 q
      · rintro σ H8 ⟨v5, v6, v7, r8, m, rfl, hm, hs8, O8, hp8, R8, hnf8, hns8, p16, frk, hlast⟩
        rw [List.length_map, hpl, List.drop_length] at hs8
        have hmn : m = n.toNat := by
          have := hs8.nil0 rfl
          omega
        subst hmn
        walk_at "s"
        exact k _ r8 L (O8.drop (.cons _ (.refl _))) R8 hnf8 hns8 p16 fun h0 q => by
          have := hlast (by omega) q
          rw [Int.toNat_of_nonneg (by omega)] at this
          exact this
  · walk_at "s"
    intro L hL
    have O1 := O.new (o := .lst []) hL
    have R1 := R.mono O1
    have hp1 := O1.get (a := p) (o := .ins (He.ga K "Rooms") dx [("paging", .ref g)]) (.tail _ (.head _))
    walk_at "s"
    refine ask4 ⟨p, dx, g, r, w, st, t, a, 0, rfl, rfl, rfl, rfl, R1, (O1.drop (cs' := cRo K p dx g r) (.cons _ (.refl _))).self, fun h => (by rw [hw] at h; cases h), fun row2 hw2 => ⟨fun hbad => ?_, fun hb hal H2 f ts ss O2 hp hs => ?_⟩⟩
    · rcases hbad with z | z
      · exact absurd (of_decide_eq_true z) (by omega)
      · cases z
    · have hts : ts = [] := by
        have h1 := hs.len
        have h2 := hp.length
        exact List.length_eq_zero_iff.mp (Nat.le_zero.mp (by rw [h2]; exact h1))
      subst hts
      have O3 := O1.callE (e := [(f, .lst (([] : List Addr).map V.ref))]) (.there .all) O2
      have hf3 := O3.get (a := f) (o := .lst (([] : List Addr).map V.ref)) (.head _)
      clear O1 O2 R1 hp1
      walk_at "s"
      refine forL (K := K) (a := f) (xs := ([] : List Addr).map V.ref) (fun j σ H' => ∃ v5 v6 v7 : Option V, σ = [some (.ref p), some (.int t), some (.int a), some (.int 0), some (.ref L), v5, v6, v7] ∧ Own H H' (adr (cRo K p dx g r)) ((f, .lst (([] : List Addr).map V.ref)) :: (L, .lst []) :: cRo K p dx g r)) ⟨_, _, _, rfl, O3⟩ (fun i σ H' _ ⟨_, _, _, _, O⟩ => SqL.of (O.get (.head _))) ?_ ?_
      · rintro j y σ H8 hj _
        cases hj
      · rintro σ H8 ⟨v5, v6, v7, rfl, O8⟩
        walk_at "s"
        exact k _ L (O8.drop (.cons _ (.refl _)))

theorem pokeS_step {t a : Int} {m kk : Nat} {x : (Ow2 → Nat) × Nat} (hb : m = 0 ∨ (a + (m : Int)) % 8 = 0) (h0 : 0 < kk) (h8 : (a + (m : Int)) % 8 + kk ≤ 8) : pokeS t a (m + kk) x = (fupd (pokeS t a m x).1 (t, (a + (m : Int)) / 8) ((pokeS t a m x).2 + 1), (pokeS t a m x).2 + 1) := by
  induction kk with
  | zero => exact absurd h0 (Nat.lt_irrefl 0)
  | succ i ih =>
    have e : pokeS t a (m + (i + 1)) x = (fun (x : (Ow2 → Nat) × Nat) (k : Nat) => if k = 0 ∨ (a + (k : Nat)) % 8 = 0 then (fupd x.1 (t, (a + (k : Nat)) / 8) (x.2 + 1), x.2 + 1) else x) (pokeS t a (m + i) x) (m + i) := by
      unfold pokeS
      rw [← Nat.add_assoc, List.range_succ, List.foldl_append]
      rfl
    rw [e]
    by_cases z : i = 0
    · subst z
      dsimp only
      rw [Nat.add_zero, if_pos hb]
    · dsimp only
      rw [if_neg (by
        rintro (u | u)
        · omega
        · omega), ih (by omega) (by omega)]
theorem pokeS_top {t a : Int} {m : Nat} {st : Ow2 → Nat} {c : Nat} {P : Ow2 → Prop} (h : ∀ o, P o → st o ≤ c) : (∀ o, P o → (pokeS t a m (st, c)).1 o ≤ (pokeS t a m (st, c)).2) ∧ ∀ o, st o ≠ 0 → (pokeS t a m (st, c)).1 o ≠ 0 := by
  induction m with
  | zero => exact ⟨h, fun _ h => h⟩
  | succ i ih =>
    have e : pokeS t a (i + 1) (st, c) = (fun (x : (Ow2 → Nat) × Nat) (k : Nat) => if k = 0 ∨ (a + (k : Nat)) % 8 = 0 then (fupd x.1 (t, (a + (k : Nat)) / 8) (x.2 + 1), x.2 + 1) else x) (pokeS t a i (st, c)) i := by
      unfold pokeS
      rw [List.range_succ, List.foldl_append]
      rfl
    rw [e]
    dsimp only
    split
    · refine ⟨fun o ho => ?_, fun o ho => ?_⟩
      · show fupd _ _ _ o ≤ _ + 1
        unfold fupd
        split
        · exact Nat.le_refl _
        · exact Nat.le_succ_of_le (ih.1 o ho)
      · show fupd _ _ _ o ≠ 0
        unfold fupd
        split
        · exact Nat.succ_ne_zero _
        · exact ih.2 o ho
    · exact ih
/-- the world behind the first cells of a poke, and behind a block more -/
theorem poke_block {w : AWl} {t a : Int} {row : ARm} {cs : List Int} {m kk : Nat} {cel : List Int} (ok : WOk w) (hw : w.lookup t = some row) (hm : m + kk ≤ cs.length) (h0 : 0 < kk) (h8 : (a + (m : Int)) % 8 + kk ≤ 8) (hc : (pokeR row a (cs.take m)).lookup ((a + (m : Int)) / 8) = some cel) (hl : cel.length = 8) : mpW (setA w t (pokeR row a (cs.take (m + kk)))) = mpW (setA w t (pokeR row a (cs.take m))) ∧ clW (setA w t (pokeR row a (cs.take (m + kk)))) = fupd (clW (setA w t (pokeR row a (cs.take m)))) (t, (a + (m : Int)) / 8) (cel.take ((a + (m : Int)) % 8).toNat ++ (cs.drop m).take kk ++ cel.drop (((a + (m : Int)) % 8).toNat + kk)) := by
  have hbl : ((cs.drop m).take kk).length = kk := by rw [List.length_take, List.length_drop]; omega
  have e1 : cs.take (m + kk) = cs.take m ++ (cs.drop m).take kk := List.take_add
  have e2 : pokeR row a (cs.take (m + kk)) = pokeR (pokeR row a (cs.take m)) (a + m) ((cs.drop m).take kk) := by
    rw [e1, pokeR_app, show (cs.take m).length = m by rw [List.length_take]; omega]
  have hne : (cs.drop m).take kk ≠ [] := fun z => by rw [z] at hbl; simp at hbl; omega
  have key := lk_pokeR ((cs.drop m).take kk) (pokeR row a (cs.take m)) (a + m) cel hc hl (by rw [hbl]; exact h8)
  have look : ∀ o : Ow2, (((setA w t (pokeR row a (cs.take (m + kk)))).lookup o.1).bind fun r => r.lookup o.2) = if o = (t, (a + (m : Int)) / 8) then some (cel.take ((a + (m : Int)) % 8).toNat ++ (cs.drop m).take kk ++ cel.drop (((a + (m : Int)) % 8).toNat + kk)) else (((setA w t (pokeR row a (cs.take m))).lookup o.1).bind fun r => r.lookup o.2) := fun o => by
    rw [look_set hw, look_set hw]
    by_cases z : o.1 = t
    · rw [if_pos z, if_pos z, e2, key, hbl]
      by_cases y : o.2 = (a + (m : Int)) / 8
      · rw [if_pos ⟨y, hne⟩, if_pos (Prod.ext z y)]
      · rw [if_neg (fun v => y v.1), if_neg (fun v => y (congrArg Prod.snd v))]
    · rw [if_neg z, if_neg z, if_neg (fun v => z (congrArg Prod.fst v))]
  refine ⟨funext fun o => ?_, funext fun o => ?_⟩
  · unfold mpW
    rw [look]
    split
    · rename_i z
      rw [look_set hw, z, if_pos rfl, hc]
      rfl
    · rfl
  · unfold clW fupd
    rw [look]
    split <;> rfl
theorem mp_poke {w : AWl} {t a : Int} {row : ARm} {cs : List Int} (hw : w.lookup t = some row) : mpW (setA w t (pokeR row a cs)) = mpW w := funext fun o => by
  unfold mpW
  rw [look_set hw]
  by_cases z : o.1 = t
  · rw [if_pos z, z, hw]
    show ((pokeR row a cs).lookup o.2).isSome = (row.lookup o.2).isSome
    refine Bool.eq_iff_iff.mpr ?_
    rw [lk_some, lk_some, pokeR_keys]
  · rw [if_neg z]
def sp_Rooms_poke (K : PySem.W.Frag) : Sp := sp4 fun self x y z H Q E => (∃ p dx g r w st c t a b cs, self = .ref p ∧ x = .int t ∧ y = .int a ∧ z = .ref b ∧ RmS K H r w st ∧ Own H H (adr (cRo K p dx g r)) (cRo K p dx g r) ∧ H b = some (.lst (cs.map V.int)) ∧ b ∉ adr (cRo K p dx g r) ∧ (∀ o, mpW w o = true → st o ≤ c) ∧ cs.length ≤ 1000 ∧ RAns K H p dx g r (stS st c (.poke t a cs)) (.poke t a cs) (sem ((r.nf + r.ns : Nat) : Int) w (.poke t a cs)) Q E) ∨ ∃ p dx g r w st t a b row, self = .ref p ∧ x = .int t ∧ y = .int a ∧ z = .ref b ∧ RmS K H r w st ∧ w.lookup t = some row ∧ Own H H (adr (cRo K p dx g r)) (cRo K p dx g r) ∧ H b = some (.lst []) ∧ ∀ H', Own H H' (adr (cRo K p dx g r)) (cRo K p dx g r) → Q .non H'
theorem sc_Rooms_poke : FnScope ["self", "task", "address", "cells", "left", "page", "low", "high", "owner", "kept"] ["self", "task", "address", "cells"] (defScope s_Rooms_poke) := ⟨rfl, rfl, rfl, by decide +kernel, rfl, by decide +kernel, by decide +kernel⟩
theorem ok_Rooms_poke {P : Program} {w : World} {K : PySem.W.Frag} {mg : Str → Option Value} {base : Heap} (T : Txt K mg) : Cee P w K mg base 9 (He.fAd K ("Rooms", some "poke")) ["self", "task", "address", "cells"] (sp_Rooms_poke K) := by
  have c_Rooms_stretches : Cee P w K mg base 3 (He.fAd K ("Rooms", some "stretches")) ["self", "task", "address", "many"] (sp_Rooms_stretches K) := ok_Rooms_stretches T
  have c_Paging_part : Cee P w K mg base 8 (He.fAd K ("Paging", some "part")) ["self", "owner"] (sp_Paging_part K) := ok_Paging_part T
  have c_Paging_cells : Cee P w K mg base 4 (He.fAd K ("Paging", some "cells")) ["self", "owner"] (sp_Paging_cells K) := ok_Paging_cells T
  have c_Paging_put : Cee P w K mg base 4 (He.fAd K ("Paging", some "put")) ["self", "owner", "cells"] (sp_Paging_put K) := ok_Paging_put T
  refine cee_of T.d_Rooms_poke sc_Rooms_poke (fun _ _ _ _ _ _ us hl => match us, hl with | [_, _, _, _], _ => rfl) (fun vs H Q E h => sp4_len h) (fun cdv A outer s H vs Q E hr h => ⟨_, (pss_cons (ps_set (i := 4) sc_Rooms_poke.nd rfl (Or.inl rfl) (pe_callTy call_list_of (by rfl) T.n_list (by decide +kernel) (pa_cons (pv 3) pa_nil))) (pss_one (ps_for (passes_of rfl) rfl (PI.box (pi_list (pe_m (pv 0) T.c_Rooms T.m_Rooms_stretches c_Rooms_stretches (hr.mono (by decide)) (takes_of rfl rfl rfl rfl) (pa_cons (pv 1) (pa_cons (pv 2) (pa_cons (pe_callB call_len_seq (by rfl) T.n_len (by decide +kernel) (pa_cons (pv 4) pa_nil)) pa_nil)))))) (pg_tup rfl (pgs_cons (pg_name (i := 5) sc_Rooms_poke.nd rfl (Or.inl rfl)) (pgs_cons (pg_name (i := 6) sc_Rooms_poke.nd rfl (Or.inl rfl)) (pgs_cons (pg_name (i := 7) sc_Rooms_poke.nd rfl (Or.inl rfl)) pgs_nil)))) (pss_cons (ps_set (i := 8) sc_Rooms_poke.nd rfl (Or.inl rfl) (pe_tup (pa_cons (pv 1) (pa_cons (pv 5) pa_nil)))) (pss_cons (ps_expr (pe_m (pe_fld (pv 0) rfl) T.c_Paging T.m_Paging_part c_Paging_part (hr.mono (by decide)) (takes_of rfl rfl rfl rfl) (pa_cons (pv 8) pa_nil))) (pss_cons (ps_set (i := 9) sc_Rooms_poke.nd rfl (Or.inl rfl) (pe_m (pe_fld (pv 0) rfl) T.c_Paging T.m_Paging_cells c_Paging_cells (hr.mono (by decide)) (takes_of rfl rfl rfl rfl) (pa_cons (pv 8) pa_nil))) (pss_cons (ps_expr (pe_m (pe_fld (pv 0) rfl) T.c_Paging T.m_Paging_put c_Paging_put (hr.mono (by decide)) (takes_of rfl rfl rfl rfl) (pa_cons (pv 8) (pa_cons (pe_op op_cat (pe_op op_cat (pe_slice sl_list (pv 9) po_none (po_some (pv 6))) (pe_slice sl_list (pv 4) po_none (po_some (pe_op op_sub (pv 7) (pv 6))))) (pe_slice sl_list (pv 9) (po_some (pv 7)) po_none)) pa_nil)))) (pss_one (ps_set (i := 4) sc_Rooms_poke.nd rfl (Or.inl rfl) (pe_slice sl_list (pv 4) (po_some (pe_op op_sub (pv 7) (pv 6))) po_none)))))))))), ?_⟩)
  obtain ⟨v0, v1, v2, v3, rfl, h⟩ := h
  dsimp only [cxOf, L2.start]
  rcases h with ⟨p, dx, g, r, w, st, c, t, a, b, cs, rfl, rfl, rfl, rfl, R, O, hb, hbn, htop, hcs, k⟩ | ⟨p, dx, g, r, w, st, t, a, b, row, rfl, rfl, rfl, rfl, R, hw, O, hb, k⟩
  · walk_at "s"
    intro L hL
    have O1 := O.new (o := .lst (cs.map V.int)) hL
    have R1 := R.mono O1
    have hp1 := O1.get (a := p) (o := .ins (He.ga K "Rooms") dx [("paging", .ref g)]) (.tail _ (.head _))
    walk_at "s"
    rw [List.length_map]
    refine ask4 ⟨p, dx, g, r, w, st, t, a, cs.length, rfl, rfl, rfl, rfl, R1, (O1.drop (cs' := cRo K p dx g r) (.cons _ (.refl _))).self, fun hw => ?_, fun row hw => ⟨fun hbad H2 O2 => ?_, fun hb hal H2 f ts ss O2 hp hs => ?_⟩⟩
    · rw [sem_poke0 hw] at k
      exact k _ (O1.drop (.cons _ (.refl _)))
    · rw [sem_poke1 hw] at k
      rw [ite3 (by rcases hbad with z | z; exact .inl z; exact .inr z)] at k
      exact k _ ((O1.call (.there .all) O2).drop (.cons _ (.refl _)))
    · rw [Int.toNat_natCast] at hal hs
      rw [sem_poke1 hw, if_neg (by rw [hb]; exact Bool.false_ne_true), if_pos hal] at k
      have hb' := of_decide_eq_false hb
      have O3 := O1.callE (e := [(f, .lst (ts.map V.ref))]) (.there .all) O2
      have hf3 := O3.get (a := f) (o := .lst (ts.map V.ref)) (.head _)
      have R3 := R1.mono O2
      have hsl := hs.len
      have hpl := hp.length
      have hw0 : setA w t (pokeR row a (cs.take 0)) = w := by
        obtain ⟨l, q, rfl, _⟩ := lk_split hw
        exact setA_mid R.ok.nd
      clear O1 O2 R1 hp1
      walk_at "s"
      refine forL (K := K) (a := f) (xs := ts.map V.ref) (fun j σ H' => ∃ (v5 v6 v7 v8 v9 : Option V) (r' : RG) (m : Nat) (L' : Addr), σ = [some (.ref p), some (.int t), some (.int a), some (.ref b), some (.ref L'), v5, v6, v7, v8, v9] ∧ m ≤ cs.length ∧ (cs.length - m = 0 ∨ m = 0 ∨ (a + (m : Int)) % 8 = 0) ∧ Segs (a + m) (cs.length - m) (ss.drop j) ∧ Own H H' (adr (cRo K p dx g r)) ((f, .lst (ts.map V.ref)) :: (L', .lst ((cs.drop m).map V.int)) :: cRo K p dx g r') ∧ Paired (fun b s => H' b = some (.tup (segV s))) ts ss ∧ RmS K H' r' (setA w t (pokeR row a (cs.take m))) (pokeS t a m (st, c)).1 ∧ r'.nf = r.nf ∧ r'.ns = r.ns ∧ P16 r.ps r'.ps ∧ FrK r.ps r'.ps ∧ (0 < m → ∀ q, r'.ps.ent (t, (a + m - 1) / 8) ≠ some (some (false, q)))) ⟨_, _, _, _, _, r, 0, L, rfl, Nat.zero_le _, .inr (.inl rfl), by rw [show a + ((0 : Nat) : Int) = a from Int.add_zero a]; exact hs, O3, hp, by rw [hw0]; exact R3, rfl, rfl, P16.refl, FrK.refl, fun z => absurd z (Nat.lt_irrefl 0)⟩ (fun i σ H' _ ⟨_, _, _, _, _, _, _, _, _, _, _, _, O, _⟩ => SqL.of (O.get (.head _))) ?_ ?_
      · clear O3 hf3 R3 hp
        rintro j y σ H8 hj ⟨v5, v6, v7, v8, v9, r8, m, L', rfl, hm, hbd, hs8, O8, hp8, R8, hnf8, hns8, p16, frk, hlast⟩
        obtain ⟨T, hT, rfl⟩ := mget hj
        obtain ⟨s, hs2, hs3⟩ := Paired.at_ hp8 hT
        have hjl := (List.getElem?_eq_some_iff.mp hs2).1
        have hdrop : ss.drop j = s :: ss.drop (j + 1) := by
          rw [List.drop_eq_getElem_cons hjl]
          rw [← (List.getElem?_eq_some_iff.mp hs2).2]
        rw [hdrop] at hs8
        obtain ⟨kk, n', hk1, hk2, hk3, hk4, rfl, hs9⟩ := hs8.head
        have hbd2 : m = 0 ∨ (a + (m : Int)) % 8 = 0 := by rcases hbd with z | z; omega; exact z
        have hp0 := O8.get (a := p) (o := .ins (He.ga K "Rooms") dx [("paging", .ref g)]) (.tail _ (.tail _ (.head _)))
        have hpg0 : (row.lookup ((a + (m : Int)) / 8)).isSome = true := allA_at hal (i := m) (by omega)
        have hpg : ((pokeR row a (cs.take m)).lookup ((a + (m : Int)) / 8)).isSome = true := lk_some.mpr (by rw [pokeR_keys]; exact lk_some.mp hpg0)
        obtain ⟨cel, hcel⟩ := Option.isSome_iff_exists.mp hpg
        have hwm : (setA w t (pokeR row a (cs.take m))).lookup t = some (pokeR row a (cs.take m)) := by rw [lk_setA, if_pos rfl, hw]; rfl
        have h8 : cel.length = 8 := (R8.ok.atA hwm).wide _ (lk_mem hcel)
        have hmr := mp_row hwm ((a + (m : Int)) / 8)
        rw [hcel] at hmr
        obtain ⟨bk1, bk2⟩ := poke_block (kk := kk) R.ok hw (by omega) hk2 hk3 hcel h8
        obtain ⟨tp1, tp2⟩ := pokeS_top (t := t) (a := a) (m := m) htop
        have hst := pokeS_step (t := t) (x := (st, c)) hbd2 hk2 hk3
        walk_at "s"
        intro T1 hT1
        dsimp only
        have S9 := O8.self.newT (o := .tup [.int t, .int ((a + (m : Int)) / 8)]) hT1
        have O9 := O8.newT (o := .tup [.int t, .int ((a + (m : Int)) / 8)]) hT1
        walk_at "s"
        have hT9 : OwAt (upd H8 T1 (.tup [.int t, .int ((a + (m : Int)) / 8)])) T1 (t, (a + (m : Int)) / 8) := upd_same
        refine ask2 ⟨g, r8, T1, (t, (a + (m : Int)) / 8), mpW (setA w t (pokeR row a (cs.take m))), clW (setA w t (pokeR row a (cs.take m))), (pokeS t a m (st, c)).1, owL (setA w t (pokeR row a (cs.take m))), (pokeS t a m (st, c)).2 + 1, rfl, rfl, hT9, (R8.mono S9).rst, (O9.drop (cs' := cPg K g r8) (.cons _ (.cons _ (.cons _ (.refl _))))).self, hmr.1, Nat.succ_ne_zero _, fun o ho => ?_, R8.owl, fun H10 r10 O10 R10' kp10 ⟨q10, hq10⟩ p1610 frk10 => ?_⟩
        · have h1 : mpW w o = true := by
            unfold mpW at ho ⊢
            rw [look_set hw] at ho
            by_cases z : o.1 = t
            · rw [if_pos z] at ho
              rw [z, hw]
              have h2 := lk_some.mp ho
              rw [pokeR_keys] at h2
              exact lk_some.mpr h2
            · rw [if_neg z] at ho
              exact ho
          have := tp1 o h1
          omega
        have R10 := R8.ofR R10' kp10 rfl rfl R8.ok
        have O11 := O9.call (.there (.there (.there .all))) O10
        have hT10 := O10.tp _ _ hT9
        have hp11 := O11.get (a := p) (o := .ins (He.ga K "Rooms") dx [("paging", .ref g)]) (.tail _ (.tail _ (.head _)))
        obtain ⟨c1, c2, c3, c4⟩ := R10.rst.cnt hq10
        have hhas := RG.has_of (r := r10) (o := (t, (a + (m : Int)) / 8)) (by rw [hq10]; rfl)
        walk_at "s"
        refine ask2 ⟨g, r10, T1, (t, (a + (m : Int)) / 8), some (true, q10), rfl, rfl, hT10, R10.gd, (O11.drop (cs' := cPg K g r10) (.cons _ (.cons _ (.cons _ (.refl _))))).self, hhas, hq10, fun pl z => (by cases z; exact ⟨_, c2, c3⟩), fun H13 c13 O13 => ?_⟩
        have hce : cellE r10.ps (some (true, q10)) = cel := by
          have h1 : clW (setA w t (pokeR row a (cs.take m))) (t, (a + (m : Int)) / 8) = cel := hmr.2
          rw [← h1]
          exact R10.vw.cell _ (true, q10) (by simp) hq10
        rw [hce] at O13
        have O14 := O11.callE (e := [(c13, .lst (cel.map V.int))]) (.there (.there (.there .all))) O13
        have hc14 := O14.get (a := c13) (o := .lst (cel.map V.int)) (.head _)
        have hL14 := O14.get (a := L') (o := .lst ((cs.drop m).map V.int)) (.tail _ (.tail _ (.head _)))
        have hT13 := O13.tp _ _ hT10
        have hp14 := O14.get (a := p) (o := .ins (He.ga K "Rooms") dx [("paging", .ref g)]) (.tail _ (.tail _ (.tail _ (.head _))))
        walk_at "s"
        obtain ⟨lo, hlo⟩ : ∃ lo : Nat, (a + (m : Int)) % 8 = lo := ⟨((a + (m : Int)) % 8).toNat, (Int.toNat_of_nonneg (Int.emod_nonneg _ (by decide))).symm⟩
        rw [hlo] at bk2 hk3 hk4
        rw [Int.toNat_natCast] at bk2
        rw [hlo, cutV_to, ← List.map_take]
        intro d1 hd1
        have O15 := O14.new (o := .lst ((cel.take lo).map V.int)) hd1
        have hsz : (600 : Nat) ≤ sizeLine := by decide
        walk_at "s"
        rw [show (lo : Int) + (kk : Nat) - (lo : Nat) = (kk : Nat) by omega, cutV_to, ← List.map_take]
        intro d2 hd2
        have O16 := O15.new (o := .lst (((cs.drop m).take kk).map V.int)) hd2
        walk_at "s"
        rw [← List.map_append]
        refine ⟨by rw [List.length_map, List.length_map, List.length_take, List.length_take]; omega, fun d3 hd3 => ?_⟩
        have O17 := O16.new (o := .lst ((cel.take lo ++ (cs.drop m).take kk).map V.int)) hd3
        walk_at "s"
        rw [show (lo : Int) + (kk : Nat) = ((lo + kk : Nat) : Int) by omega, cutV_from, ← List.map_drop]
        intro d4 hd4
        have O18 := O17.new (o := .lst ((cel.drop (lo + kk)).map V.int)) hd4
        walk_at "s"
        rw [← List.map_append]
        refine ⟨by simp only [List.length_map, List.length_append, List.length_take, List.length_drop]; omega, fun d5 hd5 => ?_⟩
        have O19 := O18.new (o := .lst ((cel.take lo ++ (cs.drop m).take kk ++ cel.drop (lo + kk)).map V.int)) hd5
        walk_at "s"
        have S19 := ((((O14.self.new (o := .lst ((cel.take lo).map V.int)) hd1).new (o := .lst (((cs.drop m).take kk).map V.int)) hd2).new (o := .lst ((cel.take lo ++ (cs.drop m).take kk).map V.int)) hd3).new (o := .lst ((cel.drop (lo + kk)).map V.int)) hd4).new (o := .lst ((cel.take lo ++ (cs.drop m).take kk ++ cel.drop (lo + kk)).map V.int)) hd5
        have R19 := (R10.mono O13).mono S19
        have hfresh : ∀ o', o' ≠ (t, (a + (m : Int)) / 8) → r10.ps.ent o' ≠ some (some (true, q10)) := fun o' hne he => by
          have h1 := (R19.vw.same o' (t, (a + (m : Int)) / 8) _ _ (by simp) (by simp) he hq10).mp rfl
          rw [fupd_ne hne, fupd_same] at h1
          have h2 : mpW (setA w t (pokeR row a (cs.take m))) o' = true := by rw [← R19.vw.map, he]; rfl
          have h3 : mpW w o' = true := by
            unfold mpW at h2 ⊢
            rw [look_set hw] at h2
            by_cases z : o'.1 = t
            · rw [if_pos z] at h2
              rw [z, hw]
              have h4 := lk_some.mp h2
              rw [pokeR_keys] at h4
              exact lk_some.mpr h4
            · rw [if_neg z] at h2
              exact h2
          have := tp1 o' h3
          omega
        obtain ⟨J20, V20⟩ := put_ok (c' := cel.take lo ++ (cs.drop m).take kk ++ cel.drop (lo + kk)) R19.jp R19.vw hq10 hfresh
        refine ask3 ⟨g, r10, T1, (t, (a + (m : Int)) / 8), (true, q10), d5, cel.take lo ++ (cs.drop m).take kk ++ cel.drop (lo + kk), rfl, rfl, rfl, S19.tp _ _ hT13, upd_same, R19.gd, (O19.drop (cs' := cPg K g r10) (.cons _ (.cons _ (.cons _ (.cons _ (.cons _ (.cons _ (.cons _ (.cons _ (.cons _ (.refl _))))))))))).self, hhas, hq10, ⟨_, c2, c3⟩, fun H20 r20 O20 gd20 kp20 hps20 => ?_⟩
        have O21 := O19.call (.there (.there (.there (.there (.there (.there (.there (.there (.there .all))))))))) O20
        have hL21 := O21.get (a := L') (o := .lst ((cs.drop m).map V.int)) (.tail _ (.tail _ (.tail _ (.tail _ (.tail _ (.tail _ (.tail _ (.head _))))))))
        walk_at "s"
        rw [show ((lo + kk : Nat) : Int) - (lo : Nat) = (kk : Nat) by omega, cutV_from, ← List.map_drop, List.drop_drop]
        intro d6 hd6
        have O22 := (O21.new (o := .lst ((cs.drop (m + kk)).map V.int)) hd6).drop (cs' := (d6, .lst ((cs.drop (m + kk)).map V.int)) :: (f, .lst (ts.map V.ref)) :: cRo K p dx g r20) (.cons₂ _ (.cons _ (.cons _ (.cons _ (.cons _ (.cons _ (.cons _ (.cons₂ _ (.cons _ (.refl _))))))))))
        have S22 := O21.self.new (o := .lst ((cs.drop (m + kk)).map V.int)) hd6
        have R22 : RmS K H20 r20 (setA w t (pokeR row a (cs.take (m + kk)))) (pokeS t a (m + kk) (st, c)).1 := by
          rw [hst]
          have hwo := R.ok.setW t (r := pokeR row a (cs.take (m + kk))) ((R.ok.atA hw).poke _ _)
          refine ⟨gd20, ?_, ?_, ?_, ?_, hwo, fun o h1 h2 => ?_⟩
          · rw [hps20, kp20.nf, kp20.ns]
            exact J20
          · rw [hps20, bk1, bk2]
            exact V20
          · rw [kp20.ts, R10.ts, setA_keys, setA_keys]
          · have h3 := R10.held
            rw [heldA_set R.ok.nd hw, pokeR_len] at h3 ⊢
            rw [kp20.nf, kp20.ns]
            exact h3
          · rw [bk1] at h1
            rw [bk2]
            have h2 : fupd (pokeS t a m (st, c)).1 (t, (a + (m : Int)) / 8) ((pokeS t a m (st, c)).2 + 1) o = 0 := h2
            unfold fupd at h2 ⊢
            split at h2
            · exact absurd h2 (Nat.succ_ne_zero _)
            · rename_i z
              rw [if_neg z]
              exact R8.zer o h1 h2
        have T22 : ∀ (b : Addr) (vs : List V), H8 b = some (.tup vs) → (upd H20 d6 (.lst ((cs.drop (m + kk)).map V.int))) b = some (.tup vs) := fun b vs hb => S22.tp _ _ (O20.tp _ _ (S19.tp _ _ (O13.tp _ _ (O10.tp _ _ (S9.tp _ _ hb)))))
        refine ⟨_, _, _, _, _, r20, m + kk, d6, rfl, by omega, ?_, ?_, O22.perm (List.Perm.swap _ _ _), Paired.mapP hp8 fun b s h => T22 b _ h, R22.mono S22, kp20.nf.trans (kp10.nf.trans hnf8), kp20.ns.trans (kp10.ns.trans hns8), ?_, ?_, fun _ q => ?_⟩
        · rcases hk4 with z | z
          · left; omega
          · right; right; omega
        · rw [show a + ((m + kk : Nat) : Int) = a + m + kk by omega, show cs.length - (m + kk) = n' by omega]
          exact hs9
        · rw [hps20]
          exact p16.trans p1610 frk10 (keep_place R.vw (by have := R8.vw; rw [mp_poke hw] at this; exact this) tp2)
        · rw [hps20]
          exact frk.trans frk10
        · rw [show (a + ((m + kk : Nat) : Int) - 1) / 8 = (a + m) / 8 by omega, hps20]
          show r10.ps.ent _ ≠ _
          rw [hq10]
          exact fun z => by cases z
      · rintro σ H8 ⟨v5, v6, v7, v8, v9, r8, m, L', rfl, hm, hbd, hs8, O8, hp8, R8, hnf8, hns8, p16, frk, hlast⟩
        rw [List.length_map, hpl, List.drop_length] at hs8
        have hmn : m = cs.length := by
          have := hs8.nil0 rfl
          omega
        subst hmn
        rw [List.take_length] at R8
        exact k _ r8 (O8.drop (.cons _ (.cons _ (.refl _)))) R8 hnf8 hns8 p16 fun h0 q => by
          refine hlast (List.length_pos_iff.mpr h0) q
  · walk_at "s"
    intro L hL
    have O1 := O.new (o := .lst []) hL
    have R1 := R.mono O1
    have hp1 := O1.get (a := p) (o := .ins (He.ga K "Rooms") dx [("paging", .ref g)]) (.tail _ (.head _))
    walk_at "s"
    refine ask4 ⟨p, dx, g, r, w, st, t, a, 0, rfl, rfl, rfl, rfl, R1, (O1.drop (cs' := cRo K p dx g r) (.cons _ (.refl _))).self, fun h => (by rw [hw] at h; cases h), fun row2 hw2 => ⟨fun hbad => ?_, fun hb hal H2 f ts ss O2 hp hs => ?_⟩⟩
    · rcases hbad with z | z
      · exact absurd (of_decide_eq_true z) (by omega)
      · cases z
    · have hts : ts = [] := by
        have h1 := hs.len
        have h2 := hp.length
        exact List.length_eq_zero_iff.mp (Nat.le_zero.mp (by rw [h2]; exact h1))
      subst hts
      have O3 := O1.callE (e := [(f, .lst (([] : List Addr).map V.ref))]) (.there .all) O2
      have hf3 := O3.get (a := f) (o := .lst (([] : List Addr).map V.ref)) (.head _)
      clear O1 O2 R1 hp1
      walk_at "s"
      refine forL (K := K) (a := f) (xs := ([] : List Addr).map V.ref) (fun j σ H' => Own H H' (adr (cRo K p dx g r)) ((f, .lst (([] : List Addr).map V.ref)) :: (L, .lst []) :: cRo K p dx g r)) O3 (fun i σ H' _ O => SqL.of (O.get (.head _))) ?_ ?_
      · rintro j y σ H8 hj _
        cases hj
      · intro σ H8 O8
        exact k _ (O8.drop (.cons _ (.cons _ (.refl _))))

def sp__law_mixed (K : PySem.W.Frag) : Sp := sp2 fun x k H Q _ => ∃ i j : Int, x = .int i ∧ k = .int j ∧ 0 ≤ j ∧ j < 100 ∧ ∀ r : Int, 0 ≤ r → r < 10 ^ 40 → Q (.int r) H
def sp__law_number (K : PySem.W.Frag) : Sp := sp2 fun x k H Q _ => ∃ (a : Addr) (xs : List Int) (j : Int), x = .ref a ∧ k = .int j ∧ 0 ≤ j ∧ j < 100 ∧ xs.length ≤ 1000 ∧ SqL K H a (xs.map V.int) ∧ ∀ H', Own H H' [] [] → ∀ r : Int, 0 ≤ r → r < 10 ^ 40 → Q (.int r) H'
def sp__law_whole (K : PySem.W.Frag) : Sp := sp1 fun x H Q _ => ∃ i, x = .int i ∧ Q (.bl true) H
def sp__law_tasks (K : PySem.W.Frag) : Sp := sp1 fun x H Q _ => ∃ c : Int, x = .int c ∧ ∀ H' a (ts : List Int), Own H H' [] [(a, .lst (ts.map V.int))] → 2 ≤ ts.length → ts.length ≤ 5 → ts.take 2 = [1, 2] → (0 ≤ c → c < 10 ^ 40 → ∀ t ∈ ts, t < 10 ^ 50) → Q (.ref a) H'
def sp__law_cells (K : PySem.W.Frag) : Sp := sp2 fun x y H Q _ => ∃ (m n : Int), x = .int m ∧ y = .int n ∧ 0 ≤ m ∧ m < 10 ^ 40 ∧ 0 ≤ n ∧ n < 100 ∧ ∀ H' b (cs : List Int), Own H H' [] [(b, .lst (cs.map V.int))] → cs.length = n.toNat → Q (.ref b) H'
theorem cutV_ints (xs : List Int) (lo hi : Option Int) : ∃ ys : List Int, cutV (xs.map V.int) lo hi = ys.map V.int := ⟨_, by unfold cutV; rw [← List.map_drop, ← List.map_take]⟩
def isIntV : V → Bool
  | .int _ => true
  | _ => false
theorem at_cell {H : Hp} {a : Addr} {xs : List V} {n : Int} (_ : H a = some (.lst xs)) (h0 : 0 ≤ n) (h1 : n < xs.length) (h2 : xs.all isIntV = true) : ∃ i : Int, atI xs n = some (.int i) := by
  obtain ⟨y, h3, h4⟩ := at_int h0 h1
  have h5 := List.all_eq_true.mp h2 y (List.mem_of_getElem? h3)
  cases y <;> first | exact ⟨_, h4⟩ | cases h5
theorem at_cellB {H : Hp} {a : Addr} {xs : List V} {n lo hi : Int} (_ : H a = some (.lst xs)) (h0 : 0 ≤ n) (h1 : n < xs.length) (h2 : ∀ v ∈ xs, ∃ i, v = .int i ∧ lo ≤ i ∧ i ≤ hi) : ∃ i : Int, atI xs n = some (.int i) ∧ lo ≤ i ∧ i ≤ hi := by
  obtain ⟨y, h3, h4⟩ := at_int h0 h1
  obtain ⟨i, rfl, h5, h6⟩ := h2 y (List.mem_of_getElem? h3)
  exact ⟨i, h4, h5, h6⟩
theorem sc__law_mixed : FnScope ["_law_cell", "_law_k", "_law_once", "_law_twice"] ["_law_cell", "_law_k"] (defScope s__law_mixed) := ⟨rfl, rfl, rfl, by decide +kernel, rfl, by decide +kernel, by decide +kernel⟩
theorem ok__law_mixed {P : Program} {w : World} {K : PySem.W.Frag} {mg : Str → Option Value} {base : Heap} (T : Txt K mg) : Cee P w K mg base 1 (He.fAd K ("_law_mixed", none)) ["_law_cell", "_law_k"] (sp__law_mixed K) := by
  refine cee_of T.d__law_mixed sc__law_mixed (fun _ _ _ _ _ _ us hl => match us, hl with | [_, _], _ => rfl) (fun vs H Q E h => sp2_len h) (fun cdv A outer s H vs Q E hr h => ⟨_, (pss_cons (ps_set (i := 2) sc__law_mixed.nd rfl (Or.inl rfl) (pe_op op_mod (pe_op op_mul (pe_op op_add (pe_op op_add (pe_op op_mod (pv 0) pe_int) (pe_op op_mul pe_int (pv 1))) pe_int) pe_int) pe_int)) (pss_cons (ps_set (i := 2) sc__law_mixed.nd rfl (Or.inl rfl) (pe_op op_mod (pe_op op_mul (pv 2) (pv 2)) pe_int)) (pss_cons (ps_set (i := 3) sc__law_mixed.nd rfl (Or.inl rfl) (pe_op op_mod (pe_op op_mul (pe_op op_add (pe_op op_add (pv 2) (pe_op op_mul pe_int (pv 1))) pe_int) pe_int) pe_int)) (pss_one (ps_ret (pe_op op_add (pe_op op_mul (pe_op op_mod (pe_op op_mul (pv 3) (pv 3)) pe_int) pe_int) (pv 2))))))), ?_⟩)
  obtain ⟨v0, v1, rfl, h⟩ := h
  dsimp only [cxOf, L2.start]
  obtain ⟨i, j, rfl, rfl, h0, h1, k⟩ := h
  walk_at "s"
  exact k _ (by omega) (by omega)
theorem sc__law_number : FnScope ["_law_script", "_law_k", "_law_cell"] ["_law_script", "_law_k"] (defScope s__law_number) := ⟨rfl, rfl, rfl, by decide +kernel, rfl, by decide +kernel, by decide +kernel⟩
theorem ok__law_number {P : Program} {w : World} {K : PySem.W.Frag} {mg : Str → Option Value} {base : Heap} (T : Txt K mg) : Cee P w K mg base 2 (He.fAd K ("_law_number", none)) ["_law_script", "_law_k"] (sp__law_number K) := by
  have c__law_mixed : Cee P w K mg base 1 (He.fAd K ("_law_mixed", none)) ["_law_cell", "_law_k"] (sp__law_mixed K) := ok__law_mixed T
  refine cee_of T.d__law_number sc__law_number (fun _ _ _ _ _ _ us hl => match us, hl with | [_, _], _ => rfl) (fun vs H Q E h => sp2_len h) (fun cdv A outer s H vs Q E hr h => ⟨_, (pss_cons (ps_set (i := 2) sc__law_number.nd rfl (Or.inl rfl) (pe_ix ix_list (pe_op op_cat (pe_slice sl_list (pv 0) (po_some (pv 1)) (po_some (pe_op op_add (pv 1) pe_int))) (pe_lst (pa_cons (pe_op op_add (pe_op op_mul (pv 1) (pv 1)) pe_int) pa_nil))) pe_int (fun _ _ => rfl))) (pss_cons (ps_if (pt_cmpR op_eq (pe_op op_mod (pe_callB (cr_sum rfl) (by rfl) T.n_sum (by decide +kernel) (pa_cons (pe_slice sl_list (pv 0) po_none (po_some pe_int)) pa_nil)) pe_int) pe_int (nomark _)) (pss_one (ps_ret (pe_op op_mod (pv 2) (pe_op op_pow pe_int pe_int)))) pss_nil) (pss_one (ps_ret (pe_f c__law_mixed (hr.mono (by decide)) (takes_of rfl rfl rfl rfl) (by rfl) T.g__law_mixed (pa_cons (pv 2) (pa_cons (pv 1) pa_nil))))))), ?_⟩)
  obtain ⟨v0, v1, rfl, h⟩ := h
  dsimp only [cxOf, L2.start]
  obtain ⟨a, xs, j, rfl, rfl, h0, h1, hlen, ha, k⟩ := h
  walk_at "s"
  obtain ⟨ys, hys⟩ := cutV_ints xs (some j) (some (j + 1))
  rw [hys]
  intro b1 hb1
  have O1 := (Own.start (H := H)).new (o := .lst (ys.map V.int)) hb1
  have ha1 := O1.sq ha
  walk_at "s"
  intro b2 hb2
  have O2 := O1.new (o := .lst [V.int (j * j + 3)]) hb2
  walk_at "s"
  refine ⟨by
    have h3 : (ys.map V.int).length ≤ (xs.map V.int).length := by rw [← hys]; exact cutV_length _ _ _
    rw [List.length_map (as := xs)] at h3
    have h5 : (2000 : Nat) ≤ sizeLine := by decide
    rw [List.length_cons, List.length_nil]
    omega, fun b3 hb3 => ?_⟩
  have e1 : ys.map V.int ++ [V.int (j * j + 3)] = (ys ++ [j * j + 3]).map V.int := by rw [List.map_append]; rfl
  rw [e1]
  have O3 := O2.new (o := .lst ((ys ++ [j * j + 3]).map V.int)) hb3
  obtain ⟨y, hy, hat⟩ := at_ints (ns := ys ++ [j * j + 3]) (n := 0) (Int.le_refl _) (by rw [List.length_map, List.length_append, List.length_cons, List.length_nil]; omega)
  have ha3 := O3.sq ha
  walk_at "s"
  obtain ⟨zs, hzs⟩ := cutV_ints xs none (some 1)
  rw [hzs]
  intro b4 hb4
  have O4 := O3.new (o := .lst (zs.map V.int)) hb4
  have hs4 := SqL.of (K := K) (O4.get (a := b4) (o := .lst (zs.map V.int)) (.head _))
  have ha4 := O4.sq ha
  walk_at "s"
  refine if_ii (fun h => ?_) (fun h => ?_)
  · walk_at "s"
    exact k _ (O4.drop (List.nil_sublist _)) _ (Int.emod_nonneg _ (by decide)) (Int.emod_lt_of_pos _ (by decide))
  · walk_at "s"
    refine ask2 ⟨y, j, rfl, rfl, h0, h1, fun r r0 r1 => ?_⟩
    exact k _ (O4.drop (List.nil_sublist _)) r r0 r1
theorem sc__law_tasks : FnScope ["_law_m", "_law_low"] ["_law_m"] (defScope s__law_tasks) := ⟨rfl, rfl, rfl, by decide +kernel, rfl, by decide +kernel, by decide +kernel⟩
theorem ok__law_tasks {P : Program} {w : World} {K : PySem.W.Frag} {mg : Str → Option Value} {base : Heap} (T : Txt K mg) : Cee P w K mg base 1 (He.fAd K ("_law_tasks", none)) ["_law_m"] (sp__law_tasks K) := by
  refine cee_of T.d__law_tasks sc__law_tasks (fun _ _ _ _ _ _ us hl => match us, hl with | [_], _ => rfl) (fun vs H Q E h => sp1_len h) (fun cdv A outer s H vs Q E hr h => ⟨_, (pss_cons (ps_set (i := 1) sc__law_tasks.nd rfl (Or.inl rfl) (pe_ix ix_list (pe_lst (pa_cons pe_int (pa_cons (pe_op op_sub (pe_un un_neg pe_int) (pe_op op_mod (pv 0) (pe_op op_pow pe_int pe_int))) pa_nil))) (pe_op op_mod (pe_op op_fdiv (pv 0) pe_int) pe_int) (fun _ _ => rfl))) (pss_one (ps_ret (pe_slice sl_list (pe_lst (pa_cons pe_int (pa_cons pe_int (pa_cons (pe_op op_add (pe_op op_mod (pv 0) (pe_op op_pow pe_int pe_int)) pe_int) (pa_cons (pv 1) (pa_cons pe_int pa_nil)))))) po_none (po_some (pe_op op_add pe_int (pe_op op_mod (pe_op op_fdiv (pv 0) pe_int) pe_int))))))), ?_⟩)
  obtain ⟨v0, rfl, h⟩ := h
  dsimp only [cxOf, L2.start]
  obtain ⟨c, rfl, k⟩ := h
  walk_at "s"
  intro b1 hb1
  refine (Own.start (H := H)).nxtQ hb1 fun O1 => ?_
  obtain ⟨y, hy, hy0, hy1⟩ := at_cellB (n := c / 28 % 2) (lo := -1 - 10 ^ 59) (hi := 0) (O1.get (.head _)) (by omega) (by simp only [List.length_cons, List.length_nil]; omega) (fun v hv => by
    have h1 : 0 ≤ c % 10 ^ Int.toNat 59 := Int.emod_nonneg _ (by decide)
    have h2 : c % 10 ^ Int.toNat 59 < 10 ^ Int.toNat 59 := Int.emod_lt_of_pos _ (by decide)
    have h3 : (10 : Int) ^ Int.toNat 59 = 10 ^ 59 := rfl
    rw [h3] at h1 h2
    simp only [List.mem_cons, List.not_mem_nil, or_false] at hv
    rcases hv with rfl | rfl <;> exact ⟨_, rfl, by omega, by omega⟩)
  walk_at "s"
  intro b2 hb2
  have O2 := O1.new (o := .lst ([1, 2, c % 10 ^ Int.toNat 59 + 3, y, 12].map V.int)) hb2
  walk_at "s"
  obtain ⟨nn, hnn⟩ : ∃ nn : Nat, 2 + c / 7 % 4 = nn := ⟨(2 + c / 7 % 4).toNat, by omega⟩
  rw [hnn, cutV_to, ← List.map_take]
  intro b3 hb3
  have O3 := O2.new (o := .lst (([1, 2, c % 10 ^ Int.toNat 59 + 3, y, 12].take nn).map V.int)) hb3
  exact k _ b3 _ (O3.drop (.cons₂ _ (List.nil_sublist _))) (by rw [List.length_take]; simp only [List.length_cons, List.length_nil]; omega) (by rw [List.length_take]; simp only [List.length_cons, List.length_nil]; omega) (by rw [List.take_take, show min 2 nn = 2 by omega]; rfl) (fun h0 h1 t ht => by
    have e59 : c % 10 ^ Int.toNat 59 = c := Int.emod_eq_of_lt h0 (Int.lt_of_lt_of_le h1 (by decide))
    have ht := (List.take_sublist _ _).subset ht
    rw [e59] at ht
    simp only [List.mem_cons, List.not_mem_nil, or_false] at ht
    rcases ht with rfl | rfl | rfl | rfl | rfl <;> omega)
theorem sc__law_cells : FnScope ["_law_m", "_law_many", "_law_cells_here", "_law_k"] ["_law_m", "_law_many"] (defScope s__law_cells) := ⟨rfl, rfl, rfl, by decide +kernel, rfl, by decide +kernel, by decide +kernel⟩
theorem ok__law_cells {P : Program} {w : World} {K : PySem.W.Frag} {mg : Str → Option Value} {base : Heap} (T : Txt K mg) : Cee P w K mg base 1 (He.fAd K ("_law_cells", none)) ["_law_m", "_law_many"] (sp__law_cells K) := by
  refine cee_of T.d__law_cells sc__law_cells (fun _ _ _ _ _ _ us hl => match us, hl with | [_, _], _ => rfl) (fun vs H Q E h => sp2_len h) (fun cdv A outer s H vs Q E hr h => ⟨_, (pss_cons (ps_set (i := 2) sc__law_cells.nd rfl (Or.inl rfl) (pe_lst pa_nil)) (pss_cons (ps_for (passes_of rfl) rfl (PI.box (pi_range1 (by rfl) T.n_range (pa_cons (pv 1) pa_nil))) (pg_name (i := 3) sc__law_cells.nd rfl (Or.inl rfl)) (pss_cons (ps_expr (pe_bm PySem.F.plainAttrs_list PySem.F.slot_list_append PySem.F.type_list_append mt_append (pv 2) (pa_cons (pe_op op_mod (pe_op op_add (pv 0) (pe_op op_mul (pe_op op_mul pe_int (pv 3)) (pe_op op_mod (pe_op op_fdiv (pv 0) pe_int) pe_int))) pe_int) pa_nil))) (pss_one (ps_if (pt_cmpR op_eq (pe_op op_mod (pv 3) pe_int) pe_int (nomark _)) (pss_one (ps_set (i := 0) sc__law_cells.nd rfl (Or.inl rfl) (pe_op op_fdiv (pv 0) pe_int))) pss_nil)))) (pss_one (ps_ret (pv 2))))), ?_⟩)
  obtain ⟨v0, v1, rfl, h⟩ := h
  dsimp only [cxOf, L2.start]
  obtain ⟨m, n, rfl, rfl, m0, m1, n0, n1, k⟩ := h
  walk_at "s"
  intro b1 hb1
  have O1 := (Own.start (H := H)).new (o := .lst []) hb1
  walk_at "s"
  refine forR (lo := 0) (n := n.toNat) (fun j σ H' => ∃ (m' : Int) (cs : List Int) (v3 : Option V), σ = [some (.int m'), some (.int n), some (.ref b1), v3] ∧ 0 ≤ m' ∧ m' < 10 ^ 40 ∧ cs.length = j ∧ Own H H' [] [(b1, .lst (cs.map V.int))]) ⟨m, [], _, rfl, m0, m1, rfl, O1⟩ ?_ ?_
  · rintro j σ H' hj ⟨m', cs, v3, rfl, m0', m1', hl, O2⟩
    have hlen : (cs.map V.int).length < 100000 := by rw [List.length_map]; omega
    walk_at "s"
    have O3 := O2.wr (a := b1) (o' := .lst ((cs ++ [(m' + 37 * (0 + (j : Int)) * (m' / 256 % 7)) % 256]).map V.int)) .here
    rw [List.map_append] at O3
    refine if_ii (fun h => ?_) (fun h => ?_)
    · walk_at "s"
      refine ⟨m' / 64, cs ++ [(m' + 37 * (0 + (j : Int)) * (m' / 256 % 7)) % 256], _, rfl, by omega, by omega, by rw [List.length_append, hl]; rfl, ?_⟩
      rw [List.map_append]
      exact O3
    · refine ⟨m', cs ++ [(m' + 37 * (0 + (j : Int)) * (m' / 256 % 7)) % 256], _, rfl, by omega, by omega, by rw [List.length_append, hl]; rfl, ?_⟩
      rw [List.map_append]
      exact O3
  · rintro σ H' ⟨m', cs, v3, rfl, m0', m1', hl, O2⟩
    walk_at "s"
    exact k _ b1 cs O2 (by omega)

def szF (c : Int) : Int := if c % 4 = 0 then 2 else if c % 4 = 1 then 3 else if c % 4 = 2 then 2 + c / 4 % 5 else 2 + c / 4 % 39
def szS (c : Int) : Int := if c / 9 % 3 = 0 then c / 200 % 8 else if c / 9 % 3 = 1 then c / 200 % 61 else 60
theorem szF_at (c : Int) : atI [V.int 2, V.int 3, V.int (2 + c / 4 % 5), V.int (2 + c / 4 % 39)] (c % 4) = some (.int (szF c)) := by
  have h : c % 4 = 0 ∨ c % 4 = 1 ∨ c % 4 = 2 ∨ c % 4 = 3 := by omega
  unfold szF
  rcases h with h | h | h | h <;> rw [h]
  · rfl
  · rfl
  · rfl
  · rfl
theorem szS_at (c : Int) : atI [V.int (c / 200 % 8), V.int (c / 200 % 61), V.int 60] (c / 9 % 3) = some (.int (szS c)) := by
  have h : c / 9 % 3 = 0 ∨ c / 9 % 3 = 1 ∨ c / 9 % 3 = 2 := by omega
  unfold szS
  rcases h with h | h | h <;> rw [h]
  · rfl
  · rfl
  · rfl
theorem szF_b (c : Int) : 2 ≤ szF c ∧ szF c ≤ 40 := by
  unfold szF
  (repeat' split) <;> omega
theorem szS_b (c : Int) : 0 ≤ szS c ∧ szS c ≤ 60 := by
  unfold szS
  (repeat' split) <;> omega
def sp__law_sizes (K : PySem.W.Frag) : Sp := sp1 fun x H Q _ => ∃ c : Int, x = .int c ∧ ∀ H' T (f s : Nat), Own H H' [] [] → H' T = some (.tup [.int f, .int s]) → 2 ≤ f → f ≤ 40 → s ≤ 60 → f = (szF c).toNat → s = (szS c).toNat → Q (.ref T) H'
theorem sc__law_sizes : FnScope ["_law_m", "_law_frames"] ["_law_m"] (defScope s__law_sizes) := ⟨rfl, rfl, rfl, by decide +kernel, rfl, by decide +kernel, by decide +kernel⟩
theorem ok__law_sizes {P : Program} {w : World} {K : PySem.W.Frag} {mg : Str → Option Value} {base : Heap} (T : Txt K mg) : Cee P w K mg base 1 (He.fAd K ("_law_sizes", none)) ["_law_m"] (sp__law_sizes K) := by
  refine cee_of T.d__law_sizes sc__law_sizes (fun _ _ _ _ _ _ us hl => match us, hl with | [_], _ => rfl) (fun vs H Q E h => sp1_len h) (fun cdv A outer s H vs Q E hr h => ⟨_, (pss_cons (ps_set (i := 1) sc__law_sizes.nd rfl (Or.inl rfl) (pe_ix ix_list (pe_lst (pa_cons pe_int (pa_cons pe_int (pa_cons (pe_op op_add pe_int (pe_op op_mod (pe_op op_fdiv (pv 0) pe_int) pe_int)) (pa_cons (pe_op op_add pe_int (pe_op op_mod (pe_op op_fdiv (pv 0) pe_int) pe_int)) pa_nil))))) (pe_op op_mod (pv 0) pe_int) (fun _ _ => rfl))) (pss_one (ps_ret (pe_tup (pa_cons (pv 1) (pa_cons (pe_ix ix_list (pe_lst (pa_cons (pe_op op_mod (pe_op op_fdiv (pv 0) pe_int) pe_int) (pa_cons (pe_op op_mod (pe_op op_fdiv (pv 0) pe_int) pe_int) (pa_cons pe_int pa_nil)))) (pe_op op_mod (pe_op op_fdiv (pv 0) pe_int) pe_int) (fun _ _ => rfl)) pa_nil)))))), ?_⟩)
  obtain ⟨v0, rfl, h⟩ := h
  dsimp only [cxOf, L2.start]
  obtain ⟨c, rfl, k⟩ := h
  have hf := szF_at c
  have hg := szS_at c
  obtain ⟨f0, f1⟩ := szF_b c
  obtain ⟨g0, g1⟩ := szS_b c
  walk_at "s"
  intro b1 hb1
  refine (Own.start (H := H)).nxtQ hb1 fun O1 => ?_
  have hb1' := O1.get (.head _)
  walk_at "s"
  intro b2 hb2
  refine O1.nxtQ hb2 fun O2 => ?_
  have hb2' := O2.get (.head _)
  walk_at "s"
  intro T hT
  have O3 := O2.newT (o := .tup [.int (szF c), .int (szS c)]) hT
  refine k _ T (szF c).toNat (szS c).toNat (O3.drop (List.nil_sublist _)) ?_ (by omega) (by omega) (by omega) rfl rfl
  rw [Int.toNat_of_nonneg (by omega), Int.toNat_of_nonneg g0]
  exact upd_same

def sp__law_deed (K : PySem.W.Frag) : Sp := sp2 fun x y H Q _ => ∃ (m : Int) (a : Addr) (ts : List Int), x = .int m ∧ y = .ref a ∧ 0 ≤ m ∧ m < 10 ^ 40 ∧ H a = some (.lst (ts.map V.int)) ∧ 2 ≤ ts.length ∧ ts.length ≤ 5 ∧
  ∀ H' T b (d : RDeed), Own H H' [] (d.cel b) → H' T = some (.tup (d.vs b)) → d.fine → (∀ t, (d = .begin t ∨ ∃ o, d = .copy o t) → t ∈ ts) → Q (.ref T) H'
/-! ### the law's model: rooms, stands, total, pokes -/
abbrev Sl := List (Int × Addr × List (Int × Nat))
abbrev slD (s : Sl) : List (Key × V) := s.map fun x => (Sum.inl x.1, V.ref x.2.1)
abbrev srD (l : List (Int × Nat)) : List (Key × V) := l.map fun x => (Sum.inl x.1, V.int (x.2 : Nat))
abbrev cSr (x : Int × Addr × List (Int × Nat)) : Addr × HO := (x.2.1, .dK (srD x.2.2))
def cSl (D : Addr) (s : Sl) : Cells := (D, .dK (slD s)) :: s.map cSr
structure MdG where
  D : Addr
  RD : Addr
  SD : Addr
  tot : Int
  c : Nat
  w : Wl
  s : Sl
def mdD (M : MdG) : List (Key × V) := [(Sum.inr "rooms", .ref M.RD), (Sum.inr "stands", .ref M.SD), (Sum.inr "total", .int M.tot), (Sum.inr "pokes", .int M.c)]
def cMd (M : MdG) : Cells := (M.D, .dK (mdD M)) :: (cWl M.RD M.w ++ cSl M.SD M.s)
def stM (s : Sl) (o : Ow2) : Nat := ((s.lookup o.1).bind fun x => x.2.lookup o.2).getD 0
def sp__law_model (K : PySem.W.Frag) : Sp := sp1 fun x H Q _ => ∃ t : Int, x = .int t ∧ ∀ H' M, Own H H' [] (cMd M) → M.w = [] → M.s = [] → M.tot = t → M.c = 0 → Q (.ref M.D) H'
def sp__law_held (K : PySem.W.Frag) : Sp := sp1 fun x H Q _ => ∃ M, x = .ref M.D ∧ M.w.length ≤ 1000 ∧ Own H H (adr (cMd M)) (cMd M) ∧ ∀ H', Own H H' (adr (cMd M)) (cMd M) → Q (.int (heldA M.w.abs)) H'
def sp__law_stretch (K : PySem.W.Frag) : Sp := sp3 fun x y z H Q _ => ∃ (a : Addr) (r : Ch) (g n : Int), x = .ref a ∧ y = .int g ∧ z = .int n ∧ H a = some (.dK (Ch.kvs r)) ∧ ∀ H', Own H H' [] [] → Q (.bl (!badA g n && allA r.pure g n.toNat)) H'
theorem heldM_sum (w : Wl) : (w.map fun x => ((x.2.2.length : Nat) : Int)).sum = heldA w.abs := by
  unfold heldA
  induction w with
  | nil => rfl
  | cons x r ih =>
    rw [List.map_cons, List.sum_cons, ih]
    show _ = (((((x.1, Ch.pure x.2.2) :: Wl.abs r).map fun x => x.2.length).sum : Nat) : Int)
    rw [List.map_cons, List.sum_cons]
    exact (congrArg (fun z : Nat => (z : Int) + _) (List.length_map _).symm).trans (Int.natCast_add _ _).symm
theorem sc__law_deed : FnScope ["_law_m", "_law_tasks_here", "_law_kind", "_law_rest", "_law_task", "_law_address"] ["_law_m", "_law_tasks_here"] (defScope s__law_deed) := ⟨rfl, rfl, rfl, by decide +kernel, rfl, by decide +kernel, by decide +kernel⟩
theorem ok__law_deed {P : Program} {w : World} {K : PySem.W.Frag} {mg : Str → Option Value} {base : Heap} (T : Txt K mg) : Cee P w K mg base 2 (He.fAd K ("_law_deed", none)) ["_law_m", "_law_tasks_here"] (sp__law_deed K) := by
  have c__law_cells : Cee P w K mg base 1 (He.fAd K ("_law_cells", none)) ["_law_m", "_law_many"] (sp__law_cells K) := ok__law_cells T
  refine cee_of T.d__law_deed sc__law_deed (fun _ _ _ _ _ _ us hl => match us, hl with | [_, _], _ => rfl) (fun vs H Q E h => sp2_len h) (fun cdv A outer s H vs Q E hr h => ⟨_, (pss_cons (ps_par (i := 2) (j := 3) rfl sc__law_deed.nd rfl rfl (by decide) rfl rfl (pa_cons (pe_op op_mod (pv 0) pe_int) (pa_cons (pe_op op_fdiv (pe_op op_fdiv (pv 0) pe_int) (pe_callB call_len_seq (by rfl) T.n_len (by decide +kernel) (pa_cons (pv 1) pa_nil))) pa_nil)) (by rfl)) (pss_cons (ps_set (i := 4) sc__law_deed.nd rfl (Or.inl rfl) (pe_ix ix_list (pv 1) (pe_op op_mod (pe_op op_fdiv (pv 0) pe_int) (pe_callB call_len_seq (by rfl) T.n_len (by decide +kernel) (pa_cons (pv 1) pa_nil))) (fun _ _ => rfl))) (pss_cons (ps_if (pt_cmpR op_lt (pv 2) pe_int (nomark _)) (pss_one (ps_ret (pe_tup (pa_cons (pe_ix ix_list (pe_lst (pa_cons pe_str (pa_cons pe_str pa_nil))) (pe_op op_mul (pv 2) (pe_callTy call_intB (by rfl) T.n_int (by decide +kernel) (pa_cons (pe_cmpR op_eq (pe_op op_mod (pv 3) pe_int) pe_int (nomark _)) pa_nil))) (fun _ _ => rfl)) (pa_cons (pv 4) pa_nil))))) pss_nil) (pss_cons (ps_if (pt_cmpR op_lt (pv 2) pe_int (nomark _)) (pss_one (ps_ret (pe_tup (pa_cons pe_str (pa_cons (pv 4) (pa_cons (pe_op op_sub (pe_op op_mod (pv 3) pe_int) pe_int) (pa_cons (pe_ix ix_list (pe_lst (pa_cons (pe_op op_mod (pe_op op_fdiv (pv 3) pe_int) pe_int) (pa_cons (pe_op op_sub (pe_op op_mod (pe_op op_fdiv (pv 3) pe_int) pe_int) pe_int) pa_nil))) (pe_op op_mod (pe_op op_fdiv (pv 3) pe_int) pe_int) (fun _ _ => rfl)) pa_nil))))))) pss_nil) (pss_cons (ps_if (pt_cmpR op_eq (pv 2) pe_int (nomark _)) (pss_one (ps_ret (pe_tup (pa_cons pe_str (pa_cons (pv 4) (pa_cons (pe_op op_sub (pe_op op_mod (pv 3) pe_int) pe_int) (pa_cons (pe_op op_mod (pe_op op_fdiv (pv 3) pe_int) pe_int) pa_nil))))))) pss_nil) (pss_cons (ps_if (pt_cmpR op_eq (pv 2) pe_int (nomark _)) (pss_one (ps_ret (pe_tup (pa_cons pe_str (pa_cons (pv 4) (pa_cons (pe_ix ix_list (pv 1) (pe_op op_mod (pv 3) (pe_callB call_len_seq (by rfl) T.n_len (by decide +kernel) (pa_cons (pv 1) pa_nil))) (fun _ _ => rfl)) pa_nil)))))) pss_nil) (pss_cons (ps_set (i := 5) sc__law_deed.nd rfl (Or.inl rfl) (pe_ix ix_list (pe_lst (pa_cons (pe_op op_mod (pv 3) pe_int) (pa_cons (pe_op op_sub (pe_op op_mod (pv 3) pe_int) pe_int) pa_nil))) (pe_op op_mod (pe_op op_fdiv (pv 3) pe_int) pe_int) (fun _ _ => rfl))) (pss_cons (ps_if (pt_cmpR op_lt (pv 2) pe_int (nomark _)) (pss_one (ps_ret (pe_tup (pa_cons pe_str (pa_cons (pv 4) (pa_cons (pv 5) (pa_cons (pe_ix ix_list (pe_lst (pa_cons (pe_op op_mod (pe_op op_fdiv (pv 3) pe_int) pe_int) (pa_cons (pe_op op_sub (pe_op op_mod (pe_op op_fdiv (pv 3) pe_int) pe_int) pe_int) pa_nil))) (pe_op op_mod (pe_op op_fdiv (pv 3) pe_int) pe_int) (fun _ _ => rfl)) pa_nil))))))) pss_nil) (pss_one (ps_ret (pe_tup (pa_cons pe_str (pa_cons (pv 4) (pa_cons (pv 5) (pa_cons (pe_f c__law_cells (hr.mono (by decide)) (takes_of rfl rfl rfl rfl) (by rfl) T.g__law_cells (pa_cons (pe_op op_fdiv (pv 3) pe_int) (pa_cons (pe_op op_mod (pe_op op_fdiv (pv 3) pe_int) pe_int) pa_nil))) pa_nil))))))))))))))), ?_⟩)
  obtain ⟨v0, v1, rfl, h⟩ := h
  dsimp only [cxOf, L2.start]
  obtain ⟨m, a, ts, rfl, rfl, m0, m1, ha, h2, h5, k⟩ := h
  have hlen : (0 : Int) < ((ts.map V.int).length : Nat) := by rw [List.length_map]; omega
  have hlen2 : ((ts.map V.int).length : Int) ≤ 5 := by rw [List.length_map]; omega
  have hmm : 0 ≤ m / 16 % ((ts.map V.int).length : Nat) := Int.emod_nonneg _ (by omega)
  have hmx : m / 16 % ((ts.map V.int).length : Nat) < ((ts.map V.int).length : Nat) := Int.emod_lt_of_pos _ hlen
  obtain ⟨t0, ht0, hat0⟩ := at_ints (ns := ts) hmm hmx
  walk_at "s"
  have hrr : ∃ rr : Int, m / 16 / ((ts.map V.int).length : Nat) = rr ∧ 0 ≤ rr ∧ rr < 10 ^ 40 := ⟨_, rfl, Int.ediv_nonneg (by omega) (by omega), Int.lt_of_le_of_lt (Int.ediv_le_self _ (by omega)) (by omega)⟩
  obtain ⟨rr, hrr, rr0, rr1⟩ := hrr
  dsimp only
  rw [hrr]
  refine if_d (fun h1 => ?_) (fun h1 => ?_)
  · walk_at "s"
    intro b1 hb1
    refine (Own.start (H := H)).nxtQ hb1 fun O1 => ?_
    by_cases u : m % 16 = 1 ∧ rr % 4 = 0
    · have hat : atI [V.str "begin", V.str "close"] (m % 16 * if decide (V.int (rr % 4) = V.int 0) = true then 1 else 0) = some (.str "close") := by
        rw [u.1, if_pos (decide_eq_true (congrArg V.int u.2))]
        rfl
      walk_at "s"
      intro T hT
      exact k _ T T (.close t0) ((O1.newT (o := .tup [.str "close", .int t0]) hT).drop (List.nil_sublist _)) upd_same True.intro (fun t h => by rcases h with h | ⟨o, h⟩ <;> first | (cases h; done) | (cases h; first | exact List.mem_of_getElem? ht0 | exact List.mem_of_getElem? ht1))
    · have hat : atI [V.str "begin", V.str "close"] (m % 16 * if decide (V.int (rr % 4) = V.int 0) = true then 1 else 0) = some (.str "begin") := by
        have e : (m % 16 * if decide (V.int (rr % 4) = V.int 0) = true then 1 else 0) = 0 := by
          split
          · rename_i z
            have z2 : rr % 4 = 0 := V.int.inj (of_decide_eq_true z)
            have : ¬ m % 16 = 1 := fun y => u ⟨y, z2⟩
            omega
          · exact Int.mul_zero _
        rw [e]
        rfl
      walk_at "s"
      intro T hT
      exact k _ T T (.begin t0) ((O1.newT (o := .tup [.str "begin", .int t0]) hT).drop (List.nil_sublist _)) upd_same True.intro (fun t h => by rcases h with h | ⟨o, h⟩ <;> first | (cases h; done) | (cases h; first | exact List.mem_of_getElem? ht0 | exact List.mem_of_getElem? ht1))
  · walk_at "s"
    refine if_d (fun h2 => ?_) (fun h2 => ?_)
    · walk_at "s"
      intro b1 hb1
      refine (Own.start (H := H)).nxtQ hb1 fun O1 => ?_
      obtain ⟨y, hy⟩ := at_cell (n := rr / 4620 % 2) (O1.get (.head _)) (by omega) (by simp only [List.length_cons, List.length_nil]; omega) rfl
      walk_at "s"
      intro T hT
      exact k _ T b1 (.map t0 (rr % 66 - 1) y) ((O1.newT (o := .tup [.str "map", .int t0, .int (rr % 66 - 1), .int y]) hT).drop (List.nil_sublist _)) upd_same True.intro (fun t h => by rcases h with h | ⟨o, h⟩ <;> first | (cases h; done) | (cases h; first | exact List.mem_of_getElem? ht0 | exact List.mem_of_getElem? ht1))
    · walk_at "s"
      refine if_ii (fun h3 => ?_) (fun h3 => ?_)
      · walk_at "s"
        intro T hT
        exact k _ T T (.drop t0 (rr % 66 - 1) (rr / 66 % 9)) ((Own.start (H := H)).newT (o := .tup [.str "drop", .int t0, .int (rr % 66 - 1), .int (rr / 66 % 9)]) hT) upd_same True.intro (fun t h => by rcases h with h | ⟨o, h⟩ <;> first | (cases h; done) | (cases h; first | exact List.mem_of_getElem? ht0 | exact List.mem_of_getElem? ht1))
      · walk_at "s"
        refine if_ii (fun h4 => ?_) (fun h4 => ?_)
        · obtain ⟨t1, ht1, hat1⟩ := at_ints (ns := ts) (n := rr % ((ts.map V.int).length : Nat)) (Int.emod_nonneg _ (by omega)) (Int.emod_lt_of_pos _ hlen)
          walk_at "s"
          intro T hT
          exact k _ T T (.copy t0 t1) ((Own.start (H := H)).newT (o := .tup [.str "copy", .int t0, .int t1]) hT) upd_same True.intro (fun t h => by rcases h with h | ⟨o, h⟩ <;> first | (cases h; done) | (cases h; first | exact List.mem_of_getElem? ht0 | exact List.mem_of_getElem? ht1))
        · walk_at "s"
          intro b1 hb1
          refine (Own.start (H := H)).nxtQ hb1 fun O1 => ?_
          obtain ⟨y, hy⟩ := at_cell (n := rr / 512 % 2) (O1.get (.head _)) (by omega) (by simp only [List.length_cons, List.length_nil]; omega) rfl
          walk_at "s"
          refine if_d (fun h5 => ?_) (fun h5 => ?_)
          · walk_at "s"
            intro b2 hb2
            refine O1.nxtQ hb2 fun O2 => ?_
            obtain ⟨z, hz⟩ := at_cell (n := rr / 81920 % 2) (O2.get (.head _)) (by omega) (by simp only [List.length_cons, List.length_nil]; omega) rfl
            walk_at "s"
            intro T hT
            exact k _ T T (.peek t0 y z) ((O2.newT (o := .tup [.str "peek", .int t0, .int y, .int z]) hT).drop (List.nil_sublist _)) upd_same True.intro (fun t h => by rcases h with h | ⟨o, h⟩ <;> first | (cases h; done) | (cases h; first | exact List.mem_of_getElem? ht0 | exact List.mem_of_getElem? ht1))
          · walk_at "s"
            refine ask2 ⟨rr / 99, rr / 1024 % 30, rfl, rfl, by omega, by omega, by omega, by omega, fun H3 b3 cs O3 hcl => ?_⟩
            walk_at "s"
            intro T hT
            have O4 := (O1.drop (cs' := []) (List.nil_sublist _)).callN O3
            exact k _ T b3 (.poke t0 y cs) ((O4.newT (o := .tup [.str "poke", .int t0, .int y, .ref b3]) hT)) upd_same (by show cs.length ≤ 64; omega) (fun t h => by rcases h with h | ⟨o, h⟩ <;> first | (cases h; done) | (cases h; first | exact List.mem_of_getElem? ht0 | exact List.mem_of_getElem? ht1))
theorem sc__law_model : FnScope ["_law_total"] ["_law_total"] (defScope s__law_model) := ⟨rfl, rfl, rfl, by decide +kernel, rfl, by decide +kernel, by decide +kernel⟩
theorem ok__law_model {P : Program} {w : World} {K : PySem.W.Frag} {mg : Str → Option Value} {base : Heap} (T : Txt K mg) : Cee P w K mg base 1 (He.fAd K ("_law_model", none)) ["_law_total"] (sp__law_model K) := by
  refine cee_of T.d__law_model sc__law_model (fun _ _ _ _ _ _ us hl => match us, hl with | [_], _ => rfl) (fun vs H Q E h => sp1_len h) (fun cdv A outer s H vs Q E hr h => ⟨_, (pss_one (ps_ret (pe_disp (pps_cons pe_str pe_dnewK (pps_cons pe_str pe_dnewK (pps_cons pe_str (pv 0) (pps_cons pe_str pe_int pps_nil)))) (by rfl) (by rfl) (fun z => by cases z) (by decide)))), ?_⟩)
  obtain ⟨v0, rfl, h⟩ := h
  dsimp only [cxOf, L2.start]
  obtain ⟨t, rfl, k⟩ := h
  dsimp only [tRet, tDisp]
  walk_at "s"
  intro D hD
  have O1 := (Own.start (H := H)).new (o := .dK []) hD
  walk_at "s"
  intro RD hRD
  have O2 := O1.new (o := .dK []) hRD
  walk_at "s"
  intro SD hSD
  have O3 := O2.new (o := .dK []) hSD
  have hD3 := O3.get (a := D) (o := .dK []) (.tail _ (.tail _ (.head _)))
  walk_at "s"
  refine ⟨(rfl : _ = List.map (fun kv : Key × V => (kV kv.1, kv.2)) [(Sum.inr "rooms", V.ref RD), (Sum.inr "stands", V.ref SD), (Sum.inr "total", V.int t), (Sum.inr "pokes", V.int 0)]), by show 4 ≤ 15; decide, ?_⟩
  refine k _ ⟨D, RD, SD, t, 0, [], []⟩ ?_ rfl rfl rfl rfl
  have O4 := O3.wr (a := D) (o' := .dK (mdD ⟨D, RD, SD, t, 0, [], []⟩)) (.there (.there .here))
  refine O4.perm ?_
  exact (List.Perm.swap _ _ _).trans (((List.Perm.swap _ _ _).cons _).trans (List.Perm.swap _ _ _))
theorem sc__law_held : FnScope ["_law_model_here", "_law_room"] ["_law_model_here"] (defScope s__law_held) := ⟨rfl, rfl, rfl, by decide +kernel, rfl, by decide +kernel, by decide +kernel⟩
theorem ok__law_held {P : Program} {w : World} {K : PySem.W.Frag} {mg : Str → Option Value} {base : Heap} (T : Txt K mg) : Cee P w K mg base 1 (He.fAd K ("_law_held", none)) ["_law_model_here"] (sp__law_held K) := by
  refine cee_of T.d__law_held sc__law_held (fun _ _ _ _ _ _ us hl => match us, hl with | [_], _ => rfl) (fun vs H Q E h => sp1_len h) (fun cdv A outer s H vs Q E hr h => ⟨_, (pss_one (ps_ret (pe_callB (cr_sum rfl) (by rfl) T.n_sum (by decide +kernel) (pa_cons (pe_lock (pe_lc (own := [("_law_room", 1)]) (by rfl) sc__law_held.nd (PI.box (pi_values (pe_dget (hu_of hr) (pv 0) pe_str (fun _ _ => rfl)))) (blkOk_by (own := [("_law_room", 1)]) (N := ["_law_model_here", "_law_room"]) (sc := defScope s__law_held) (by decide +kernel)) (fun _ _ _ _ _ => (pg_name (i := 1) sc__law_held.nd rfl (Or.inl rfl))) (fun _ _ _ _ _ => pts_nil) (fun _ _ _ _ _ => (pe_callB call_lenD (by rfl) T.n_len (by decide +kernel) (pa_cons (pv 1) pa_nil))))) pa_nil)))), ?_⟩)
  obtain ⟨v0, rfl, h⟩ := h
  dsimp only [cxOf, L2.start]
  obtain ⟨M, rfl, hl, O, k⟩ := h
  have hD := O.get (a := M.D) (o := .dK (mdD M)) (.head _)
  have hv : valV (mdD M) (Sum.inr "rooms") = some (.ref M.RD) := rfl
  have hR := O.get (a := M.RD) (o := .dK (wlD M.w)) (.tail _ (.head _))
  walk_at "s"
  refine ⟨_, hR, True.intro, fun od => ?_⟩
  have O1 := O.wr (a := M.RD) (o' := .frz od (.dK (wlD M.w))) (.there .here)
  have hD1 := O1.get (a := M.D) (o := .dK (mdD M)) (.head _)
  walk_at "s"
  refine lcW (walk_values (d := M.RD) (o := od) (kvs := wlD M.w)) (fun L j H2 => Own H H2 (adr (cMd M)) ((L, .lst ((M.w.take j).map fun x => V.int x.2.2.length)) :: (M.D, .dK (mdD M)) :: (M.RD, .frz od (.dK (wlD M.w))) :: (cRms M.w ++ cSl M.SD M.s))) (fun L hL => O1.new hL) (fun L j H2 _ O => O.get (.tail _ (.tail _ (.head _)))) ?_ ?_
  · rintro L j x H2 H3 hj O2 ⟨rfl, k2, hx⟩
    obtain ⟨y, hy⟩ : ∃ y, M.w[j]? = some y := ⟨M.w[j]'(by simpa using hj), List.getElem?_eq_getElem _⟩
    rw [List.getElem?_map, hy] at hx
    cases hx
    have hr := O2.get (a := y.2.1) (o := .dK (Ch.kvs y.2.2)) (.tail _ (.tail _ (.tail _ (List.mem_append_left _ (List.mem_flatMap.mpr ⟨y, List.mem_of_getElem? hy, .head _⟩)))))
    have hlen : ((M.w.take j).map fun x => V.int x.2.2.length).length < 100000 := by
      rw [List.length_map, List.length_take]
      omega
    walk_at "s"
    have O3 := O2.wr (o' := .lst ((M.w.take j).map (fun x => V.int x.2.2.length) ++ [V.int (Ch.kvs y.2.2).length])) .here
    rw [take_succ hy, List.map_append]
    rw [List.length_map] at O3 ⊢
    exact ⟨O3⟩
  · rintro L H2 O2
    rw [show (wlD M.w).length = M.w.length from List.length_map _, List.take_length] at O2
    refine ⟨O2.get (.tail _ (.tail _ (.head _))), ?_⟩
    have O3 := O2.wr (a := M.RD) (o' := .dK (wlD M.w)) (.there (.there .here))
    have hs : SqL K (upd H2 M.RD (.dK (wlD M.w))) L ((M.w.map fun x => ((x.2.2.length : Nat) : Int)).map V.int) := by
      rw [List.map_map]
      exact SqL.of (O3.get (.head _))
    walk_at "s"
    rw [heldM_sum]
    exact k _ (O3.drop (.cons _ (.refl _)))
theorem sc__law_stretch : FnScope ["_law_room", "_law_address", "_law_many", "_law_at"] ["_law_room", "_law_address", "_law_many"] (defScope s__law_stretch) := ⟨rfl, rfl, rfl, by decide +kernel, rfl, by decide +kernel, by decide +kernel⟩
theorem ok__law_stretch {P : Program} {w : World} {K : PySem.W.Frag} {mg : Str → Option Value} {base : Heap} (T : Txt K mg) : Cee P w K mg base 1 (He.fAd K ("_law_stretch", none)) ["_law_room", "_law_address", "_law_many"] (sp__law_stretch K) := by
  refine cee_of T.d__law_stretch sc__law_stretch (fun _ _ _ _ _ _ us hl => match us, hl with | [_, _, _], _ => rfl) (fun vs H Q E h => sp3_len h) (fun cdv A outer s H vs Q E hr h => ⟨_, (pss_cons (ps_if (pt_cmpR op_lt (pv 2) pe_int (nomark _)) (pss_one (ps_ret pe_bl)) pss_nil) (pss_cons (PS.box (ps_if (PW.pt (pw_and (pt_cmpR op_gt (pv 2) pe_int (nomark _)) (pw_and1 (PW.pt (pw_or (pt_cmpR op_lt (pv 1) pe_int (nomark _)) (pw_or1 (pt_cmpR op_gt (pe_op op_add (pv 1) (pv 2)) pe_int (nomark _)))))))) (pss_one (ps_ret pe_bl)) pss_nil)) (pss_one (ps_ret (pe_or (pe_cmpR op_eq (pv 2) pe_int (nomark _)) (pe_one (pe_callB (cr_all rfl) (by rfl) T.n_all (by decide +kernel) (pa_cons (pe_lc (own := [("_law_at", 3)]) (by rfl) sc__law_stretch.nd (PI.box (pi_range2W (by rfl) T.n_range (pa_cons (pv 1) (pa_cons (pe_op op_add (pv 1) (pv 2)) pa_nil)))) (blkOk_by (own := [("_law_at", 3)]) (N := ["_law_room", "_law_address", "_law_many", "_law_at"]) (sc := defScope s__law_stretch) (by decide +kernel)) (fun _ _ _ _ _ => (pg_name (i := 3) sc__law_stretch.nd rfl (Or.inl rfl))) (fun _ _ _ _ _ => pts_nil) (fun _ _ _ _ _ => (pe_cmp (pc_din (hu_of hr) (pe_op op_fdiv (pv 3) pe_int) (pv 0)) (by with_unfolding_all rfl)))) pa_nil)))))))), ?_⟩)
  obtain ⟨v0, v1, v2, rfl, h⟩ := h
  dsimp only [cxOf, L2.start]
  obtain ⟨a, r, g, n, rfl, rfl, rfl, ha, k⟩ := h
  have kf : badA g n = true → Q (.bl false) H := fun hb => by
    have := k _ Own.start
    rw [hb] at this
    exact this
  walk_at "s"
  refine if_d (fun h1 => ?_) (fun h1 => ?_)
  · walk_at "s"
    exact kf (decide_eq_true (.inl h1))
  walk_at "s"
  refine cutS (fun σ' H2 => σ' = [some (.ref a), some (.int g), some (.int n), none] ∧ H2 = H ∧ badA g n = false) (fun nx hn => ?_) ?_
  · walk_at "s"
    refine if_d (fun h2 => ?_) (fun h2 => ?_)
    · walk_at "s"
      refine if_d (fun h3 => ?_) (fun h3 => ?_)
      · walk_at "s"
        exact kf (decide_eq_true (.inr ⟨h2, .inl h3⟩))
      walk_at "s"
      refine if_d (fun h4 => ?_) (fun h4 => ?_)
      · walk_at "s"
        exact kf (decide_eq_true (by omega))
      · exact hn _ _ ⟨rfl, rfl, decide_eq_false (by omega)⟩
    · exact hn _ _ ⟨rfl, rfl, decide_eq_false (by omega)⟩
  rintro σ' H2 ⟨rfl, rfl, hb⟩
  walk_at "s"
  have hb' := of_decide_eq_false hb
  refine if_ii (fun h5 => ?_) (fun h5 => ?_)
  · subst h5
    have := k _ Own.start
    rw [hb] at this
    exact this
  · walk_at "s"
    refine lcR (lo := g) (n := (g + n - g).toNat) (fun L j H3 => Own H2 H3 [] [(L, .lst (((List.range j).map fun i : Nat => (r.lookup ((g + i) / 8)).isSome).map V.bl))]) (fun L hL => Own.start.new hL) ?_ ?_
    · rintro L j H3 hj O3
      have ha3 := O3.fr0 ha
      have hlen : (((List.range j).map fun i : Nat => (r.lookup ((g + i) / 8)).isSome).map V.bl).length < 100000 := by
        rw [List.length_map, List.length_map, List.length_range]
        omega
      have hL3 := O3.get (a := L) (.head _)
      have hlk := Ch.lookV r ((g + j) / 8)
      walk_at "s"
      rw [hlk, Option.isSome_map, List.range_succ, List.map_append, List.map_append]
      exact ⟨O3.wr .here⟩
    · rintro L H3 O3
      refine ⟨L, _, rfl, SqL.of (O3.get (.head _)), ?_⟩
      have := k _ (O3.drop (List.nil_sublist _))
      rw [hb] at this
      have e : ((List.range (g + n - g).toNat).map fun i : Nat => (r.lookup ((g + i) / 8)).isSome).all id = allA r.pure g n.toNat := by
        unfold allA
        rw [List.all_map, show (g + n - g) = n by omega]
        congr 1
        funext i
        show (r.lookup ((g + i) / 8)).isSome = (r.pure.lookup ((g + i) / 8)).isSome
        rw [Ch.look_abs, Option.isSome_map]
      rw [e]
      exact this

/-! ## the law's stands, in plain words -/
abbrev ASr := List (Int × Nat)
abbrev ASl := List (Int × ASr)
abbrev Sl.abs (s : Sl) : ASl := s.map fun x => (x.1, x.2.2)
def stepL (a : Int) (x : ASr × Nat) (k : Nat) : ASr × Nat := if k = 0 ∨ (a + (k : Nat)) % 8 = 0 then (setA x.1 ((a + (k : Nat)) / 8) (x.2 + 1), x.2 + 1) else x
def pokeL (a : Int) (n : Nat) (x : ASr × Nat) : ASr × Nat := (List.range n).foldl (stepL a) x
def semS (s : ASl) (c : Nat) : RDeed → ASl × Nat
  | .begin t => (s ++ [(t, [])], c)
  | .close t => (dropA s t, c)
  | .map t p n => (setA s t ((s.lookup t).getD [] ++ (pgs p n.toNat).map fun q => (q, 0)), c)
  | .drop t p n => (setA s t ((pgs p n.toNat).foldl dropA ((s.lookup t).getD [])), c)
  | .peek _ _ _ => (s, c)
  | .poke t a cs => (setA s t (pokeL a cs.length ((s.lookup t).getD [], c)).1, (pokeL a cs.length ((s.lookup t).getD [], c)).2)
  | .copy t o => (s ++ [(o, (s.lookup t).getD [])], c)
/-- the pages of each room -/
def ksA {α : Type} (m : List (Int × List (Int × α))) : List (Int × List Int) := m.map fun x => (x.1, x.2.map (·.1))
def stA (s : ASl) (o : Ow2) : Nat := ((s.lookup o.1).bind fun x => x.lookup o.2).getD 0
theorem setA_map {α β : Type} (f : α → β) (m : List (Int × α)) (k : Int) (v : α) : (setA m k v).map (fun x => (x.1, f x.2)) = setA (m.map fun x => (x.1, f x.2)) k (f v) := by
  unfold setA
  rw [List.map_map, List.map_map]
  refine List.map_congr_left fun x _ => ?_
  show ((if x.1 = k then (x.1, v) else x).1, f (if x.1 = k then (x.1, v) else x).2) = if x.1 = k then (x.1, f v) else (x.1, f x.2)
  by_cases h : x.1 = k
  · rw [if_pos h, if_pos h]
  · rw [if_neg h, if_neg h]
section
variable {α β : Type}
theorem ksA_app (m q : List (Int × List (Int × α))) : ksA (m ++ q) = ksA m ++ ksA q := by unfold ksA; rw [List.map_append]
theorem ksA_drop (m : List (Int × List (Int × α))) (t : Int) : ksA (dropA m t) = dropA (ksA m) t := (dropA_map (fun x : List (Int × α) => x.map Prod.fst) m t).symm
theorem ksA_set (m : List (Int × List (Int × α))) (t : Int) (r : List (Int × α)) : ksA (setA m t r) = setA (ksA m) t (r.map (·.1)) := setA_map (fun x : List (Int × α) => x.map Prod.fst) m t r
theorem ksA_look (m : List (Int × List (Int × α))) (t : Int) : (ksA m).lookup t = (m.lookup t).map fun r => r.map (·.1) := lk_map (fun x : List (Int × α) => x.map Prod.fst) m t
theorem ksA_row {m : List (Int × List (Int × α))} {q : List (Int × List (Int × β))} (h : ksA m = ksA q) {t : Int} {r : List (Int × β)} (hq : q.lookup t = some r) : ∃ u, m.lookup t = some u ∧ u.map (·.1) = r.map (·.1) := by
  have h1 := ksA_look m t
  rw [h, ksA_look, hq] at h1
  cases e : m.lookup t with
  | none => rw [e] at h1; cases h1
  | some u => rw [e] at h1; exact ⟨u, rfl, (Option.some.inj h1).symm⟩
theorem ksA_none {m : List (Int × List (Int × α))} {q : List (Int × List (Int × β))} (h : ksA m = ksA q) {t : Int} (hq : q.lookup t = none) : m.lookup t = none := by
  have h1 := ksA_look m t
  rw [h, ksA_look, hq] at h1
  cases e : m.lookup t with
  | none => rfl
  | some u => rw [e] at h1; cases h1
theorem dropR_keys : ∀ (ps : List Int) (r : List (Int × α)), (ps.foldl dropA r).map (·.1) = ps.foldl (fun (l : List Int) p => l.filter fun x => decide (x ≠ p)) (r.map (·.1))
  | [], r => rfl
  | p :: q, r => by
    show ((q.foldl dropA (dropA r p)).map (·.1)) = _
    rw [dropR_keys q]
    show _ = q.foldl _ ((r.map (·.1)).filter fun x => decide (x ≠ p))
    congr 1
    unfold dropA
    rw [List.filter_map]
    rfl
end
theorem pokeL_succ (a : Int) (n : Nat) (x : ASr × Nat) : pokeL a (n + 1) x = stepL a (pokeL a n x) n := by
  unfold pokeL
  rw [List.range_succ, List.foldl_append]
  rfl
theorem pokeL_keys (a : Int) (n : Nat) (x : ASr × Nat) : (pokeL a n x).1.map (·.1) = x.1.map (·.1) := by
  induction n with
  | zero => rfl
  | succ n ih =>
    rw [pokeL_succ, ← ih]
    unfold stepL
    split
    · exact setA_keys _ _ _
    · rfl
theorem pokeL_le (a : Int) (n : Nat) (x : ASr × Nat) : x.2 ≤ (pokeL a n x).2 := by
  induction n with
  | zero => exact Nat.le_refl _
  | succ n ih =>
    rw [pokeL_succ]
    unfold stepL
    split
    · exact Nat.le_succ_of_le ih
    · exact ih
theorem semS_le (s : ASl) (c : Nat) (d : RDeed) : c ≤ (semS s c d).2 := by
  cases d with
  | poke t a cs => exact pokeL_le a cs.length ((s.lookup t).getD [], c)
  | _ => exact Nat.le_refl _
/-- stands have the pages that the rooms have -/
theorem semS_keys {tot : Int} {w w' : AWl} {s : ASl} {c : Nat} {d : RDeed} {o : Option (List Int)} (h : sem tot w d = .ok (w', o)) (hk : ksA s = ksA w) : ksA (semS s c d).1 = ksA w' := by
  cases d with
  | begin t =>
    obtain ⟨hno, e⟩ := if_ok h
    cases e
    show ksA (s ++ [(t, [])]) = _
    rw [ksA_app, ksA_app, hk]
    rfl
  | close t =>
    obtain ⟨_, e⟩ := if_ok3 h
    cases e
    show ksA (dropA s t) = _
    rw [ksA_drop, ksA_drop, hk]
  | map t p n =>
    cases hw : w.lookup t with
    | none => rw [sem_map0 hw] at h; cases h
    | some r =>
      rw [sem_map1 hw] at h
      obtain ⟨hb, h⟩ := if_ok2 h
      obtain ⟨hany, h⟩ := if_ok2 h
      obtain ⟨_, e⟩ := if_ok h
      cases e
      obtain ⟨u, hu, hur⟩ := ksA_row hk hw
      show ksA (setA s t ((s.lookup t).getD [] ++ _)) = _
      rw [ksA_set, ksA_set, hk, hu]
      congr 1
      unfold mapR
      rw [List.map_append, List.map_append, List.map_map, List.map_map]
      exact congrArg (· ++ _) hur
  | drop t p n =>
    cases hw : w.lookup t with
    | none => rw [sem_drop0 hw] at h; cases h
    | some r =>
      rw [sem_drop1 hw] at h
      obtain ⟨hb, h⟩ := if_ok2 h
      obtain ⟨_, e⟩ := if_ok3 h
      cases e
      obtain ⟨u, hu, hur⟩ := ksA_row hk hw
      show ksA (setA s t ((pgs p n.toNat).foldl dropA ((s.lookup t).getD []))) = _
      rw [ksA_set, ksA_set, hk, hu]
      congr 1
      unfold dropR
      rw [dropR_keys, dropR_keys]
      show List.foldl _ (u.map (·.1)) _ = _
      rw [hur]
  | peek t a n =>
    cases hw : w.lookup t with
    | none => rw [sem_peek0 hw] at h; cases h
    | some r =>
      rw [sem_peek1 hw] at h
      obtain ⟨hb, h⟩ := if_ok2 h
      obtain ⟨_, e⟩ := if_ok3 h
      cases e
      exact hk
  | poke t a cs =>
    cases hw : w.lookup t with
    | none => rw [sem_poke0 hw] at h; cases h
    | some r =>
      rw [sem_poke1 hw] at h
      obtain ⟨hb, h⟩ := if_ok2 h
      obtain ⟨_, e⟩ := if_ok3 h
      cases e
      obtain ⟨u, hu, hur⟩ := ksA_row hk hw
      show ksA (setA s t (pokeL a cs.length ((s.lookup t).getD [], c)).1) = _
      rw [ksA_set, ksA_set, hk, pokeL_keys, pokeR_keys, hu]
      exact congrArg _ hur
  | copy t o =>
    cases hw : w.lookup t with
    | none => rw [sem_copy0 hw] at h; cases h
    | some r =>
      rw [sem_copy1 hw] at h
      obtain ⟨hno, h⟩ := if_ok2 h
      obtain ⟨_, e⟩ := if_ok h
      cases e
      obtain ⟨u, hu, hur⟩ := ksA_row hk hw
      show ksA (s ++ [(o, (s.lookup t).getD [])]) = _
      rw [ksA_app, ksA_app, hk, hu]
      show _ ++ [(o, u.map (·.1))] = _ ++ [(o, r.map (·.1))]
      rw [hur]
theorem pokeL_look {a : Int} {row : ASr} {c : Nat} {st : Ow2 → Nat} {t : Int} (h0 : ∀ p, (row.lookup p).getD 0 = st (t, p)) : ∀ n : Nat, (∀ i : Nat, i < n → (row.lookup ((a + i) / 8)).isSome = true) → (pokeL a n (row, c)).2 = (pokeS t a n (st, c)).2 ∧ (∀ p, ((pokeL a n (row, c)).1.lookup p).getD 0 = (pokeS t a n (st, c)).1 (t, p)) ∧ ∀ o : Ow2, o.1 ≠ t → (pokeS t a n (st, c)).1 o = st o
  | 0, _ => ⟨rfl, h0, fun _ _ => rfl⟩
  | n + 1, hall => by
    obtain ⟨h1, h2, h3⟩ := pokeL_look h0 n fun i hi => hall i (by omega)
    have e : pokeS t a (n + 1) (st, c) = if n = 0 ∨ (a + (n : Nat)) % 8 = 0 then (fupd (pokeS t a n (st, c)).1 (t, (a + (n : Nat)) / 8) ((pokeS t a n (st, c)).2 + 1), (pokeS t a n (st, c)).2 + 1) else pokeS t a n (st, c) := by
      unfold pokeS
      rw [List.range_succ, List.foldl_append]
      rfl
    rw [pokeL_succ, e]
    unfold stepL
    by_cases z : n = 0 ∨ (a + (n : Nat)) % 8 = 0
    · rw [if_pos z, if_pos z]
      refine ⟨by show _ + 1 = _ + 1; rw [h1], fun p => ?_, fun o ho => ?_⟩
      · show ((setA (pokeL a n (row, c)).1 ((a + (n : Nat)) / 8) _).lookup p).getD 0 = fupd _ _ _ _
        rw [lk_setA]
        unfold fupd
        by_cases y : p = (a + (n : Nat)) / 8
        · rw [if_pos y, if_pos (by rw [y])]
          have hs : ((pokeL a n (row, c)).1.lookup ((a + (n : Nat)) / 8)).isSome = true := by
            rw [lk_some, pokeL_keys, ← lk_some]
            exact hall n (by omega)
          obtain ⟨v, hv⟩ := Option.isSome_iff_exists.mp hs
          rw [hv, h1]
          rfl
        · rw [if_neg y, if_neg (fun u => y (Prod.ext_iff.mp u).2)]
          exact h2 p
      · show fupd _ _ _ _ = _
        unfold fupd
        rw [if_neg (fun u => ho (by rw [u]))]
        exact h3 o ho
    · rw [if_neg z, if_neg z]
      exact ⟨h1, h2, h3⟩
theorem stA_at {s : ASl} {t : Int} {u : ASr} (h : s.lookup t = some u) (p : Int) : stA s (t, p) = (u.lookup p).getD 0 := by
  unfold stA
  dsimp only
  rw [h]
  rfl
theorem stA_app {s : ASl} {t : Int} {u : ASr} (h : s.lookup t = none) (o : Ow2) : stA (s ++ [(t, u)]) o = if o.1 = t then (u.lookup o.2).getD 0 else stA s o := by
  unfold stA
  rw [lk_app]
  by_cases z : o.1 = t
  · rw [if_pos z, z, h, List.lookup_cons, show (t == t) = true by simp]
    rfl
  · rw [if_neg z, List.lookup_cons, show (o.1 == t) = false by simpa using z, List.lookup_nil]
    cases s.lookup o.1 <;> rfl
theorem stA_set {s : ASl} {t : Int} {u v : ASr} (h : s.lookup t = some u) (o : Ow2) : stA (setA s t v) o = if o.1 = t then (v.lookup o.2).getD 0 else stA s o := by
  unfold stA
  rw [lk_setA]
  by_cases z : o.1 = t
  · rw [if_pos z, if_pos z, h]
    rfl
  · rw [if_neg z, if_neg z]
/-- what stands do is what pages do -/
theorem semS_st {tot : Int} {w w' : AWl} {s : ASl} {c : Nat} {d : RDeed} {x : Option (List Int)} (h : sem tot w d = .ok (w', x)) (hk : ksA s = ksA w) : ∀ o, mpW w' o = true → stA (semS s c d).1 o = stS (stA s) c d o := by
  intro o hm
  cases d with
  | begin t =>
    obtain ⟨hno, e⟩ := if_ok h
    cases e
    have h1 := ksA_none hk (lk_no hno)
    show stA (s ++ [(t, [])]) o = stA s o
    rw [stA_app h1]
    by_cases z : o.1 = t
    · rw [if_pos z]
      unfold stA
      rw [z, h1]
      rfl
    · rw [if_neg z]
  | close t =>
    obtain ⟨_, e⟩ := if_ok3 h
    cases e
    show stA (dropA s t) o = stA s o
    unfold mpW at hm
    rw [look_drop] at hm
    by_cases z : o.1 = t
    · rw [if_pos z] at hm; cases hm
    · unfold stA
      rw [lk_dropA, if_neg z]
  | map t p n =>
    cases hw : w.lookup t with
    | none => rw [sem_map0 hw] at h; cases h
    | some r =>
      rw [sem_map1 hw] at h
      obtain ⟨hb, h⟩ := if_ok2 h
      obtain ⟨hany, h⟩ := if_ok2 h
      obtain ⟨_, e⟩ := if_ok h
      cases e
      obtain ⟨u, hu, hur⟩ := ksA_row hk hw
      show stA (setA s t _) o = if o.1 = t ∧ o.2 ∈ pgs p n.toNat then 0 else stA s o
      rw [stA_set hu, hu]
      by_cases z : o.1 = t
      · rw [if_pos z]
        show ((u ++ (pgs p n.toNat).map fun q => (q, 0)).lookup o.2).getD 0 = _
        rw [lk_app, lk_row]
        have e1 : stA s o = (u.lookup o.2).getD 0 := by rw [← stA_at hu, ← z]
        rw [e1]
        by_cases y : o.2 ∈ pgs p n.toNat
        · rw [if_pos y, if_pos ⟨z, y⟩]
          cases e2 : u.lookup o.2 with
          | none => rfl
          | some v =>
            refine absurd (anyP_yes y ?_) hany
            rw [lk_some, ← hur, ← lk_some, e2]
            rfl
        · rw [if_neg y, if_neg (fun q => y q.2)]
          cases u.lookup o.2 <;> rfl
      · rw [if_neg z, if_neg (fun q => z q.1)]
  | drop t p n =>
    cases hw : w.lookup t with
    | none => rw [sem_drop0 hw] at h; cases h
    | some r =>
      rw [sem_drop1 hw] at h
      obtain ⟨hb, h⟩ := if_ok2 h
      obtain ⟨_, e⟩ := if_ok3 h
      cases e
      obtain ⟨u, hu, hur⟩ := ksA_row hk hw
      show stA (setA s t _) o = stA s o
      rw [stA_set hu, hu]
      by_cases z : o.1 = t
      · rw [if_pos z]
        show (((pgs p n.toNat).foldl dropA u).lookup o.2).getD 0 = _
        have e1 : stA s o = (u.lookup o.2).getD 0 := by rw [← stA_at hu, ← z]
        rw [e1]
        unfold mpW at hm
        rw [look_set hw, if_pos z, lk_dropR] at hm
        by_cases y : o.2 ∈ pgs p n.toNat
        · rw [if_pos y] at hm; cases hm
        · have : ∀ (ps : List Int) (u : ASr), o.2 ∉ ps → (ps.foldl dropA u).lookup o.2 = u.lookup o.2 := by
            intro ps
            induction ps with
            | nil => intro u _; rfl
            | cons a q ih =>
              intro u hn
              show (q.foldl dropA (dropA u a)).lookup o.2 = _
              rw [ih _ (fun v => hn (.tail _ v)), lk_dropA, if_neg (fun v => hn (by rw [v]; exact .head _))]
          rw [this _ _ y]
      · rw [if_neg z]
  | peek t a n =>
    cases hw : w.lookup t with
    | none => rw [sem_peek0 hw] at h; cases h
    | some r =>
      rw [sem_peek1 hw] at h
      obtain ⟨hb, h⟩ := if_ok2 h
      obtain ⟨_, e⟩ := if_ok3 h
      cases e
      rfl
  | poke t a cs =>
    cases hw : w.lookup t with
    | none => rw [sem_poke0 hw] at h; cases h
    | some r =>
      rw [sem_poke1 hw] at h
      obtain ⟨hb, h⟩ := if_ok2 h
      obtain ⟨hall, e⟩ := if_ok3 h
      cases e
      obtain ⟨u, hu, hur⟩ := ksA_row hk hw
      show stA (setA s t _) o = (pokeS t a cs.length (stA s, c)).1 o
      rw [stA_set hu, hu]
      obtain ⟨h1, h2, h3⟩ := pokeL_look (a := a) (row := u) (c := c) (st := stA s) (t := t) (fun p => (stA_at hu p).symm) cs.length fun i hi => by
        rw [lk_some, hur, ← lk_some]
        exact allA_at hall hi
      by_cases z : o.1 = t
      · rw [if_pos z]
        refine (h2 o.2).trans ?_
        rw [← z]
      · rw [if_neg z]
        exact (h3 o z).symm
  | copy t v =>
    cases hw : w.lookup t with
    | none => rw [sem_copy0 hw] at h; cases h
    | some r =>
      rw [sem_copy1 hw] at h
      obtain ⟨hno, h⟩ := if_ok2 h
      obtain ⟨_, e⟩ := if_ok h
      cases e
      obtain ⟨u, hu, hur⟩ := ksA_row hk hw
      show stA (s ++ [(v, _)]) o = if o.1 = v then stA s (t, o.2) else stA s o
      rw [stA_app (ksA_none hk (lk_no hno)), hu]
      by_cases z : o.1 = v
      · rw [if_pos z, if_pos z, stA_at hu]
        rfl
      · rw [if_neg z, if_neg z]
theorem pokeS_tp2 {t a : Int} {st : Ow2 → Nat} {c : Nat} : ∀ n : Nat, ∀ o, (pokeS t a n (st, c)).1 o = st o ∨ (pokeS t a n (st, c)).1 o ≤ (pokeS t a n (st, c)).2
  | 0, _ => .inl rfl
  | n + 1, o => by
    have e : pokeS t a (n + 1) (st, c) = if n = 0 ∨ (a + (n : Nat)) % 8 = 0 then (fupd (pokeS t a n (st, c)).1 (t, (a + (n : Nat)) / 8) ((pokeS t a n (st, c)).2 + 1), (pokeS t a n (st, c)).2 + 1) else pokeS t a n (st, c) := by
      unfold pokeS
      rw [List.range_succ, List.foldl_append]
      rfl
    rw [e]
    by_cases z : n = 0 ∨ (a + (n : Nat)) % 8 = 0
    · rw [if_pos z]
      show fupd _ _ _ _ = _ ∨ fupd _ _ _ _ ≤ _ + 1
      unfold fupd
      by_cases y : o = (t, (a + (n : Nat)) / 8)
      · rw [if_pos y]; exact .inr (Nat.le_refl _)
      · rw [if_neg y]
        exact (pokeS_tp2 n o).imp id fun z => Nat.le_succ_of_le z
    · rw [if_neg z]
      exact pokeS_tp2 n o
/-- no stand is above the count of pokes -/
theorem semS_top {tot : Int} {w w' : AWl} {s : ASl} {c : Nat} {d : RDeed} {x : Option (List Int)} (h : sem tot w d = .ok (w', x)) (hk : ksA s = ksA w) (htop : ∀ o, stA s o ≤ c) : ∀ o, mpW w' o = true → stA (semS s c d).1 o ≤ (semS s c d).2 := by
  intro o hm
  rw [semS_st h hk o hm]
  cases d with
  | begin t => exact htop o
  | close t => exact htop o
  | map t p n =>
    show (if o.1 = t ∧ o.2 ∈ pgs p n.toNat then 0 else stA s o) ≤ c
    split
    · exact Nat.zero_le _
    · exact htop o
  | drop t p n => exact htop o
  | peek t a n => exact htop o
  | copy t v =>
    show (if o.1 = v then stA s (t, o.2) else stA s o) ≤ c
    split <;> exact htop _
  | poke t a cs =>
    cases hw : w.lookup t with
    | none => rw [sem_poke0 hw] at h; cases h
    | some r =>
      rw [sem_poke1 hw] at h
      obtain ⟨hb, h⟩ := if_ok2 h
      obtain ⟨hall, e⟩ := if_ok3 h
      cases e
      obtain ⟨u, hu, hur⟩ := ksA_row hk hw
      obtain ⟨h1, h2, h3⟩ := pokeL_look (a := a) (row := u) (c := c) (st := stA s) (t := t) (fun p => (stA_at hu p).symm) cs.length fun i hi => by
        rw [lk_some, hur, ← lk_some]
        exact allA_at hall hi
      show (pokeS t a cs.length (stA s, c)).1 o ≤ (pokeL a cs.length ((s.lookup t).getD [], c)).2
      rw [hu]
      show _ ≤ (pokeL a cs.length (u, c)).2
      rcases pokeS_tp2 (t := t) (a := a) (st := stA s) (c := c) cs.length o with z | z
      · rw [z]
        exact Nat.le_trans (htop o) (pokeL_le a cs.length (u, c))
      · rw [h1]
        exact z
/-- stands of pages that are there tell all stands -/
theorem stA_mp {s : ASl} {w : AWl} (hk : ksA s = ksA w) {o : Ow2} (h : ¬ mpW w o = true) : stA s o = 0 := by
  unfold stA
  cases e : w.lookup o.1 with
  | none => rw [ksA_none hk e]; rfl
  | some r =>
    obtain ⟨u, hu, hur⟩ := ksA_row hk e
    rw [hu]
    have h1 : ¬ (r.lookup o.2).isSome = true := fun z => h (by unfold mpW; rw [e]; exact z)
    rw [lk_some, ← hur, ← lk_some] at h1
    show (u.lookup o.2).getD 0 = 0
    cases z : u.lookup o.2 with
    | none => rfl
    | some v => rw [z] at h1; exact absurd rfl h1
theorem semS_topA {tot : Int} {w w' : AWl} {s : ASl} {c : Nat} {d : RDeed} {x : Option (List Int)} (h : sem tot w d = .ok (w', x)) (hk : ksA s = ksA w) (htop : ∀ o, stA s o ≤ c) : ∀ o, stA (semS s c d).1 o ≤ (semS s c d).2 := fun o => by
  by_cases z : mpW w' o = true
  · exact semS_top h hk htop o z
  · rw [stA_mp (semS_keys h hk) z]
    exact Nat.zero_le _
theorem RmS.congr {K : PySem.W.Frag} {H : Hp} {r : RG} {w : AWl} {st st' : Ow2 → Nat} (R : RmS K H r w st) (h : ∀ o, mpW w o = true → st' o = st o) : RmS K H r w st' :=
  ⟨R.gd, R.jp, R.vw.congr (fun _ _ => rfl) h, R.ts, R.held, R.ok, fun o hm h0 => R.zer o hm (by rw [← h o hm]; exact h0)⟩

def sp__law_due (K : PySem.W.Frag) : Sp := sp2 fun x y H Q _ => ∃ M T b d, x = .ref M.D ∧ y = .ref T ∧ WOk M.w.abs ∧ Own H H (adr (cMd M)) (cMd M) ∧ DAt H (adr (cMd M)) T d b ∧ d.fine ∧ ∀ H', Own H H' (adr (cMd M)) (cMd M) → Q (.str (wordA (sem M.tot M.w.abs d))) H'
def sp__law_numbers (K : PySem.W.Frag) : Sp := sp2 fun x y H Q _ => ∃ (a b : Addr) (xs : List Int), x = .ref a ∧ y = .ref b ∧ H a = some (.lst (xs.map V.int)) ∧ H b = some (.lst (xs.map V.int)) ∧ xs.length ≤ 1000 ∧ ∀ H', Own H H' [] [] → Q (.bl true) H'
/-- a slice of a tuple, told itself or anew -/
theorem slU {K : PySem.W.Frag} {H : Hp} {a : Addr} {xs : List V} {lo hi : Option Int} {c : Prop} {Q : VK} (h : H a = some (.tup xs)) (hc : c → cutV xs lo hi = xs) (k : ∀ H' p, Own H H' [] [] → H' p = some (.tup (cutV xs lo hi)) → Q (.ref p) H') : (c → Q (.ref a) H) ∧ (¬ c → ∀ p, H p = none → Q (.ref p) (upd H p (.tup (cutV xs lo hi)))) :=
  ⟨fun hh => k _ _ Own.start (by rw [hc hh]; exact h), fun _ p hp => k _ _ (Own.start.newT hp) upd_same⟩
theorem pick2 {x y : Str} (c : Bool) : atI [V.str x, V.str y] (if c = true then 1 else 0) = some (.str (if c = true then y else x)) := by cases c <;> rfl
theorem pick2t {x y : Str} {c : Bool} {Q : VK} {H : Hp} (h : c = true) (k : Q (.str y) H) : Q (.str (if c = true then y else x)) H := by rw [h]; exact k
theorem pick2f {x y : Str} {c : Bool} {Q : VK} {H : Hp} (h : c = false) (k : Q (.str x) H) : Q (.str (if c = true then y else x)) H := by rw [h]; exact k
theorem sc__law_due : FnScope ["_law_model_here", "_law_deed_here", "_law_rooms", "_law_name", "_law_task", "_law_room", "_law_there", "_law_page", "_law_many", "_law_one"] ["_law_model_here", "_law_deed_here"] (defScope s__law_due) := ⟨rfl, rfl, rfl, by decide +kernel, rfl, by decide +kernel, by decide +kernel⟩
theorem ok__law_due {P : Program} {w : World} {K : PySem.W.Frag} {mg : Str → Option Value} {base : Heap} (T : Txt K mg) : Cee P w K mg base 2 (He.fAd K ("_law_due", none)) ["_law_model_here", "_law_deed_here"] (sp__law_due K) := by
  have c__law_held : Cee P w K mg base 1 (He.fAd K ("_law_held", none)) ["_law_model_here"] (sp__law_held K) := ok__law_held T
  have c__law_stretch : Cee P w K mg base 1 (He.fAd K ("_law_stretch", none)) ["_law_room", "_law_address", "_law_many"] (sp__law_stretch K) := ok__law_stretch T
  refine cee_of T.d__law_due sc__law_due (fun _ _ _ _ _ _ us hl => match us, hl with | [_, _], _ => rfl) (fun vs H Q E h => sp2_len h) (fun cdv A outer s H vs Q E hr h => ⟨_, (pss_cons (ps_set (i := 2) sc__law_due.nd rfl (Or.inl rfl) (pe_dget (hu_of hr) (pv 0) pe_str (fun _ _ => rfl))) (pss_cons (ps_asg (pe_slice sl_tupA (pv 1) po_none (po_some pe_int)) (pg_tup rfl (pgs_cons (pg_name (i := 3) sc__law_due.nd rfl (Or.inl rfl)) (pgs_cons (pg_name (i := 4) sc__law_due.nd rfl (Or.inl rfl)) pgs_nil)))) (pss_cons (ps_if (pt_cmpR op_eq (pv 3) pe_str (nomark _)) (pss_one (ps_ret (pe_ix ix_list (pe_lst (pa_cons pe_str (pa_cons pe_str pa_nil))) (pe_callTy call_intB (by rfl) T.n_int (by decide +kernel) (pa_cons (pe_cmp (pc_din (hu_of hr) (pv 4) (pv 2)) (by with_unfolding_all rfl)) pa_nil)) (fun _ _ => rfl)))) pss_nil) (pss_cons (ps_if (pt_cmp (pc_dnotin (hu_of hr) (pv 4) (pv 2)) (by with_unfolding_all rfl)) (pss_one (ps_ret pe_str)) pss_nil) (pss_cons (ps_set (i := 5) sc__law_due.nd rfl (Or.inr rfl) (pe_dget (hu_of hr) (pv 2) (pv 4) (fun _ _ => rfl))) (pss_cons (PS.box (ps_if (PW.pt (pw_or (pt_cmpR op_eq (pv 3) pe_str (nomark _)) (pw_or1 (pt_cmpR op_eq (pv 3) pe_str (nomark _))))) (pss_cons (ps_asg (pe_slice sl_tupA (pv 1) (po_some pe_int) po_none) (pg_tup rfl (pgs_cons (pg_name (i := 7) sc__law_due.nd rfl (Or.inl rfl)) (pgs_cons (pg_name (i := 8) sc__law_due.nd rfl (Or.inl rfl)) pgs_nil)))) (pss_cons (PS.box (ps_if (PW.pt (pw_or (pt_cmpR op_lt (pv 8) pe_int (nomark _)) (pw_or (pt_cmpR op_lt (pv 7) pe_int (nomark _)) (pw_or1 (pt_cmpR op_gt (pe_op op_add (pv 7) (pv 8)) pe_int (nomark _)))))) (pss_one (ps_ret pe_str)) pss_nil)) (pss_cons (ps_setLc (i := 6) (own := [("_law_one", 9)]) (by rfl) sc__law_due.nd rfl rfl (sw_true rfl rfl rfl (by decide +kernel)) (PI.box (pi_range2W (by rfl) T.n_range (pa_cons (pv 7) (pa_cons (pe_op op_add (pv 7) (pv 8)) pa_nil)))) (blkOk_by (own := [("_law_one", 9)]) (N := ["_law_model_here", "_law_deed_here", "_law_rooms", "_law_name", "_law_task", "_law_room", "_law_there", "_law_page", "_law_many", "_law_one"]) (sc := defScope s__law_due) (by decide +kernel)) (fun _ _ _ _ _ => (pg_name (i := 9) sc__law_due.nd rfl (Or.inl rfl))) (fun _ _ _ _ _ => pts_nil) (fun _ _ _ _ _ => (pe_cmp (pc_din (hu_of hr) (pv 9) (pv 5)) (by with_unfolding_all rfl)))) (pss_cons (ps_if (pt_cmpR op_eq (pv 3) pe_str (nomark _)) (pss_one (ps_ret (pe_ix ix_list (pe_lst (pa_cons pe_str (pa_cons pe_str pa_nil))) (pe_callTy call_intB (by rfl) T.n_int (by decide +kernel) (pa_cons (pe_callB (cr_all rfl) (by rfl) T.n_all (by decide +kernel) (pa_cons (pv 6) pa_nil)) pa_nil)) (fun _ _ => rfl)))) pss_nil) (pss_cons (ps_if (pt_val (pe_callB (cr_any rfl) (by rfl) T.n_any (by decide +kernel) (pa_cons (pv 6) pa_nil))) (pss_one (ps_ret pe_str)) pss_nil) (pss_one (ps_ret (pe_ix ix_list (pe_lst (pa_cons pe_str (pa_cons pe_str pa_nil))) (pe_callTy call_intB (by rfl) T.n_int (by decide +kernel) (pa_cons (pe_cmpR op_gt (pe_op op_add (pe_f c__law_held (hr.mono (by decide)) (takes_of rfl rfl rfl rfl) (by rfl) T.g__law_held (pa_cons (pv 0) pa_nil)) (pv 8)) (pe_dget (hu_of hr) (pv 0) pe_str (fun _ _ => rfl)) (nomark _)) pa_nil)) (fun _ _ => rfl))))))))) pss_nil)) (pss_cons (ps_if (pt_cmpR op_eq (pv 3) pe_str (nomark _)) (pss_one (ps_ret (pe_ix ix_list (pe_lst (pa_cons pe_str (pa_cons pe_str pa_nil))) (pe_callTy call_intB (by rfl) T.n_int (by decide +kernel) (pa_cons (pe_f c__law_stretch (hr.mono (by decide)) (takes_of rfl rfl rfl rfl) (by rfl) T.g__law_stretch (pa_cons (pv 5) (pa_cons (pe_ix ix_tup (pv 1) pe_int (fun _ _ => rfl)) (pa_cons (pe_ix ix_tup (pv 1) pe_int (fun _ _ => rfl)) pa_nil)))) pa_nil)) (fun _ _ => rfl)))) pss_nil) (pss_cons (ps_if (pt_cmpR op_eq (pv 3) pe_str (nomark _)) (pss_one (ps_ret (pe_ix ix_list (pe_lst (pa_cons pe_str (pa_cons pe_str pa_nil))) (pe_callTy call_intB (by rfl) T.n_int (by decide +kernel) (pa_cons (pe_f c__law_stretch (hr.mono (by decide)) (takes_of rfl rfl rfl rfl) (by rfl) T.g__law_stretch (pa_cons (pv 5) (pa_cons (pe_ix ix_tup (pv 1) pe_int (fun _ _ => rfl)) (pa_cons (pe_callB call_len_seq (by rfl) T.n_len (by decide +kernel) (pa_cons (pe_ix ix_tup (pv 1) pe_int (fun _ _ => rfl)) pa_nil)) pa_nil)))) pa_nil)) (fun _ _ => rfl)))) pss_nil) (pss_cons (ps_if (pt_cmpR op_eq (pv 3) pe_str (nomark _)) (pss_cons (ps_if (pt_cmp (pc_din (hu_of hr) (pe_ix ix_tup (pv 1) pe_int (fun _ _ => rfl)) (pv 2)) (by with_unfolding_all rfl)) (pss_one (ps_ret pe_str)) pss_nil) (pss_one (ps_ret (pe_ix ix_list (pe_lst (pa_cons pe_str (pa_cons pe_str pa_nil))) (pe_callTy call_intB (by rfl) T.n_int (by decide +kernel) (pa_cons (pe_cmpR op_gt (pe_op op_add (pe_f c__law_held (hr.mono (by decide)) (takes_of rfl rfl rfl rfl) (by rfl) T.g__law_held (pa_cons (pv 0) pa_nil)) (pe_callB call_lenD (by rfl) T.n_len (by decide +kernel) (pa_cons (pv 5) pa_nil))) (pe_dget (hu_of hr) (pv 0) pe_str (fun _ _ => rfl)) (nomark _)) pa_nil)) (fun _ _ => rfl))))) pss_nil) (pss_one (ps_ret pe_str))))))))))), ?_⟩)
  obtain ⟨v0, v1, rfl, h⟩ := h
  dsimp only [cxOf, L2.start]
  obtain ⟨M, T, b, d, rfl, rfl, ok, O, hT, hfine, k⟩ := h
  obtain ⟨hT, hTb⟩ := hT
  have hD := O.get (a := M.D) (o := .dK (mdD M)) (.head _)
  have hv : valV (mdD M) (Sum.inr "rooms") = some (.ref M.RD) := rfl
  have hR := O.get (a := M.RD) (o := .dK (wlD M.w)) (.tail _ (.head _))
  cases d with
  | begin t =>
    have hT : H T = some (.tup [.str "begin", .int t]) := hT
    walk_at "s"
    refine ⟨fun _ => ?_, fun hne => absurd ⟨rfl, rfl⟩ hne⟩
    walk_at "s"
    intro b1 hb1
    have O1 := O.new (o := .lst [V.str "", V.str "Taken"]) hb1
    have hR1 := O1.get (a := M.RD) (o := .dK (wlD M.w)) (.tail _ (.tail _ (.head _)))
    have hlk := Wl.look M.w t
    have k1 := k _ (O1.drop (.cons _ (.refl _)))
    cases hw : M.w.lookup t with
    | none =>
      rw [hw] at hlk
      rw [sem_begin0 (Wl.abs_none hw)] at k1
      have hat : atI [V.str "", V.str "Taken"] (if (valV (wlD M.w) (Sum.inl t)).isSome = true then 1 else 0) = some (.str "") := by rw [hlk]; rfl
      walk_at "s"
      exact k1
    | some x =>
      rw [hw] at hlk
      rw [sem_begin1 (by rw [Wl.abs_some hw]; rfl)] at k1
      have hat : atI [V.str "", V.str "Taken"] (if (valV (wlD M.w) (Sum.inl t)).isSome = true then 1 else 0) = some (.str "Taken") := by rw [hlk]; rfl
      walk_at "s"
      exact k1
  | close t =>
    have hT : H T = some (.tup [.str "close", .int t]) := hT
    walk_at "s"
    refine ⟨fun _ => ?_, fun hne => absurd ⟨rfl, rfl⟩ hne⟩
    have hlk := Wl.look M.w t
    walk_at "s"
    rw [hlk]
    cases hw : M.w.lookup t with
    | none =>
      have k1 := k _ O
      rw [sem_close0 (Wl.abs_none hw)] at k1
      refine if_t rfl ?_
      exact k1
    | some x =>
      obtain ⟨ad, r⟩ := x
      have k1 := k _ O
      rw [sem_close1 (by rw [Wl.abs_some hw]; rfl)] at k1
      refine if_f rfl ?_
      have hlk : valV (wlD M.w) (Sum.inl t) = some (.ref ad) := by rw [hlk, hw]; rfl
      walk_at "s"
      walk_at "b"
      walk_at "s"
      exact k1
  | map t p n =>
    have hT : H T = some (.tup [.str "map", .int t, .int p, .int n]) := hT
    walk_at "s"
    refine ⟨fun h => absurd (show (2 : Nat) = 4 from h.2) (by decide), fun _ T2 hT2 => ?_⟩
    rw [show cutV [V.str "map", V.int t, V.int p, V.int n] none (some 2) = [.str "map", .int t] from rfl]
    have O2 := O.newT (o := .tup [.str "map", .int t]) hT2
    have hT' : (upd H T2 (.tup [.str "map", .int t])) T2 = some (.tup [.str "map", .int t]) := upd_same
    have hlk := Wl.look M.w t
    walk_at "s"
    walk_at "s"
    rw [hlk]
    cases hw : M.w.lookup t with
    | none =>
      have k1 := k _ O2
      rw [sem_map0 (Wl.abs_none hw)] at k1
      refine if_t rfl ?_
      exact k1
    | some x =>
      obtain ⟨ad, r⟩ := x
      refine if_f rfl ?_
      have hlk : valV (wlD M.w) (Sum.inl t) = some (.ref ad) := by rw [hlk, hw]; rfl
      have hT3 : (upd H T2 (.tup [.str "map", .int t])) T = some (.tup [.str "map", .int t, .int p, .int n]) := O2.tp _ _ hT
      walk_at "s"
      walk_at "b"
      refine ⟨fun h => absurd (show (2 : Nat) = 0 from h.1) (by decide), fun _ T4 hT4 => ?_⟩
      rw [show cutV [V.str "map", V.int t, V.int p, V.int n] (some 2) none = [.int p, .int n] from rfl]
      have O4 := O2.newT (o := .tup [.int p, .int n]) hT4
      have hT4' : (upd (upd H T2 (.tup [.str "map", .int t])) T4 (.tup [.int p, .int n])) T4 = some (.tup [.int p, .int n]) := upd_same
      walk_at "s"
      generalize upd (upd H T2 (.tup [.str "map", .int t])) T4 (.tup [.int p, .int n]) = H4 at O4 hT4' ⊢
      have k1 := k
      rw [sem_map1 (Wl.abs_some hw)] at k1
      refine cutS (fun σ' H5 => σ' = [some (.ref M.D), some (.ref T), some (.ref M.RD), some (.str "map"), some (.int t), some (.ref ad), none, some (.int p), some (.int n), none] ∧ H5 = H4 ∧ badP p n = false) (fun nx hn => ?_) ?_
      · have e : badP p n = true → Q (.str "NoPage") H4 := fun hb => by
          rw [if_pos hb] at k1
          exact k1 _ O4
        walk_at "s"
        refine if_d (fun h1 => e (decide_eq_true (.inl h1))) (fun h1 => ?_)
        walk_at "s"
        refine if_d (fun h2 => e (decide_eq_true (.inr (.inl h2)))) (fun h2 => ?_)
        walk_at "s"
        refine if_d (fun h3 => e (decide_eq_true (by omega))) (fun h3 => ?_)
        exact hn _ _ ⟨rfl, rfl, decide_eq_false (by omega)⟩
      rintro σ' H5 ⟨rfl, rfl, hb⟩
      have hb' := of_decide_eq_false hb
      rw [if_neg (by rw [hb]; exact Bool.false_ne_true)] at k1
      walk_at "s"
      refine lcR (lo := p) (n := (p + n - p).toNat) (fun L j H3 => Own H H3 (adr (cMd M)) ((L, .lst ((((pgs p n.toNat).take j).map fun q => (r.pure.lookup q).isSome).map V.bl)) :: cMd M)) (fun L hL => O4.new hL) ?_ ?_
      · rintro L j H3 hj O3
        have hjn : j < n.toNat := by omega
        have hra := O3.get (a := ad) (o := .dK (Ch.kvs r)) (.tail _ (.tail _ (List.mem_append_left _ (wd_mem hw))))
        have hlen : ((((pgs p n.toNat).take j).map fun q => (r.pure.lookup q).isSome).map V.bl).length < 100000 := by
          rw [List.length_map, List.length_map, List.length_take, pgs_len]
          omega
        have hlk := Ch.lookV r (p + j)
        walk_at "s"
        rw [hlk, Option.isSome_map, take_succ (pgs_get hjn), List.map_append, List.map_append, ← Option.isSome_map (f := fun x : Pg => x.2), ← Ch.look_abs]
        exact ⟨O3.wr .here⟩
      · rintro L H3 O3
        rw [show (p + n - p).toNat = n.toNat by omega, List.take_of_length_le (by rw [pgs_len]; omega)] at O3
        walk_at "s"
        rw [show ((pgs p n.toNat).map fun q => (r.pure.lookup q).isSome).any id = anyP r.pure (pgs p n.toNat) by rw [List.any_map]; rfl]
        cases hany : anyP r.pure (pgs p n.toNat) with
        | true =>
          rw [hany] at k1
          refine if_t rfl ?_
          exact k1 _ (O3.drop (.cons _ (.refl _)))
        | false =>
          rw [hany] at k1
          refine if_f rfl ?_
          walk_at "s"
          intro b1 hb1
          have O6 := O3.new (o := .lst [V.str "", V.str "NoRoom"]) hb1
          walk_at "s"
          refine ask1 ⟨M, rfl, Wl.len ok, (O6.drop (cs' := cMd M) (.cons _ (.cons _ (.refl _)))).self, fun H7 O7 => ?_⟩
          have O8 := O6.call (.there (.there .all)) O7
          have hD8 := O8.get (a := M.D) (o := .dK (mdD M)) (.tail _ (.tail _ (.head _)))
          have hb8 := O8.get (a := b1) (o := .lst [V.str "", V.str "NoRoom"]) (.head _)
          have hv8 : valV (mdD M) (Sum.inr "total") = some (.int M.tot) := rfl
          have O9 := O8.drop (cs' := cMd M) (.cons _ (.cons _ (.refl _)))
          walk_at "s"
          refine ⟨pick2 _, ?_⟩
          by_cases hz : heldA M.w.abs + n > M.tot
          · rw [if_pos hz] at k1
            exact pick2t (decide_eq_true hz) (k1 _ O9)
          · rw [if_neg hz] at k1
            exact pick2f (decide_eq_false hz) (k1 _ O9)
  | drop t p n =>
    have hT : H T = some (.tup [.str "drop", .int t, .int p, .int n]) := hT
    walk_at "s"
    refine ⟨fun h => absurd (show (2 : Nat) = 4 from h.2) (by decide), fun _ T2 hT2 => ?_⟩
    rw [show cutV [V.str "drop", V.int t, V.int p, V.int n] none (some 2) = [.str "drop", .int t] from rfl]
    have O2 := O.newT (o := .tup [.str "drop", .int t]) hT2
    have hT' : (upd H T2 (.tup [.str "drop", .int t])) T2 = some (.tup [.str "drop", .int t]) := upd_same
    have hlk := Wl.look M.w t
    walk_at "s"
    walk_at "s"
    rw [hlk]
    cases hw : M.w.lookup t with
    | none =>
      have k1 := k _ O2
      rw [sem_drop0 (Wl.abs_none hw)] at k1
      refine if_t rfl ?_
      exact k1
    | some x =>
      obtain ⟨ad, r⟩ := x
      refine if_f rfl ?_
      have hlk : valV (wlD M.w) (Sum.inl t) = some (.ref ad) := by rw [hlk, hw]; rfl
      have hT3 : (upd H T2 (.tup [.str "drop", .int t])) T = some (.tup [.str "drop", .int t, .int p, .int n]) := O2.tp _ _ hT
      walk_at "s"
      walk_at "b"
      refine ⟨fun h => absurd (show (2 : Nat) = 0 from h.1) (by decide), fun _ T4 hT4 => ?_⟩
      rw [show cutV [V.str "drop", V.int t, V.int p, V.int n] (some 2) none = [.int p, .int n] from rfl]
      have O4 := O2.newT (o := .tup [.int p, .int n]) hT4
      have hT4' : (upd (upd H T2 (.tup [.str "drop", .int t])) T4 (.tup [.int p, .int n])) T4 = some (.tup [.int p, .int n]) := upd_same
      walk_at "s"
      generalize upd (upd H T2 (.tup [.str "drop", .int t])) T4 (.tup [.int p, .int n]) = H4 at O4 hT4' ⊢
      have k1 := k
      rw [sem_drop1 (Wl.abs_some hw)] at k1
      refine cutS (fun σ' H5 => σ' = [some (.ref M.D), some (.ref T), some (.ref M.RD), some (.str "drop"), some (.int t), some (.ref ad), none, some (.int p), some (.int n), none] ∧ H5 = H4 ∧ badP p n = false) (fun nx hn => ?_) ?_
      · have e : badP p n = true → Q (.str "NoPage") H4 := fun hb => by
          rw [if_pos hb] at k1
          exact k1 _ O4
        walk_at "s"
        refine if_d (fun h1 => e (decide_eq_true (.inl h1))) (fun h1 => ?_)
        walk_at "s"
        refine if_d (fun h2 => e (decide_eq_true (.inr (.inl h2)))) (fun h2 => ?_)
        walk_at "s"
        refine if_d (fun h3 => e (decide_eq_true (by omega))) (fun h3 => ?_)
        exact hn _ _ ⟨rfl, rfl, decide_eq_false (by omega)⟩
      rintro σ' H5 ⟨rfl, rfl, hb⟩
      have hb' := of_decide_eq_false hb
      rw [if_neg (by rw [hb]; exact Bool.false_ne_true)] at k1
      walk_at "s"
      refine lcR (lo := p) (n := (p + n - p).toNat) (fun L j H3 => Own H H3 (adr (cMd M)) ((L, .lst ((((pgs p n.toNat).take j).map fun q => (r.pure.lookup q).isSome).map V.bl)) :: cMd M)) (fun L hL => O4.new hL) ?_ ?_
      · rintro L j H3 hj O3
        have hjn : j < n.toNat := by omega
        have hra := O3.get (a := ad) (o := .dK (Ch.kvs r)) (.tail _ (.tail _ (List.mem_append_left _ (wd_mem hw))))
        have hlen : ((((pgs p n.toNat).take j).map fun q => (r.pure.lookup q).isSome).map V.bl).length < 100000 := by
          rw [List.length_map, List.length_map, List.length_take, pgs_len]
          omega
        have hlk := Ch.lookV r (p + j)
        walk_at "s"
        rw [hlk, Option.isSome_map, take_succ (pgs_get hjn), List.map_append, List.map_append, ← Option.isSome_map (f := fun x : Pg => x.2), ← Ch.look_abs]
        exact ⟨O3.wr .here⟩
      · rintro L H3 O3
        rw [show (p + n - p).toNat = n.toNat by omega, List.take_of_length_le (by rw [pgs_len]; omega)] at O3
        walk_at "s"
        walk_at "s"
        intro b1 hb1
        have O6 := O3.new (o := .lst [V.str "NoPage", V.str ""]) hb1
        have hs6 : SqL K (upd H3 b1 (.lst [V.str "NoPage", V.str ""])) L (((pgs p n.toNat).map fun q => (r.pure.lookup q).isSome).map V.bl) := SqL.of (O6.get (.tail _ (.head _)))
        walk_at "s"
        refine ⟨pick2 _, ?_⟩
        rw [show ((pgs p n.toNat).map fun q => (r.pure.lookup q).isSome).all id = allP r.pure (pgs p n.toNat) by rw [List.all_map]; rfl]
        have O9 := O6.drop (cs' := cMd M) (.cons _ (.cons _ (.refl _)))
        cases hz : allP r.pure (pgs p n.toNat) with
        | true =>
          rw [hz] at k1
          exact pick2t rfl (k1 _ O9)
        | false =>
          rw [hz] at k1
          exact pick2f rfl (k1 _ O9)
  | peek t g n =>
    have hT : H T = some (.tup [.str "peek", .int t, .int g, .int n]) := hT
    walk_at "s"
    refine ⟨fun h => absurd (show (2 : Nat) = 4 from h.2) (by decide), fun _ T2 hT2 => ?_⟩
    rw [show cutV [V.str "peek", V.int t, V.int g, V.int n] none (some 2) = [.str "peek", .int t] from rfl]
    have O2 := O.newT (o := .tup [.str "peek", .int t]) hT2
    have hT' : (upd H T2 (.tup [.str "peek", .int t])) T2 = some (.tup [.str "peek", .int t]) := upd_same
    have hlk := Wl.look M.w t
    walk_at "s"
    walk_at "s"
    rw [hlk]
    cases hw : M.w.lookup t with
    | none =>
      have k1 := k _ O2
      rw [sem_peek0 (Wl.abs_none hw)] at k1
      refine if_t rfl ?_
      exact k1
    | some x =>
      obtain ⟨ad, r⟩ := x
      refine if_f rfl ?_
      have hlk : valV (wlD M.w) (Sum.inl t) = some (.ref ad) := by rw [hlk, hw]; rfl
      have hT3 : (upd H T2 (.tup [.str "peek", .int t])) T = some (.tup [.str "peek", .int t, .int g, .int n]) := O2.tp _ _ hT
      walk_at "s"
      walk_at "b"
      walk_at "s"
      intro b1 hb1
      have O3 := O2.new (o := .lst [V.str "NoPage", V.str ""]) hb1
      have hT4 := O3.tp _ _ hT
      have hra := O3.get (a := ad) (o := .dK (Ch.kvs r)) (.tail _ (.tail _ (List.mem_append_left _ (wd_mem hw))))
      walk_at "s"
      refine ask3 ⟨ad, r, g, n, rfl, rfl, rfl, hra, fun H5 O5 => ?_⟩
      have O6 := O3.callN O5
      have hb6 := O6.get (a := b1) (o := .lst [V.str "NoPage", V.str ""]) (.head _)
      have k1 := k _ (O6.drop (cs' := cMd M) (.cons _ (.refl _)))
      rw [sem_peek1 (Wl.abs_some hw)] at k1
      walk_at "s"
      refine ⟨pick2 _, ?_⟩
      cases hz : badA g n with
      | true =>
        rw [hz] at k1
        exact pick2f rfl k1
      | false =>
        rw [hz] at k1
        cases hy : allA r.pure g n.toNat with
        | true =>
          rw [hy] at k1
          exact pick2t rfl k1
        | false =>
          rw [hy] at k1
          exact pick2f rfl k1
  | poke t g cs =>
    have hT : H T = some (.tup [.str "poke", .int t, .int g, .ref b]) := hT
    walk_at "s"
    refine ⟨fun h => absurd (show (2 : Nat) = 4 from h.2) (by decide), fun _ T2 hT2 => ?_⟩
    rw [show cutV [V.str "poke", V.int t, V.int g, V.ref b] none (some 2) = [.str "poke", .int t] from rfl]
    have O2 := O.newT (o := .tup [.str "poke", .int t]) hT2
    have hT' : (upd H T2 (.tup [.str "poke", .int t])) T2 = some (.tup [.str "poke", .int t]) := upd_same
    have hlk := Wl.look M.w t
    walk_at "s"
    walk_at "s"
    rw [hlk]
    cases hw : M.w.lookup t with
    | none =>
      have k1 := k _ O2
      rw [sem_poke0 (Wl.abs_none hw)] at k1
      refine if_t rfl ?_
      exact k1
    | some x =>
      obtain ⟨ad, r⟩ := x
      refine if_f rfl ?_
      have hlk : valV (wlD M.w) (Sum.inl t) = some (.ref ad) := by rw [hlk, hw]; rfl
      have hT3 : (upd H T2 (.tup [.str "poke", .int t])) T = some (.tup [.str "poke", .int t, .int g, .ref b]) := O2.tp _ _ hT
      walk_at "s"
      walk_at "b"
      walk_at "s"
      intro b1 hb1
      have O3 := O2.new (o := .lst [V.str "NoPage", V.str ""]) hb1
      have hT4 := O3.tp _ _ hT
      obtain ⟨hb0, hbn⟩ := hTb _ (.head _)
      have hb3 := O3.fr _ _ hb0 hbn
      have hra := O3.get (a := ad) (o := .dK (Ch.kvs r)) (.tail _ (.tail _ (List.mem_append_left _ (wd_mem hw))))
      walk_at "s"
      refine ask3 ⟨ad, r, g, cs.length, rfl, rfl, by rw [List.length_map], hra, fun H5 O5 => ?_⟩
      have O6 := O3.callN O5
      have hb6 := O6.get (a := b1) (o := .lst [V.str "NoPage", V.str ""]) (.head _)
      have k1 := k _ (O6.drop (cs' := cMd M) (.cons _ (.refl _)))
      rw [sem_poke1 (Wl.abs_some hw)] at k1
      walk_at "s"
      refine ⟨pick2 _, ?_⟩
      cases hz : badA g cs.length with
      | true =>
        rw [hz] at k1
        exact pick2f rfl k1
      | false =>
        rw [hz] at k1
        cases hy : allA r.pure g cs.length with
        | true =>
          rw [hy] at k1
          exact pick2t (by rw [Int.toNat_natCast, hy]; rfl) k1
        | false =>
          rw [hy] at k1
          exact pick2f (by rw [Int.toNat_natCast, hy]; rfl) k1
  | copy t o =>
    have hT : H T = some (.tup [.str "copy", .int t, .int o]) := hT
    walk_at "s"
    refine ⟨fun h => absurd (show (2 : Nat) = 3 from h.2) (by decide), fun _ T2 hT2 => ?_⟩
    rw [show cutV [V.str "copy", V.int t, V.int o] none (some 2) = [.str "copy", .int t] from rfl]
    have O2 := O.newT (o := .tup [.str "copy", .int t]) hT2
    have hT' : (upd H T2 (.tup [.str "copy", .int t])) T2 = some (.tup [.str "copy", .int t]) := upd_same
    have hlk := Wl.look M.w t
    walk_at "s"
    walk_at "s"
    rw [hlk]
    cases hw : M.w.lookup t with
    | none =>
      have k1 := k _ O2
      rw [sem_copy0 (Wl.abs_none hw)] at k1
      refine if_t rfl ?_
      exact k1
    | some x =>
      obtain ⟨ad, r⟩ := x
      refine if_f rfl ?_
      have hlk : valV (wlD M.w) (Sum.inl t) = some (.ref ad) := by rw [hlk, hw]; rfl
      have hT3 : (upd H T2 (.tup [.str "copy", .int t])) T = some (.tup [.str "copy", .int t, .int o]) := O2.tp _ _ hT
      have k1 := k
      rw [sem_copy1 (Wl.abs_some hw)] at k1
      walk_at "s"
      walk_at "b"
      walk_at "s"
      have hlo := Wl.look M.w o
      rw [hlo]
      cases hw2 : M.w.lookup o with
      | some y =>
        rw [if_pos (by rw [Wl.abs_some hw2]; rfl)] at k1
        refine if_t rfl ?_
        exact k1 _ O2
      | none =>
        rw [if_neg (by rw [Wl.abs_none hw2]; decide)] at k1
        refine if_f rfl ?_
        walk_at "s"
        intro b1 hb1
        have O3 := O2.new (o := .lst [V.str "", V.str "NoRoom"]) hb1
        walk_at "s"
        refine ask1 ⟨M, rfl, Wl.len ok, (O3.drop (cs' := cMd M) (.cons _ (.refl _))).self, fun H7 O7 => ?_⟩
        have O8 := O3.call (.there .all) O7
        have hD8 := O8.get (a := M.D) (o := .dK (mdD M)) (.tail _ (.head _))
        have hb8 := O8.get (a := b1) (o := .lst [V.str "", V.str "NoRoom"]) (.head _)
        have hra := O8.get (a := ad) (o := .dK (Ch.kvs r)) (.tail _ (.tail _ (List.mem_append_left _ (wd_mem hw))))
        have hv8 : valV (mdD M) (Sum.inr "total") = some (.int M.tot) := rfl
        have O9 := O8.drop (cs' := cMd M) (.cons _ (.refl _))
        walk_at "s"
        refine ⟨pick2 _, ?_⟩
        by_cases hz : heldA M.w.abs + r.pure.length > M.tot
        · rw [if_pos hz] at k1
          rw [List.length_map] at hz ⊢
          exact pick2t (decide_eq_true hz) (k1 _ O9)
        · rw [if_neg hz] at k1
          rw [List.length_map] at hz ⊢
          exact pick2f (decide_eq_false hz) (k1 _ O9)

def sp__law_done (K : PySem.W.Frag) : Sp := sp2 fun x y H Q _ => ∃ M T b d w' o, x = .ref M.D ∧ y = .ref T ∧ WOk M.w.abs ∧ ksA M.s.abs = ksA M.w.abs ∧ d.fine ∧ Own H H (adr (cMd M)) (cMd M) ∧ DAt H (adr (cMd M)) T d b ∧ sem M.tot M.w.abs d = .ok (w', o) ∧
  ∀ H' M' o', Own H H' (adr (cMd M)) (Tol.cel o' ++ cMd M') → M'.D = M.D → M'.tot = M.tot → M'.w.abs = w' → M'.s.abs = (semS M.s.abs M.c d).1 → M'.c = (semS M.s.abs M.c d).2 → o'.map (·.2) = o → Q (Tol.v o') H'
theorem slD_val (s : Sl) (t : Int) : valV (slD s) (Sum.inl t) = (s.lookup t).map fun x => V.ref x.1 := lk_val (fun x : Addr × List (Int × Nat) => V.ref x.1) s t
theorem srD_val (l : List (Int × Nat)) (t : Int) : valV (srD l) (Sum.inl t) = (l.lookup t).map fun x => V.int (x : Nat) := lk_val (fun x : Nat => V.int (x : Nat)) l t
theorem Sl.look_abs (s : Sl) (t : Int) : s.abs.lookup t = (s.lookup t).map fun x => x.2 := lk_map (fun x : Addr × List (Int × Nat) => x.2) s t
/-- a room's stands -/
theorem sl_at {M : MdG} (hk : ksA M.s.abs = ksA M.w.abs) {t : Int} {a : Addr} {r : Ch} (hw : M.w.lookup t = some (a, r)) : ∃ a2 u, M.s.lookup t = some (a2, u) ∧ u.map (·.1) = r.map (·.1) := by
  obtain ⟨u, hu, e⟩ := ksA_row hk (Wl.abs_some hw)
  rw [Sl.look_abs] at hu
  cases h : M.s.lookup t with
  | none => rw [h] at hu; cases hu
  | some y =>
    rw [h] at hu
    cases hu
    refine ⟨y.1, y.2, rfl, e.trans ?_⟩
    rw [List.map_map]
    rfl
theorem sl_none {M : MdG} (hk : ksA M.s.abs = ksA M.w.abs) {t : Int} (hw : M.w.lookup t = none) : M.s.lookup t = none := by
  have h := ksA_none hk (Wl.abs_none hw)
  rw [Sl.look_abs] at h
  exact Option.map_eq_none_iff.mp h
theorem sl_nd {M : MdG} (hk : ksA M.s.abs = ksA M.w.abs) (ok : WOk M.w.abs) : (M.s.map (·.1)).Nodup := by
  have h := congrArg (List.map Prod.fst) hk
  unfold ksA at h
  rw [List.map_map, List.map_map, List.map_map, List.map_map] at h
  have := Wl.nd ok
  rw [show M.s.map (·.1) = M.w.map (·.1) from h]
  exact this
theorem sl_len {M : MdG} (hk : ksA M.s.abs = ksA M.w.abs) : M.s.length = M.w.length := by
  have h := congrArg List.length hk
  unfold ksA at h
  rw [List.length_map, List.length_map, List.length_map, List.length_map] at h
  exact h
theorem cSl_mid (D : Addr) (l q : Sl) (x : Int × Addr × List (Int × Nat)) : cSl D (l ++ x :: q) = (D, .dK (slD (l ++ x :: q))) :: (l.map cSr ++ cSr x :: q.map cSr) := by
  unfold cSl
  rw [List.map_append (l₁ := l)]
  rfl
theorem slD_mid (l q : Sl) (t : Int) (a : Addr) (u u' : List (Int × Nat)) : slD (l ++ (t, a, u) :: q) = slD (l ++ (t, a, u') :: q) := by
  unfold slD
  rw [List.map_append, List.map_append]
  rfl
theorem Sl.new {s : Sl} {t : Int} {v : V} (h : s.lookup t = none) : putK (slD s) (Sum.inl t) v = slD s ++ [(Sum.inl t, v)] := putK_new (fun z => by
  rw [List.map_map] at z
  obtain ⟨x, hx, e⟩ := List.mem_map.mp z
  cases e
  exact lk_none.mp h (List.mem_map.mpr ⟨x, hx, rfl⟩))
theorem Sl.drop {l q : Sl} {t : Int} {x : Addr × List (Int × Nat)} (nd : ((l ++ (t, x) :: q).map (·.1)).Nodup) : dropK (slD (l ++ (t, x) :: q)) (Sum.inl t) = slD (l ++ q) := (dropA_val (fun x : Addr × List (Int × Nat) => V.ref x.1) _ t).trans (by rw [dropA_mid nd])
theorem Sl.drop_abs {l q : Sl} {t : Int} {x : Addr × List (Int × Nat)} (nd : ((l ++ (t, x) :: q).map (·.1)).Nodup) : dropA (Sl.abs (l ++ (t, x) :: q)) t = Sl.abs (l ++ q) := (dropA_map (fun x : Addr × List (Int × Nat) => x.2) _ t).trans (by rw [dropA_mid nd])
theorem Sl.set_abs {l q : Sl} {t : Int} {a b : Addr} {r r' : List (Int × Nat)} (nd : ((l ++ (t, a, r) :: q).map (·.1)).Nodup) : setA (Sl.abs (l ++ (t, a, r) :: q)) t r' = Sl.abs (l ++ (t, b, r') :: q) := by
  have e : Sl.abs (l ++ (t, a, r) :: q) = Sl.abs l ++ (t, r) :: Sl.abs q := by unfold Sl.abs; rw [List.map_append]; rfl
  have nd2 : ((Sl.abs l ++ (t, r) :: Sl.abs q).map (·.1)).Nodup := by
    rw [← e, List.map_map]
    exact nd
  rw [e, setA_mid nd2]
  unfold Sl.abs
  rw [List.map_append]
  rfl
theorem dropA_keys {α : Type} (m : List (Int × α)) (k : Int) : (dropA m k).map (·.1) = (m.map (·.1)).filter fun x => decide (x ≠ k) := by
  unfold dropA
  rw [List.filter_map]
  rfl
theorem putK_old {α : Type} (f : α → V) {m : List (Int × α)} {k : Int} (v : α) (h : k ∈ m.map (·.1)) : putK (m.map fun x => ((Sum.inl x.1 : Key), f x.2)) (Sum.inl k) (f v) = (setA m k v).map fun x => ((Sum.inl x.1 : Key), f x.2) := by
  unfold putK setA
  obtain ⟨y, hy, rfl⟩ := List.mem_map.mp h
  rw [if_pos (List.any_eq_true.mpr ⟨(Sum.inl y.1, f y.2), List.mem_map.mpr ⟨y, hy, rfl⟩, decide_eq_true rfl⟩), List.map_map, List.map_map]
  refine List.map_congr_left fun x _ => ?_
  show (if (Sum.inl x.1 : Key) = Sum.inl y.1 then ((Sum.inl x.1 : Key), f v) else (Sum.inl x.1, f x.2)) = (Sum.inl (if x.1 = y.1 then (x.1, v) else x).1, f (if x.1 = y.1 then (x.1, v) else x).2)
  by_cases e : x.1 = y.1
  · rw [if_pos e, if_pos (by rw [e])]
  · rw [if_neg e, if_neg (fun z => e (Sum.inl.inj z))]
theorem mdD_poke (M : MdG) : putK (mdD M) (Sum.inr "pokes") (.int ((M.c : Nat) + 1)) = mdD { M with c := M.c + 1 } := by
  have h : ((mdD M).any fun kv => decide (kv.1 = (Sum.inr "pokes" : Key))) = true := List.any_eq_true.mpr ⟨((Sum.inr "pokes" : Key), V.int (M.c : Nat)), .tail _ (.tail _ (.tail _ (.head _))), decide_eq_true rfl⟩
  unfold putK
  rw [if_pos h]
  rfl
/-- what items tells -/
theorem item_at {α : Type} (f : α → V) {m : List (Int × α)} {j : Nat} {x0 y0 : V} (hx : (m.map fun x => ((Sum.inl x.1 : Key), f x.2))[j]?.map (fun kv => kV kv.1) = some x0) (hy : (m.map fun x => ((Sum.inl x.1 : Key), f x.2))[j]?.map Prod.snd = some y0) : ∃ y, m[j]? = some y ∧ x0 = .int y.1 ∧ y0 = f y.2 := by
  rw [List.getElem?_map] at hx hy
  cases e : m[j]? with
  | none => rw [e] at hx; cases hx
  | some y =>
    rw [e] at hx hy
    exact ⟨y, rfl, (Option.some.inj hx).symm, (Option.some.inj hy).symm⟩
theorem cMd_at {M : MdG} {l q : Wl} {t : Int} {a : Addr} {r : Ch} {l2 q2 : Sl} {a2 : Addr} {u : List (Int × Nat)} (h1 : M.w = l ++ (t, a, r) :: q) (h2 : M.s = l2 ++ (t, a2, u) :: q2) : cMd M =
    (M.D, .dK (mdD M)) :: (((M.RD, .dK (wlD M.w)) :: (cRms l ++ (cCh a r ++ cRms q))) ++ ((M.SD, .dK (slD M.s)) :: (l2.map cSr ++ (a2, .dK (srD u)) :: q2.map cSr))) := by
  unfold cMd
  rw [h1, h2, cWl_mid, cSl_mid]
theorem cMd_mid (M : MdG) (l q : Wl) (t : Int) (a : Addr) (r : Ch) (l2 q2 : Sl) (a2 : Addr) (u : List (Int × Nat)) : cMd { M with w := l ++ (t, a, r) :: q, s := l2 ++ (t, a2, u) :: q2 } =
    (M.D, .dK (mdD M)) :: (((M.RD, .dK (wlD (l ++ (t, a, r) :: q))) :: (cRms l ++ (cCh a r ++ cRms q))) ++ ((M.SD, .dK (slD (l2 ++ (t, a2, u) :: q2))) :: (l2.map cSr ++ (a2, .dK (srD u)) :: q2.map cSr))) := by
  unfold cMd
  rw [cWl_mid, cSl_mid]
  rfl
theorem sc__law_done : FnScope ["_law_model_here", "_law_deed_here", "_law_rooms", "_law_stands", "_law_name", "_law_task", "_law_page", "_law_cells_here", "_law_k", "_law_cell", "_law_at"] ["_law_model_here", "_law_deed_here"] (defScope s__law_done) := ⟨rfl, rfl, rfl, by decide +kernel, rfl, by decide +kernel, by decide +kernel⟩
theorem ok__law_done {P : Program} {w : World} {K : PySem.W.Frag} {mg : Str → Option Value} {base : Heap} (T : Txt K mg) : Cee P w K mg base 1 (He.fAd K ("_law_done", none)) ["_law_model_here", "_law_deed_here"] (sp__law_done K) := by
  refine cee_of T.d__law_done sc__law_done (fun _ _ _ _ _ _ us hl => match us, hl with | [_, _], _ => rfl) (fun vs H Q E h => sp2_len h) (fun cdv A outer s H vs Q E hr h => ⟨_, (pss_cons (ps_asg (pe_tup (pa_cons (pe_dget (hu_of hr) (pv 0) pe_str (fun _ _ => rfl)) (pa_cons (pe_dget (hu_of hr) (pv 0) pe_str (fun _ _ => rfl)) pa_nil))) (pg_tup rfl (pgs_cons (pg_name (i := 2) sc__law_done.nd rfl (Or.inr rfl)) (pgs_cons (pg_name (i := 3) sc__law_done.nd rfl (Or.inl rfl)) pgs_nil)))) (pss_cons (ps_asg (pe_slice sl_tupA (pv 1) po_none (po_some pe_int)) (pg_tup rfl (pgs_cons (pg_name (i := 4) sc__law_done.nd rfl (Or.inl rfl)) (pgs_cons (pg_name (i := 5) sc__law_done.nd rfl (Or.inr rfl)) pgs_nil)))) (pss_cons (PS.box (ps_if (pt_cmpR op_eq (pv 4) pe_str (nomark _)) (pss_one (ps_asg (pe_tup (pa_cons pe_dnewK (pa_cons pe_dnewK pa_nil))) (pg_tup rfl (pgs_cons (pg_sub (pv 2) (pv 5) (set_dict (hu_of hr))) (pgs_cons (pg_sub (pv 3) (pv 5) (set_dict (hu_of hr))) pgs_nil))))) (pss_one (ps_if (pt_cmpR op_eq (pv 4) pe_str (nomark _)) (pss_cons (ps_expr (pe_dpop1 (pv 2) (pv 5) ⟨rfl, rfl, rfl, rfl⟩)) (pss_one (ps_expr (pe_dpop1 (pv 3) (pv 5) ⟨rfl, rfl, rfl, rfl⟩)))) (pss_one (ps_if (pt_cmpR op_eq (pv 4) pe_str (nomark _)) (pss_one (ps_for (passes_of rfl) rfl (PI.box (pi_range2W (by rfl) T.n_range (pa_cons (pe_ix ix_tup (pv 1) pe_int (fun _ _ => rfl)) (pa_cons (pe_op op_add (pe_ix ix_tup (pv 1) pe_int (fun _ _ => rfl)) (pe_ix ix_tup (pv 1) pe_int (fun _ _ => rfl))) pa_nil)))) (pg_name (i := 6) sc__law_done.nd rfl (Or.inl rfl)) (pss_one (ps_asg (pe_tup (pa_cons (pe_op op_rep (pe_lst (pa_cons pe_int pa_nil)) pe_int) (pa_cons pe_int pa_nil))) (pg_tup rfl (pgs_cons (pg_sub (pe_dget (hu_of hr) (pv 2) (pv 5) (fun _ _ => rfl)) (pv 6) (set_dict (hu_of hr))) (pgs_cons (pg_sub (pe_dget (hu_of hr) (pv 3) (pv 5) (fun _ _ => rfl)) (pv 6) (set_dict (hu_of hr))) pgs_nil))))))) (pss_one (ps_if (pt_cmpR op_eq (pv 4) pe_str (nomark _)) (pss_one (ps_for (passes_of rfl) rfl (PI.box (pi_range2W (by rfl) T.n_range (pa_cons (pe_ix ix_tup (pv 1) pe_int (fun _ _ => rfl)) (pa_cons (pe_op op_add (pe_ix ix_tup (pv 1) pe_int (fun _ _ => rfl)) (pe_ix ix_tup (pv 1) pe_int (fun _ _ => rfl))) pa_nil)))) (pg_name (i := 6) sc__law_done.nd rfl (Or.inl rfl)) (pss_cons (ps_expr (pe_dpop1 (pe_dget (hu_of hr) (pv 2) (pv 5) (fun _ _ => rfl)) (pv 6) ⟨rfl, rfl, rfl, rfl⟩)) (pss_one (ps_expr (pe_dpop1 (pe_dget (hu_of hr) (pv 3) (pv 5) (fun _ _ => rfl)) (pv 6) ⟨rfl, rfl, rfl, rfl⟩)))))) (pss_one (ps_if (pt_cmpR op_eq (pv 4) pe_str (nomark _)) (pss_cons (ps_dput (hu_of hr) (pv 3) (pe_ix ix_tup (pv 1) pe_int (fun _ _ => rfl)) (pe_callTy call_dictD (by rfl) T.n_dict (by decide +kernel) (pa_cons (pe_dget (hu_of hr) (pv 3) (pv 5) (fun _ _ => rfl)) pa_nil)) rfl) (pss_cons (ps_dput (hu_of hr) (pv 2) (pe_ix ix_tup (pv 1) pe_int (fun _ _ => rfl)) pe_dnewK rfl) (pss_one (ps_lock (ps_for (passes_of rfl) rfl (PI.box (pi_items (pe_dget (hu_of hr) (pv 2) (pv 5) (fun _ _ => rfl)))) (pg_tup rfl (pgs_cons (pg_name (i := 6) sc__law_done.nd rfl (Or.inl rfl)) (pgs_cons (pg_name (i := 7) sc__law_done.nd rfl (Or.inl rfl)) pgs_nil))) (pss_one (ps_dput (hu_of hr) (pe_dget (hu_of hr) (pv 2) (pe_ix ix_tup (pv 1) pe_int (fun _ _ => rfl)) (fun _ _ => rfl)) (pv 6) (pe_callTy call_list_of (by rfl) T.n_list (by decide +kernel) (pa_cons (pv 7) pa_nil)) rfl))))))) (pss_one (ps_if (pt_cmpR op_eq (pv 4) pe_str (nomark _)) (pss_one (ps_ret (pe_lc (own := [("_law_at", 10)]) (by rfl) sc__law_done.nd (PI.box (pi_range2W (by rfl) T.n_range (pa_cons (pe_ix ix_tup (pv 1) pe_int (fun _ _ => rfl)) (pa_cons (pe_op op_add (pe_ix ix_tup (pv 1) pe_int (fun _ _ => rfl)) (pe_ix ix_tup (pv 1) pe_int (fun _ _ => rfl))) pa_nil)))) (blkOk_by (own := [("_law_at", 10)]) (N := ["_law_model_here", "_law_deed_here", "_law_rooms", "_law_stands", "_law_name", "_law_task", "_law_page", "_law_cells_here", "_law_k", "_law_cell", "_law_at"]) (sc := defScope s__law_done) (by decide +kernel)) (fun _ _ _ _ _ => (pg_name (i := 10) sc__law_done.nd rfl (Or.inl rfl))) (fun _ _ _ _ _ => pts_nil) (fun _ _ _ _ _ => (pe_ix (show IxR _ (rIxL K) from ix_list) (pe_dget (hu_of hr) (pe_dget (hu_of hr) (pv 2) (pv 5) (fun _ _ => rfl)) (pe_op op_fdiv (pv 10) pe_int) (fun _ _ => rfl)) (pe_op op_mod (pv 10) pe_int) (fun _ _ => rfl)))))) (pss_one (ps_for (passes_of rfl) rfl (PI.box (pi_enum (by rfl) T.n_enumerate (pa_cons (pe_ix ix_tup (pv 1) pe_int (fun _ _ => rfl)) pa_nil))) (pg_tup rfl (pgs_cons (pg_name (i := 8) sc__law_done.nd rfl (Or.inl rfl)) (pgs_cons (pg_name (i := 9) sc__law_done.nd rfl (Or.inl rfl)) pgs_nil))) (pss_cons (ps_set (i := 10) sc__law_done.nd rfl (Or.inl rfl) (pe_op op_add (pe_ix ix_tup (pv 1) pe_int (fun _ _ => rfl)) (pv 8))) (pss_cons (ps_asg (pv 9) (pg_sub (pe_dget (hu_of hr) (pe_dget (hu_of hr) (pv 2) (pv 5) (fun _ _ => rfl)) (pe_op op_fdiv (pv 10) pe_int) (fun _ _ => rfl)) (pe_op op_mod (pv 10) pe_int) set_list)) (pss_one (ps_if (PW.pt (pw_or (pt_cmpR op_eq (pv 8) pe_int (nomark _)) (pw_or1 (pt_cmpR op_eq (pe_op op_mod (pv 10) pe_int) pe_int (nomark _))))) (pss_cons (ps_dput (hu_of hr) (pv 0) pe_str (pe_op op_add (pe_dget (hu_of hr) (pv 0) pe_str (fun _ _ => rfl)) pe_int) rfl) (pss_one (ps_dput (hu_of hr) (pe_dget (hu_of hr) (pv 3) (pv 5) (fun _ _ => rfl)) (pe_op op_fdiv (pv 10) pe_int) (pe_dget (hu_of hr) (pv 0) pe_str (fun _ _ => rfl)) rfl))) pss_nil)))))))))))))))))) (pss_one (ps_ret pe_non))))), ?_⟩)
  obtain ⟨v0, v1, rfl, h⟩ := h
  dsimp only [cxOf, L2.start]
  obtain ⟨M, T, b, d, w', o, rfl, rfl, ok, hks, hf, O, ⟨hT, hbb⟩, hs, k⟩ := h
  have hD := O.get (a := M.D) (o := .dK (mdD M)) (.head _)
  have hvR : valV (mdD M) (Sum.inr "rooms") = some (.ref M.RD) := rfl
  have hvS : valV (mdD M) (Sum.inr "stands") = some (.ref M.SD) := rfl
  have hlen : (wlD M.w).length < 100000 := by
    have := Wl.len ok
    rw [List.length_map]
    omega
  have hlenS : (slD M.s).length < 100000 := by
    have := Wl.len ok
    have := sl_len hks
    rw [List.length_map]
    omega
  have nd := Wl.nd ok
  have ndS := sl_nd hks ok
  cases d with
  | begin t =>
    have hT : H T = some (.tup [.str "begin", .int t]) := hT
    obtain ⟨hno, e⟩ := if_ok hs
    cases e
    have hw := sem_t0 hno
    have hw2 := sl_none hks hw
    walk_at "s"
    intro p0 hp0
    have O1 := O.newT (o := .tup [.ref M.RD, .ref M.SD]) hp0
    have hp1 : (upd H p0 (.tup [.ref M.RD, .ref M.SD])) p0 = some (.tup [.ref M.RD, .ref M.SD]) := upd_same
    have hT1 := O1.tp _ _ hT
    generalize upd H p0 (.tup [.ref M.RD, .ref M.SD]) = H1 at O1 hp1 hT1 ⊢
    walk_at "s"
    refine ⟨fun _ => ?_, fun hne => absurd ⟨rfl, rfl⟩ hne⟩
    walk_at "s"
    walk_at "b"
    refine if_t rfl ?_
    walk_at "s"
    intro a ha
    have O2 := O1.new (o := .dK []) ha
    walk_at "s"
    intro a2 ha2
    have O3 := O2.new (o := .dK []) ha2
    walk_at "s"
    intro p1 hp1'
    have O4 := O3.newT (o := .tup [.ref a, .ref a2]) hp1'
    have hp4 : (upd (upd (upd H1 a (.dK [])) a2 (.dK [])) p1 (.tup [.ref a, .ref a2])) p1 = some (.tup [.ref a, .ref a2]) := upd_same
    have hR4 := O4.get (a := M.RD) (o := .dK (wlD M.w)) (.tail _ (.tail _ (.tail _ (List.mem_append_left _ (.head _)))))
    walk_at "s"
    rw [Wl.new hw]
    have O5 := O4.wr (a := M.RD) (o' := .dK (wlD M.w ++ [(Sum.inl t, V.ref a)])) (.there (.there (.there (.appl .here))))
    have hS5 := O5.get (a := M.SD) (o := .dK (slD M.s)) (.tail _ (.tail _ (.tail _ (List.mem_append_right _ (.head _)))))
    walk_at "s"
    rw [Sl.new hw2]
    have O6 := O5.wr (a := M.SD) (o' := .dK (slD M.s ++ [(Sum.inl t, V.ref a2)])) (.there (.there (.there (.app .here))))
    refine k _ { M with w := M.w ++ [(t, a, [])], s := M.s ++ [(t, a2, [])] } none ?_ rfl rfl ?_ ?_ rfl rfl
    · refine O6.perm ?_
      have e : cMd { M with w := M.w ++ [(t, a, [])], s := M.s ++ [(t, a2, [])] } = (M.D, .dK (mdD M)) :: (((M.RD, .dK (wlD M.w ++ [(Sum.inl t, V.ref a)])) :: (cRms M.w ++ [(a, .dK [])])) ++ ((M.SD, .dK (slD M.s ++ [(Sum.inl t, V.ref a2)])) :: (M.s.map cSr ++ [(a2, .dK [])]))) := by
        unfold cMd cWl cSl
        rw [cRms_app]
        unfold wlD slD
        rw [List.map_append (l₁ := M.w), List.map_append (l₁ := M.s), List.map_append (l₁ := M.s)]
        rfl
      refine List.Perm.trans ?_ (List.Perm.of_eq e.symm)
      walk_at "pm"
    · show Wl.abs (M.w ++ [(t, a, [])]) = _
      unfold Wl.abs
      rw [List.map_append]
      rfl
    · show Sl.abs (M.s ++ [(t, a2, [])]) = _
      unfold Sl.abs
      rw [List.map_append]
      rfl
  | close t =>
    have hT : H T = some (.tup [.str "close", .int t]) := hT
    obtain ⟨hno, e⟩ := if_ok3 hs
    cases e
    obtain ⟨a, r, hw⟩ := sem_t1 hno
    obtain ⟨a2, u, hw2, hur⟩ := sl_at hks hw
    walk_at "s"
    intro p0 hp0
    have O1 := O.newT (o := .tup [.ref M.RD, .ref M.SD]) hp0
    have hp1 : (upd H p0 (.tup [.ref M.RD, .ref M.SD])) p0 = some (.tup [.ref M.RD, .ref M.SD]) := upd_same
    have hT1 := O1.tp _ _ hT
    generalize upd H p0 (.tup [.ref M.RD, .ref M.SD]) = H1 at O1 hp1 hT1 ⊢
    walk_at "s"
    have hv : valV (wlD M.w) (Sum.inl t) = some (.ref a) := by rw [Wl.look, hw]; rfl
    have hv2 : valV (slD M.s) (Sum.inl t) = some (.ref a2) := by rw [slD_val, hw2]; rfl
    refine ⟨fun _ => ?_, fun hne => absurd ⟨rfl, rfl⟩ hne⟩
    walk_at "s"
    have hR1 := O1.get (a := M.RD) (o := .dK (wlD M.w)) (.tail _ (List.mem_append_left _ (.head _)))
    obtain ⟨l, q, e1, hl⟩ := lk_split hw
    obtain ⟨l2, q2, e2, hl2⟩ := lk_split hw2
    have O2 := (O1.eq (cMd_at e1 e2)).wr (a := M.RD) (o' := .dK (dropK (wlD M.w) (Sum.inl t))) (.there (.appl .here))
    have hS2 := O2.get (a := M.SD) (o := .dK (slD M.s)) (.tail _ (List.mem_append_right _ (.head _)))
    have O3 := O2.wr (a := M.SD) (o' := .dK (dropK (slD M.s) (Sum.inl t))) (.there (.app .here))
    walk_at "b"
    have nd' := nd
    have ndS' := ndS
    rw [e1] at nd'
    rw [e2] at ndS'
    refine k _ { M with w := l ++ q, s := l2 ++ q2 } none ?_ rfl rfl ?_ ?_ rfl rfl
    · rw [show dropK (wlD M.w) (Sum.inl t) = wlD (l ++ q) by rw [e1, Wl.drop nd'], show dropK (slD M.s) (Sum.inl t) = slD (l2 ++ q2) by rw [e2, Sl.drop ndS']] at O3 ⊢
      refine O3.drop ?_
      show List.Sublist ((M.D, HO.dK (mdD M)) :: (((M.RD, HO.dK (wlD (l ++ q))) :: cRms (l ++ q)) ++ ((M.SD, .dK (slD (l2 ++ q2))) :: (l2 ++ q2).map cSr))) _
      rw [cRms_app, List.map_append (l₁ := l2)]
      exact .cons₂ _ (.append (.cons₂ _ (.append (.refl _) (List.sublist_append_right _ _))) (.cons₂ _ (.append (.refl _) (.cons _ (.refl _)))))
    · show Wl.abs (l ++ q) = _
      rw [e1, Wl.drop_abs nd']
    · show Sl.abs (l2 ++ q2) = dropA (Sl.abs M.s) t
      rw [e2, Sl.drop_abs ndS']
  | map t g n =>
    have hT : H T = some (.tup [.str "map", .int t, .int g, .int n]) := hT
    cases hw : M.w.lookup t with
    | none => rw [sem_map0 (Wl.abs_none hw)] at hs; cases hs
    | some x =>
    obtain ⟨a, r⟩ := x
    obtain ⟨a2, u, hw2, hur⟩ := sl_at hks hw
    rw [sem_map1 (Wl.abs_some hw)] at hs
    obtain ⟨hb, hs⟩ := if_ok2 hs
    obtain ⟨hany, hs⟩ := if_ok2 hs
    obtain ⟨_, e⟩ := if_ok hs
    cases e
    walk_at "s"
    intro p0 hp0
    have O1 := O.newT (o := .tup [.ref M.RD, .ref M.SD]) hp0
    have hp1 : (upd H p0 (.tup [.ref M.RD, .ref M.SD])) p0 = some (.tup [.ref M.RD, .ref M.SD]) := upd_same
    have hT1 := O1.tp _ _ hT
    generalize upd H p0 (.tup [.ref M.RD, .ref M.SD]) = H1 at O1 hp1 hT1 ⊢
    walk_at "s"
    refine ⟨fun h => absurd (show (2 : Nat) = 4 from h.2) (by decide), fun _ T2 hT2 => ?_⟩
    rw [show cutV [V.str "map", V.int t, V.int g, V.int n] none (some 2) = [.str "map", .int t] from rfl]
    have O2 := O1.newT (o := .tup [.str "map", .int t]) hT2
    have hT' : (upd H1 T2 (.tup [.str "map", .int t])) T2 = some (.tup [.str "map", .int t]) := upd_same
    generalize upd H1 T2 (.tup [.str "map", .int t]) = H2 at O2 hT' ⊢
    have hT2 := O2.tp _ _ hT
    walk_at "s"
    walk_at "b"
    obtain ⟨l, q, e1, hl⟩ := lk_split hw
    obtain ⟨l2, q2, e2, hl2⟩ := lk_split hw2
    have hrl := (ok.at hw).len
    rw [List.length_map] at hrl
    have hb' := of_decide_eq_false (Bool.eq_false_iff.mpr hb)
    have hul : u.length = r.length := by
      have := congrArg List.length hur
      rwa [List.length_map, List.length_map] at this
    refine forR (fun j σ H' => ∃ (v6 : Option V) (r' : Ch), σ = [some (.ref M.D), some (.ref T), some (.ref M.RD), some (.ref M.SD), some (.str "map"), some (.int t), v6, none, none, none, none] ∧ Own H H' (adr (cMd M)) (cMd { M with w := l ++ (t, a, r') :: q, s := l2 ++ (t, a2, u ++ ((pgs g n.toNat).take j).map fun q => (q, 0)) :: q2 }) ∧ r'.pure = mapR r.pure ((pgs g n.toNat).take j)) ⟨_, r, rfl, O2.eq ?_, (List.append_nil _).symm⟩ ?_ ?_
    · unfold cMd
      dsimp only
      rw [e1, e2]
      show _ = _ :: (_ ++ cSl M.SD (l2 ++ (t, a2, u ++ []) :: q2))
      rw [List.append_nil]
      rfl
    · rintro j σ H' hj ⟨v6, r', rfl, O6, hr'⟩
      have hjn : j < n.toNat := by omega
      obtain ⟨hk, hl'⟩ := map_new hr' hjn hany
      have hlr : (Ch.kvs r').length < 100000 := by rw [List.length_map]; omega
      have hT6 := O6.tp _ _ hT
      have hun : (Sum.inl (g + j) : Key) ∉ (srD (u ++ ((pgs g n.toNat).take j).map fun q => (q, 0))).map (·.1) := fun z => by
        rw [List.map_map] at z
        obtain ⟨y, hy, ey⟩ := List.mem_map.mp z
        have ey : y.1 = g + j := Sum.inl.inj ey
        rcases List.mem_append.mp hy with h1 | h1
        · have h2 : g + (j : Int) ∈ r.map (·.1) := by rw [← hur]; exact List.mem_map.mpr ⟨y, h1, ey⟩
          refine hany (anyP_yes (List.mem_of_getElem? (pgs_get hjn)) ?_)
          rw [Ch.look_abs, Option.isSome_map]
          exact lk_some.mpr h2
        · obtain ⟨v, hv, rfl⟩ := List.mem_map.mp h1
          have ey : v = g + j := ey
          rw [ey] at hv
          exact nd_take (pgs_nd _ _) (pgs_get hjn) hv
      have hus : (srD (u ++ ((pgs g n.toNat).take j).map fun q => (q, 0))).length < 100000 := by
        rw [List.length_map, List.length_append, List.length_map, List.length_take]
        omega
      have hv6 : valV (wlD (l ++ (t, a, r') :: q)) (Sum.inl t) = some (.ref a) := by rw [wlD_mid l q t a r' r, ← e1, Wl.look, hw]; rfl
      have hv6s : valV (slD (l2 ++ (t, a2, u ++ ((pgs g n.toNat).take j).map fun q => (q, 0)) :: q2)) (Sum.inl t) = some (.ref a2) := by rw [slD_mid l2 q2 t a2 _ u, ← e2, slD_val, hw2]; rfl
      have O7 := O6.eq (cMd_mid M l q t a r' l2 q2 a2 _)
      walk_at "s"
      intro c hc
      have O8 := O7.new (o := .lst [V.int 0]) hc
      have hsz : ([V.int 0] : List V).length * (8 : Int).toNat ≤ sizeLine := sz_le (by decide)
      walk_at "s"
      intro e he
      have O9 := O8.new (o := .lst (zeros.map V.int)) he
      walk_at "s"
      intro p3 hp3
      have O10 := O9.newT (o := .tup [.ref e, .int 0]) hp3
      have hp3' : (upd (upd (upd H' c (.lst [V.int 0])) e (.lst (zeros.map V.int))) p3 (.tup [.ref e, .int 0])) p3 = some (.tup [.ref e, .int 0]) := upd_same
      have hR10 := O10.get (a := M.RD) (o := .dK (wlD (l ++ (t, a, r') :: q))) (.tail _ (.tail _ (.tail _ (List.mem_append_left _ (.head _)))))
      have ha10 := O10.get (a := a) (o := .dK (Ch.kvs r')) (.tail _ (.tail _ (.tail _ (List.mem_append_left _ (.tail _ (List.mem_append_right _ (.head _)))))))
      have hT10 := O10.tp _ _ hT
      walk_at "s"
      rw [putK_new hk, putK_new hun]
      have O11 := (O10.drop (cs' := (e, .lst (zeros.map V.int)) :: (M.D, .dK (mdD M)) :: (((M.RD, .dK (wlD (l ++ (t, a, r') :: q))) :: (cRms l ++ (cCh a r' ++ cRms q))) ++ ((M.SD, .dK (slD (l2 ++ (t, a2, u ++ ((pgs g n.toNat).take j).map fun q => (q, 0)) :: q2))) :: (l2.map cSr ++ (a2, .dK (srD (u ++ ((pgs g n.toNat).take j).map fun q => (q, 0)))) :: q2.map cSr)))) (.cons₂ _ (.cons _ (.refl _)))).wr (a := a) (o' := .dK (Ch.kvs r' ++ [(Sum.inl (g + j), V.ref e)])) (.there (.there (.appl (.there (.app (.appl .here))))))
      have O12 := O11.wr (a := a2) (o' := .dK (srD (u ++ ((pgs g n.toNat).take j).map fun q => (q, 0)) ++ [(Sum.inl (g + j), V.int 0)])) (.there (.there (.app (.there (.app .here)))))
      refine ⟨_, r' ++ [(g + j, (e, zeros))], rfl, ?_, ?_⟩
      · have e3 : u ++ ((pgs g n.toNat).take (j + 1)).map (fun q => (q, 0)) = u ++ ((pgs g n.toNat).take j).map (fun q => (q, 0)) ++ [(g + (j : Int), 0)] := by
          rw [take_succ (pgs_get hjn), List.map_append, List.append_assoc]
          rfl
        rw [e3, cMd_mid, wlD_mid l q t a (r' ++ [(g + j, (e, zeros))]) r', slD_mid l2 q2 t a2 _ (u ++ ((pgs g n.toNat).take j).map fun q => (q, 0))]
        have e4 : cCh a (r' ++ [(g + (j : Int), (e, zeros))]) = (a, .dK (Ch.kvs r' ++ [(Sum.inl (g + (j : Int)), V.ref e)])) :: (r'.map (fun x => pcel x.2) ++ [(e, .lst (zeros.map V.int))]) := by
          unfold cCh Ch.kvs
          rw [List.map_append, List.map_append]
          rfl
        have e5 : srD (u ++ ((pgs g n.toNat).take j).map (fun q => (q, 0)) ++ [(g + (j : Int), 0)]) = srD (u ++ ((pgs g n.toNat).take j).map fun q => (q, 0)) ++ [(Sum.inl (g + (j : Int)), V.int 0)] := by
          unfold srD
          rw [List.map_append]
          rfl
        rw [e4, e5]
        refine O12.perm ?_
        walk_at "pm"
      · rw [take_succ (pgs_get hjn)]
        show (r' ++ [(g + (j : Int), (e, zeros))]).map (fun x : Int × Pg => (x.1, x.2.2)) = _
        rw [List.map_append, show r'.map (fun x : Int × Pg => (x.1, x.2.2)) = _ from hr']
        unfold mapR
        rw [List.map_append, ← List.append_assoc]
        rfl
    · rintro σ H' ⟨v6, r', rfl, O6, hr'⟩
      rw [show (g + n - g).toNat = n.toNat by omega, List.take_of_length_le (by rw [pgs_len]; omega)] at hr' O6
      walk_at "s"
      have nd' := nd
      have ndS' := ndS
      rw [e1] at nd'
      rw [e2] at ndS'
      refine k _ _ none O6 rfl rfl ?_ ?_ rfl rfl
      · show Wl.abs (l ++ (t, a, r') :: q) = _
        rw [e1, ← hr']
        exact (Wl.set_abs nd').symm
      · show Sl.abs (l2 ++ (t, a2, _) :: q2) = setA (Sl.abs M.s) t (((Sl.abs M.s).lookup t).getD [] ++ _)
        rw [Sl.look_abs, hw2, e2]
        exact (Sl.set_abs ndS').symm
  | drop t g n =>
    have hT : H T = some (.tup [.str "drop", .int t, .int g, .int n]) := hT
    cases hw : M.w.lookup t with
    | none => rw [sem_drop0 (Wl.abs_none hw)] at hs; cases hs
    | some x =>
    obtain ⟨a, r⟩ := x
    obtain ⟨a2, u, hw2, hur⟩ := sl_at hks hw
    rw [sem_drop1 (Wl.abs_some hw)] at hs
    obtain ⟨hb, hs⟩ := if_ok2 hs
    obtain ⟨hall, e⟩ := if_ok3 hs
    cases e
    have hb' := of_decide_eq_false (Bool.eq_false_iff.mpr hb)
    walk_at "s"
    intro p0 hp0
    have O1 := O.newT (o := .tup [.ref M.RD, .ref M.SD]) hp0
    have hp1 : (upd H p0 (.tup [.ref M.RD, .ref M.SD])) p0 = some (.tup [.ref M.RD, .ref M.SD]) := upd_same
    have hT1 := O1.tp _ _ hT
    generalize upd H p0 (.tup [.ref M.RD, .ref M.SD]) = H1 at O1 hp1 hT1 ⊢
    walk_at "s"
    refine ⟨fun h => absurd (show (2 : Nat) = 4 from h.2) (by decide), fun _ T2 hT2 => ?_⟩
    rw [show cutV [V.str "drop", V.int t, V.int g, V.int n] none (some 2) = [.str "drop", .int t] from rfl]
    have O2 := O1.newT (o := .tup [.str "drop", .int t]) hT2
    have hT' : (upd H1 T2 (.tup [.str "drop", .int t])) T2 = some (.tup [.str "drop", .int t]) := upd_same
    generalize upd H1 T2 (.tup [.str "drop", .int t]) = H2 at O2 hT' ⊢
    have hT2 := O2.tp _ _ hT
    walk_at "s"
    walk_at "b"
    obtain ⟨l, q, e1, hl⟩ := lk_split hw
    obtain ⟨l2, q2, e2, hl2⟩ := lk_split hw2
    have rok := ok.at hw
    have ndr := Ch.ndp rok
    refine forR (fun j σ H' => ∃ (v6 : Option V) (r' : Ch), σ = [some (.ref M.D), some (.ref T), some (.ref M.RD), some (.ref M.SD), some (.str "drop"), some (.int t), v6, none, none, none, none] ∧ Own H H' (adr (cMd M)) (cMd { M with w := l ++ (t, a, r') :: q, s := l2 ++ (t, a2, ((pgs g n.toNat).take j).foldl dropA u) :: q2 }) ∧ r'.pure = dropR r.pure ((pgs g n.toNat).take j) ∧ (r'.map (·.1)).Nodup ∧ (∀ y, y ∉ (pgs g n.toNat).take j → r'.lookup y = r.lookup y) ∧ (((pgs g n.toNat).take j).foldl dropA u).map (·.1) = r'.map (·.1)) ⟨_, r, rfl, O2.eq ?_, rfl, ndr, fun _ _ => rfl, hur⟩ ?_ ?_
    · unfold cMd
      dsimp only
      rw [e1, e2]
      rfl
    · rintro j σ H' hj ⟨v6, r', rfl, O6, hr', ndr', hsame, hkk⟩
      have hjn : j < n.toNat := by omega
      have hyn : g + (j : Int) ∉ (pgs g n.toNat).take j := nd_take (pgs_nd _ _) (pgs_get hjn)
      have hy3 := List.all_eq_true.mp hall _ (List.mem_of_getElem? (pgs_get (p := g) hjn))
      rw [Ch.look_abs, ← hsame _ hyn, Option.isSome_map] at hy3
      obtain ⟨z, hz⟩ := Option.isSome_iff_exists.mp hy3
      have hy4 : ((((pgs g n.toNat).take j).foldl dropA u).lookup (g + (j : Int))).isSome = true := by rw [lk_some, hkk, ← lk_some]; exact hy3
      obtain ⟨v, hvv⟩ := Option.isSome_iff_exists.mp hy4
      have hfs : ((pgs g n.toNat).take (j + 1)).foldl dropA u = dropA (((pgs g n.toNat).take j).foldl dropA u) (g + (j : Int)) := by
        rw [take_succ (pgs_get hjn), List.foldl_append]
        rfl
      generalize ((pgs g n.toNat).take j).foldl dropA u = u' at O6 hkk hy4 hvv hfs ⊢
      obtain ⟨l3, q3, rfl, hl3⟩ := lk_split hz
      have O7 := O6.eq (cMd_mid M l q t a _ l2 q2 a2 _)
      have haa : H' a = some (.dK (Ch.kvs (l3 ++ (g + (j : Int), z) :: q3))) := O7.get (.tail _ (List.mem_append_left _ (.tail _ (List.mem_append_right _ (.head _)))))
      have hvy : valV (Ch.kvs (l3 ++ (g + (j : Int), z) :: q3)) (Sum.inl (g + (j : Int))) = some (.ref z.1) := by rw [Ch.lookV, hz]; rfl
      have hvs : valV (srD u') (Sum.inl (g + (j : Int))) = some (.int (v : Nat)) := by rw [srD_val, hvv]; rfl
      have hT6 := O6.tp _ _ hT
      have hv6 : valV (wlD (l ++ (t, a, (l3 ++ (g + (j : Int), z) :: q3)) :: q)) (Sum.inl t) = some (.ref a) := by rw [wlD_mid l q t a _ r, ← e1, Wl.look, hw]; rfl
      have hv6s : valV (slD (l2 ++ (t, a2, u') :: q2)) (Sum.inl t) = some (.ref a2) := by rw [slD_mid l2 q2 t a2 _ u, ← e2, slD_val, hw2]; rfl
      walk_at "s"
      rw [show dropK (Ch.kvs (l3 ++ (g + (j : Int), z) :: q3)) (Sum.inl (g + (j : Int))) = Ch.kvs (l3 ++ q3) from (dropA_val (fun x : Pg => V.ref x.1) _ _).trans (by rw [dropA_mid ndr'])]
      have O8 := O7.wr (a := a) (o' := .dK (Ch.kvs (l3 ++ q3))) (.there (.appl (.there (.app (.appl .here)))))
      walk_at "s"
      rw [show dropK (srD u') (Sum.inl (g + (j : Int))) = srD (dropA u' (g + (j : Int))) from dropA_val (fun x : Nat => V.int (x : Nat)) u' _]
      have O9 := O8.wr (a := a2) (o' := .dK (srD (dropA u' (g + (j : Int))))) (.there (.app (.there (.app .here))))
      refine ⟨_, l3 ++ q3, rfl, ?_, ?_, ?_, ?_, ?_⟩
      · rw [hfs, cMd_mid, wlD_mid l q t a (l3 ++ q3) (l3 ++ (g + (j : Int), z) :: q3), slD_mid l2 q2 t a2 _ u']
        refine O9.drop (.cons₂ _ (.append (.cons₂ _ (.append (.refl _) (.append (.cons₂ _ ?_) (.refl _)))) (.refl _)))
        rw [List.map_append, List.map_append]
        exact .append (.refl _) (.cons _ (.refl _))
      · rw [take_succ (pgs_get hjn)]
        unfold dropR
        rw [List.foldl_append]
        show _ = dropA (dropR r.pure _) (g + (j : Int))
        rw [← hr']
        exact ((dropA_map (fun x : Pg => x.2) _ _).trans (by rw [dropA_mid ndr'])).symm
      · refine ndr'.sublist (List.Sublist.map _ ?_)
        exact .append (.refl _) (.cons _ (.refl _))
      · intro y hy
        rw [take_succ (pgs_get hjn)] at hy
        have hy1 : y ≠ g + (j : Int) := fun e => hy (by rw [e]; simp)
        rw [← hsame y fun z => hy (List.mem_append_left _ z), lk_app, lk_app, List.lookup_cons, show (y == g + (j : Int)) = false by simpa using hy1]
      · rw [hfs, dropA_keys, hkk, ← dropA_keys, dropA_mid ndr']
    · rintro σ H' ⟨v6, r', rfl, O6, hr', ndr', hsame, hkk⟩
      rw [show (g + n - g).toNat = n.toNat by omega, List.take_of_length_le (by rw [pgs_len]; omega)] at hr' O6
      walk_at "s"
      have nd' := nd
      have ndS' := ndS
      rw [e1] at nd'
      rw [e2] at ndS'
      refine k _ _ none O6 rfl rfl ?_ ?_ rfl rfl
      · show Wl.abs (l ++ (t, a, r') :: q) = _
        rw [e1, ← hr']
        exact (Wl.set_abs nd').symm
      · show Sl.abs (l2 ++ (t, a2, _) :: q2) = setA (Sl.abs M.s) t (List.foldl dropA (((Sl.abs M.s).lookup t).getD []) _)
        rw [Sl.look_abs, hw2, e2]
        exact (Sl.set_abs ndS').symm
  | peek t g n =>
    have hT : H T = some (.tup [.str "peek", .int t, .int g, .int n]) := hT
    cases hw : M.w.lookup t with
    | none => rw [sem_peek0 (Wl.abs_none hw)] at hs; cases hs
    | some x =>
    obtain ⟨a, r⟩ := x
    rw [sem_peek1 (Wl.abs_some hw)] at hs
    obtain ⟨hb, hs⟩ := if_ok2 hs
    obtain ⟨hall, e⟩ := if_ok3 hs
    cases e
    have hb' := of_decide_eq_false (Bool.eq_false_iff.mpr hb)
    have rok := ok.at hw
    have hv : valV (wlD M.w) (Sum.inl t) = some (.ref a) := by rw [Wl.look, hw]; rfl
    walk_at "s"
    intro p0 hp0
    have O1 := O.newT (o := .tup [.ref M.RD, .ref M.SD]) hp0
    have hp1 : (upd H p0 (.tup [.ref M.RD, .ref M.SD])) p0 = some (.tup [.ref M.RD, .ref M.SD]) := upd_same
    have hT1 := O1.tp _ _ hT
    generalize upd H p0 (.tup [.ref M.RD, .ref M.SD]) = H1 at O1 hp1 hT1 ⊢
    walk_at "s"
    refine ⟨fun h => absurd (show (2 : Nat) = 4 from h.2) (by decide), fun _ T2 hT2 => ?_⟩
    rw [show cutV [V.str "peek", V.int t, V.int g, V.int n] none (some 2) = [.str "peek", .int t] from rfl]
    have O2 := O1.newT (o := .tup [.str "peek", .int t]) hT2
    have hT' : (upd H1 T2 (.tup [.str "peek", .int t])) T2 = some (.tup [.str "peek", .int t]) := upd_same
    generalize upd H1 T2 (.tup [.str "peek", .int t]) = H2 at O2 hT' ⊢
    have hT2 := O2.tp _ _ hT
    walk_at "s"
    walk_at "b"
    refine lcR (lo := g) (n := (g + n - g).toNat) (fun L j H3 => Own H H3 (adr (cMd M)) ((L, .lst (((peekR r.pure g n.toNat).take j).map V.int)) :: cMd M)) (fun L hL => O2.new hL) ?_ ?_
    · rintro L j H3 hj O3
      have hjn : j < n.toNat := by omega
      have h1 := allA_at hall hjn
      rw [Ch.look_abs, Option.isSome_map] at h1
      obtain ⟨z, hz⟩ := Option.isSome_iff_exists.mp h1
      have hR3 := O3.get (a := M.RD) (o := .dK (wlD M.w)) (.tail _ (.tail _ (List.mem_append_left _ (.head _))))
      have hra := O3.get (.tail _ (.tail _ (List.mem_append_left _ (wd_mem hw))))
      have hbl := O3.get (.tail _ (.tail _ (List.mem_append_left _ (wp_mem hw hz))))
      have hvz : valV (Ch.kvs r) (Sum.inl ((g + j) / 8)) = some (.ref z.1) := by rw [Ch.lookV, hz]; rfl
      have h8 := rok.eight hz
      obtain ⟨y, hy, hat⟩ := at_ints (ns := z.2) (n := (g + j) % 8) (by omega) (by rw [List.length_map]; omega)
      have hlen : (((peekR r.pure g n.toNat).take j).map V.int).length < 100000 := by
        rw [List.length_map, List.length_take, peekR_len]
        omega
      walk_at "s"
      rw [peekR_take _ _ _ hjn, List.map_append, cellR_at hz, hy]
      exact ⟨O3.wr .here⟩
    · rintro L H3 O3
      rw [List.take_of_length_le (by rw [peekR_len]; omega)] at O3
      exact k _ M (some (L, peekR r.pure g n.toNat)) O3 rfl rfl rfl rfl rfl rfl
  | poke t g cs =>
    have hT : H T = some (.tup [.str "poke", .int t, .int g, .ref b]) := hT
    obtain ⟨hb0, hbn⟩ := hbb _ (.head _)
    cases hw : M.w.lookup t with
    | none => rw [sem_poke0 (Wl.abs_none hw)] at hs; cases hs
    | some x =>
    obtain ⟨a, r⟩ := x
    obtain ⟨a2, u, hw2, hur⟩ := sl_at hks hw
    rw [sem_poke1 (Wl.abs_some hw)] at hs
    obtain ⟨hb, hs⟩ := if_ok2 hs
    obtain ⟨hall, e⟩ := if_ok3 hs
    cases e
    have rok := ok.at hw
    have hcs : cs.length ≤ 64 := hf
    have ndr := Ch.ndp rok
    walk_at "s"
    intro p0 hp0
    have O1 := O.newT (o := .tup [.ref M.RD, .ref M.SD]) hp0
    have hp1 : (upd H p0 (.tup [.ref M.RD, .ref M.SD])) p0 = some (.tup [.ref M.RD, .ref M.SD]) := upd_same
    have hT1 := O1.tp _ _ hT
    generalize upd H p0 (.tup [.ref M.RD, .ref M.SD]) = H1 at O1 hp1 hT1 ⊢
    walk_at "s"
    refine ⟨fun h => absurd (show (2 : Nat) = 4 from h.2) (by decide), fun _ T2 hT2 => ?_⟩
    rw [show cutV [V.str "poke", V.int t, V.int g, V.ref b] none (some 2) = [.str "poke", .int t] from rfl]
    have O2 := O1.newT (o := .tup [.str "poke", .int t]) hT2
    have hT' : (upd H1 T2 (.tup [.str "poke", .int t])) T2 = some (.tup [.str "poke", .int t]) := upd_same
    generalize upd H1 T2 (.tup [.str "poke", .int t]) = H2 at O2 hT' ⊢
    have hT2 := O2.tp _ _ hT
    walk_at "s"
    have hb2 := O2.fr _ _ hb0 hbn
    walk_at "b"
    obtain ⟨l, q, e1, hl⟩ := lk_split hw
    obtain ⟨l2, q2, e2, hl2⟩ := lk_split hw2
    refine forW (walk_enum (K := K) (a := b) (xs := cs.map V.int)) (fun j σ H' => ∃ (v8 v9 v10 : Option V) (r' : Ch), σ = [some (.ref M.D), some (.ref T), some (.ref M.RD), some (.ref M.SD), some (.str "poke"), some (.int t), none, none, v8, v9, v10] ∧ Own H H' (adr (cMd M)) (cMd { M with w := l ++ (t, a, r') :: q, s := l2 ++ (t, a2, (pokeL g j (u, M.c)).1) :: q2, c := (pokeL g j (u, M.c)).2 }) ∧ r'.pure = pokeR r.pure g (cs.take j) ∧ r'.map (·.1) = r.map (·.1) ∧ ∀ x ∈ r', x.2.2.length = 8) ⟨_, _, _, r, rfl, O2.eq ?_, rfl, rfl, fun x hx => rok.wide _ (List.mem_map.mpr ⟨x, hx, rfl⟩)⟩ (fun j σ H' _ ⟨_, _, _, _, _, O, _⟩ => SqL.of (O.fr _ _ hb0 hbn)) ?_ ?_
    · unfold cMd
      dsimp only
      rw [e1, e2]
      rfl
    · rintro j x σ H3 H4 hj ⟨v8, v9, v10, r', rfl, O3, hr', hk, hw8⟩ ⟨T0, x0, y0, rfl, hT0, rfl, hx0, hy0⟩
      cases hx0
      obtain ⟨c, hc, rfl⟩ := map_get hy0
      rw [List.length_map] at hj
      have O4 := O3.newT (o := .tup [V.int (j : Nat), V.int c]) hT0
      have hT1 : (upd H3 T0 (.tup [V.int (j : Nat), V.int c])) T0 = some (.tup [V.int (j : Nat), V.int c]) := upd_same
      generalize upd H3 T0 (.tup [V.int (j : Nat), V.int c]) = H5 at O4 hT1 ⊢
      clear O3 hT0 hy0
      obtain ⟨e, he, he8⟩ : ∃ e : Nat, (g + (j : Int)) % 8 = (e : Int) ∧ e < 8 := ⟨((g + (j : Int)) % 8).toNat, by omega, by omega⟩
      have hin : (g + (j : Int)) / 8 ∈ r'.map (·.1) := by
        have h1 := allA_at hall hj
        rw [lk_some, List.map_map] at h1
        rw [hk]
        exact h1
      obtain ⟨b2, hb2'⟩ := Option.isSome_iff_exists.mp (lk_some.mpr hin)
      have ndr' : (r'.map (·.1)).Nodup := hk ▸ ndr
      have hpk : (pokeL g j (u, M.c)).1.map (·.1) = r'.map (·.1) := by rw [pokeL_keys, hk]; exact hur
      have hps := pokeL_succ g j (u, M.c)
      have hlu : (srD (pokeL g j (u, M.c)).1).length < 100000 := by
        have h1 := congrArg List.length hpk
        have h2 := congrArg List.length hk
        have h3 := rok.len
        rw [List.length_map] at h3
        rw [List.length_map, List.length_map] at h1 h2
        rw [List.length_map]
        omega
      generalize pokeL g j (u, M.c) = Y at O4 hpk hps hlu ⊢
      obtain ⟨l3, q3, rfl, hl3⟩ := lk_split hb2'
      have h8 := hw8 _ (lk_mem hb2')
      have hT6 := O4.tp _ _ hT
      have hv6 : valV (wlD (l ++ (t, a, (l3 ++ ((g + (j : Int)) / 8, b2) :: q3)) :: q)) (Sum.inl t) = some (.ref a) := by rw [wlD_mid l q t a _ r, ← e1, Wl.look, hw]; rfl
      have hv6s : valV (slD (l2 ++ (t, a2, Y.1) :: q2)) (Sum.inl t) = some (.ref a2) := by rw [slD_mid l2 q2 t a2 _ u, ← e2, slD_val, hw2]; rfl
      have hvy : valV (Ch.kvs (l3 ++ ((g + (j : Int)) / 8, b2) :: q3)) (Sum.inl ((g + (j : Int)) / 8)) = some (.ref b2.1) := by rw [Ch.lookV, hb2']; rfl
      have O5 := O4.eq ((cMd_mid { M with c := Y.2 } l q t a _ l2 q2 a2 Y.1).trans (congrArg (fun z => _ :: ((_ :: (cRms l ++ (z ++ cRms q))) ++ _)) (cCh_mid a l3 q3 ((g + (j : Int)) / 8) b2)))
      have haa : H5 a = some (.dK (Ch.kvs (l3 ++ ((g + (j : Int)) / 8, b2) :: q3))) := O5.get (.tail _ (List.mem_append_left _ (.tail _ (List.mem_append_right _ (.head _)))))
      have hbl := O5.get (a := b2.1) (o := .lst (b2.2.map V.int)) (.tail _ (List.mem_append_left _ (.tail _ (List.mem_append_right _ (List.mem_append_left _ (.tail _ (List.mem_append_right _ (.head _))))))))
      have hR5 := O5.get (a := M.RD) (.tail _ (List.mem_append_left _ (.head _)))
      have hix : ixN (b2.2.map V.int).length ((e : Nat) : Int) = some e := ix_at (by rw [List.length_map, h8]; exact he8)
      walk_at "s"
      rw [he]
      refine ⟨hix, ?_⟩
      rw [set_map]
      have O6 := O5.wr (a := b2.1) (o' := .lst ((b2.2.set e c).map V.int)) (.there (.appl (.there (.app (.appl (.there (.app .here)))))))
      have hjl : (cs.take j).length = j := by rw [List.length_take]; omega
      have f1 : Ch.pure (l3 ++ ((g + (j : Int)) / 8, (b2.1, b2.2.set e c)) :: q3) = pokeR r.pure g (cs.take (j + 1)) := by
        rw [take_succ hc, pokeR_snoc, ← hr', hjl, putR_mid ndr' rfl, he]
        rfl
      have f2 : (l3 ++ ((g + (j : Int)) / 8, (b2.1, b2.2.set e c)) :: q3).map (·.1) = r.map (·.1) := by
        rw [← hk, List.map_append, List.map_append]
        rfl
      have f3 : ∀ x ∈ l3 ++ ((g + (j : Int)) / 8, (b2.1, b2.2.set e c)) :: q3, x.2.2.length = 8 := by
        intro x hx
        rcases List.mem_append.mp hx with z | z
        · exact hw8 x (List.mem_append_left _ z)
        · rcases List.mem_cons.mp z with z | z
          · rw [z]
            exact (List.length_set ..).trans h8
          · exact hw8 x (List.mem_append_right _ (.tail _ z))
      have O7 : Own H (upd H5 b2.1 (.lst ((b2.2.set e c).map V.int))) (adr (cMd M)) (cMd { M with w := l ++ (t, a, l3 ++ ((g + (j : Int)) / 8, (b2.1, b2.2.set e c)) :: q3) :: q, s := l2 ++ (t, a2, Y.1) :: q2, c := Y.2 }) := O6.eq (by
        rw [cMd_mid { M with c := Y.2 } l q t a _ l2 q2 a2 Y.1, cCh_mid, wlD_mid l q t a (l3 ++ ((g + (j : Int)) / 8, (b2.1, b2.2.set e c)) :: q3) (l3 ++ ((g + (j : Int)) / 8, b2) :: q3), kvs_mid l3 q3 _ (b2.1, b2.2.set e c) b2 rfl])
      generalize upd H5 b2.1 (.lst ((b2.2.set e c).map V.int)) = H6 at O6 O7 ⊢
      dsimp only
      refine cutI (fun bb H7 => H7 = H6 ∧ (bb = true ↔ (j = 0 ∨ (g + (j : Int)) % 8 = 0))) (fun post hp => ?_) ?_
      · walk_at "s"
        refine if_ii (fun h0 => ?_) (fun h0 => ?_)
        · exact hp _ _ ⟨rfl, ⟨fun _ => .inl (by omega), fun _ => rfl⟩⟩
        · walk_at "s"
          exact hp _ _ ⟨rfl, fun hh => .inr (V.int.inj (of_decide_eq_true hh)), fun hh => decide_eq_true (congrArg V.int (hh.resolve_left (by omega)))⟩
      · rintro bb H7 ⟨rfl, hbb⟩
        cases bb with
        | false =>
          refine if_f rfl ?_
          refine ⟨_, _, _, _, rfl, ?_, f1, f2, f3⟩
          rw [hps, stepL, if_neg (fun z => by have := hbb.mpr z; cases this)]
          exact O7
        | true =>
          refine if_t rfl ?_
          have hD7 : H7 M.D = some (.dK (mdD { M with c := Y.2 })) := O7.get (.head _)
          have hv7 : valV (mdD { M with c := Y.2 }) (Sum.inr "pokes") = some (.int (Y.2 : Nat)) := rfl
          have hl7 : (mdD { M with c := Y.2 }).length < 100000 := by show 4 < 100000; decide
          walk_at "s"
          have e7 := mdD_poke { M with c := Y.2 }
          dsimp only at e7
          rw [e7]
          have O8 := O7.wr (a := M.D) (o' := .dK (mdD { M with c := Y.2 + 1 })) .here
          have hD8 := O8.get (a := M.D) (o := .dK (mdD { M with c := Y.2 + 1 })) (.head _)
          have hv8 : valV (mdD { M with c := Y.2 + 1 }) (Sum.inr "pokes") = some (.int ((Y.2 + 1 : Nat) : Int)) := rfl
          have hS8 := O8.get (a := M.SD) (o := .dK (slD (l2 ++ (t, a2, Y.1) :: q2))) (.tail _ (List.mem_append_right _ (.head _)))
          have ha8 := O8.get (a := a2) (o := .dK (srD Y.1)) (.tail _ (List.mem_append_right _ (.tail _ (List.mem_map.mpr ⟨(t, a2, Y.1), by simp, rfl⟩))))
          walk_at "s"
          rw [show putK (srD Y.1) (Sum.inl ((g + (j : Int)) / 8)) (V.int ((Y.2 + 1 : Nat) : Int)) = srD (setA Y.1 ((g + (j : Int)) / 8) (Y.2 + 1)) from putK_old (fun x : Nat => V.int (x : Nat)) (Y.2 + 1) (by rw [hpk]; exact hin)]
          have O8' : Own H _ (adr (cMd M)) (cMd { M with w := l ++ (t, a, l3 ++ ((g + (j : Int)) / 8, (b2.1, b2.2.set e c)) :: q3) :: q, s := l2 ++ (t, a2, Y.1) :: q2, c := Y.2 + 1 }) := O8
          have O9 := (O8'.eq (cMd_mid { M with c := Y.2 + 1 } l q t a _ l2 q2 a2 Y.1)).wr (a := a2) (o' := .dK (srD (setA Y.1 ((g + (j : Int)) / 8) (Y.2 + 1)))) (.there (.app (.there (.app .here))))
          refine ⟨_, _, _, _, rfl, ?_, f1, f2, f3⟩
          rw [hps, stepL, if_pos (hbb.mp rfl)]
          refine O9.eq ?_
          dsimp only
          rw [cMd_mid { M with c := Y.2 + 1 } l q t a _ l2 q2 a2 (setA Y.1 ((g + (j : Int)) / 8) (Y.2 + 1)), slD_mid l2 q2 t a2 (setA Y.1 ((g + (j : Int)) / 8) (Y.2 + 1)) Y.1]
    · rintro σ H' ⟨v8, v9, v10, r', rfl, O6, hr', hk, hw8⟩
      rw [List.length_map] at O6 hr'
      rw [List.take_length] at hr'
      walk_at "s"
      have nd' := nd
      have ndS' := ndS
      rw [e1] at nd'
      rw [e2] at ndS'
      refine k _ _ none O6 rfl rfl ?_ ?_ ?_ rfl
      · show Wl.abs (l ++ (t, a, r') :: q) = _
        rw [e1, ← hr']
        exact (Wl.set_abs nd').symm
      · show Sl.abs (l2 ++ (t, a2, _) :: q2) = setA (Sl.abs M.s) t (pokeL g cs.length (((Sl.abs M.s).lookup t).getD [], M.c)).1
        rw [Sl.look_abs, hw2, e2]
        exact (Sl.set_abs ndS').symm
      · show (pokeL g cs.length (u, M.c)).2 = (pokeL g cs.length (((Sl.abs M.s).lookup t).getD [], M.c)).2
        rw [Sl.look_abs, hw2]
        rfl
  | copy t o =>
    have hT : H T = some (.tup [.str "copy", .int t, .int o]) := hT
    cases hw : M.w.lookup t with
    | none => rw [sem_copy0 (Wl.abs_none hw)] at hs; cases hs
    | some x =>
    obtain ⟨a, r⟩ := x
    obtain ⟨a2, u, hw2, hur⟩ := sl_at hks hw
    rw [sem_copy1 (Wl.abs_some hw)] at hs
    obtain ⟨hno, hs⟩ := if_ok2 hs
    obtain ⟨_, e⟩ := if_ok hs
    cases e
    have hwo := sem_t0 hno
    have hwo2 := sl_none hks hwo
    have rok := ok.at hw
    have hrl := rok.len
    rw [List.length_map] at hrl
    have hv : valV (wlD M.w) (Sum.inl t) = some (.ref a) := by rw [Wl.look, hw]; rfl
    have hv2 : valV (slD M.s) (Sum.inl t) = some (.ref a2) := by rw [slD_val, hw2]; rfl
    have ndr := Ch.ndp rok
    walk_at "s"
    intro p0 hp0
    have O1 := O.newT (o := .tup [.ref M.RD, .ref M.SD]) hp0
    have hp1 : (upd H p0 (.tup [.ref M.RD, .ref M.SD])) p0 = some (.tup [.ref M.RD, .ref M.SD]) := upd_same
    have hT1 := O1.tp _ _ hT
    generalize upd H p0 (.tup [.ref M.RD, .ref M.SD]) = H1 at O1 hp1 hT1 ⊢
    walk_at "s"
    refine ⟨fun h => absurd (show (2 : Nat) = 3 from h.2) (by decide), fun _ T2 hT2 => ?_⟩
    rw [show cutV [V.str "copy", V.int t, V.int o] none (some 2) = [.str "copy", .int t] from rfl]
    have O2 := O1.newT (o := .tup [.str "copy", .int t]) hT2
    have hT' : (upd H1 T2 (.tup [.str "copy", .int t])) T2 = some (.tup [.str "copy", .int t]) := upd_same
    generalize upd H1 T2 (.tup [.str "copy", .int t]) = H2 at O2 hT' ⊢
    have hT2 := O2.tp _ _ hT
    walk_at "s"
    have hS2 := O2.get (a := M.SD) (o := .dK (slD M.s)) (.tail _ (List.mem_append_right _ (.head _)))
    have ha2 := O2.get (a := a2) (o := .dK (srD u)) (.tail _ (List.mem_append_right _ (.tail _ (List.mem_map.mpr ⟨(t, a2, u), lk_mem hw2, rfl⟩))))
    walk_at "b"
    intro n2 hn2
    have O3 := O2.new (o := .dK (srD u)) hn2
    have hS3 := O3.get (a := M.SD) (o := .dK (slD M.s)) (.tail _ (.tail _ (List.mem_append_right _ (.head _))))
    have hT3 := O3.tp _ _ hT
    walk_at "s"
    rw [Sl.new hwo2]
    have O4 := O3.wr (a := M.SD) (o' := .dK (slD M.s ++ [(Sum.inl o, V.ref n2)])) (.there (.there (.app .here)))
    have hR4 := O4.get (a := M.RD) (o := .dK (wlD M.w)) (.tail _ (.tail _ (List.mem_append_left _ (.head _))))
    have hT4 := O4.tp _ _ hT
    walk_at "s"
    intro n hn
    have O5 := O4.new (o := .dK []) hn
    have hR5 := O5.get (a := M.RD) (o := .dK (wlD M.w)) (.tail _ (.tail _ (.tail _ (List.mem_append_left _ (.head _)))))
    have hT5 := O5.tp _ _ hT
    walk_at "s"
    have eW : putK (wlD M.w) (Sum.inl o) (V.ref n) = wlD (M.w ++ [(o, n, [])]) := by
      rw [Wl.new hwo]
      unfold wlD
      rw [List.map_append]
      rfl
    rw [eW]
    obtain ⟨l, q, e1, hl⟩ := lk_split hw
    have O6 := O5.wr (a := M.RD) (o' := .dK (wlD (M.w ++ [(o, n, [])]))) (cs' := (n, .dK []) :: (n2, .dK (srD u)) :: (M.D, .dK (mdD M)) :: (((M.RD, .dK (wlD (M.w ++ [(o, n, [])]))) :: cRms M.w) ++ ((M.SD, .dK (slD M.s ++ [(Sum.inl o, V.ref n2)])) :: M.s.map cSr))) (.there (.there (.there (.appl .here))))
    rw [show cRms M.w = cRms l ++ (cCh a r ++ cRms q) by rw [e1, cRms_mid]] at O6
    have hra := O6.get (a := a) (o := .dK (Ch.kvs r)) (.tail _ (.tail _ (.tail _ (List.mem_append_left _ (.tail _ (List.mem_append_right _ (.head _)))))))
    have hvt : ∀ ch : Ch, valV (wlD (M.w ++ [(o, n, ch)])) (Sum.inl t) = some (.ref a) := fun ch => by rw [Wl.look, lk_app, hw]; rfl
    have hvt0 := hvt []
    have hvo : valV (wlD (M.w ++ [(o, n, [])])) (Sum.inl o) = some (.ref n) := by
      rw [Wl.look, lk_app, hwo, List.lookup_cons, show (o == o) = true by simp]
      rfl
    walk_at "s"
    refine ⟨_, hra, True.intro, fun od => ?_⟩
    have O7 := O6.wr (a := a) (o' := .frz od (.dK (Ch.kvs r))) (.there (.there (.there (.appl (.there (.app (.appl .here)))))))
    have hR7 := O7.get (a := M.RD) (o := .dK (wlD (M.w ++ [(o, n, [])]))) (.tail _ (.tail _ (.tail _ (List.mem_append_left _ (.head _)))))
    walk_at "s"
    refine forW (walk_items (d := a) (o := od) (kvs := Ch.kvs r)) (fun j σ H3 => ∃ (v6 v7 : Option V) (ch' : Ch), σ = [some (.ref M.D), some (.ref T), some (.ref M.RD), some (.ref M.SD), some (.str "copy"), some (.int t), v6, v7, none, none, none] ∧ Own H H3 (adr (cMd M)) ((n, .dK (Ch.kvs ch')) :: (ch'.map (fun x => pcel x.2) ++ ((n2, .dK (srD u)) :: (M.D, .dK (mdD M)) :: (((M.RD, .dK (wlD (M.w ++ [(o, n, [])]))) :: (cRms l ++ (((a, .frz od (.dK (Ch.kvs r))) :: r.map fun x => pcel x.2) ++ cRms q))) ++ ((M.SD, .dK (slD M.s ++ [(Sum.inl o, V.ref n2)])) :: M.s.map cSr))))) ∧ ch'.pure = (Ch.pure r).take j) ⟨_, _, [], rfl, O7, rfl⟩ (fun j σ H3 _ ⟨_, _, ch', _, O, _⟩ => O.get (.tail _ (List.mem_append_right _ (.tail _ (.tail _ (List.mem_append_left _ (.tail _ (List.mem_append_right _ (.head _))))))))) ?_ ?_
    · rintro j x σ H3 H4 hj ⟨v6, v7, ch', rfl, O8, hp⟩ ⟨T0, x0, y0, rfl, hT0, rfl, hx0, hy0⟩
      obtain ⟨y, hy, rfl, rfl⟩ := item_at (fun x : Pg => V.ref x.1) hx0 hy0
      have O9 := O8.newT (o := .tup [V.int y.1, V.ref y.2.1]) hT0
      have hT1 : (upd H3 T0 (.tup [V.int y.1, V.ref y.2.1])) T0 = some (.tup [V.int y.1, V.ref y.2.1]) := upd_same
      generalize upd H3 T0 (.tup [V.int y.1, V.ref y.2.1]) = H5 at O9 hT1 ⊢
      clear O8 hT0
      have hym := List.mem_of_getElem? hy
      have hyh := O9.get (a := y.2.1) (o := .lst (y.2.2.map V.int)) (.tail _ (List.mem_append_right _ (.tail _ (.tail _ (List.mem_append_left _ (.tail _ (List.mem_append_right _ (List.mem_append_left _ (.tail _ (List.mem_map.mpr ⟨y, hym, rfl⟩))))))))))
      have hTh := O9.tp _ _ hT
      have hpl := congrArg List.length hp
      rw [List.length_map, List.length_take, List.length_map] at hpl
      have hlr : (Ch.kvs ch').length < 100000 := by rw [List.length_map]; omega
      have hkn : (Sum.inl y.1 : Key) ∉ (Ch.kvs ch').map (·.1) := fun z => by
        rw [List.map_map] at z
        obtain ⟨v, hv, ev⟩ := List.mem_map.mp z
        have ev : v.1 = y.1 := Sum.inl.inj ev
        have h1 : y.1 ∈ ((Ch.pure r).take j).map (·.1) := by
          rw [← hp, List.map_map]
          exact List.mem_map.mpr ⟨v, hv, ev⟩
        rw [← List.map_take, List.map_map, List.map_take] at h1
        exact nd_take ndr (by rw [List.getElem?_map, hy]; rfl) h1
      walk_at "s"
      intro l2 hl2
      have O10 := O9.new (o := .lst (y.2.2.map V.int)) hl2
      have hR10 := O10.get (a := M.RD) (o := .dK (wlD (M.w ++ [(o, n, [])]))) (.tail _ (.tail _ (List.mem_append_right _ (.tail _ (.tail _ (List.mem_append_left _ (.head _)))))))
      have hn10 := O10.get (a := n) (o := .dK (Ch.kvs ch')) (.tail _ (.head _))
      have hT10 := O10.tp _ _ hT
      walk_at "s"
      rw [putK_new hkn]
      have O11 := O10.wr (a := n) (o' := .dK (Ch.kvs ch' ++ [(Sum.inl y.1, V.ref l2)])) (.there .here)
      refine ⟨_, _, ch' ++ [(y.1, (l2, y.2.2))], rfl, ?_, ?_⟩
      · have e4 : Ch.kvs (ch' ++ [(y.1, (l2, y.2.2))]) = Ch.kvs ch' ++ [(Sum.inl y.1, V.ref l2)] := by unfold Ch.kvs; rw [List.map_append]; rfl
        rw [e4, List.map_append]
        refine O11.perm ?_
        show List.Perm _ ((n, HO.dK (Ch.kvs ch' ++ [(Sum.inl y.1, V.ref l2)])) :: ((ch'.map (fun x => pcel x.2) ++ [(l2, HO.lst (y.2.2.map V.int))]) ++ _))
        walk_at "pm"
      · show (ch' ++ [(y.1, (l2, y.2.2))]).map (fun x : Int × Pg => (x.1, x.2.2)) = _
        rw [List.map_append, show ch'.map (fun x : Int × Pg => (x.1, x.2.2)) = (Ch.pure r).take j from hp, take_succ (show (Ch.pure r)[j]? = some (y.1, y.2.2) by rw [List.getElem?_map, hy]; rfl)]
        rfl
    · rintro σ H3 ⟨v6, v7, ch', rfl, O8, hp⟩
      rw [List.length_map, List.take_of_length_le (by rw [List.length_map]; omega)] at hp
      have hcf := O8.get (a := a) (.tail _ (List.mem_append_right _ (.tail _ (.tail _ (List.mem_append_left _ (.tail _ (List.mem_append_right _ (.head _))))))))
      have O9 := O8.wr (a := a) (o' := .dK (Ch.kvs r)) (.there (.app (.there (.there (.appl (.there (.app (.appl .here))))))))
      refine ⟨hcf, ?_⟩
      walk_at "s"
      have nd' := nd
      refine k _ { M with w := M.w ++ [(o, n, ch')], s := M.s ++ [(o, n2, u)] } none ?_ rfl rfl ?_ ?_ rfl rfl
      · refine O9.perm ?_
        have e5 : cMd { M with w := M.w ++ [(o, n, ch')], s := M.s ++ [(o, n2, u)] } = (M.D, .dK (mdD M)) :: (((M.RD, .dK (wlD (M.w ++ [(o, n, [])]))) :: ((cRms l ++ (((a, .dK (Ch.kvs r)) :: r.map fun x => pcel x.2) ++ cRms q)) ++ ((n, .dK (Ch.kvs ch')) :: ch'.map fun x => pcel x.2))) ++ ((M.SD, .dK (slD M.s ++ [(Sum.inl o, V.ref n2)])) :: (M.s.map cSr ++ [(n2, .dK (srD u))]))) := by
          unfold cMd cWl cSl
          dsimp only
          rw [cRms_app, show cRms M.w = cRms l ++ (cCh a r ++ cRms q) by rw [e1, cRms_mid], List.map_append (l₁ := M.s)]
          unfold slD
          rw [List.map_append (l₁ := M.s)]
          have e6 : cRms [(o, n, ch')] = cCh n ch' := List.append_nil _
          rw [e6]
          unfold wlD
          rw [List.map_append, List.map_append (l₁ := M.w)]
          rfl
        refine List.Perm.trans ?_ (List.Perm.of_eq e5.symm)
        walk_at "pm"
      · show Wl.abs (M.w ++ [(o, n, ch')]) = Wl.abs M.w ++ [(o, Ch.pure r)]
        rw [← hp]
        unfold Wl.abs
        rw [List.map_append]
        rfl
      · show Sl.abs (M.s ++ [(o, n2, u)]) = Sl.abs M.s ++ [(o, ((Sl.abs M.s).lookup t).getD [])]
        rw [Sl.look_abs, hw2]
        unfold Sl.abs
        rw [List.map_append]
        rfl

/-! ### list.count of flat things -/
def rCntF (K : PySem.W.Frag) : V → List V → Hp → VK → Prop := fun x xs H Q => ∃ (a : Addr) (ys : List V) (y : V), x = V.ref a ∧ xs = [y] ∧ SqL K H a ys ∧ flatV y = true ∧ ys.all flatV = true ∧ Q (.int (ys.countP (fun z => eqV z y) : Nat)) H
theorem cnt_flat {y : V} : ∀ {ys : List V} {us : List Value}, Vals ys us → ys.all flatV = true → us.countP (eqU y) = ys.countP fun z => eqV z y
  | _, _, .nil, _ => rfl
  | _, _, @Paired.cons _ _ _ z u _ _ h r, f => by
    rw [List.all_cons, Bool.and_eq_true] at f
    have ih := cnt_flat (y := y) r f.2
    rw [List.countP_cons, List.countP_cons, ih, eqU_of h f.1]
theorem mt_lcountF {X : Cx} : MtR X "list.count" (rCntF X.K) := by
  intro pins s σ H x xs v us Q I rx rxs h
  obtain ⟨a, ys, y, rfl, rfl, hs, fy, fys, q⟩ := h
  cases rx
  cases rxs with
  | cons ry rt =>
    rename_i uy ut
    cases rt
    obtain ⟨its, rv, ⟨⟨cls, dd, data, sl⟩, n, ho, hc, hdn, hd⟩, hlen⟩ := I.list hs
    simp only at hc hd
    subst hc hd
    refine call_meets PySem.F.slot_list_count ⟨_, ho, rfl⟩ PySem.F.entry_list_count (PySem.F.args_list_count_2 _ _)
      (SeqAt.list_countAt a its.toArray n dd sl uy (eqU y)) ⟨ho, fun u' hu' => mem_eqAt ry fy rv fys u' (by simpa using hu'), ?_⟩
    have ec : its.toArray.toList.countP (eqU y) = ys.countP fun z => eqV z y := cnt_flat rv fys
    refine ⟨.int (ys.countP (fun z => eqV z y) : Nat), H, I.tok _, ⟨s.toks, ?_⟩, q⟩
    show Value.int ((its.toArray.toList.countP (eqU y) : Nat) : Int) s.toks = Value.int ((ys.countP (fun z => eqV z y) : Nat) : Int) s.toks
    rw [ec]

def sp__law_called (K : PySem.W.Frag) : Sp := sp2 fun x y H Q E => ∃ p dx g r w st c T b d, x = .ref p ∧ y = .ref T ∧ RmS K H r w st ∧ w.length < 1000 ∧ d.fine ∧ Own H H (adr (cRo K p dx g r)) (cRo K p dx g r) ∧ DAt H (adr (cRo K p dx g r)) T d b ∧ (∀ o, mpW w o = true → st o ≤ c) ∧ RAns K H p dx g r (stS st c d) d (sem ((r.nf + r.ns : Nat) : Int) w d) Q E
theorem RAns.start {K : PySem.W.Frag} {H H2 : Hp} {p dx g : Addr} {r : RG} {st : Ow2 → Nat} {d : RDeed} {a : Except Rf (AWl × Option (List Int))} {Q : VK} {E : XK} (k : RAns K H p dx g r st d a Q E) (O : Own H H2 (adr (cRo K p dx g r)) (cRo K p dx g r)) : RAns K H2 p dx g r st d a Q E := by
  cases a with
  | error e => exact fun H' C => k H' (O.call .all C)
  | ok x =>
    obtain ⟨w', o⟩ := x
    cases o with
    | none => exact fun H' r' C => k H' r' (O.call .all C)
    | some xs => exact fun H' r' l C => k H' r' l (O.callE (e := [(l, .lst (xs.map V.int))]) .all C)
theorem sc__law_called : FnScope ["_law_kept", "_law_deed_here", "_law_name", "_law_task"] ["_law_kept", "_law_deed_here"] (defScope s__law_called) := ⟨rfl, rfl, rfl, by decide +kernel, rfl, by decide +kernel, by decide +kernel⟩
theorem ok__law_called {P : Program} {w : World} {K : PySem.W.Frag} {mg : Str → Option Value} {base : Heap} (T : Txt K mg) : Cee P w K mg base 10 (He.fAd K ("_law_called", none)) ["_law_kept", "_law_deed_here"] (sp__law_called K) := by
  have c_Rooms_begin : Cee P w K mg base 3 (He.fAd K ("Rooms", some "begin")) ["self", "task"] (sp_Rooms_begin K) := ok_Rooms_begin T
  have c_Rooms_close : Cee P w K mg base 5 (He.fAd K ("Rooms", some "close")) ["self", "task"] (sp_Rooms_close K) := ok_Rooms_close T
  have c_Rooms_map : Cee P w K mg base 4 (He.fAd K ("Rooms", some "map")) ["self", "task", "page", "many"] (sp_Rooms_map K) := ok_Rooms_map T
  have c_Rooms_drop : Cee P w K mg base 5 (He.fAd K ("Rooms", some "drop")) ["self", "task", "page", "many"] (sp_Rooms_drop K) := ok_Rooms_drop T
  have c_Rooms_copy : Cee P w K mg base 5 (He.fAd K ("Rooms", some "copy")) ["self", "task", "other"] (sp_Rooms_copy K) := ok_Rooms_copy T
  have c_Rooms_peek : Cee P w K mg base 8 (He.fAd K ("Rooms", some "peek")) ["self", "task", "address", "many"] (sp_Rooms_peek K) := ok_Rooms_peek T
  have c_Rooms_poke : Cee P w K mg base 9 (He.fAd K ("Rooms", some "poke")) ["self", "task", "address", "cells"] (sp_Rooms_poke K) := ok_Rooms_poke T
  refine cee_of T.d__law_called sc__law_called (fun _ _ _ _ _ _ us hl => match us, hl with | [_, _], _ => rfl) (fun vs H Q E h => sp2_len h) (fun cdv A outer s H vs Q E hr h => ⟨_, (pss_cons (ps_asg (pe_slice sl_tupA (pv 1) po_none (po_some pe_int)) (pg_tup rfl (pgs_cons (pg_name (i := 2) sc__law_called.nd rfl (Or.inl rfl)) (pgs_cons (pg_name (i := 3) sc__law_called.nd rfl (Or.inl rfl)) pgs_nil)))) (pss_cons (ps_if (pt_cmpR op_eq (pv 2) pe_str (nomark _)) (pss_one (ps_ret (pe_m (pv 0) T.c_Rooms T.m_Rooms_begin c_Rooms_begin (hr.mono (by decide)) (takes_of rfl rfl rfl rfl) (pa_cons (pv 3) pa_nil)))) pss_nil) (pss_cons (ps_if (pt_cmpR op_eq (pv 2) pe_str (nomark _)) (pss_one (ps_ret (pe_m (pv 0) T.c_Rooms T.m_Rooms_close c_Rooms_close (hr.mono (by decide)) (takes_of rfl rfl rfl rfl) (pa_cons (pv 3) pa_nil)))) pss_nil) (pss_cons (ps_if (pt_cmpR op_eq (pv 2) pe_str (nomark _)) (pss_one (ps_ret (pe_m (pv 0) T.c_Rooms T.m_Rooms_map c_Rooms_map (hr.mono (by decide)) (takes_of rfl rfl rfl rfl) (pa_cons (pv 3) (pa_cons (pe_ix ix_tup (pv 1) pe_int (fun _ _ => rfl)) (pa_cons (pe_ix ix_tup (pv 1) pe_int (fun _ _ => rfl)) pa_nil)))))) pss_nil) (pss_cons (ps_if (pt_cmpR op_eq (pv 2) pe_str (nomark _)) (pss_one (ps_ret (pe_m (pv 0) T.c_Rooms T.m_Rooms_drop c_Rooms_drop (hr.mono (by decide)) (takes_of rfl rfl rfl rfl) (pa_cons (pv 3) (pa_cons (pe_ix ix_tup (pv 1) pe_int (fun _ _ => rfl)) (pa_cons (pe_ix ix_tup (pv 1) pe_int (fun _ _ => rfl)) pa_nil)))))) pss_nil) (pss_cons (ps_if (pt_cmpR op_eq (pv 2) pe_str (nomark _)) (pss_one (ps_ret (pe_m (pv 0) T.c_Rooms T.m_Rooms_copy c_Rooms_copy (hr.mono (by decide)) (takes_of rfl rfl rfl rfl) (pa_cons (pv 3) (pa_cons (pe_ix ix_tup (pv 1) pe_int (fun _ _ => rfl)) pa_nil))))) pss_nil) (pss_cons (ps_if (pt_cmpR op_eq (pv 2) pe_str (nomark _)) (pss_one (ps_ret (pe_m (pv 0) T.c_Rooms T.m_Rooms_peek c_Rooms_peek (hr.mono (by decide)) (takes_of rfl rfl rfl rfl) (pa_cons (pv 3) (pa_cons (pe_ix ix_tup (pv 1) pe_int (fun _ _ => rfl)) (pa_cons (pe_ix ix_tup (pv 1) pe_int (fun _ _ => rfl)) pa_nil)))))) pss_nil) (pss_one (ps_ret (pe_m (pv 0) T.c_Rooms T.m_Rooms_poke c_Rooms_poke (hr.mono (by decide)) (takes_of rfl rfl rfl rfl) (pa_cons (pv 3) (pa_cons (pe_ix ix_tup (pv 1) pe_int (fun _ _ => rfl)) (pa_cons (pe_ix ix_tup (pv 1) pe_int (fun _ _ => rfl)) pa_nil))))))))))))), ?_⟩)
  obtain ⟨v0, v1, rfl, h⟩ := h
  dsimp only [cxOf, L2.start]
  obtain ⟨p, dx, g, r, w, st, c, T, b, d, rfl, rfl, R, hlw, hf, O, ⟨hT, hbb⟩, htop, k⟩ := h
  have hp := O.get (a := p) (o := .ins (He.ga K "Rooms") dx [("paging", .ref g)]) (.head _)
  cases d with
  | begin t =>
    have hT : H T = some (.tup [.str "begin", .int t]) := hT
    walk_at "s"
    refine ⟨fun _ => ?_, fun hne => absurd ⟨rfl, rfl⟩ hne⟩
    walk_at "s"
    exact ask2 ⟨p, dx, g, r, w, st, c, t, rfl, rfl, R, hlw, O, k⟩
  | close t =>
    have hT : H T = some (.tup [.str "close", .int t]) := hT
    walk_at "s"
    refine ⟨fun _ => ?_, fun hne => absurd ⟨rfl, rfl⟩ hne⟩
    walk_at "s"
    exact ask2 ⟨p, dx, g, r, w, st, c, t, rfl, rfl, R, O, k⟩
  | map t m n =>
    have hT : H T = some (.tup [.str "map", .int t, .int m, .int n]) := hT
    walk_at "s"
    refine ⟨fun h => absurd (show (2 : Nat) = 4 from h.2) (by decide), fun _ T2 hT2 => ?_⟩
    rw [show cutV [V.str "map", V.int t, V.int m, V.int n] none (some 2) = [.str "map", .int t] from rfl]
    have O2 := O.newT (o := .tup [.str "map", .int t]) hT2
    have hT' : (upd H T2 (.tup [.str "map", .int t])) T2 = some (.tup [.str "map", .int t]) := upd_same
    generalize upd H T2 (.tup [.str "map", .int t]) = H2 at O2 hT' ⊢
    have hT2 := O2.tp _ _ hT
    have R2 := R.mono O2
    have hp2 := O2.get (a := p) (o := .ins (He.ga K "Rooms") dx [("paging", .ref g)]) (.head _)
    walk_at "s"
    exact ask4 ⟨p, dx, g, r, w, st, c, t, m, n, rfl, rfl, rfl, rfl, R2, O2.self, (k.start O2)⟩
  | drop t m n =>
    have hT : H T = some (.tup [.str "drop", .int t, .int m, .int n]) := hT
    walk_at "s"
    refine ⟨fun h => absurd (show (2 : Nat) = 4 from h.2) (by decide), fun _ T2 hT2 => ?_⟩
    rw [show cutV [V.str "drop", V.int t, V.int m, V.int n] none (some 2) = [.str "drop", .int t] from rfl]
    have O2 := O.newT (o := .tup [.str "drop", .int t]) hT2
    have hT' : (upd H T2 (.tup [.str "drop", .int t])) T2 = some (.tup [.str "drop", .int t]) := upd_same
    generalize upd H T2 (.tup [.str "drop", .int t]) = H2 at O2 hT' ⊢
    have hT2 := O2.tp _ _ hT
    have R2 := R.mono O2
    have hp2 := O2.get (a := p) (o := .ins (He.ga K "Rooms") dx [("paging", .ref g)]) (.head _)
    walk_at "s"
    exact ask4 ⟨p, dx, g, r, w, st, c, t, m, n, rfl, rfl, rfl, rfl, R2, O2.self, (k.start O2)⟩
  | peek t m n =>
    have hT : H T = some (.tup [.str "peek", .int t, .int m, .int n]) := hT
    walk_at "s"
    refine ⟨fun h => absurd (show (2 : Nat) = 4 from h.2) (by decide), fun _ T2 hT2 => ?_⟩
    rw [show cutV [V.str "peek", V.int t, V.int m, V.int n] none (some 2) = [.str "peek", .int t] from rfl]
    have O2 := O.newT (o := .tup [.str "peek", .int t]) hT2
    have hT' : (upd H T2 (.tup [.str "peek", .int t])) T2 = some (.tup [.str "peek", .int t]) := upd_same
    generalize upd H T2 (.tup [.str "peek", .int t]) = H2 at O2 hT' ⊢
    have hT2 := O2.tp _ _ hT
    have R2 := R.mono O2
    have hp2 := O2.get (a := p) (o := .ins (He.ga K "Rooms") dx [("paging", .ref g)]) (.head _)
    walk_at "s"
    exact ask4 (.inl ⟨p, dx, g, r, w, st, c, t, m, n, rfl, rfl, rfl, rfl, R2, O2.self, (k.start O2)⟩)
  | poke t m cs =>
    obtain ⟨hb0, hbn⟩ := hbb _ (.head _)
    have hT : H T = some (.tup [.str "poke", .int t, .int m, .ref b]) := hT
    walk_at "s"
    refine ⟨fun h => absurd (show (2 : Nat) = 4 from h.2) (by decide), fun _ T2 hT2 => ?_⟩
    rw [show cutV [V.str "poke", V.int t, V.int m, V.ref b] none (some 2) = [.str "poke", .int t] from rfl]
    have O2 := O.newT (o := .tup [.str "poke", .int t]) hT2
    have hT' : (upd H T2 (.tup [.str "poke", .int t])) T2 = some (.tup [.str "poke", .int t]) := upd_same
    generalize upd H T2 (.tup [.str "poke", .int t]) = H2 at O2 hT' ⊢
    have hT2 := O2.tp _ _ hT
    have R2 := R.mono O2
    have hp2 := O2.get (a := p) (o := .ins (He.ga K "Rooms") dx [("paging", .ref g)]) (.head _)
    walk_at "s"
    exact ask4 (.inl ⟨p, dx, g, r, w, st, c, t, m, b, cs, rfl, rfl, rfl, rfl, R2, O2.self, O2.fr _ _ hb0 hbn, hbn, htop, (by have h64 : cs.length ≤ 64 := hf; omega), (k.start O2)⟩)
  | copy t o =>
    have hT : H T = some (.tup [.str "copy", .int t, .int o]) := hT
    walk_at "s"
    refine ⟨fun h => absurd (show (2 : Nat) = 3 from h.2) (by decide), fun _ T2 hT2 => ?_⟩
    rw [show cutV [V.str "copy", V.int t, V.int o] none (some 2) = [.str "copy", .int t] from rfl]
    have O2 := O.newT (o := .tup [.str "copy", .int t]) hT2
    have hT' : (upd H T2 (.tup [.str "copy", .int t])) T2 = some (.tup [.str "copy", .int t]) := upd_same
    generalize upd H T2 (.tup [.str "copy", .int t]) = H2 at O2 hT' ⊢
    have hT2 := O2.tp _ _ hT
    have R2 := R.mono O2
    have hp2 := O2.get (a := p) (o := .ins (He.ga K "Rooms") dx [("paging", .ref g)]) (.head _)
    walk_at "s"
    exact ask3 ⟨p, dx, g, r, w, st, c, t, o, rfl, rfl, rfl, R2, hlw, O2.self, (k.start O2)⟩
theorem DAt.mono2 {H H' : Hp} {A : List Addr} {cs : Cells} {T b : Addr} {d : RDeed} (h : DAt H A T d b) (O : Own H H' A cs) : DAt H' A T d b := ⟨O.tp _ _ h.1, fun e he => ⟨O.fr _ _ (h.2 e he).1 (h.2 e he).2, (h.2 e he).2⟩⟩
def stN (st : Ow2 → Nat) (c : Nat) (d : RDeed) (a : Except Rf (AWl × Option (List Int))) : Ow2 → Nat :=
  match a with
  | .error _ => st
  | .ok _ => stS st c d
def sp__law_word (K : PySem.W.Frag) : Sp := sp2 fun x y H Q _ => ∃ p dx g r w st c T b d, x = .ref p ∧ y = .ref T ∧ RmS K H r w st ∧ w.length < 1000 ∧ d.fine ∧ Own H H (adr (cRo K p dx g r)) (cRo K p dx g r) ∧ DAt H (adr (cRo K p dx g r)) T d b ∧ (∀ o, mpW w o = true → st o ≤ c) ∧
  ∀ H' r' o T', Own H H' (adr (cRo K p dx g r)) (Tol.cel o ++ cRo K p dx g r') → RmS K H' r' (nextA w (sem ((r.nf + r.ns : Nat) : Int) w d)) (stN st c d (sem ((r.nf + r.ns : Nat) : Int) w d)) → r'.nf = r.nf → r'.ns = r.ns → o.map (·.2) = outA (sem ((r.nf + r.ns : Nat) : Int) w d) → H' T' = some (.tup [.str (wordA (sem ((r.nf + r.ns : Nat) : Int) w d)), Tol.v o]) → Q (.ref T') H'
def Rf.idx : Rf → Nat
  | .noTask => 0
  | .noPage => 1
  | .noRoom => 2
  | .taken => 3
/-- rooms and the law's model tell the same -/
structure Same10 (K : PySem.W.Frag) (H : Hp) (r : RG) (M : MdG) : Prop where
  R : RmS K H r M.w.abs (stA M.s.abs)
  ks : ksA M.s.abs = ksA M.w.abs
  top : ∀ o, stA M.s.abs o ≤ M.c
  tot : M.tot = ((r.nf + r.ns : Nat) : Int)
theorem Same10.mono {K : PySem.W.Frag} {H H' : Hp} {A : List Addr} {cs : Cells} {r : RG} {M : MdG} (S : Same10 K H r M) (O : Own H H' A cs) : Same10 K H' r M := ⟨S.R.mono O, S.ks, S.top, S.tot⟩
/-- behind a deed that both did -/
theorem Same10.done {K : PySem.W.Frag} {H H' : Hp} {r r' : RG} {M M' : MdG} {d : RDeed} {w' : AWl} {o : Option (List Int)} (S : Same10 K H r M) (hs : sem M.tot M.w.abs d = .ok (w', o)) (h1 : M'.tot = M.tot) (h2 : M'.w.abs = w') (h3 : M'.s.abs = (semS M.s.abs M.c d).1) (h4 : M'.c = (semS M.s.abs M.c d).2)
    (R : RmS K H' r' w' (stS (stA M.s.abs) M.c d)) (h5 : r'.nf = r.nf) (h6 : r'.ns = r.ns) : Same10 K H' r' M' := by
  refine ⟨?_, ?_, ?_, ?_⟩
  · rw [h2, h3]
    exact R.congr (semS_st hs S.ks)
  · rw [h2, h3]
    exact semS_keys hs S.ks
  · rw [h3, h4]
    exact semS_topA hs S.ks S.top
  · rw [h1, S.tot, h5, h6]

/-! ## where a page lies -/
/-- what place tells -/
def PlV (K : PySem.W.Frag) (H : Hp) (v : V) : Option (Option Pla) → Prop
  | none => v = .non
  | some e => EntV K H v e
theorem PlV.mono {K : PySem.W.Frag} {H H' : Hp} {A : List Addr} {cs : Cells} {v : V} {e : Option (Option Pla)} (h : PlV K H v e) (O : Own H H' A cs) : PlV K H' v e := by
  cases e with
  | none => exact h
  | some e => exact EntV.mono h O
def sp_Rooms_place (K : PySem.W.Frag) : Sp := sp3 fun self x y H Q E => ∃ p dx g r w st t q, self = .ref p ∧ x = .int t ∧ y = .int q ∧ RmS K H r w st ∧ Own H H (adr (cRo K p dx g r)) (cRo K p dx g r) ∧
  (w.lookup t = none → E (Rf.noTask.cls K) none H) ∧ ((w.lookup t).isSome = true → ∀ v, PlV K H v (r.ps.ent (t, q)) → Q v H)
theorem sc_Rooms_place : FnScope ["self", "task", "page"] ["self", "task", "page"] (defScope s_Rooms_place) := ⟨rfl, rfl, rfl, by decide +kernel, rfl, by decide +kernel, by decide +kernel⟩
theorem ok_Rooms_place {P : Program} {w : World} {K : PySem.W.Frag} {mg : Str → Option Value} {base : Heap} (T : Txt K mg) : Cee P w K mg base 2 (He.fAd K ("Rooms", some "place")) ["self", "task", "page"] (sp_Rooms_place K) := by
  have c_Rooms_table_of : Cee P w K mg base 1 (He.fAd K ("Rooms", some "table_of")) ["self", "task"] (sp_Rooms_table_of K) := ok_Rooms_table_of T
  have c_Table_get : Cee P w K mg base 1 (He.fAd K ("Table", some "get")) ["self", "page"] (sp_Table_get K) := ok_Table_get T
  refine cee_of T.d_Rooms_place sc_Rooms_place (fun _ _ _ _ _ _ us hl => match us, hl with | [_, _, _], _ => rfl) (fun vs H Q E h => sp3_len h) (fun cdv A outer s H vs Q E hr h => ⟨_, (pss_one (ps_ret (pe_m (pe_m (pv 0) T.c_Rooms T.m_Rooms_table_of c_Rooms_table_of (hr.mono (by decide)) (takes_of rfl rfl rfl rfl) (pa_cons (pv 1) pa_nil)) T.c_Table T.m_Table_get c_Table_get (hr.mono (by decide)) (takes_of rfl rfl rfl rfl) (pa_cons (pv 2) pa_nil)))), ?_⟩)
  obtain ⟨v0, v1, v2, rfl, h⟩ := h
  dsimp only [cxOf, L2.start]
  obtain ⟨p, dx, g, r, w, st, t, q, rfl, rfl, rfl, R, O, e, k⟩ := h
  have hp := O.get (a := p) (o := .ins (He.ga K "Rooms") dx [("paging", .ref g)]) (.head _)
  walk_at "s"
  refine ask2 ⟨p, dx, g, r, w, st, t, rfl, rfl, R, O, e, fun row x hw hx ht => ?_⟩
  subst ht
  obtain ⟨l, q2, e1⟩ := List.append_of_mem hx
  have hxp := O.get (a := x.p) (o := .ins (He.ga K "Table") x.q.1 [("firsts", .ref x.q.2)]) (.tail _ (.tail _ (.tail _ (.tail _ (.tail _ (List.mem_append_right _ (List.mem_append_right _ (List.mem_append_left _ (List.mem_flatMap.mpr ⟨x, hx, .head _⟩)))))))))
  walk_at "s"
  refine ask2 ⟨x.p, x.q, x.fs, q, rfl, rfl, O.blk (s := cTb K x) (s' := cTb K x) (.there (cPg_tab e1 rfl rfl)), ?_⟩
  have hen := R.gd.ents x hx q
  refine k (by rw [hw]; rfl) _ ?_
  rw [RG.ent_mid e1 R.gd.ndt q]
  cases h1 : tent x.fs q with
  | none =>
    cases h2 : x.en q with
    | none => rfl
    | some z => rw [h1, h2] at hen; exact hen.elim
  | some v =>
    cases h2 : x.en q with
    | none => rw [h1, h2] at hen; exact hen.elim
    | some z => rw [h1, h2] at hen; exact hen

theorem sc_Paging_counts : FnScope ["self", "kind", "many", "n"] ["self", "kind", "many"] (defScope s_Paging_counts) := ⟨rfl, rfl, rfl, by decide +kernel, rfl, by decide +kernel, by decide +kernel⟩
theorem ok_Paging_counts {P : Program} {w : World} {K : PySem.W.Frag} {mg : Str → Option Value} {base : Heap} (T : Txt K mg) : Cee P w K mg base 2 (He.fAd K ("Paging", some "counts")) ["self", "kind", "many"] (sp_Paging_counts K) := by
  have c_Store_count : Cee P w K mg base 1 (He.fAd K ("Store", some "count")) ["self", "page"] (sp_Store_count K) := ok_Store_count T
  refine cee_of T.d_Paging_counts sc_Paging_counts (fun _ _ _ _ _ _ us hl => match us, hl with | [_, _, _], _ => rfl) (fun vs H Q E h => sp3_len h) (fun cdv A outer s H vs Q E hr h => ⟨_, (pss_one (ps_ret (pe_lc (own := [("n", 3)]) (by rfl) sc_Paging_counts.nd (PI.box (pi_range1 (by rfl) T.n_range (pa_cons (pv 2) pa_nil))) (blkOk_by (own := [("n", 3)]) (N := ["self", "kind", "many", "n"]) (sc := defScope s_Paging_counts) (by decide +kernel)) (fun _ _ _ _ _ => (pg_name (i := 3) sc_Paging_counts.nd rfl (Or.inl rfl))) (fun _ _ _ _ _ => pts_nil) (fun _ _ _ _ _ => (pe_m (pe_dget (hu_of hr) (show PE _ _ (tFld K _ _) from pe_fld (pv 0) rfl) (pv 1) (fun _ _ => rfl)) T.c_Store T.m_Store_count c_Store_count (hr.mono (by decide)) takes0 (pa_cons (pv 3) pa_nil)))))), ?_⟩)
  obtain ⟨v0, v1, v2, rfl, h⟩ := h
  dsimp only [cxOf, L2.start]
  obtain ⟨g, r, kd, rfl, rfl, rfl, hle, O, k⟩ := h
  have hg := O.get (a := g) (o := insPg K r) (.head _)
  have hSD := O.get (a := r.SD) (o := .dK (stD r)) (.tail _ (.head _))
  have hsv := stD_val r kd
  walk_at "s"
  refine lcR (lo := 0) (n := (r.ps.os kd).length) (fun D j H2 => Own H H2 (adr (cPg K g r)) ((D, .lst (((r.ps.os kd).take j).map V.int)) :: cPg K g r)) ?_ ?_ ?_
  · intro D hD
    exact O.new (o := .lst []) hD
  · rintro D j H2 hj O2
    have hg2 := O2.get (a := g) (o := insPg K r) (.tail _ (.head _))
    have hSD2 := O2.get (a := r.SD) (o := .dK (stD r)) (.tail _ (.tail _ (.head _)))
    have Os := O2.blk (s := cSG K (r.st kd)) (s' := cSG K (r.st kd)) (.there (cPg_st kd (r.st kd) rfl))
    have hsp := Os.get (.head _)
    obtain ⟨y, hy⟩ : ∃ y, (r.ps.os kd)[j]? = some y := ⟨(r.ps.os kd)[j], List.getElem?_eq_getElem hj⟩
    have hlen : (((r.ps.os kd).take j).map V.int).length < 100000 := by
      rw [List.length_map, List.length_take]
      omega
    have hD2 := O2.get (a := D) (o := .lst (((r.ps.os kd).take j).map V.int)) (.head _)
    walk_at "s"
    refine ask2 ⟨(r.st kd).p, (r.st kd).q, (r.st kd).os, (r.st kd).cs, 0 + j, rfl, rfl, Os, ?_⟩
    have ec : cntS (r.st kd).os (0 + (j : Int)) = y := by rw [Int.zero_add]; exact cntS_nat hy
    rw [ec]
    walk_at "s"
    rw [take_succ hy, List.map_append]
    exact ⟨O2.wr .here⟩
  · rintro D H2 O2
    rw [List.take_length] at O2
    exact k _ D O2
def sp_Rooms_counts (K : PySem.W.Frag) : Sp := sp1 fun self H Q _ => ∃ p dx g r w st, self = .ref p ∧ RmS K H r w st ∧ Own H H (adr (cRo K p dx g r)) (cRo K p dx g r) ∧
  ∀ H' T c d, Own H H' (adr (cRo K p dx g r)) ((c, .lst ((r.ps.os true).map V.int)) :: (d, .lst ((r.ps.os false).map V.int)) :: cRo K p dx g r) → H' T = some (.tup [.ref c, .ref d]) → Q (.ref T) H'
theorem sc_Rooms_counts : FnScope ["self", "frames"] ["self"] (defScope s_Rooms_counts) := ⟨rfl, rfl, rfl, by decide +kernel, rfl, by decide +kernel, by decide +kernel⟩
theorem ok_Rooms_counts {P : Program} {w : World} {K : PySem.W.Frag} {mg : Str → Option Value} {base : Heap} (T : Txt K mg) : Cee P w K mg base 3 (He.fAd K ("Rooms", some "counts")) ["self"] (sp_Rooms_counts K) := by
  have c_Paging_counts : Cee P w K mg base 2 (He.fAd K ("Paging", some "counts")) ["self", "kind", "many"] (sp_Paging_counts K) := ok_Paging_counts T
  refine cee_of T.d_Rooms_counts sc_Rooms_counts (fun _ _ _ _ _ _ us hl => match us, hl with | [_], _ => rfl) (fun vs H Q E h => sp1_len h) (fun cdv A outer s H vs Q E hr h => ⟨_, (pss_cons (ps_set (i := 1) sc_Rooms_counts.nd rfl (Or.inl rfl) (pe_m (pe_fld (pv 0) rfl) T.c_Paging T.m_Paging_counts c_Paging_counts (hr.mono (by decide)) (takes_of rfl rfl rfl rfl) (pa_cons pe_str (pa_cons (pe_fld (pe_fld (pv 0) rfl) rfl) pa_nil)))) (pss_one (ps_ret (pe_tup (pa_cons (pv 1) (pa_cons (pe_m (pe_fld (pv 0) rfl) T.c_Paging T.m_Paging_counts c_Paging_counts (hr.mono (by decide)) (takes_of rfl rfl rfl rfl) (pa_cons pe_str (pa_cons (pe_fld (pe_fld (pv 0) rfl) rfl) pa_nil))) pa_nil)))))), ?_⟩)
  obtain ⟨v0, rfl, h⟩ := h
  dsimp only [cxOf, L2.start]
  obtain ⟨p, dx, g, r, w, st, rfl, R, O, k⟩ := h
  have hp := O.get (a := p) (o := .ins (He.ga K "Rooms") dx [("paging", .ref g)]) (.head _)
  have hg := O.get (a := g) (o := insPg K r) (.tail _ (.head _))
  have h2 := R.gd.two
  have h3 := R.jp.lnf
  have h4 := R.jp.lns
  walk_at "s"
  refine ask3 ⟨g, r, true, rfl, rfl, by rw [h3], by omega, O.blk (s := cPg K g r) (s' := []) (.there .all), fun H2 c O2 => ?_⟩
  have O3 := O.callE (s := cPg K g r) (s' := cPg K g r) (e := [(c, .lst ((r.ps.os true).map V.int))]) (.there .all) O2
  have hp3 := O3.get (a := p) (o := .ins (He.ga K "Rooms") dx [("paging", .ref g)]) (.tail _ (.head _))
  have hg3 := O3.get (a := g) (o := insPg K r) (.tail _ (.tail _ (.head _)))
  walk_at "s"
  refine ask3 ⟨g, r, false, rfl, rfl, by rw [h4], by omega, O3.blk (s := cPg K g r) (s' := []) (.there (.there .all)), fun H4 d O4 => ?_⟩
  have O5 := O3.callE (s := cPg K g r) (s' := cPg K g r) (e := [(d, .lst ((r.ps.os false).map V.int))]) (.there (.there .all)) O4
  walk_at "s"
  intro T hT
  exact k _ T c d ((O5.perm (List.Perm.swap _ _ _)).newT hT) upd_same

/-! ## law k11: what is told of where pages lie -/
structure StG where
  b : Addr
  pl : Addr
  T : Addr
  l1 : Addr
  l2 : Addr
  rows : List (Addr × List V)
abbrev rowC (x : Addr × List V) : Addr × HO := (x.1, .lst x.2)
def cSt (s : StG) (h : Int) (o1 o2 : List Int) : Cells := (s.b, .lst [.ref s.pl, .ref s.T, .int h]) :: (s.pl, .lst (s.rows.map fun x => V.ref x.1)) :: (s.l1, .lst (o1.map V.int)) :: (s.l2, .lst (o2.map V.int)) :: s.rows.map rowC
def ents (r : RG) (t : Int) : List (Option (Option Pla)) := (List.range 66).map fun j : Nat => r.ps.ent (t, -1 + (j : Int))
structure StF (K : PySem.W.Frag) (H : Hp) (s : StG) (r : RG) (ts : List Int) : Prop where
  T : H s.T = some (.tup [.ref s.l1, .ref s.l2])
  rows : Paired (fun (x : Addr × List V) t => Paired (PlV K H) x.2 (ents r t)) s.rows ts
theorem StF.mono {K : PySem.W.Frag} {H H' : Hp} {s : StG} {r : RG} {ts : List Int} {A : List Addr} {cs : Cells} (h : StF K H s r ts) (O : Own H H' A cs) : StF K H' s r ts := ⟨O.tp _ _ h.T, Paired.mapP h.rows fun _ _ z => Paired.mapP z fun _ _ y => PlV.mono y O⟩
def sp__law_state (K : PySem.W.Frag) : Sp := sp2 fun x y H Q _ => ∃ p dx g r M st, x = .ref p ∧ y = .ref M.D ∧ RmS K H r M.w.abs st ∧ Own H H (adr (cMd M ++ cRo K p dx g r)) (cMd M ++ cRo K p dx g r) ∧
  ∀ H' s, Own H H' (adr (cMd M ++ cRo K p dx g r)) (cSt s (heldA M.w.abs) (r.ps.os true) (r.ps.os false) ++ (cMd M ++ cRo K p dx g r)) → StF K H' s r (M.w.map (·.1)) → Q (.ref s.b) H'
theorem ents_at {r : RG} {t : Int} {i : Nat} (h : i < 66) : (ents r t)[i]? = some (r.ps.ent (t, -1 + (i : Int))) := by
  unfold ents
  rw [List.getElem?_map, List.getElem?_range h]
  rfl
theorem ents_len {r : RG} {t : Int} : (ents r t).length = 66 := by unfold ents; rw [List.length_map, List.length_range]
theorem wlD_take (w : Wl) : (w.map (·.1)).take (wlD w).length = w.map (·.1) := by
  rw [List.take_of_length_le (by rw [List.length_map, List.length_map]; exact Nat.le_refl _)]
theorem sc__law_state : FnScope ["_law_kept", "_law_model_here", "_law_places", "_law_task", "_law_page"] ["_law_kept", "_law_model_here"] (defScope s__law_state) := ⟨rfl, rfl, rfl, by decide +kernel, rfl, by decide +kernel, by decide +kernel⟩
theorem ok__law_state {P : Program} {w : World} {K : PySem.W.Frag} {mg : Str → Option Value} {base : Heap} (T : Txt K mg) : Cee P w K mg base 4 (He.fAd K ("_law_state", none)) ["_law_kept", "_law_model_here"] (sp__law_state K) := by
  have c_Rooms_place : Cee P w K mg base 2 (He.fAd K ("Rooms", some "place")) ["self", "task", "page"] (sp_Rooms_place K) := ok_Rooms_place T
  have c_Rooms_counts : Cee P w K mg base 3 (He.fAd K ("Rooms", some "counts")) ["self"] (sp_Rooms_counts K) := ok_Rooms_counts T
  have c_Rooms_held : Cee P w K mg base 2 (He.fAd K ("Rooms", some "held")) ["self"] (sp_Rooms_held K) := ok_Rooms_held T
  refine cee_of T.d__law_state sc__law_state (fun _ _ _ _ _ _ us hl => match us, hl with | [_, _], _ => rfl) (fun vs H Q E h => sp2_len h) (fun cdv A outer s H vs Q E hr h => ⟨_, (pss_cons (ps_set (i := 2) sc__law_state.nd rfl (Or.inl rfl) (pe_lst pa_nil)) (pss_cons (ps_lock (ps_for (passes_of rfl) rfl (PI.box (pi_keys (pe_dget (hu_of hr) (pv 1) pe_str (fun _ _ => rfl)))) (pg_name (i := 3) sc__law_state.nd rfl (Or.inr rfl)) (pss_one (ps_expr (pe_bm PySem.F.plainAttrs_list PySem.F.slot_list_append PySem.F.type_list_append mt_append (pv 2) (pa_cons (pe_lc (own := [("_law_page", 4)]) (by rfl) sc__law_state.nd (PI.box (pi_range2W (by rfl) T.n_range (pa_cons (pe_un un_neg pe_int) (pa_cons pe_int pa_nil)))) (blkOk_by (own := [("_law_page", 4)]) (N := ["_law_kept", "_law_model_here", "_law_places", "_law_task", "_law_page"]) (sc := defScope s__law_state) (by decide +kernel)) (fun _ _ _ _ _ => (pg_name (i := 4) sc__law_state.nd rfl (Or.inl rfl))) (fun _ _ _ _ _ => pts_nil) (fun _ _ _ _ _ => (pe_m (pv 0) T.c_Rooms T.m_Rooms_place c_Rooms_place (hr.mono (by decide)) takes0 (pa_cons (pv 3) (pa_cons (pv 4) pa_nil))))) pa_nil)))))) (pss_one (ps_ret (pe_lst (pa_cons (pv 2) (pa_cons (pe_m0 (pv 0) T.c_Rooms T.m_Rooms_counts c_Rooms_counts (hr.mono (by decide)) (takes_of rfl rfl rfl rfl)) (pa_cons (pe_m0 (pv 0) T.c_Rooms T.m_Rooms_held c_Rooms_held (hr.mono (by decide)) (takes_of rfl rfl rfl rfl)) pa_nil)))))))), ?_⟩)
  obtain ⟨v0, v1, rfl, h⟩ := h
  dsimp only [cxOf, L2.start]
  obtain ⟨p, dx, g, r, M, st, rfl, rfl, R, O, k⟩ := h
  have hD := O.get (a := M.D) (o := .dK (mdD M)) (.head _)
  have hv : valV (mdD M) (Sum.inr "rooms") = some (.ref M.RD) := rfl
  have ok := R.ok
  walk_at "s"
  intro PL hPL
  have O1 := O.new (o := .lst []) hPL
  have R1 := R.mono (O.self.new (o := .lst []) hPL)
  generalize upd H PL _ = H1 at O1 R1 ⊢
  clear O R hD hPL
  have hD1 := O1.get (a := M.D) (o := .dK (mdD M)) (.tail _ (.head _))
  have hR1 := O1.get (a := M.RD) (o := .dK (wlD M.w)) (.tail _ (.tail _ (.head _)))
  walk_at "s"
  refine ⟨_, hR1, True.intro, fun od => ?_⟩
  have O2 := O1.wr (a := M.RD) (o' := .frz od (.dK (wlD M.w))) (.there (.appl (.there (.appl .here))))
  have R2 := R1.mono (O1.self.wr (a := M.RD) (o' := .frz od (.dK (wlD M.w))) (.there (.appl (.there (.appl .here)))))
  generalize upd H1 M.RD _ = H2 at O2 R2 ⊢
  clear O1 R1 hD1 hR1
  walk_at "s"
  refine .inl ⟨_, O2.get (.tail _ (.tail _ (.head _))), ?_⟩
  refine forW (walk_keys (d := M.RD) (o := od) (kvs := wlD M.w)) (fun j σ H' => ∃ (v3 v4 : Option V) (rows : List (Addr × List V)), σ = [some (.ref p), some (.ref M.D), some (.ref PL), v3, v4] ∧ Own H H' (adr (cMd M ++ cRo K p dx g r)) ((PL, .lst (rows.map fun x => V.ref x.1)) :: (rows.map rowC ++ (((M.D, .dK (mdD M)) :: (((M.RD, .frz od (.dK (wlD M.w))) :: cRms M.w) ++ cSl M.SD M.s)) ++ cRo K p dx g r))) ∧ RmS K H' r M.w.abs st ∧ Paired (fun (x : Addr × List V) t => Paired (PlV K H') x.2 (ents r t)) rows ((M.w.map (·.1)).take j)) ⟨_, _, [], rfl, O2, R2, .nil⟩ (fun j σ H' _ ⟨_, _, _, _, O, _⟩ => O.get (.tail _ (List.mem_append_right _ (.tail _ (.head _))))) ?_ ?_
  · clear O2 R2
    rintro j x σ H3 H4 hj ⟨v3, v4, rows, rfl, O, R, hp⟩ ⟨rfl, kk, v, hx, hxe⟩
    obtain ⟨z, hz, he⟩ := mgetK hx
    cases he
    have hxe : x = V.int z.1 := hxe
    subst hxe
    have hin : (M.w.abs.lookup z.1).isSome = true := by
      have h1 := lk_nd (Wl.nd ok) (List.mem_of_getElem? hz)
      rw [Wl.look_abs, h1]
      rfl
    walk_at "s"
    refine lcR (lo := -1) (n := 66) (fun D i H' => ∃ vs : List V, Own H H' (adr (cMd M ++ cRo K p dx g r)) ((D, .lst vs) :: (PL, .lst (rows.map fun x => V.ref x.1)) :: (rows.map rowC ++ (((M.D, .dK (mdD M)) :: (((M.RD, .frz od (.dK (wlD M.w))) :: cRms M.w) ++ cSl M.SD M.s)) ++ cRo K p dx g r))) ∧ RmS K H' r M.w.abs st ∧ Paired (fun (x : Addr × List V) t => Paired (PlV K H') x.2 (ents r t)) rows ((M.w.map (·.1)).take j) ∧ Paired (PlV K H') vs ((ents r z.1).take i)) (fun D hD => ⟨[], O.new hD, R.mono (O.self.new (o := .lst []) hD), Paired.mapP hp fun _ _ z => Paired.mapP z fun _ _ y => PlV.mono y (O.self.new (o := .lst []) hD), .nil⟩) ?_ ?_
    · clear O R hp
      rintro D i H5 hi ⟨vs, O, R, hp, hq⟩
      have hpp := O.get (a := p) (o := .ins (He.ga K "Rooms") dx [("paging", .ref g)]) (.tail _ (.tail _ (List.mem_append_right _ (List.mem_append_right _ (.head _)))))
      have hvl : vs.length < 100000 := by
        have h1 := hq.length
        rw [List.length_take, ents_len] at h1
        omega
      walk_at "s"
      refine ask3 ⟨p, dx, g, r, M.w.abs, st, z.1, -1 + (i : Int), rfl, rfl, rfl, R, O.blk (s' := []) (.there (.there (.app (.app .all)))), fun h => (by rw [h] at hin; cases hin), fun _ v hv => ?_⟩
      have hDD := O.get (a := D) (o := .lst vs) (.head _)
      have S := O.self.wr (a := D) (o' := .lst (vs ++ [v])) .here
      refine ⟨vs, hDD, sz_lt hvl, ⟨vs ++ [v], O.wr .here, R.mono S, Paired.mapP hp fun _ _ z => Paired.mapP z fun _ _ y => PlV.mono y S, ?_⟩⟩
      rw [take_succ (ents_at hi)]
      exact Paired.snoc (Paired.mapP hq fun _ _ y => PlV.mono y S) (PlV.mono hv S)
    · clear O R hp
      rintro D H5 ⟨vs, O, R, hp, hq⟩
      have hPL := O.get (a := PL) (o := .lst (rows.map fun x => V.ref x.1)) (.tail _ (.head _))
      have hll : (rows.map fun x => V.ref x.1).length < 100000 := by
        have h1 := hp.length
        have h2 := Wl.len ok
        rw [List.length_take, List.length_map] at h1
        rw [List.length_map]
        omega
      have OB := Box.mk O
      clear O
      walk_at "s"
      have S := OB.out.self.wr (a := PL) (o' := .lst ((rows.map fun x => V.ref x.1) ++ [V.ref D])) (.there .here)
      have OW := OB.out.wr (a := PL) (o' := .lst ((rows.map fun x => V.ref x.1) ++ [V.ref D])) (.there .here)
      rw [List.take_of_length_le (by rw [ents_len]; exact Nat.le_refl _)] at hq
      refine ⟨⟨_, _, rows ++ [(D, vs)], rfl, OW.perm ?_, R.mono S, ?_⟩⟩
      · rw [List.map_append, List.map_append]
        show List.Perm ((D, HO.lst vs) :: (PL, .lst ((rows.map fun x => V.ref x.1) ++ [V.ref D])) :: (rows.map rowC ++ _)) ((PL, .lst ((rows.map fun x => V.ref x.1) ++ [V.ref D])) :: ((rows.map rowC ++ [(D, HO.lst vs)]) ++ _))
        walk_at "pm"
      · rw [take_succ (l := M.w.map (·.1)) (y := z.1) (by rw [List.getElem?_map, hz]; rfl)]
        exact Paired.snoc (Paired.mapP hp fun _ _ z => Paired.mapP z fun _ _ y => PlV.mono y S) (Paired.mapP hq fun _ _ y => PlV.mono y S)
  · clear O2 R2
    rintro σ H3 ⟨v3, v4, rows, rfl, O, R, hp⟩
    have hfz := O.get (a := M.RD) (o := .frz od (.dK (wlD M.w))) (.tail _ (List.mem_append_right _ (.tail _ (.head _))))
    have S := O.self.wr (a := M.RD) (o' := .dK (wlD M.w)) (.there (.app (.appl (.there (.appl .here)))))
    have O1 := O.wr (a := M.RD) (o' := .dK (wlD M.w)) (.there (.app (.appl (.there (.appl .here)))))
    have R1 := R.mono S
    have hp1 := Paired.mapP hp fun _ _ z => Paired.mapP z fun _ _ y => PlV.mono y S
    refine ⟨hfz, ?_⟩
    generalize upd H3 M.RD (.dK (wlD M.w)) = H4 at O1 R1 hp1 ⊢
    have O1 : Own H H4 (adr (cMd M ++ cRo K p dx g r)) ((PL, .lst (rows.map fun x => V.ref x.1)) :: (rows.map rowC ++ (cMd M ++ cRo K p dx g r))) := O1
    clear S O R hp hfz
    have hpp := O1.get (a := p) (o := .ins (He.ga K "Rooms") dx [("paging", .ref g)]) (.tail _ (List.mem_append_right _ (List.mem_append_right _ (.head _))))
    have O2 := Box.mk O1
    clear O1
    walk_at "clo"
    walk_at "s"
    refine ask1 ⟨p, dx, g, r, M.w.abs, st, rfl, R1, O2.out.blk (s' := []) (.there (.app (.app .all))), fun H5 T c d O3 hT => ?_⟩
    have O4 : Own H H5 (adr (cMd M ++ cRo K p dx g r)) ([(c, .lst ((r.ps.os true).map V.int)), (d, .lst ((r.ps.os false).map V.int))] ++ ((PL, .lst (rows.map fun x => V.ref x.1)) :: (rows.map rowC ++ (cMd M ++ cRo K p dx g r)))) := O2.out.callE (e := [(c, .lst ((r.ps.os true).map V.int)), (d, .lst ((r.ps.os false).map V.int))]) (.there (.app (.app .all))) O3
    have R2 := R1.mono O3
    have hp2 := Paired.mapP hp1 fun _ _ z => Paired.mapP z fun _ _ y => PlV.mono y O3
    clear O2 O3 hpp R1 hp1
    have hpp := O4.get (a := p) (o := .ins (He.ga K "Rooms") dx [("paging", .ref g)]) (.tail _ (.tail _ (.tail _ (List.mem_append_right _ (List.mem_append_right _ (.head _))))))
    have O5 := Box.mk O4
    clear O4
    walk_at "clo"
    walk_at "s"
    refine ask1 ⟨p, dx, g, r, M.w.abs, st, rfl, R2, O5.out.blk (s' := []) (.app (.there (.app (.app .all)))), fun H6 O6 => ?_⟩
    have O7 := O5.out.call (.app (.there (.app (.app .all)))) O6
    have hT6 := O6.tp _ _ hT
    have hp3 := Paired.mapP hp2 fun _ _ z => Paired.mapP z fun _ _ y => PlV.mono y O6
    walk_at "s"
    intro b hb
    have S := (Own.start (H := H6)).new (o := .lst [.ref PL, .ref T, .int (heldA M.w.abs)]) hb
    refine k _ ⟨b, PL, T, c, d, rows⟩ ((O7.new (o := .lst [.ref PL, .ref T, .int (heldA M.w.abs)]) hb).perm ?_) ⟨S.tp _ _ hT6, ?_⟩
    · unfold cSt
      walk_at "pm"
    · have := Paired.mapP hp3 fun _ _ z => Paired.mapP z fun _ _ y => PlV.mono y S
      rw [wlD_take] at this
      exact this

/-! ## law k11: what is refused -/
def sp__law_far (K : PySem.W.Frag) : Sp := sp1 fun x H Q _ => ∃ m : Int, x = .int m ∧ ∀ H' (n : Int), Own H H' [] [] → Q (.int n) H'
def sp__law_none_asked (K : PySem.W.Frag) : Sp := sp3 fun x y z H Q _ => ∃ p dx g r w st t m row, x = .ref p ∧ y = .int t ∧ z = .int m ∧ RmS K H r w st ∧ w.lookup t = some row ∧ Own H H (adr (cRo K p dx g r)) (cRo K p dx g r) ∧ ∀ H', Own H H' (adr (cRo K p dx g r)) (cRo K p dx g r) → Q (.bl true) H'
def sp__law_refusal (K : PySem.W.Frag) : Sp := sp2 fun x y H Q _ => ∃ p dx g r w st T e, x = .ref p ∧ y = .ref T ∧ RmS K H r w st ∧ Own H H (adr (cRo K p dx g r)) (cRo K p dx g r) ∧
  ((∃ c b d, w.length < 1000 ∧ d.fine ∧ DAt H (adr (cRo K p dx g r)) T d b ∧ (∀ o, mpW w o = true → st o ≤ c) ∧ sem ((r.nf + r.ns : Nat) : Int) w d = .error e) ∨ (e = .noTask ∧ ∃ t q : Int, H T = some (.tup [.str "place", .int t, .int q]) ∧ w.lookup t = none)) ∧
  ∀ H', Own H H' (adr (cRo K p dx g r)) (cRo K p dx g r) → Q (.str e.name) H'
theorem sc__law_far : FnScope ["_law_m"] ["_law_m"] (defScope s__law_far) := ⟨rfl, rfl, rfl, by decide +kernel, rfl, by decide +kernel, by decide +kernel⟩
theorem ok__law_far {P : Program} {w : World} {K : PySem.W.Frag} {mg : Str → Option Value} {base : Heap} (T : Txt K mg) : Cee P w K mg base 1 (He.fAd K ("_law_far", none)) ["_law_m"] (sp__law_far K) := by
  refine cee_of T.d__law_far sc__law_far (fun _ _ _ _ _ _ us hl => match us, hl with | [_], _ => rfl) (fun vs H Q E h => sp1_len h) (fun cdv A outer s H vs Q E hr h => ⟨_, (pss_one (ps_ret (pe_ix ix_list (pe_lst (pa_cons (pe_un un_neg pe_int) (pa_cons pe_int (pa_cons pe_int (pa_cons (pe_op op_sub (pe_un un_neg pe_int) (pe_op op_mod (pv 0) (pe_op op_pow pe_int pe_int))) (pa_cons (pe_op op_add pe_int (pe_op op_mod (pv 0) (pe_op op_pow pe_int pe_int))) (pa_cons (pe_op op_pow pe_int pe_int) (pa_cons pe_int pa_nil)))))))) (pe_op op_mod (pv 0) pe_int) (fun _ _ => rfl)))), ?_⟩)
  obtain ⟨v0, rfl, h⟩ := h
  dsimp only [cxOf, L2.start]
  obtain ⟨m, rfl, k⟩ := h
  walk_at "s"
  intro L hL
  refine (Own.start (H := H)).nxtQ hL fun O1 => ?_
  obtain ⟨y, hy⟩ := at_cell (n := m % 7) (O1.get (.head _)) (by omega) (by simp only [List.length_cons, List.length_nil]; omega) rfl
  walk_at "s"
  exact k _ y (O1.drop (List.nil_sublist _))
theorem sc__law_none_asked : FnScope ["_law_kept", "_law_task", "_law_m", "_law_address", "_law_told"] ["_law_kept", "_law_task", "_law_m"] (defScope s__law_none_asked) := ⟨rfl, rfl, rfl, by decide +kernel, rfl, by decide +kernel, by decide +kernel⟩
theorem ok__law_none_asked {P : Program} {w : World} {K : PySem.W.Frag} {mg : Str → Option Value} {base : Heap} (T : Txt K mg) : Cee P w K mg base 10 (He.fAd K ("_law_none_asked", none)) ["_law_kept", "_law_task", "_law_m"] (sp__law_none_asked K) := by
  have c_Rooms_peek : Cee P w K mg base 8 (He.fAd K ("Rooms", some "peek")) ["self", "task", "address", "many"] (sp_Rooms_peek K) := ok_Rooms_peek T
  have c_Rooms_poke : Cee P w K mg base 9 (He.fAd K ("Rooms", some "poke")) ["self", "task", "address", "cells"] (sp_Rooms_poke K) := ok_Rooms_poke T
  refine cee_of T.d__law_none_asked sc__law_none_asked (fun _ _ _ _ _ _ us hl => match us, hl with | [_, _, _], _ => rfl) (fun vs H Q E h => sp3_len h) (fun cdv A outer s H vs Q E hr h => ⟨_, (pss_cons (ps_set (i := 3) sc__law_none_asked.nd rfl (Or.inl rfl) (pe_ix ix_list (pe_lst (pa_cons (pe_op op_sub (pe_op op_mod (pv 2) pe_int) pe_int) (pa_cons (pe_op op_mod (pe_un un_neg (pv 2)) (pe_op op_pow pe_int pe_int)) (pa_cons (pe_op op_add (pe_op op_pow pe_int pe_int) (pe_op op_mod (pv 2) (pe_op op_pow pe_int pe_int))) pa_nil)))) (pe_op op_mod (pv 2) pe_int) (fun _ _ => rfl))) (pss_cons (ps_set (i := 4) sc__law_none_asked.nd rfl (Or.inl rfl) (pe_m (pv 0) T.c_Rooms T.m_Rooms_peek c_Rooms_peek (hr.mono (by decide)) (takes_of rfl rfl rfl rfl) (pa_cons (pv 1) (pa_cons (pv 3) (pa_cons pe_int pa_nil))))) (pss_cons (ps_expr (pe_m (pv 0) T.c_Rooms T.m_Rooms_poke c_Rooms_poke (hr.mono (by decide)) (takes_of rfl rfl rfl rfl) (pa_cons (pv 1) (pa_cons (pv 3) (pa_cons (pe_lst pa_nil) pa_nil))))) (pss_one (ps_ret (pe_and (pe_cmpR (op_eqD hr.units) (pv 4) (pe_lst pa_nil) (nomark _)) (pe_one (pe_callB call_isi (by rfl) T.n_isinstance (by decide +kernel) (pa_cons (pv 4) (pa_cons (pe_bltn (v := .ty "list") rfl T.n_list (by decide +kernel) rfl) pa_nil)))))))))), ?_⟩)
  obtain ⟨v0, v1, v2, rfl, h⟩ := h
  dsimp only [cxOf, L2.start]
  obtain ⟨p, dx, g, r, w, st, t, m, row, rfl, rfl, rfl, R, hw, O, k⟩ := h
  walk_at "s"
  intro L hL
  refine O.nxtQ hL fun O1 => ?_
  obtain ⟨y, hy⟩ := at_cell (n := m % 3) (O1.get (.head _)) (by omega) (by simp only [List.length_cons, List.length_nil]; omega) rfl
  have R1 := R.mono O1
  walk_at "s"
  refine ask4 (.inr ⟨p, dx, g, r, w, st, t, y, row, rfl, rfl, rfl, rfl, R1, hw, O1.blk (s' := []) (.there .all), fun H2 l O2 => ?_⟩)
  have O3 := (O1.callE (e := [(l, .lst ([] : List V))]) (.there .all) O2).drop (cs' := (l, .lst ([] : List V)) :: cRo K p dx g r) (.cons₂ _ (.cons _ (.refl _)))
  have R2 := R1.mono O2
  clear O1 O2 R1 hy
  have hp3 := O3.get (a := p) (o := .ins (He.ga K "Rooms") dx [("paging", .ref g)]) (.tail _ (.head _))
  walk_at "s"
  intro b hb
  have O4 := O3.new (o := .lst ([] : List V)) hb
  have R3 := R2.mono (O3.self.new (o := .lst ([] : List V)) hb)
  generalize hg : upd H2 b _ = H3
  have hg : upd H2 b (.lst []) = H3 := hg
  rw [hg] at O4 R3
  clear hg O3 R2 hp3
  refine ask4 (.inr ⟨p, dx, g, r, w, st, t, y, b, row, rfl, rfl, rfl, rfl, R3, hw, O4.blk (s' := []) (.there (.there .all)), O4.get (.head _), fun H4 O5 => ?_⟩)
  have O6 := (O4.call (.there (.there .all)) O5).drop (cs' := (l, .lst ([] : List V)) :: cRo K p dx g r) (.cons _ (.refl _))
  have hl6 := O6.get (a := l) (o := .lst ([] : List V)) (.head _)
  walk_at "s"
  intro e he
  have O7 := O6.new (o := .lst ([] : List V)) he
  refine eq_ints (ns := []) (ms := []) (O7.get (a := l) (.tail _ (.head _))) (O7.get (a := e) (.head _)) ?_
  rw [decide_eq_true rfl]
  have hl7 := O7.get (a := l) (o := .lst ([] : List V)) (.tail _ (.head _))
  generalize upd H4 e _ = H7 at O7 hl7 ⊢
  walk_at "s"
  exact k _ (O7.drop (.cons _ (.cons _ (.refl _))))
def wordsR : List Str := ["NoTask", "NoPage", "NoRoom", "Taken"]
def filR (bs : List Bool) (j : Nat) : List Str := (((wordsR.zip bs).take j).filter (·.2)).map (·.1)
theorem filR_succ {bs : List Bool} {j : Nat} {z : Str} {b : Bool} (h1 : wordsR[j]? = some z) (h2 : bs[j]? = some b) : filR bs (j + 1) = filR bs j ++ (if b = true then [z] else []) := by
  unfold filR
  rw [take_succ (zip_at h1 h2), List.filter_append, List.map_append]
  cases b <;> rfl
theorem filR_len (bs : List Bool) (j : Nat) : (filR bs j).length ≤ 4 := by
  unfold filR
  rw [List.length_map]
  refine Nat.le_trans (List.length_filter_le _ _) ?_
  rw [List.length_take, List.length_zip]
  show min j (min 4 bs.length) ≤ 4
  omega
theorem sc__law_refusal : FnScope ["_law_kept", "_law_deed_here", "_law_error", "caught", "_law_names", "_law_name", "_law_one"] ["_law_kept", "_law_deed_here"] (defScope s__law_refusal) := ⟨rfl, rfl, rfl, by decide +kernel, rfl, by decide +kernel, by decide +kernel⟩
theorem ok__law_refusal {P : Program} {w : World} {K : PySem.W.Frag} {mg : Str → Option Value} {base : Heap} (T : Txt K mg) : Cee P w K mg base 11 (He.fAd K ("_law_refusal", none)) ["_law_kept", "_law_deed_here"] (sp__law_refusal K) := by
  have c_Rooms_place : Cee P w K mg base 2 (He.fAd K ("Rooms", some "place")) ["self", "task", "page"] (sp_Rooms_place K) := ok_Rooms_place T
  have c__law_called : Cee P w K mg base 10 (He.fAd K ("_law_called", none)) ["_law_kept", "_law_deed_here"] (sp__law_called K) := ok__law_called T
  refine cee_of T.d__law_refusal sc__law_refusal (fun _ _ _ _ _ _ us hl => match us, hl with | [_, _], _ => rfl) (fun vs H Q E h => sp2_len h) (fun cdv A outer s H vs Q E hr h => ⟨_, (pss_cons (ps_set (i := 2) sc__law_refusal.nd rfl (Or.inl rfl) pe_non) (pss_cons (PS.box (ps_tryX (i := 3) rfl rfl rfl sc__law_refusal.nd rfl rfl ⟨rfl, by decide, .inl T.g_KernelError⟩ (takes_of rfl rfl rfl rfl) (fun W pn xe tk pe => (pss_one (ps_if (pt_cmpR op_eq (pe_ix (show IxR _ (rIxT K) from ix_tup) (pv 1) pe_int (fun _ _ => rfl)) pe_str (nomark _)) (pss_one (ps_expr (pe_m (pv 0) T.c_Rooms T.m_Rooms_place c_Rooms_place (hr.mono (by decide)) tk (pa_cons (pe_ix (show IxR _ (rIxT K) from ix_tup) (pv 1) pe_int (fun _ _ => rfl)) (pa_cons (pe_ix (show IxR _ (rIxT K) from ix_tup) (pv 1) pe_int (fun _ _ => rfl)) pa_nil))))) (pss_one (ps_expr (pe_f c__law_called (hr.mono (by decide)) tk (by rfl) T.g__law_called (pa_cons (pv 0) (pa_cons (pv 1) pa_nil)))))))) (fun a pn => (pss_one (ps_set (i := 2) sc__law_refusal.nd rfl (Or.inl rfl) (pv 3)))))) (pss_cons (ps_if (pt_val (pe_callB call_isXT (by rfl) T.n_isinstance (by decide +kernel) (pa_cons (pv 2) (pa_cons (pe_tup (pa_cons (pe_glob (v := .ref (He.ga K "BadCall")) rfl T.g_BadCall rfl) (pa_cons (pe_glob (v := .ref (He.ga K "BadMode")) rfl T.g_BadMode rfl) (pa_cons (pe_glob (v := .ref (He.ga K "BadName")) rfl T.g_BadName rfl) (pa_cons (pe_glob (v := .ref (He.ga K "BadRow")) rfl T.g_BadRow rfl) (pa_cons (pe_glob (v := .ref (He.ga K "Broken")) rfl T.g_Broken rfl) (pa_cons (pe_glob (v := .ref (He.ga K "Fallen")) rfl T.g_Fallen rfl) (pa_cons (pe_glob (v := .ref (He.ga K "Inside")) rfl T.g_Inside rfl) (pa_cons (pe_glob (v := .ref (He.ga K "IsDir")) rfl T.g_IsDir rfl) pa_nil))))))))) pa_nil)))) (pss_one (ps_ret pe_str)) pss_nil) (pss_cons (ps_if (pt_val (pe_callB call_isXT (by rfl) T.n_isinstance (by decide +kernel) (pa_cons (pv 2) (pa_cons (pe_tup (pa_cons (pe_glob (v := .ref (He.ga K "NoBlock")) rfl T.g_NoBlock rfl) (pa_cons (pe_glob (v := .ref (He.ga K "NoChild")) rfl T.g_NoChild rfl) (pa_cons (pe_glob (v := .ref (He.ga K "NoHandle")) rfl T.g_NoHandle rfl) (pa_cons (pe_glob (v := .ref (He.ga K "NoName")) rfl T.g_NoName rfl) (pa_cons (pe_glob (v := .ref (He.ga K "NoNode")) rfl T.g_NoNode rfl) (pa_cons (pe_glob (v := .ref (He.ga K "NoOwner")) rfl T.g_NoOwner rfl) (pa_cons (pe_glob (v := .ref (He.ga K "NoSpace")) rfl T.g_NoSpace rfl) pa_nil)))))))) pa_nil)))) (pss_one (ps_ret pe_str)) pss_nil) (pss_cons (ps_if (pt_val (pe_callB call_isXT (by rfl) T.n_isinstance (by decide +kernel) (pa_cons (pv 2) (pa_cons (pe_tup (pa_cons (pe_glob (v := .ref (He.ga K "NotAllowed")) rfl T.g_NotAllowed rfl) (pa_cons (pe_glob (v := .ref (He.ga K "NotDir")) rfl T.g_NotDir rfl) (pa_cons (pe_glob (v := .ref (He.ga K "NotEmpty")) rfl T.g_NotEmpty rfl) (pa_cons (pe_glob (v := .ref (He.ga K "NotHeld")) rfl T.g_NotHeld rfl) (pa_cons (pe_glob (v := .ref (He.ga K "TooBig")) rfl T.g_TooBig rfl) (pa_cons (pe_glob (v := .ref (He.ga K "TooMany")) rfl T.g_TooMany rfl) pa_nil))))))) pa_nil)))) (pss_one (ps_ret pe_str)) pss_nil) (pss_cons (PS.box (ps_if (PW.pt (pw_or (pt_val (pe_callB call_isX (by rfl) T.n_isinstance (by decide +kernel) (pa_cons (pv 2) (pa_cons (pe_glob (v := .ref (He.ga K "Again")) rfl T.g_Again rfl) pa_nil)))) (pw_or1 (PW.pt (pw_and (pt_cmpR op_notN (pv 2) pe_non (nomark _)) (pw_and1 (pt_not (pt_val (pe_callB call_isX (by rfl) T.n_isinstance (by decide +kernel) (pa_cons (pv 2) (pa_cons (pe_bltn (v := .ty "ValueError") rfl T.n_ValueError (by decide +kernel) rfl) pa_nil))))))))))) (pss_one (ps_ret pe_str)) pss_nil)) (pss_cons (ps_set (i := 4) sc__law_refusal.nd rfl (Or.inl rfl) (pe_lst (pa_cons (pe_callB call_isX (by rfl) T.n_isinstance (by decide +kernel) (pa_cons (pv 2) (pa_cons (pe_glob (v := .ref (He.ga K "NoTask")) rfl T.g_NoTask rfl) pa_nil))) (pa_cons (pe_callB call_isX (by rfl) T.n_isinstance (by decide +kernel) (pa_cons (pv 2) (pa_cons (pe_glob (v := .ref (He.ga K "NoPage")) rfl T.g_NoPage rfl) pa_nil))) pa_nil)))) (pss_cons (ps_set (i := 4) sc__law_refusal.nd rfl (Or.inl rfl) (pe_op op_cat (pv 4) (pe_lst (pa_cons (pe_callB call_isX (by rfl) T.n_isinstance (by decide +kernel) (pa_cons (pv 2) (pa_cons (pe_glob (v := .ref (He.ga K "NoRoom")) rfl T.g_NoRoom rfl) pa_nil))) (pa_cons (pe_callB call_isX (by rfl) T.n_isinstance (by decide +kernel) (pa_cons (pv 2) (pa_cons (pe_glob (v := .ref (He.ga K "Taken")) rfl T.g_Taken rfl) pa_nil))) pa_nil))))) (pss_one (ps_ret (pe_join pe_str (pe_lc (own := [("_law_name", 5), ("_law_one", 6)]) (by rfl) sc__law_refusal.nd (PI.box (pi_zip (by rfl) T.n_zip (pa_cons (pe_lst (pa_cons pe_str (pa_cons pe_str (pa_cons pe_str (pa_cons pe_str pa_nil))))) (pa_cons (pv 4) pa_nil)))) (blkOk_by (own := [("_law_name", 5), ("_law_one", 6)]) (N := ["_law_kept", "_law_deed_here", "_law_error", "caught", "_law_names", "_law_name", "_law_one"]) (sc := defScope s__law_refusal) (by decide +kernel)) (fun _ _ _ _ _ => (show PG _ _ (gTup K 2 (gCons (gName 5) (gCons (gName 6) gNil))) from (pg_tup rfl (pgs_cons (pg_name (i := 5) sc__law_refusal.nd rfl (Or.inl rfl)) (pgs_cons (pg_name (i := 6) sc__law_refusal.nd rfl (Or.inl rfl)) pgs_nil))))) (fun _ _ _ _ _ => (pts_one (pt_val (pv 6)))) (fun _ _ _ _ _ => (pv 5)))))))))))))), ?_⟩)
  obtain ⟨v0, v1, rfl, h⟩ := h
  dsimp only [cxOf, L2.start]
  obtain ⟨p, dx, g, r, w, st, T, e, rfl, rfl, R, O, hd, k⟩ := h
  walk_at "s"
  refine cutS (fun σ' H2 => ∃ ea, σ' = [some (.ref p), some (.ref T), some (.ref ea), none, none, none, none] ∧ Own H H2 (adr (cRo K p dx g r)) ((ea, CxO (e.cls K) none ea) :: cRo K p dx g r)) (fun nx hx => ?_) ?_
  · rcases hd with ⟨c, b, d, hlw, hf, hD, htop, hs⟩ | ⟨rfl, t, q, hT, hno⟩
    · have OB := Box.mk O
      cases d with
      | begin t =>
        have hT5 : H T = some (.tup [.str "begin", .int t]) := hD.1
        walk_at "s"
        refine ask2 ⟨p, dx, g, r, w, st, c, T, b, _, rfl, rfl, R, hlw, hf, O, hD, htop, ?_⟩
        rw [hs]
        intro H2 O2
        cases e
        all_goals
          walk_at "s"
          refine ⟨fun _ ea he => ?_, nofun⟩
          walk_at "s"
          exact hx _ _ ⟨ea, rfl, O2.new he⟩
      | close t =>
        have hT5 : H T = some (.tup [.str "close", .int t]) := hD.1
        walk_at "s"
        refine ask2 ⟨p, dx, g, r, w, st, c, T, b, _, rfl, rfl, R, hlw, hf, O, hD, htop, ?_⟩
        rw [hs]
        intro H2 O2
        cases e
        all_goals
          walk_at "s"
          refine ⟨fun _ ea he => ?_, nofun⟩
          walk_at "s"
          exact hx _ _ ⟨ea, rfl, O2.new he⟩
      | map t m n =>
        have hT5 : H T = some (.tup [.str "map", .int t, .int m, .int n]) := hD.1
        walk_at "s"
        refine ask2 ⟨p, dx, g, r, w, st, c, T, b, _, rfl, rfl, R, hlw, hf, O, hD, htop, ?_⟩
        rw [hs]
        intro H2 O2
        cases e
        all_goals
          walk_at "s"
          refine ⟨fun _ ea he => ?_, nofun⟩
          walk_at "s"
          exact hx _ _ ⟨ea, rfl, O2.new he⟩
      | drop t m n =>
        have hT5 : H T = some (.tup [.str "drop", .int t, .int m, .int n]) := hD.1
        walk_at "s"
        refine ask2 ⟨p, dx, g, r, w, st, c, T, b, _, rfl, rfl, R, hlw, hf, O, hD, htop, ?_⟩
        rw [hs]
        intro H2 O2
        cases e
        all_goals
          walk_at "s"
          refine ⟨fun _ ea he => ?_, nofun⟩
          walk_at "s"
          exact hx _ _ ⟨ea, rfl, O2.new he⟩
      | peek t m n =>
        have hT5 : H T = some (.tup [.str "peek", .int t, .int m, .int n]) := hD.1
        walk_at "s"
        refine ask2 ⟨p, dx, g, r, w, st, c, T, b, _, rfl, rfl, R, hlw, hf, O, hD, htop, ?_⟩
        rw [hs]
        intro H2 O2
        cases e
        all_goals
          walk_at "s"
          refine ⟨fun _ ea he => ?_, nofun⟩
          walk_at "s"
          exact hx _ _ ⟨ea, rfl, O2.new he⟩
      | poke t m cs =>
        have hT5 : H T = some (.tup [.str "poke", .int t, .int m, .ref b]) := hD.1
        walk_at "s"
        refine ask2 ⟨p, dx, g, r, w, st, c, T, b, _, rfl, rfl, R, hlw, hf, O, hD, htop, ?_⟩
        rw [hs]
        intro H2 O2
        cases e
        all_goals
          walk_at "s"
          refine ⟨fun _ ea he => ?_, nofun⟩
          walk_at "s"
          exact hx _ _ ⟨ea, rfl, O2.new he⟩
      | copy t o =>
        have hT5 : H T = some (.tup [.str "copy", .int t, .int o]) := hD.1
        walk_at "s"
        refine ask2 ⟨p, dx, g, r, w, st, c, T, b, _, rfl, rfl, R, hlw, hf, O, hD, htop, ?_⟩
        rw [hs]
        intro H2 O2
        cases e
        all_goals
          walk_at "s"
          refine ⟨fun _ ea he => ?_, nofun⟩
          walk_at "s"
          exact hx _ _ ⟨ea, rfl, O2.new he⟩
    · have hp := O.get (a := p) (o := .ins (He.ga K "Rooms") dx [("paging", .ref g)]) (.head _)
      walk_at "s"
      refine ask3 ⟨p, dx, g, r, w, st, t, q, rfl, rfl, rfl, R, O, fun _ => ?_, fun h => (by rw [hno] at h; cases h)⟩
      walk_at "s"
      refine ⟨fun _ ea he => ?_, nofun⟩
      walk_at "s"
      exact hx _ _ ⟨ea, rfl, O.new he⟩
  · rintro σ' H2 ⟨ea, rfl, O2⟩
    obtain ⟨cs, hcs⟩ : ∃ cs, cs = (ea, CxO (e.cls K) none ea) :: cRo K p dx g r := ⟨_, rfl⟩
    have hm : (ea, CxO (e.cls K) none ea) ∈ cs := by rw [hcs]; exact .head _
    have hsub : List.Sublist (cRo K p dx g r) cs := by rw [hcs]; exact .cons _ (.refl _)
    rw [← hcs] at O2
    clear hcs O R
    have hea := O2.get hm
    cases e
    · skip
      walk_at "s"
      intro t1 ht1
      generalize hg : upd H2 t1 _ = H3
      have T1 := (congrFun hg t1).symm.trans upd_same
      have O3 : Own H H3 (adr (cRo K p dx g r)) cs := by rw [← hg]; exact O2.newT ht1
      clear hg hea
      have hea := O3.get hm
      walk_at "s"
      intro t2 ht2
      generalize hg : upd H3 t2 _ = H4
      have T2 := (congrFun hg t2).symm.trans upd_same
      have O4 : Own H H4 (adr (cRo K p dx g r)) cs := by rw [← hg]; exact O3.newT ht2
      clear hg hea
      have hea := O4.get hm
      walk_at "s"
      intro t3 ht3
      generalize hg : upd H4 t3 _ = H5
      have T3 := (congrFun hg t3).symm.trans upd_same
      have O5 : Own H H5 (adr (cRo K p dx g r)) cs := by rw [← hg]; exact O4.newT ht3
      clear hg hea
      have hea := O5.get hm
      walk_at "s"
      refine if_f rfl ?_
      walk_at "s"
      walk_at "b"
      walk_at "s"
      intro l1 hl1
      have O6 := O5.new (o := .lst [V.bl false, V.bl false]) hl1
      generalize upd H5 l1 _ = H6 at O6 ⊢
      have hea := O6.get (.tail _ hm)
      walk_at "s"
      intro l2 hl2
      have O7 := O6.new (o := .lst [V.bl false, V.bl true]) hl2
      generalize upd H6 l2 _ = H7 at O7 ⊢
      walk_at "s"
      intro l3 hl3
      have O8 := (O7.new (o := .lst (([false, false, false, true] : List Bool).map V.bl)) hl3).drop (cs' := (l3, .lst (([false, false, false, true] : List Bool).map V.bl)) :: cRo K p dx g r) (.cons₂ _ (.cons _ (.cons _ hsub)))
      generalize hg : upd H7 l3 _ = H8
      have hg : upd H7 l3 (.lst (([false, false, false, true] : List Bool).map V.bl)) = H8 := hg
      rw [hg] at O8
      clear hg O2 O3 O4 O5 O6 O7 T1 T2 T3 hm hea
      walk_at "s"
      intro l4 hl4
      have O9 := O8.new (o := .lst (wordsR.map V.str)) hl4
      generalize hg : upd H8 l4 _ = H9
      have hg : upd H8 l4 (.lst (wordsR.map V.str)) = H9 := hg
      rw [hg] at O9
      clear hg O8
      have hb9 := O9.get (a := l3) (o := .lst (([false, false, false, true] : List Bool).map V.bl)) (.tail _ (.head _))
      have hw9 := O9.get (a := l4) (o := .lst (wordsR.map V.str)) (.head _)
      have hfil : filR [false, false, false, true] 4 = [Rf.taken.name] := by decide +kernel
      generalize hbs : ([false, false, false, true] : List Bool) = bs at O9 hb9 hfil
      have hbl : bs.length = 4 := by rw [← hbs]; rfl
      clear hbs
      walk_at "s"
      refine lcW (walk_zip (K := K) (a := l4) (b := l3) (xs := wordsR.map V.str) (ys := bs.map V.bl) (n := 4) (by rw [List.length_map, List.length_map, hbl]; rfl)) (fun D j H' => Own H H' (adr (cRo K p dx g r)) ((D, .lst ((filR bs j).map V.str)) :: (l4, .lst (wordsR.map V.str)) :: (l3, .lst (bs.map V.bl)) :: cRo K p dx g r)) (fun D hD => O9.new hD) (fun D j H' _ O => ⟨SqL.of (O.get (.tail _ (.head _))), SqL.of (O.get (.tail _ (.tail _ (.head _))))⟩) ?_ ?_
      · clear O9 hb9 hw9
        rintro D j x H10 H11 hj O ⟨T0, u, v, rfl, hT0, rfl, hu, hv⟩
        obtain ⟨z, hz, rfl⟩ := mget hu
        obtain ⟨b, hb, rfl⟩ := mget hv
        have O1 := O.newT (o := .tup [V.str z, V.bl b]) hT0
        have hT1 : (upd H10 T0 (.tup [V.str z, V.bl b])) T0 = some (.tup [V.str z, V.bl b]) := upd_same
        generalize upd H10 T0 _ = H12 at O1 hT1 ⊢
        clear O
        have hD1 := O1.get (a := D) (o := .lst ((filR bs j).map V.str)) (.head _)
        have hll : ((filR bs j).map V.str).length < 100000 := by
          have := filR_len bs j
          rw [List.length_map]
          omega
        walk_at "s"
        refine if_b (fun h => ?_) (fun h => ?_)
        · walk_at "s"
          refine ⟨?_⟩
          rw [filR_succ hz hb, if_pos h, List.map_append]
          exact O1.wr .here
        · refine ⟨?_⟩
          rw [filR_succ hz hb, if_neg (by rw [h]; decide), List.append_nil]
          exact O1
      · rintro D H10 O
        rw [hfil] at O
        have hD := SqL.of (K := K) (O.get (.head _))
        walk_at "s"
        refine ⟨[Rf.taken.name], rfl, rfl, .inl hD, by decide +kernel, ?_⟩
        rw [show Txt.join ("" : Str) [Rf.taken.name] = Rf.taken.name from by decide +kernel]
        exact k _ (O.drop (.cons _ (.cons _ (.cons _ (.refl _)))))
    · skip
      walk_at "s"
      intro t1 ht1
      generalize hg : upd H2 t1 _ = H3
      have T1 := (congrFun hg t1).symm.trans upd_same
      have O3 : Own H H3 (adr (cRo K p dx g r)) cs := by rw [← hg]; exact O2.newT ht1
      clear hg hea
      have hea := O3.get hm
      walk_at "s"
      intro t2 ht2
      generalize hg : upd H3 t2 _ = H4
      have T2 := (congrFun hg t2).symm.trans upd_same
      have O4 : Own H H4 (adr (cRo K p dx g r)) cs := by rw [← hg]; exact O3.newT ht2
      clear hg hea
      have hea := O4.get hm
      walk_at "s"
      intro t3 ht3
      generalize hg : upd H4 t3 _ = H5
      have T3 := (congrFun hg t3).symm.trans upd_same
      have O5 : Own H H5 (adr (cRo K p dx g r)) cs := by rw [← hg]; exact O4.newT ht3
      clear hg hea
      have hea := O5.get hm
      walk_at "s"
      refine if_f rfl ?_
      walk_at "s"
      walk_at "b"
      walk_at "s"
      intro l1 hl1
      have O6 := O5.new (o := .lst [V.bl true, V.bl false]) hl1
      generalize upd H5 l1 _ = H6 at O6 ⊢
      have hea := O6.get (.tail _ hm)
      walk_at "s"
      intro l2 hl2
      have O7 := O6.new (o := .lst [V.bl false, V.bl false]) hl2
      generalize upd H6 l2 _ = H7 at O7 ⊢
      walk_at "s"
      intro l3 hl3
      have O8 := (O7.new (o := .lst (([true, false, false, false] : List Bool).map V.bl)) hl3).drop (cs' := (l3, .lst (([true, false, false, false] : List Bool).map V.bl)) :: cRo K p dx g r) (.cons₂ _ (.cons _ (.cons _ hsub)))
      generalize hg : upd H7 l3 _ = H8
      have hg : upd H7 l3 (.lst (([true, false, false, false] : List Bool).map V.bl)) = H8 := hg
      rw [hg] at O8
      clear hg O2 O3 O4 O5 O6 O7 T1 T2 T3 hm hea
      walk_at "s"
      intro l4 hl4
      have O9 := O8.new (o := .lst (wordsR.map V.str)) hl4
      generalize hg : upd H8 l4 _ = H9
      have hg : upd H8 l4 (.lst (wordsR.map V.str)) = H9 := hg
      rw [hg] at O9
      clear hg O8
      have hb9 := O9.get (a := l3) (o := .lst (([true, false, false, false] : List Bool).map V.bl)) (.tail _ (.head _))
      have hw9 := O9.get (a := l4) (o := .lst (wordsR.map V.str)) (.head _)
      have hfil : filR [true, false, false, false] 4 = [Rf.noTask.name] := by decide +kernel
      generalize hbs : ([true, false, false, false] : List Bool) = bs at O9 hb9 hfil
      have hbl : bs.length = 4 := by rw [← hbs]; rfl
      clear hbs
      walk_at "s"
      refine lcW (walk_zip (K := K) (a := l4) (b := l3) (xs := wordsR.map V.str) (ys := bs.map V.bl) (n := 4) (by rw [List.length_map, List.length_map, hbl]; rfl)) (fun D j H' => Own H H' (adr (cRo K p dx g r)) ((D, .lst ((filR bs j).map V.str)) :: (l4, .lst (wordsR.map V.str)) :: (l3, .lst (bs.map V.bl)) :: cRo K p dx g r)) (fun D hD => O9.new hD) (fun D j H' _ O => ⟨SqL.of (O.get (.tail _ (.head _))), SqL.of (O.get (.tail _ (.tail _ (.head _))))⟩) ?_ ?_
      · clear O9 hb9 hw9
        rintro D j x H10 H11 hj O ⟨T0, u, v, rfl, hT0, rfl, hu, hv⟩
        obtain ⟨z, hz, rfl⟩ := mget hu
        obtain ⟨b, hb, rfl⟩ := mget hv
        have O1 := O.newT (o := .tup [V.str z, V.bl b]) hT0
        have hT1 : (upd H10 T0 (.tup [V.str z, V.bl b])) T0 = some (.tup [V.str z, V.bl b]) := upd_same
        generalize upd H10 T0 _ = H12 at O1 hT1 ⊢
        clear O
        have hD1 := O1.get (a := D) (o := .lst ((filR bs j).map V.str)) (.head _)
        have hll : ((filR bs j).map V.str).length < 100000 := by
          have := filR_len bs j
          rw [List.length_map]
          omega
        walk_at "s"
        refine if_b (fun h => ?_) (fun h => ?_)
        · walk_at "s"
          refine ⟨?_⟩
          rw [filR_succ hz hb, if_pos h, List.map_append]
          exact O1.wr .here
        · refine ⟨?_⟩
          rw [filR_succ hz hb, if_neg (by rw [h]; decide), List.append_nil]
          exact O1
      · rintro D H10 O
        rw [hfil] at O
        have hD := SqL.of (K := K) (O.get (.head _))
        walk_at "s"
        refine ⟨[Rf.noTask.name], rfl, rfl, .inl hD, by decide +kernel, ?_⟩
        rw [show Txt.join ("" : Str) [Rf.noTask.name] = Rf.noTask.name from by decide +kernel]
        exact k _ (O.drop (.cons _ (.cons _ (.cons _ (.refl _)))))
    · skip
      walk_at "s"
      intro t1 ht1
      generalize hg : upd H2 t1 _ = H3
      have T1 := (congrFun hg t1).symm.trans upd_same
      have O3 : Own H H3 (adr (cRo K p dx g r)) cs := by rw [← hg]; exact O2.newT ht1
      clear hg hea
      have hea := O3.get hm
      walk_at "s"
      intro t2 ht2
      generalize hg : upd H3 t2 _ = H4
      have T2 := (congrFun hg t2).symm.trans upd_same
      have O4 : Own H H4 (adr (cRo K p dx g r)) cs := by rw [← hg]; exact O3.newT ht2
      clear hg hea
      have hea := O4.get hm
      walk_at "s"
      intro t3 ht3
      generalize hg : upd H4 t3 _ = H5
      have T3 := (congrFun hg t3).symm.trans upd_same
      have O5 : Own H H5 (adr (cRo K p dx g r)) cs := by rw [← hg]; exact O4.newT ht3
      clear hg hea
      have hea := O5.get hm
      walk_at "s"
      refine if_f rfl ?_
      walk_at "s"
      walk_at "b"
      walk_at "s"
      intro l1 hl1
      have O6 := O5.new (o := .lst [V.bl false, V.bl true]) hl1
      generalize upd H5 l1 _ = H6 at O6 ⊢
      have hea := O6.get (.tail _ hm)
      walk_at "s"
      intro l2 hl2
      have O7 := O6.new (o := .lst [V.bl false, V.bl false]) hl2
      generalize upd H6 l2 _ = H7 at O7 ⊢
      walk_at "s"
      intro l3 hl3
      have O8 := (O7.new (o := .lst (([false, true, false, false] : List Bool).map V.bl)) hl3).drop (cs' := (l3, .lst (([false, true, false, false] : List Bool).map V.bl)) :: cRo K p dx g r) (.cons₂ _ (.cons _ (.cons _ hsub)))
      generalize hg : upd H7 l3 _ = H8
      have hg : upd H7 l3 (.lst (([false, true, false, false] : List Bool).map V.bl)) = H8 := hg
      rw [hg] at O8
      clear hg O2 O3 O4 O5 O6 O7 T1 T2 T3 hm hea
      walk_at "s"
      intro l4 hl4
      have O9 := O8.new (o := .lst (wordsR.map V.str)) hl4
      generalize hg : upd H8 l4 _ = H9
      have hg : upd H8 l4 (.lst (wordsR.map V.str)) = H9 := hg
      rw [hg] at O9
      clear hg O8
      have hb9 := O9.get (a := l3) (o := .lst (([false, true, false, false] : List Bool).map V.bl)) (.tail _ (.head _))
      have hw9 := O9.get (a := l4) (o := .lst (wordsR.map V.str)) (.head _)
      have hfil : filR [false, true, false, false] 4 = [Rf.noPage.name] := by decide +kernel
      generalize hbs : ([false, true, false, false] : List Bool) = bs at O9 hb9 hfil
      have hbl : bs.length = 4 := by rw [← hbs]; rfl
      clear hbs
      walk_at "s"
      refine lcW (walk_zip (K := K) (a := l4) (b := l3) (xs := wordsR.map V.str) (ys := bs.map V.bl) (n := 4) (by rw [List.length_map, List.length_map, hbl]; rfl)) (fun D j H' => Own H H' (adr (cRo K p dx g r)) ((D, .lst ((filR bs j).map V.str)) :: (l4, .lst (wordsR.map V.str)) :: (l3, .lst (bs.map V.bl)) :: cRo K p dx g r)) (fun D hD => O9.new hD) (fun D j H' _ O => ⟨SqL.of (O.get (.tail _ (.head _))), SqL.of (O.get (.tail _ (.tail _ (.head _))))⟩) ?_ ?_
      · clear O9 hb9 hw9
        rintro D j x H10 H11 hj O ⟨T0, u, v, rfl, hT0, rfl, hu, hv⟩
        obtain ⟨z, hz, rfl⟩ := mget hu
        obtain ⟨b, hb, rfl⟩ := mget hv
        have O1 := O.newT (o := .tup [V.str z, V.bl b]) hT0
        have hT1 : (upd H10 T0 (.tup [V.str z, V.bl b])) T0 = some (.tup [V.str z, V.bl b]) := upd_same
        generalize upd H10 T0 _ = H12 at O1 hT1 ⊢
        clear O
        have hD1 := O1.get (a := D) (o := .lst ((filR bs j).map V.str)) (.head _)
        have hll : ((filR bs j).map V.str).length < 100000 := by
          have := filR_len bs j
          rw [List.length_map]
          omega
        walk_at "s"
        refine if_b (fun h => ?_) (fun h => ?_)
        · walk_at "s"
          refine ⟨?_⟩
          rw [filR_succ hz hb, if_pos h, List.map_append]
          exact O1.wr .here
        · refine ⟨?_⟩
          rw [filR_succ hz hb, if_neg (by rw [h]; decide), List.append_nil]
          exact O1
      · rintro D H10 O
        rw [hfil] at O
        have hD := SqL.of (K := K) (O.get (.head _))
        walk_at "s"
        refine ⟨[Rf.noPage.name], rfl, rfl, .inl hD, by decide +kernel, ?_⟩
        rw [show Txt.join ("" : Str) [Rf.noPage.name] = Rf.noPage.name from by decide +kernel]
        exact k _ (O.drop (.cons _ (.cons _ (.cons _ (.refl _)))))
    · skip
      walk_at "s"
      intro t1 ht1
      generalize hg : upd H2 t1 _ = H3
      have T1 := (congrFun hg t1).symm.trans upd_same
      have O3 : Own H H3 (adr (cRo K p dx g r)) cs := by rw [← hg]; exact O2.newT ht1
      clear hg hea
      have hea := O3.get hm
      walk_at "s"
      intro t2 ht2
      generalize hg : upd H3 t2 _ = H4
      have T2 := (congrFun hg t2).symm.trans upd_same
      have O4 : Own H H4 (adr (cRo K p dx g r)) cs := by rw [← hg]; exact O3.newT ht2
      clear hg hea
      have hea := O4.get hm
      walk_at "s"
      intro t3 ht3
      generalize hg : upd H4 t3 _ = H5
      have T3 := (congrFun hg t3).symm.trans upd_same
      have O5 : Own H H5 (adr (cRo K p dx g r)) cs := by rw [← hg]; exact O4.newT ht3
      clear hg hea
      have hea := O5.get hm
      walk_at "s"
      refine if_f rfl ?_
      walk_at "s"
      walk_at "b"
      walk_at "s"
      intro l1 hl1
      have O6 := O5.new (o := .lst [V.bl false, V.bl false]) hl1
      generalize upd H5 l1 _ = H6 at O6 ⊢
      have hea := O6.get (.tail _ hm)
      walk_at "s"
      intro l2 hl2
      have O7 := O6.new (o := .lst [V.bl true, V.bl false]) hl2
      generalize upd H6 l2 _ = H7 at O7 ⊢
      walk_at "s"
      intro l3 hl3
      have O8 := (O7.new (o := .lst (([false, false, true, false] : List Bool).map V.bl)) hl3).drop (cs' := (l3, .lst (([false, false, true, false] : List Bool).map V.bl)) :: cRo K p dx g r) (.cons₂ _ (.cons _ (.cons _ hsub)))
      generalize hg : upd H7 l3 _ = H8
      have hg : upd H7 l3 (.lst (([false, false, true, false] : List Bool).map V.bl)) = H8 := hg
      rw [hg] at O8
      clear hg O2 O3 O4 O5 O6 O7 T1 T2 T3 hm hea
      walk_at "s"
      intro l4 hl4
      have O9 := O8.new (o := .lst (wordsR.map V.str)) hl4
      generalize hg : upd H8 l4 _ = H9
      have hg : upd H8 l4 (.lst (wordsR.map V.str)) = H9 := hg
      rw [hg] at O9
      clear hg O8
      have hb9 := O9.get (a := l3) (o := .lst (([false, false, true, false] : List Bool).map V.bl)) (.tail _ (.head _))
      have hw9 := O9.get (a := l4) (o := .lst (wordsR.map V.str)) (.head _)
      have hfil : filR [false, false, true, false] 4 = [Rf.noRoom.name] := by decide +kernel
      generalize hbs : ([false, false, true, false] : List Bool) = bs at O9 hb9 hfil
      have hbl : bs.length = 4 := by rw [← hbs]; rfl
      clear hbs
      walk_at "s"
      refine lcW (walk_zip (K := K) (a := l4) (b := l3) (xs := wordsR.map V.str) (ys := bs.map V.bl) (n := 4) (by rw [List.length_map, List.length_map, hbl]; rfl)) (fun D j H' => Own H H' (adr (cRo K p dx g r)) ((D, .lst ((filR bs j).map V.str)) :: (l4, .lst (wordsR.map V.str)) :: (l3, .lst (bs.map V.bl)) :: cRo K p dx g r)) (fun D hD => O9.new hD) (fun D j H' _ O => ⟨SqL.of (O.get (.tail _ (.head _))), SqL.of (O.get (.tail _ (.tail _ (.head _))))⟩) ?_ ?_
      · clear O9 hb9 hw9
        rintro D j x H10 H11 hj O ⟨T0, u, v, rfl, hT0, rfl, hu, hv⟩
        obtain ⟨z, hz, rfl⟩ := mget hu
        obtain ⟨b, hb, rfl⟩ := mget hv
        have O1 := O.newT (o := .tup [V.str z, V.bl b]) hT0
        have hT1 : (upd H10 T0 (.tup [V.str z, V.bl b])) T0 = some (.tup [V.str z, V.bl b]) := upd_same
        generalize upd H10 T0 _ = H12 at O1 hT1 ⊢
        clear O
        have hD1 := O1.get (a := D) (o := .lst ((filR bs j).map V.str)) (.head _)
        have hll : ((filR bs j).map V.str).length < 100000 := by
          have := filR_len bs j
          rw [List.length_map]
          omega
        walk_at "s"
        refine if_b (fun h => ?_) (fun h => ?_)
        · walk_at "s"
          refine ⟨?_⟩
          rw [filR_succ hz hb, if_pos h, List.map_append]
          exact O1.wr .here
        · refine ⟨?_⟩
          rw [filR_succ hz hb, if_neg (by rw [h]; decide), List.append_nil]
          exact O1
      · rintro D H10 O
        rw [hfil] at O
        have hD := SqL.of (K := K) (O.get (.head _))
        walk_at "s"
        refine ⟨[Rf.noRoom.name], rfl, rfl, .inl hD, by decide +kernel, ?_⟩
        rw [show Txt.join ("" : Str) [Rf.noRoom.name] = Rf.noRoom.name from by decide +kernel]
        exact k _ (O.drop (.cons _ (.cons _ (.cons _ (.refl _)))))

/-! ### two tellings of one state are equal -/
def entD : Option (Option Pla) → PyData
  | none => .none
  | some none => .tuple [.str "blank"]
  | some (some pl) => .tuple [.str (kindS pl.1), .int pl.2]
theorem dp_pl {K : PySem.W.Frag} {H : Hp} {v : V} {e : Option (Option Pla)} (q : SqT K H (He.ga K "BLANK") [.str "blank"]) (h : PlV K H v e) : Dp K H v (entD e) := by
  cases e with
  | none =>
    have h : v = .non := h
    subst h
    exact .non
  | some e =>
    cases e with
    | none =>
      have h : v = .ref (He.ga K "BLANK") := h
      subst h
      exact .tup q (.cons (.str _) .nil)
    | some pl =>
      obtain ⟨a, rfl, ha⟩ := (h : ∃ a, v = .ref a ∧ H a = some (.tup (plaV pl)))
      exact .tup (SqT.of ha) (.cons (.str _) (.cons (.int _) .nil))
theorem dp_row {K : PySem.W.Frag} {H : Hp} (q : SqT K H (He.ga K "BLANK") [.str "blank"]) : ∀ {vs : List V} {es : List (Option (Option Pla))}, Paired (PlV K H) vs es → DpAll K H vs (es.map entD)
  | [], [], _ => .nil
  | _ :: _, _ :: _, .cons h t => .cons (dp_pl q h) (dp_row q t)
theorem dp_rws {K : PySem.W.Frag} {H : Hp} {r : RG} (q : SqT K H (He.ga K "BLANK") [.str "blank"]) : ∀ {rows : List (Addr × List V)} {ts : List Int}, Paired (fun (x : Addr × List V) t => Paired (PlV K H) x.2 (ents r t)) rows ts → (∀ x ∈ rows, H x.1 = some (.lst x.2)) → DpAll K H (rows.map fun x => V.ref x.1) (ts.map fun t => PyData.list ((ents r t).map entD))
  | [], [], _, _ => .nil
  | x :: _, _ :: _, .cons h t, hc => .cons (.lst (SqL.of (hc x (.head _))) (dp_row q h)) (dp_rws q t fun y hy => hc y (.tail _ hy))
def stDt (r : RG) (ts : List Int) (h : Int) : PyData := .list [.list (ts.map fun t => PyData.list ((ents r t).map entD)), .tuple [.list ((r.ps.os true).map PyData.int), .list ((r.ps.os false).map PyData.int)], .int h]
theorem dp_state {K : PySem.W.Frag} {H : Hp} {s : StG} {r : RG} {ts : List Int} {h : Int} (q : SqT K H (He.ga K "BLANK") [.str "blank"]) (F : StF K H s r ts) (hc : ∀ e ∈ cSt s h (r.ps.os true) (r.ps.os false), H e.1 = some e.2) : Dp K H (.ref s.b) (stDt r ts h) := by
  have h1 := hc (s.b, .lst [.ref s.pl, .ref s.T, .int h]) (.head _)
  have h2 := hc (s.pl, .lst (s.rows.map fun x => V.ref x.1)) (.tail _ (.head _))
  have h3 := hc (s.l1, .lst ((r.ps.os true).map V.int)) (.tail _ (.tail _ (.head _)))
  have h4 := hc (s.l2, .lst ((r.ps.os false).map V.int)) (.tail _ (.tail _ (.tail _ (.head _))))
  exact .lst (SqL.of h1) (.cons (.lst (SqL.of h2) (dp_rws q F.rows fun x hx => hc (rowC x) (.tail _ (.tail _ (.tail _ (.tail _ (List.mem_map.mpr ⟨x, hx, rfl⟩))))))) (.cons (.tup (SqT.of F.T) (.cons (dp_ints h3) (.cons (dp_ints h4) .nil))) (.cons (.int _) .nil)))
theorem lay_ent : ∀ es : List (Option (Option Pla)), PyData.canLayAll0 (es.map entD) = true
  | [] => rfl
  | e :: r => by
    rw [List.map_cons]
    have ih := lay_ent r
    have h0 : PyData.canLay0 (entD e) = true := by
      cases e with
      | none => rfl
      | some e =>
        cases e with
        | none => decide +kernel
        | some pl =>
          have hz : PyData.strOk (kindS pl.1) = true := by cases pl.1 <;> decide +kernel
          simp [entD, PyData.canLay0, PyData.canLayAll0, hz]
    simp [PyData.canLayAll0, h0, ih]
theorem dep_ent : ∀ es : List (Option (Option Pla)), PyData.depthAll (es.map entD) ≤ 3
  | [] => by simp [PyData.depthAll]
  | e :: r => by
    have ih := dep_ent r
    have h0 : PyData.depth (entD e) ≤ 2 := by
      cases e with
      | none => simp [entD, PyData.depth]
      | some e => cases e <;> simp [entD, PyData.depth, PyData.depthAll]
    simp only [List.map_cons, PyData.depthAll]
    omega
theorem lay_rws (r : RG) : ∀ ts : List Int, PyData.canLayAll0 (ts.map fun t => PyData.list ((ents r t).map entD)) = true
  | [] => rfl
  | t :: q => by
    have ih := lay_rws r q
    simp [PyData.canLayAll0, PyData.canLay0, ih, lay_ent]
theorem dep_rws (r : RG) : ∀ ts : List Int, PyData.depthAll (ts.map fun t => PyData.list ((ents r t).map entD)) ≤ 5
  | [] => by simp [PyData.depthAll]
  | t :: q => by
    have ih := dep_rws r q
    have h0 := dep_ent (ents r t)
    simp only [List.map_cons, PyData.depthAll, PyData.depth]
    omega
theorem sh_state (r : RG) (ts : List Int) (h : Int) : SeqAt.shaped (stDt r ts h) = true := by
  have h1 := dep_rws r ts
  have h2 := depth_ints (r.ps.os true)
  have h3 := depth_ints (r.ps.os false)
  have h4 : PyData.depth (stDt r ts h) ≤ 64 := by
    simp only [stDt, PyData.depth, PyData.depthAll]
    omega
  show (PyData.canLay0 (stDt r ts h) && decide (PyData.depth (stDt r ts h) ≤ 64)) = true
  rw [Bool.and_eq_true]
  refine ⟨?_, decide_eq_true h4⟩
  simp [stDt, PyData.canLay0, PyData.canLayAll0, lay_rws, lay_ints]
theorem eqv_ent : ∀ es : List (Option (Option Pla)), PyData.eqvAll (es.map entD) (es.map entD) = true
  | [] => rfl
  | e :: r => by
    rw [List.map_cons, PyData.eqvAll, eqv_ent r, Bool.and_true]
    have hs : ∀ x : Str, PyData.eqv (.str x) (.str x) = true := fun x => by show (x == x) = true; simp
    have hi : ∀ x : Int, PyData.eqv (.int x) (.int x) = true := fun x => by show (x == x) = true; simp
    cases e with
    | none => rfl
    | some e =>
      cases e with
      | none => show PyData.eqvAll _ _ = true; simp only [PyData.eqvAll, hs, Bool.and_true]
      | some pl => show PyData.eqvAll _ _ = true; simp only [PyData.eqvAll, hs, hi, Bool.and_true]
theorem eqv_rws (r : RG) : ∀ ts : List Int, PyData.eqvAll (ts.map fun t => PyData.list ((ents r t).map entD)) (ts.map fun t => PyData.list ((ents r t).map entD)) = true
  | [] => rfl
  | t :: q => by
    rw [List.map_cons, PyData.eqvAll, eqv_rws r q, Bool.and_true]
    exact eqv_ent (ents r t)
theorem eqv_state (r : RG) (ts : List Int) (h : Int) : PyData.eqv (stDt r ts h) (stDt r ts h) = true := by
  have hl : ∀ cs : List Int, PyData.eqv (.list (cs.map PyData.int)) (.list (cs.map PyData.int)) = true := fun cs => by rw [eqv_ints]; exact decide_eq_true rfl
  have h1 : PyData.eqv (.list (ts.map fun t => PyData.list ((ents r t).map entD))) (.list (ts.map fun t => PyData.list ((ents r t).map entD))) = true := eqv_rws r ts
  have h2 : PyData.eqv (.tuple [.list ((r.ps.os true).map PyData.int), .list ((r.ps.os false).map PyData.int)]) (.tuple [.list ((r.ps.os true).map PyData.int), .list ((r.ps.os false).map PyData.int)]) = true := by
    show PyData.eqvAll _ _ = true
    simp only [PyData.eqvAll, hl, Bool.and_true]
  have h3 : PyData.eqv (.int h) (.int h) = true := by show (h == h) = true; simp
  show PyData.eqvAll _ _ = true
  simp only [PyData.eqvAll, h1, h2, h3, Bool.and_true]
/-- what was told ahead and what is told now -/
theorem ne_state {K : PySem.W.Frag} {H : Hp} {s s' : StG} {r : RG} {ts : List Int} {h : Int} {Q : VK} (q : SqT K H (He.ga K "BLANK") [.str "blank"]) (F : StF K H s r ts) (F' : StF K H s' r ts) (hc : ∀ e ∈ cSt s h (r.ps.os true) (r.ps.os false), H e.1 = some e.2) (hc' : ∀ e ∈ cSt s' h (r.ps.os true) (r.ps.os false), H e.1 = some e.2) (k : Q (.bl false) H) : rNeD K (.ref s.b) (.ref s'.b) H Q := by
  refine ⟨_, _, dp_state q F hc, dp_state q F' hc', sh_state r ts h, sh_state r ts h, ?_⟩
  rw [eqv_state]
  exact k

/-! ## law k11: deeds drawn, in a row -/
theorem Own.nxtQG {H0 H : Hp} {A : List Addr} {cs : Cells} {p : Addr} {o : HO} {β : Type} {y : β} {G : Hp → β → Prop} (O : Own H0 H A cs) (h : H p = none) (k : ∀ H', Own H0 H' A ((p, o) :: cs) → Own H H' (Ow.adr cs) ((p, o) :: cs) → G H' y) : G (upd H p o) y := k _ (O.new h) (O.self.new h)
theorem Own.nxtQT {H0 H : Hp} {A : List Addr} {cs : Cells} {p : Addr} {o : HO} {β : Type} {y : β} {G : Hp → β → Prop} (O : Own H0 H A cs) (h : H p = none) (k : ∀ H', Own H0 H' A cs → Own H H' (Ow.adr cs) cs → H' p = some o → G H' y) : G (upd H p o) y := k _ (O.newT h) (O.self.newT h) upd_same
theorem Own.nxtG {H0 H : Hp} {A : List Addr} {cs : Cells} {p : Addr} {o : HO} {G : Hp → Prop} (O : Own H0 H A cs) (h : H p = none) (k : ∀ H', Own H0 H' A ((p, o) :: cs) → Own H H' (Ow.adr cs) ((p, o) :: cs) → G H') : G (upd H p o) := k _ (O.new h) (O.self.new h)
theorem Own.nxtT {H0 H : Hp} {A : List Addr} {cs : Cells} {p : Addr} {o : HO} {G : Hp → Prop} (O : Own H0 H A cs) (h : H p = none) (k : ∀ H', Own H0 H' A cs → Own H H' (Ow.adr cs) cs → H' p = some o → G H') : G (upd H p o) := k _ (O.newT h) (O.self.newT h) upd_same
/-- the deeds drawn so far: their tuples, their lists -/
structure Bd (H0 H : Hp) (A : List Addr) (ex X : Cells) (ds : List (Addr × RDeed × Addr)) : Prop where
  own : Own H0 H A (ex ++ (ds.flatMap (fun x => x.2.1.cel x.2.2) ++ X))
  tup : ∀ x ∈ ds, H x.1 = some (.tup (x.2.1.vs x.2.2)) ∧ x.2.1.fine
section
variable {H0 H H' : Hp} {A : List Addr} {ex X : Cells} {ds : List (Addr × RDeed × Addr)} {T b p : Addr} {o : HO} {β : Type} {y : β} {G : Hp → β → Prop}
theorem Bd.call (B : Bd H0 H A ex X ds) (O : Own H H' [] []) : Bd H0 H' A ex X ds := ⟨by have := B.own.callN O; rwa [List.nil_append] at this, fun x hx => ⟨O.tp _ _ (B.tup x hx).1, (B.tup x hx).2⟩⟩
theorem Bd.nl (B : Bd H0 H A ex X ds) (h : H p = none) (k : ∀ H', Bd H0 H' A ((p, o) :: ex) X ds → G H' y) : G (upd H p o) y := k _ ⟨B.own.new h, fun x hx => ⟨(B.own.self.new (o := o) h).tp _ _ (B.tup x hx).1, (B.tup x hx).2⟩⟩
theorem Bd.nx (B : Bd H0 H A ex X ds) (h : H T = none) (d : RDeed) (h1 : d.cel T = []) (h2 : d.fine) (k : ∀ H', Bd H0 H' A ex X (ds ++ [(T, d, T)]) → G H' y) : G (upd H T (.tup (d.vs T))) y := by
  refine k _ ⟨?_, fun x hx => ?_⟩
  · rw [List.flatMap_append, List.flatMap_cons, List.flatMap_nil, List.append_nil]
    show Own _ _ _ (ex ++ ((_ ++ d.cel T) ++ _))
    rw [h1, List.append_nil]
    exact B.own.newT h
  · rcases List.mem_append.mp hx with z | z
    · exact ⟨(B.own.self.newT h).tp _ _ (B.tup x z).1, (B.tup x z).2⟩
    · rw [List.mem_singleton.mp z]
      exact ⟨upd_same, h2⟩
theorem Bd.nxp {cs : List Int} {t a : Int} (B : Bd H0 H A ((b, .lst (cs.map V.int)) :: ex) X ds) (h : H T = none) (hc : cs.length ≤ 64) (k : ∀ H', Bd H0 H' A ex X (ds ++ [(T, .poke t a cs, b)]) → G H' y) : G (upd H T (.tup [.str "poke", .int t, .int a, .ref b])) y := by
  refine k _ ⟨?_, fun x hx => ?_⟩
  · refine (B.own.newT h).perm ?_
    rw [List.flatMap_append, List.flatMap_cons, List.flatMap_nil, List.append_nil]
    show List.Perm ((b, HO.lst (cs.map V.int)) :: (ex ++ (_ ++ X))) (ex ++ ((_ ++ [(b, HO.lst (cs.map V.int))]) ++ X))
    generalize List.flatMap (fun x => RDeed.cel x.2.2 x.2.1) ds = Y
    generalize HO.lst (cs.map V.int) = Z
    walk_at "pm"
  · rcases List.mem_append.mp hx with z | z
    · exact ⟨(B.own.self.newT h).tp _ _ (B.tup x z).1, (B.tup x z).2⟩
    · rw [List.mem_singleton.mp z]
      exact ⟨upd_same, hc⟩
theorem Bd.add (B : Bd H0 H A ex X ds) (h : H T = none) (d : RDeed) (h1 : d.cel T = []) (h2 : d.fine) : Bd H0 (upd H T (.tup (d.vs T))) A ex X (ds ++ [(T, d, T)]) := B.nx (G := fun H' (_ : Unit) => Bd H0 H' A ex X (ds ++ [(T, d, T)])) (y := ()) h d h1 h2 fun _ B' => B'
theorem Bd.wrS {o' : HO} (B : Bd H0 H A ((p, o) :: ex) X ds) (hn : isTup o = false) : Bd H0 (upd H p o') A ((p, o') :: ex) X ds := ⟨B.own.wr (o' := o') .here hn, fun x hx => ⟨(B.own.self.wr (o' := o') .here hn).tp _ _ (B.tup x hx).1, (B.tup x hx).2⟩⟩
theorem Bd.dd {d : RDeed} (B : Bd H0 H A ex X ds) (O : Own H H' [] (d.cel b)) (hT : H' T = some (.tup (d.vs b))) (h2 : d.fine) : Bd H0 H' A ex X (ds ++ [(T, d, b)]) := by
  refine ⟨(B.own.callN O).perm ?_, fun x hx => ?_⟩
  · rw [List.flatMap_append, List.flatMap_cons, List.flatMap_nil, List.append_nil]
    show List.Perm (d.cel b ++ (ex ++ (_ ++ X))) (ex ++ ((_ ++ d.cel b) ++ X))
    generalize List.flatMap (fun x => RDeed.cel x.2.2 x.2.1) ds = Y
    generalize d.cel b = Z
    walk_at "pm"
  · rcases List.mem_append.mp hx with z | z
    · exact ⟨O.tp _ _ (B.tup x z).1, (B.tup x z).2⟩
    · rw [List.mem_singleton.mp z]
      exact ⟨hT, h2⟩
theorem Bd.less {a b : Addr × HO} (B : Bd H0 H A (a :: b :: ex) X ds) : Bd H0 H A (a :: ex) X ds := ⟨B.own.drop (.cons₂ _ (.cons _ (.refl _))), B.tup⟩
theorem Bd.less2 {a b c : Addr × HO} (B : Bd H0 H A (a :: b :: c :: ex) X ds) : Bd H0 H A (a :: ex) X ds := B.less.less
theorem Bd.pack {S : Addr} {xs : List V} {n : Nat} (B : Bd H0 H A ((S, .lst xs) :: ex) X ds) (h : xs = ds.map fun x => V.ref x.1) (hl : ds.length = n) : ∃ ds' : List (Addr × RDeed × Addr), ds'.length = n ∧ Bd H0 H A ((S, .lst (ds'.map fun x => V.ref x.1)) :: ex) X ds' := ⟨ds, hl, by rw [h] at B; exact B⟩
theorem Bd.pick (B : Bd H0 H A ex X ds) {x : Addr × RDeed × Addr} (hx : x ∈ ds) : Own H0 H A (x.2.1.cel x.2.2 ++ X) := by
  obtain ⟨l, q, e⟩ := List.append_of_mem hx
  refine B.own.drop ?_
  rw [e, List.flatMap_append, List.flatMap_cons]
  refine (List.Sublist.append ?_ (.refl _)).trans (List.sublist_append_right _ _)
  exact (List.sublist_append_left _ _).trans (List.sublist_append_right _ _)
theorem rep_flat3 (n : Nat) (i : Int) : (List.replicate n [V.int i]).flatten = (List.replicate n i).map V.int := by
  induction n with
  | zero => rfl
  | succ n ih => rw [List.replicate_succ, List.flatten_cons, ih, List.replicate_succ]; rfl
end

set_option maxHeartbeats 100000000
/-! ## law k11: a deed that is refused, drawn -/
def sp__law_bad (K : PySem.W.Frag) : Sp := sp2 fun x y H Q _ => ∃ (m : Int) (M : MdG), x = .int m ∧ y = .ref M.D ∧ 0 ≤ m ∧ m < 10 ^ 40 ∧ WOk M.w.abs ∧ 1 ≤ M.w.length ∧ Own H H (adr (cMd M)) (cMd M) ∧
  ∀ (H' : Hp) (T b : Addr) (d : RDeed), Own H H' (adr (cMd M)) (d.cel b ++ cMd M) → H' T = some (.tup (d.vs b)) → d.fine → Q (.ref T) H'
theorem sc__law_bad : FnScope ["_law_m", "_law_model_here", "_law_there", "_law_task", "_law_rest", "_law_pages", "_law_page", "_law_left", "_law_some"] ["_law_m", "_law_model_here"] (defScope s__law_bad) := ⟨rfl, rfl, rfl, by decide +kernel, rfl, by decide +kernel, by decide +kernel⟩
theorem ok__law_bad {P : Program} {w : World} {K : PySem.W.Frag} {mg : Str → Option Value} {base : Heap} (T : Txt K mg) : Cee P w K mg base 2 (He.fAd K ("_law_bad", none)) ["_law_m", "_law_model_here"] (sp__law_bad K) := by
  have c__law_held : Cee P w K mg base 1 (He.fAd K ("_law_held", none)) ["_law_model_here"] (sp__law_held K) := ok__law_held T
  have c__law_far : Cee P w K mg base 1 (He.fAd K ("_law_far", none)) ["_law_m"] (sp__law_far K) := ok__law_far T
  refine cee_of T.d__law_bad sc__law_bad (fun _ _ _ _ _ _ us hl => match us, hl with | [_, _], _ => rfl) (fun vs H Q E h => sp2_len h) (fun cdv A outer s H vs Q E hr h => ⟨_, (pss_cons (ps_set (i := 2) sc__law_bad.nd rfl (Or.inl rfl) (pe_callTy (call_list_dK rfl) (by rfl) T.n_list (by decide +kernel) (pa_cons (pe_dget (hu_of hr) (pv 1) pe_str (fun _ _ => rfl)) pa_nil))) (pss_cons (ps_set (i := 3) sc__law_bad.nd rfl (Or.inl rfl) (pe_ix ix_list (pe_lst (pa_cons (pe_ix ix_list (pv 2) (pe_op op_mod (pe_op op_fdiv (pv 0) pe_int) (pe_callB call_len_seq (by rfl) T.n_len (by decide +kernel) (pa_cons (pv 2) pa_nil))) (fun _ _ => rfl)) (pa_cons (pe_op op_add pe_int (pe_op op_pow pe_int pe_int)) pa_nil))) (pe_callTy call_intB (by rfl) T.n_int (by decide +kernel) (pa_cons (pe_cmpR op_eq (pe_op op_mod (pv 0) pe_int) pe_int (nomark _)) pa_nil)) (fun _ _ => rfl))) (pss_cons (ps_set (i := 4) sc__law_bad.nd rfl (Or.inl rfl) (pe_op op_fdiv (pv 0) pe_int)) (pss_cons (ps_set (i := 5) sc__law_bad.nd rfl (Or.inl rfl) (pe_callB (call_sortedDW rfl) (by rfl) T.n_sorted (by decide +kernel) (pa_cons (pe_dget2 (hu_of hr) (pe_dget (hu_of hr) (pv 1) pe_str (fun _ _ => rfl)) (pv 3) pe_dnewK ⟨rfl, rfl, rfl, rfl⟩) pa_nil))) (pss_cons (ps_set (i := 6) sc__law_bad.nd rfl (Or.inl rfl) (pe_ix ix_list (pe_op op_cat (pv 5) (pe_lst (pa_cons (pe_op op_mod (pv 4) pe_int) pa_nil))) (pe_op op_mod (pe_op op_fdiv (pv 4) pe_int) (pe_op op_add (pe_callB call_len_seq (by rfl) T.n_len (by decide +kernel) (pa_cons (pv 5) pa_nil)) pe_int)) (fun _ _ => rfl))) (pss_cons (ps_set (i := 7) sc__law_bad.nd rfl (Or.inl rfl) (pe_op op_sub (pe_dget (hu_of hr) (pv 1) pe_str (fun _ _ => rfl)) (pe_f c__law_held (hr.mono (by decide)) (takes_of rfl rfl rfl rfl) (by rfl) T.g__law_held (pa_cons (pv 1) pa_nil)))) (pss_cons (ps_set (i := 8) sc__law_bad.nd rfl (Or.inl rfl) (pe_lst (pa_cons (pe_tup (pa_cons pe_str (pa_cons (pe_ix ix_list (pv 2) (pe_op op_mod (pv 4) (pe_callB call_len_seq (by rfl) T.n_len (by decide +kernel) (pa_cons (pv 2) pa_nil))) (fun _ _ => rfl)) pa_nil))) (pa_cons (pe_tup (pa_cons pe_str (pa_cons (pe_op op_add pe_int (pe_op op_mod (pv 0) (pe_op op_pow pe_int pe_int))) pa_nil))) (pa_cons (pe_tup (pa_cons pe_str (pa_cons (pv 3) (pa_cons (pv 6) (pa_cons (pe_op op_add pe_int (pe_op op_mod (pv 4) pe_int)) pa_nil))))) pa_nil))))) (pss_cons (ps_set (i := 8) sc__law_bad.nd rfl (Or.inl rfl) (pe_op op_cat (pv 8) (pe_lst (pa_cons (pe_tup (pa_cons pe_str (pa_cons (pv 3) (pa_cons (pe_f c__law_far (hr.mono (by decide)) (takes_of rfl rfl rfl rfl) (by rfl) T.g__law_far (pa_cons (pv 4) pa_nil)) (pa_cons (pe_op op_add pe_int (pe_op op_mod (pe_op op_fdiv (pv 4) pe_int) pe_int)) pa_nil))))) (pa_cons (pe_tup (pa_cons pe_str (pa_cons (pv 3) (pa_cons (pe_op op_mod (pv 4) pe_int) (pa_cons (pe_f c__law_far (hr.mono (by decide)) (takes_of rfl rfl rfl rfl) (by rfl) T.g__law_far (pa_cons (pe_op op_fdiv (pv 4) pe_int) pa_nil)) pa_nil))))) pa_nil))))) (pss_cons (ps_set (i := 8) sc__law_bad.nd rfl (Or.inl rfl) (pe_op op_cat (pv 8) (pe_lst (pa_cons (pe_tup (pa_cons pe_str (pa_cons (pv 3) (pa_cons (pe_op op_mod (pv 4) pe_int) (pa_cons pe_int pa_nil))))) (pa_cons (pe_tup (pa_cons pe_str (pa_cons (pv 3) (pa_cons (pe_callB (call_max2 rfl) (by rfl) T.n_max (by decide +kernel) (pa_cons pe_int (pa_cons (pe_op op_sub (pe_op op_mod (pv 4) pe_int) (pv 7)) pa_nil))) (pa_cons (pe_op op_add (pe_op op_add (pv 7) pe_int) (pe_op op_mod (pe_op op_fdiv (pv 4) pe_int) pe_int)) pa_nil))))) pa_nil))))) (pss_cons (ps_set (i := 8) sc__law_bad.nd rfl (Or.inl rfl) (pe_op op_cat (pv 8) (pe_lst (pa_cons (pe_tup (pa_cons pe_str (pa_cons (pv 3) (pa_cons (pv 6) (pa_cons (pe_op op_mod (pv 4) pe_int) pa_nil))))) (pa_cons (pe_tup (pa_cons pe_str (pa_cons (pv 3) (pa_cons (pe_f c__law_far (hr.mono (by decide)) (takes_of rfl rfl rfl rfl) (by rfl) T.g__law_far (pa_cons (pv 4) pa_nil)) (pa_cons pe_int pa_nil))))) (pa_cons (pe_tup (pa_cons pe_str (pa_cons (pv 3) (pa_cons (pv 6) (pa_cons (pe_un un_neg (pv 4)) pa_nil))))) pa_nil)))))) (pss_cons (ps_set (i := 8) sc__law_bad.nd rfl (Or.inl rfl) (pe_op op_cat (pv 8) (pe_lst (pa_cons (pe_tup (pa_cons pe_str (pa_cons (pv 3) (pa_cons (pe_op op_add (pe_op op_mul pe_int (pv 6)) (pe_op op_mod (pv 4) pe_int)) (pa_cons (pe_op op_mod (pe_op op_fdiv (pv 4) pe_int) pe_int) pa_nil))))) (pa_cons (pe_tup (pa_cons pe_str (pa_cons (pv 3) (pa_cons (pe_op op_mul pe_int (pv 6)) (pa_cons (pe_op op_sub (pe_un un_neg pe_int) (pe_op op_mod (pv 4) (pe_op op_pow pe_int pe_int))) pa_nil))))) pa_nil))))) (pss_cons (ps_set (i := 8) sc__law_bad.nd rfl (Or.inl rfl) (pe_op op_cat (pv 8) (pe_lst (pa_cons (pe_tup (pa_cons pe_str (pa_cons (pv 3) (pa_cons (pe_op op_mul (pe_f c__law_far (hr.mono (by decide)) (takes_of rfl rfl rfl rfl) (by rfl) T.g__law_far (pa_cons (pv 4) pa_nil)) pe_int) (pa_cons pe_int pa_nil))))) (pa_cons (pe_tup (pa_cons pe_str (pa_cons (pv 3) (pa_cons (pe_op op_sub pe_int (pe_op op_mod (pv 4) pe_int)) (pa_cons (pe_op op_add pe_int (pe_op op_mod (pe_op op_fdiv (pv 4) pe_int) (pe_op op_pow pe_int pe_int))) pa_nil))))) pa_nil))))) (pss_cons (ps_set (i := 8) sc__law_bad.nd rfl (Or.inl rfl) (pe_op op_cat (pv 8) (pe_lst (pa_cons (pe_tup (pa_cons pe_str (pa_cons (pv 3) (pa_cons (pe_op op_add (pe_op op_mul pe_int (pv 6)) (pe_op op_mod (pv 4) pe_int)) (pa_cons (pe_op op_rep (pe_lst (pa_cons (pe_op op_mod (pv 4) pe_int) pa_nil)) (pe_op op_mod (pe_op op_fdiv (pv 4) pe_int) pe_int)) pa_nil))))) (pa_cons (pe_tup (pa_cons pe_str (pa_cons (pv 3) (pa_cons (pe_ix ix_list (pv 2) pe_int (fun _ _ => rfl)) pa_nil)))) pa_nil))))) (pss_cons (ps_set (i := 8) sc__law_bad.nd rfl (Or.inl rfl) (pe_op op_cat (pv 8) (pe_lst (pa_cons (pe_tup (pa_cons pe_str (pa_cons (pv 3) (pa_cons (pe_op op_sub pe_int (pe_op op_mod (pv 4) pe_int)) (pa_cons (pe_op op_rep (pe_lst (pa_cons pe_int pa_nil)) pe_int) pa_nil))))) (pa_cons (pe_tup (pa_cons pe_str (pa_cons (pv 3) (pa_cons (pe_f c__law_far (hr.mono (by decide)) (takes_of rfl rfl rfl rfl) (by rfl) T.g__law_far (pa_cons (pv 4) pa_nil)) (pa_cons (pe_lst (pa_cons pe_int pa_nil)) pa_nil))))) (pa_cons (pe_tup (pa_cons pe_str (pa_cons (pv 3) (pa_cons (pv 3) pa_nil)))) pa_nil)))))) (pss_cons (ps_set (i := 8) sc__law_bad.nd rfl (Or.inl rfl) (pe_op op_cat (pv 8) (pe_lst (pa_cons (pe_tup (pa_cons pe_str (pa_cons (pv 3) (pa_cons (pe_op op_add pe_int (pe_op op_pow pe_int pe_int)) pa_nil)))) (pa_cons (pe_tup (pa_cons pe_str (pa_cons (pv 3) (pa_cons (pe_op op_sub (pe_op op_mul pe_int (pv 6)) pe_int) (pa_cons pe_int pa_nil))))) (pa_cons (pe_tup (pa_cons pe_str (pa_cons (pv 3) (pa_cons (pe_un un_neg pe_int) (pa_cons (pe_lst (pa_cons pe_int (pa_cons pe_int pa_nil))) pa_nil))))) pa_nil)))))) (pss_one (ps_ret (pe_ix ix_list (pv 8) (pe_op op_mod (pe_op op_fdiv (pv 4) pe_int) pe_int) (fun _ _ => rfl))))))))))))))))))), ?_⟩)
  obtain ⟨v0, v1, rfl, h⟩ := h
  dsimp only [cxOf, L2.start]
  obtain ⟨m, M, rfl, rfl, m0, m1, ok, hne, O, k⟩ := h
  have hD := O.get (a := M.D) (o := .dK (mdD M)) (.head _)
  have hv : valV (mdD M) (Sum.inr "rooms") = some (.ref M.RD) := rfl
  have hR := O.get (a := M.RD) (o := .dK (wlD M.w)) (.tail _ (.head _))
  have hwl := Wl.len ok
  walk_at "s"
  intro L0 hL0
  rw [show (wlD M.w).map (fun kv => kV kv.1) = (M.w.map (·.1)).map V.int by rw [List.map_map, List.map_map]; rfl]
  obtain ⟨ths, hths, htl, htm⟩ : ∃ ths : List Int, M.w.map (·.1) = ths ∧ ths.length = M.w.length ∧ ∀ t ∈ ths, t ∈ M.w.map (·.1) := ⟨_, rfl, List.length_map _, fun _ h => h⟩
  rw [hths]
  refine O.nxtQG hL0 fun H1 O1 C1 => ?_
  have hlen : (0 : Int) < ((ths.map V.int).length : Nat) := by rw [List.length_map]; omega
  have hth1 := O1.get (a := L0) (o := .lst (ths.map V.int)) (.head _)
  have pick : ∀ z : Int, ∃ t, atI (ths.map V.int) (z % ((ths.map V.int).length : Nat)) = some (.int t) := fun z => by
    obtain ⟨t, _, h⟩ := at_ints (ns := ths) (n := z % ((ths.map V.int).length : Nat)) (Int.emod_nonneg _ (by omega)) (Int.emod_lt_of_pos _ hlen)
    exact ⟨t, h⟩
  obtain ⟨t1, ht1⟩ := pick (m / 3)
  obtain ⟨t2, ht2⟩ := pick (m / 30)
  obtain ⟨t3, ht3⟩ : ∃ t, atI (ths.map V.int) 0 = some (.int t) := by
    obtain ⟨t, h⟩ := pick 0
    exact ⟨t, by rw [Int.zero_emod] at h; exact h⟩
  walk_at "s"
  intro c hc
  refine O1.nxtQG hc fun H2 O2 C2 => ?_
  obtain ⟨tk, htk⟩ : ∃ tk, atI [V.int t1, V.int (5 + 10 ^ Int.toNat 59)] (if decide (V.int (m % 3) = V.int 0) = true then 1 else 0) = some (.int tk) := by
    by_cases h : decide (V.int (m % 3) = V.int 0) = true
    · rw [if_pos h]; exact ⟨_, rfl⟩
    · rw [if_neg h]; exact ⟨_, rfl⟩
  have hcl := O2.get (a := c) (.head _)
  have O2 := O2.drop (cs' := (L0, .lst (ths.map V.int)) :: cMd M) (.cons _ (.refl _))
  have hD2 := O2.get (a := M.D) (o := .dK (mdD M)) (.tail _ (.head _))
  have hR2 := O2.get (a := M.RD) (o := .dK (wlD M.w)) (.tail _ (.tail _ (.head _)))
  walk_at "s"
  intro e he
  have O3 := O2.new (o := .dK []) he
  generalize upd H2 e _ = H3 at O3 ⊢
  have hR3 := O3.get (a := M.RD) (o := .dK (wlD M.w)) (.tail _ (.tail _ (.tail _ (.head _))))
  have hg3 := dget_i (i := tk) hR3
  have he3 := O3.get (a := e) (o := .dK []) (.head _)
  obtain ⟨da, kvs, ps0, hda, hdk, hkp, hpl0⟩ : ∃ (da : Addr) (kvs : List (Key × V)) (ps0 : List Int), (valV (wlD M.w) (Sum.inl tk)).getD (.ref e) = .ref da ∧ H3 da = some (.dK kvs) ∧ kvs.map (·.1) = ps0.map Sum.inl ∧ ps0.length ≤ 64 := by
    rw [Wl.look]
    cases hw : M.w.lookup tk with
    | none => exact ⟨e, [], [], rfl, he3, rfl, Nat.zero_le _⟩
    | some x =>
      obtain ⟨ra, r⟩ := x
      have hrl := (ok.at hw).len
      rw [List.length_map] at hrl
      refine ⟨ra, Ch.kvs r, r.map (·.1), rfl, O3.get (.tail _ (.tail _ (.tail _ (List.mem_append_left _ (wd_mem hw))))), by rw [List.map_map, List.map_map]; rfl, by rw [List.length_map]; exact hrl⟩
  walk_at "s"
  refine ⟨by rw [hda], .inl hdk, hkp, fun ps b1 hps _ hb1 => ?_⟩
  have hpl : ps.length ≤ 64 := by rw [hps.length_eq]; exact hpl0
  have O4 := (O3.new (o := .lst (ps.map V.int)) hb1).drop (cs' := (b1, .lst (ps.map V.int)) :: (L0, .lst (ths.map V.int)) :: cMd M) (.cons₂ _ (.cons _ (.refl _)))
  generalize upd H3 b1 _ = H4 at O4 ⊢
  clear O O1 O2 O3 C1 C2 hD hR hD2 hR2 hR3 hg3 he3 hdk hda hkp hcl hth1 hps
  have hb4 := O4.get (a := b1) (o := .lst (ps.map V.int)) (.head _)
  walk_at "s"
  intro c4 hc4
  have O5 := O4.new (o := .lst [V.int (m / 30 % 64)]) hc4
  generalize upd H4 c4 _ = H5 at O5 ⊢
  have hb5 := O5.get (a := b1) (o := .lst (ps.map V.int)) (.tail _ (.head _))
  have hc5 := O5.get (a := c4) (o := .lst [V.int (m / 30 % 64)]) (.head _)
  walk_at "s"
  intro c6 hc6
  have e6 : ps.map V.int ++ [V.int (m / 30 % 64)] = (ps ++ [m / 30 % 64]).map V.int := by rw [List.map_append]; rfl
  rw [e6]
  have O6 := O5.new (o := .lst ((ps ++ [m / 30 % 64]).map V.int)) hc6
  generalize upd H5 c6 _ = H6 at O6 ⊢
  have hb6 := O6.get (a := b1) (o := .lst (ps.map V.int)) (.tail _ (.tail _ (.head _)))
  have hc66 := O6.get (a := c6) (o := .lst ((ps ++ [m / 30 % 64]).map V.int)) (.head _)
  obtain ⟨pg, hpg⟩ : ∃ pg, atI ((ps ++ [m / 30 % 64]).map V.int) (m / 30 / 64 % (((ps.map V.int).length : Nat) + 1)) = some (.int pg) := by
    obtain ⟨y, _, h⟩ := at_ints (ns := ps ++ [m / 30 % 64]) (n := m / 30 / 64 % (((ps.map V.int).length : Nat) + 1)) (Int.emod_nonneg _ (by omega)) (by
      have h1 : m / 30 / 64 % (((ps.map V.int).length : Nat) + 1) < ((ps.map V.int).length : Nat) + 1 := Int.emod_lt_of_pos _ (by omega)
      simp only [List.length_map, List.length_append, List.length_singleton] at h1 ⊢
      omega)
    exact ⟨y, h⟩
  walk_at "s"
  have O7 := O6.drop (cs' := (L0, .lst (ths.map V.int)) :: cMd M) (.cons _ (.cons _ (.cons _ (.refl _))))
  have hD7 := O7.get (a := M.D) (o := .dK (mdD M)) (.tail _ (.head _))
  have hv7 : valV (mdD M) (Sum.inr "total") = some (.int M.tot) := rfl
  walk_at "s"
  refine ask1 ⟨M, rfl, by omega, O7.blk (s := cMd M) (s' := []) (.there .all), fun H8 O8 => ?_⟩
  have O9 := O7.call (s := cMd M) (s' := cMd M) (.there .all) O8
  obtain ⟨lf, hlf⟩ : ∃ lf, M.tot - heldA M.w.abs = lf := ⟨_, rfl⟩
  have hth9 := O9.get (a := L0) (o := .lst (ths.map V.int)) (.head _)
  have B : Bd H H8 (adr (cMd M)) ((L0, .lst (ths.map V.int)) :: []) (cMd M) [] := ⟨O9, nofun⟩
  have hl : ([] : List (Addr × RDeed × Addr)).length = 0 := rfl
  walk_at "clo"
  walk_at "s"
  intro T0_0 hT0_0
  refine B.nx hT0_0 (.begin _) rfl True.intro fun Hn Bn => ?_
  replace B := Bn
  clear Bn
  walk_at "s"
  intro T0_1 hT0_1
  refine B.nx hT0_1 (.close _) rfl True.intro fun Hn Bn => ?_
  replace B := Bn
  clear Bn
  walk_at "s"
  intro T0_2 hT0_2
  refine B.nx hT0_2 (.map _ _ _) rfl True.intro fun Hn Bn => ?_
  replace B := Bn
  clear Bn
  walk_at "s"
  intro L1 hL1
  refine B.nl hL1 fun Hn Bn => ?_
  replace B := Bn
  clear Bn
  replace B := B.pack (n := 3) (by simp only [List.map_append, List.append_assoc]; rfl) (by simp only [List.length_append, List.length_singleton, hl])
  clear hl
  obtain ⟨ds, hl, B⟩ := B
  walk_at "s"
  walk_at "s"
  refine ask1 ⟨_, rfl, fun Hf nf Of => ?_⟩
  replace B := B.call Of
  clear Of
  walk_at "s"
  intro T1_0 hT1_0
  refine B.nx hT1_0 (.map _ _ _) rfl True.intro fun Hn Bn => ?_
  replace B := Bn
  clear Bn
  walk_at "s"
  refine ask1 ⟨_, rfl, fun Hf nf Of => ?_⟩
  replace B := B.call Of
  clear Of
  walk_at "s"
  intro T1_1 hT1_1
  refine B.nx hT1_1 (.map _ _ _) rfl True.intro fun Hn Bn => ?_
  replace B := Bn
  clear Bn
  walk_at "s"
  intro L2 hL2
  refine B.nl hL2 fun Hn Bn => ?_
  replace B := Bn
  clear Bn
  have hS := B.own.get (a := L1) (.tail _ (.head _))
  have hN := B.own.get (a := L2) (.head _)
  walk_at "s"
  intro S1 hS1
  refine B.nl hS1 fun Hn Bn => ?_
  replace B := Bn.less2
  clear Bn hS hN
  replace B := B.pack (n := 5) (by simp only [List.map_append, List.append_assoc]; rfl) (by simp only [List.length_append, List.length_singleton, hl])
  clear hl
  obtain ⟨ds, hl, B⟩ := B
  walk_at "s"
  walk_at "s"
  intro T2_0 hT2_0
  refine B.nx hT2_0 (.map _ _ _) rfl True.intro fun Hn Bn => ?_
  replace B := Bn
  clear Bn
  walk_at "s"
  intro T2_1 hT2_1
  refine B.nx hT2_1 (.map _ _ _) rfl True.intro fun Hn Bn => ?_
  replace B := Bn
  clear Bn
  walk_at "s"
  intro L3 hL3
  refine B.nl hL3 fun Hn Bn => ?_
  replace B := Bn
  clear Bn
  have hS := B.own.get (a := S1) (.tail _ (.head _))
  have hN := B.own.get (a := L3) (.head _)
  walk_at "s"
  intro S2 hS2
  refine B.nl hS2 fun Hn Bn => ?_
  replace B := Bn.less2
  clear Bn hS hN
  replace B := B.pack (n := 7) (by simp only [List.map_append, List.append_assoc]; rfl) (by simp only [List.length_append, List.length_singleton, hl])
  clear hl
  obtain ⟨ds, hl, B⟩ := B
  walk_at "s"
  walk_at "s"
  intro T3_0 hT3_0
  refine B.nx hT3_0 (.drop _ _ _) rfl True.intro fun Hn Bn => ?_
  replace B := Bn
  clear Bn
  walk_at "s"
  refine ask1 ⟨_, rfl, fun Hf nf Of => ?_⟩
  replace B := B.call Of
  clear Of
  walk_at "s"
  intro T3_1 hT3_1
  refine B.nx hT3_1 (.drop _ _ _) rfl True.intro fun Hn Bn => ?_
  replace B := Bn
  clear Bn
  walk_at "s"
  intro T3_2 hT3_2
  refine B.nx hT3_2 (.drop _ _ _) rfl True.intro fun Hn Bn => ?_
  replace B := Bn
  clear Bn
  walk_at "s"
  intro L4 hL4
  refine B.nl hL4 fun Hn Bn => ?_
  replace B := Bn
  clear Bn
  have hS := B.own.get (a := S2) (.tail _ (.head _))
  have hN := B.own.get (a := L4) (.head _)
  walk_at "s"
  intro S3 hS3
  refine B.nl hS3 fun Hn Bn => ?_
  replace B := Bn.less2
  clear Bn hS hN
  replace B := B.pack (n := 10) (by simp only [List.map_append, List.append_assoc]; rfl) (by simp only [List.length_append, List.length_singleton, hl])
  clear hl
  obtain ⟨ds, hl, B⟩ := B
  walk_at "s"
  walk_at "s"
  intro T4_0 hT4_0
  refine B.nx hT4_0 (.peek _ _ _) rfl True.intro fun Hn Bn => ?_
  replace B := Bn
  clear Bn
  walk_at "s"
  intro T4_1 hT4_1
  refine B.nx hT4_1 (.peek _ _ _) rfl True.intro fun Hn Bn => ?_
  replace B := Bn
  clear Bn
  walk_at "s"
  intro L5 hL5
  refine B.nl hL5 fun Hn Bn => ?_
  replace B := Bn
  clear Bn
  have hS := B.own.get (a := S3) (.tail _ (.head _))
  have hN := B.own.get (a := L5) (.head _)
  walk_at "s"
  intro S4 hS4
  refine B.nl hS4 fun Hn Bn => ?_
  replace B := Bn.less2
  clear Bn hS hN
  replace B := B.pack (n := 12) (by simp only [List.map_append, List.append_assoc]; rfl) (by simp only [List.length_append, List.length_singleton, hl])
  clear hl
  obtain ⟨ds, hl, B⟩ := B
  walk_at "s"
  walk_at "s"
  refine ask1 ⟨_, rfl, fun Hf nf Of => ?_⟩
  replace B := B.call Of
  clear Of
  walk_at "s"
  intro T5_0 hT5_0
  refine B.nx hT5_0 (.peek _ _ _) rfl True.intro fun Hn Bn => ?_
  replace B := Bn
  clear Bn
  walk_at "s"
  intro T5_1 hT5_1
  refine B.nx hT5_1 (.peek _ _ _) rfl True.intro fun Hn Bn => ?_
  replace B := Bn
  clear Bn
  walk_at "s"
  intro L6 hL6
  refine B.nl hL6 fun Hn Bn => ?_
  replace B := Bn
  clear Bn
  have hS := B.own.get (a := S4) (.tail _ (.head _))
  have hN := B.own.get (a := L6) (.head _)
  walk_at "s"
  intro S5 hS5
  refine B.nl hS5 fun Hn Bn => ?_
  replace B := Bn.less2
  clear Bn hS hN
  replace B := B.pack (n := 14) (by simp only [List.map_append, List.append_assoc]; rfl) (by simp only [List.length_append, List.length_singleton, hl])
  clear hl
  obtain ⟨ds, hl, B⟩ := B
  walk_at "s"
  walk_at "s"
  intro cT6_0 hcT6_0
  refine B.nl (o := .lst [V.int (m / 30 % 256)]) hcT6_0 fun Hn Bn => ?_
  replace B := Bn
  clear Bn
  have hcc := B.own.get (a := cT6_0) (.head _)
  have hsz : ([V.int (m / 30 % 256)] : List V).length * ((m / 30 / 8 % 64) : Int).toNat ≤ sizeLine := sz_le (by show 1 * _ ≤ 100000; omega)
  walk_at "s"
  intro bT6_0 hbT6_0
  rw [rep_flat3]
  refine B.nl (o := .lst ((List.replicate ((m / 30 / 8 % 64) : Int).toNat (m / 30 % 256 : Int)).map V.int)) hbT6_0 fun Hn Bn => ?_
  replace B := Bn.less
  clear Bn hsz hcc
  walk_at "s"
  intro T6_0 hT6_0
  refine B.nxp hT6_0 (by rw [List.length_replicate]; omega) fun Hn Bn => ?_
  replace B := Bn
  clear Bn
  have hth := B.own.get (a := L0) (o := .lst (ths.map V.int)) (.tail _ (.head _))
  walk_at "s"
  intro T6_1 hT6_1
  refine B.nx hT6_1 (.copy _ _) rfl True.intro fun Hn Bn => ?_
  replace B := Bn
  clear Bn
  walk_at "s"
  intro L7 hL7
  refine B.nl hL7 fun Hn Bn => ?_
  replace B := Bn
  clear Bn
  have hS := B.own.get (a := S5) (.tail _ (.head _))
  have hN := B.own.get (a := L7) (.head _)
  walk_at "s"
  intro S6 hS6
  refine B.nl hS6 fun Hn Bn => ?_
  replace B := Bn.less2
  clear Bn hS hN
  replace B := B.pack (n := 16) (by simp only [List.map_append, List.append_assoc]; rfl) (by simp only [List.length_append, List.length_singleton, hl])
  clear hl
  obtain ⟨ds, hl, B⟩ := B
  walk_at "s"
  walk_at "s"
  intro cT7_0 hcT7_0
  refine B.nl (o := .lst [V.int (1)]) hcT7_0 fun Hn Bn => ?_
  replace B := Bn
  clear Bn
  have hcc := B.own.get (a := cT7_0) (.head _)
  have hsz : ([V.int (1)] : List V).length * (9 : Int).toNat ≤ sizeLine := sz_le (by show 1 * _ ≤ 100000; omega)
  walk_at "s"
  intro bT7_0 hbT7_0
  rw [rep_flat3]
  refine B.nl (o := .lst ((List.replicate (9 : Int).toNat (1 : Int)).map V.int)) hbT7_0 fun Hn Bn => ?_
  replace B := Bn.less
  clear Bn hsz hcc
  walk_at "s"
  intro T7_0 hT7_0
  refine B.nxp hT7_0 (by rw [List.length_replicate]; omega) fun Hn Bn => ?_
  replace B := Bn
  clear Bn
  walk_at "s"
  refine ask1 ⟨_, rfl, fun Hf nf Of => ?_⟩
  replace B := B.call Of
  clear Of
  walk_at "s"
  intro bT7_1 hbT7_1
  refine B.nl (o := .lst (([255] : List Int).map V.int)) hbT7_1 fun Hn Bn => ?_
  replace B := Bn
  clear Bn
  walk_at "s"
  intro T7_1 hT7_1
  refine B.nxp hT7_1 (by decide) fun Hn Bn => ?_
  replace B := Bn
  clear Bn
  walk_at "s"
  intro T7_2 hT7_2
  refine B.nx hT7_2 (.copy _ _) rfl True.intro fun Hn Bn => ?_
  replace B := Bn
  clear Bn
  walk_at "s"
  intro L8 hL8
  refine B.nl hL8 fun Hn Bn => ?_
  replace B := Bn
  clear Bn
  have hS := B.own.get (a := S6) (.tail _ (.head _))
  have hN := B.own.get (a := L8) (.head _)
  walk_at "s"
  intro S7 hS7
  refine B.nl hS7 fun Hn Bn => ?_
  replace B := Bn.less2
  clear Bn hS hN
  replace B := B.pack (n := 19) (by simp only [List.map_append, List.append_assoc]; rfl) (by simp only [List.length_append, List.length_singleton, hl])
  clear hl
  obtain ⟨ds, hl, B⟩ := B
  walk_at "s"
  walk_at "s"
  intro T8_0 hT8_0
  refine B.nx hT8_0 (.copy _ _) rfl True.intro fun Hn Bn => ?_
  replace B := Bn
  clear Bn
  walk_at "s"
  intro T8_1 hT8_1
  refine B.nx hT8_1 (.peek _ _ _) rfl True.intro fun Hn Bn => ?_
  replace B := Bn
  clear Bn
  walk_at "s"
  intro bT8_2 hbT8_2
  refine B.nl (o := .lst (([0, 1] : List Int).map V.int)) hbT8_2 fun Hn Bn => ?_
  replace B := Bn
  clear Bn
  walk_at "s"
  intro T8_2 hT8_2
  refine B.nxp hT8_2 (by decide) fun Hn Bn => ?_
  replace B := Bn
  clear Bn
  walk_at "s"
  intro L9 hL9
  refine B.nl hL9 fun Hn Bn => ?_
  replace B := Bn
  clear Bn
  have hS := B.own.get (a := S7) (.tail _ (.head _))
  have hN := B.own.get (a := L9) (.head _)
  walk_at "s"
  intro S8 hS8
  refine B.nl hS8 fun Hn Bn => ?_
  replace B := Bn.less2
  clear Bn hS hN
  replace B := B.pack (n := 22) (by simp only [List.map_append, List.append_assoc]; rfl) (by simp only [List.length_append, List.length_singleton, hl])
  clear hl
  obtain ⟨ds, hl, B⟩ := B
  have hS := B.own.get (a := S8) (.head _)
  obtain ⟨i, hi, hi2⟩ : ∃ i : Nat, m / 30 / 999 % 22 = (i : Int) ∧ i < 22 := ⟨(m / 30 / 999 % 22).toNat, by omega, by omega⟩
  have hil : i < ds.length := by omega
  obtain ⟨x, hx⟩ : ∃ x, ds[i]? = some x := ⟨_, List.getElem?_eq_getElem hil⟩
  have hxm := List.mem_of_getElem? hx
  have hat : atI (ds.map fun x => V.ref x.1) (m / 30 / 999 % 22) = some (.ref x.1) := by rw [hi]; exact atI_nat (by rw [List.getElem?_map, hx]; rfl)
  have hsq : SqL K Hn S8 (ds.map fun x => V.ref x.1) := SqL.of hS
  walk_at "s"
  exact k _ x.1 x.2.2 x.2.1 (B.pick hxm) (B.tup x hxm).1 (B.tup x hxm).2

/-! ## law k11 -/
theorem Bd.blk {H0 H : Hp} {A : List Addr} {ex X X' s s' : Cells} {ds : List (Addr × RDeed × Addr)} (B : Bd H0 H A ex X ds) (h : Sub X s s' X') : Own H H (adr s) s := B.own.blk (s' := s') (.app (.app h))
theorem Bd.callB {H0 H H' : Hp} {A : List Addr} {ex X X' s s' : Cells} {ds : List (Addr × RDeed × Addr)} (B : Bd H0 H A ex X ds) (h : Sub X s s' X') (C : Own H H' (adr s) s') : Bd H0 H' A ex X' ds := ⟨B.own.call (.app (.app h)) C, fun x hx => ⟨C.tp _ _ (B.tup x hx).1, (B.tup x hx).2⟩⟩
theorem Bd.callE {H0 H H' : Hp} {A : List Addr} {ex X X' s s' e : Cells} {ds : List (Addr × RDeed × Addr)} (B : Bd H0 H A ex X ds) (h : Sub X s s' X') (C : Own H H' (adr s) (e ++ s')) : Bd H0 H' A ex X' ds := ⟨(B.own.callE (e := e) (.app (.app h)) C).drop (List.sublist_append_right _ _), fun x hx => ⟨C.tp _ _ (B.tup x hx).1, (B.tup x hx).2⟩⟩
theorem lk_pos {w : AWl} {t : Int} {r : ARm} (h : w.lookup t = some r) : 1 ≤ w.length := by
  cases w with
  | nil => cases h
  | cons _ _ => exact Nat.succ_le_succ (Nat.zero_le _)
theorem keep_pos {tot : Int} {w w' : AWl} {d : RDeed} {o : Option (List Int)} (ok : WOk w) (h : sem tot w d = .ok (w', o)) (h1 : ∀ t, d = .close t → 1 < w.length) : 1 ≤ w'.length := by
  have hset : ∀ (t : Int) (r : ARm), (setA w t r).length = w.length := fun t r => by unfold setA; rw [List.length_map]
  cases d with
  | begin t =>
    obtain ⟨_, e⟩ := if_ok h
    cases e
    rw [List.length_append]
    exact Nat.le_add_left _ _
  | close t =>
    obtain ⟨hs, e⟩ := if_ok3 h
    cases e
    obtain ⟨r, hr⟩ := Option.isSome_iff_exists.mp hs
    have h2 := h1 t rfl
    obtain ⟨l, q, e1, _⟩ := lk_split hr
    have nd := ok.nd
    rw [e1] at nd h2 ⊢
    rw [dropA_mid nd]
    simp only [List.length_append, List.length_cons] at h2 ⊢
    omega
  | map t p n =>
    cases hw : w.lookup t with
    | none => rw [sem_map0 hw] at h; cases h
    | some r =>
      rw [sem_map1 hw] at h
      obtain ⟨_, h⟩ := if_ok2 h
      obtain ⟨_, h⟩ := if_ok2 h
      obtain ⟨_, e⟩ := if_ok h
      cases e
      rw [hset]
      exact lk_pos hw
  | drop t p n =>
    cases hw : w.lookup t with
    | none => rw [sem_drop0 hw] at h; cases h
    | some r =>
      rw [sem_drop1 hw] at h
      obtain ⟨_, h⟩ := if_ok2 h
      obtain ⟨_, e⟩ := if_ok3 h
      cases e
      rw [hset]
      exact lk_pos hw
  | peek t p n =>
    cases hw : w.lookup t with
    | none => rw [sem_peek0 hw] at h; cases h
    | some r =>
      rw [sem_peek1 hw] at h
      obtain ⟨_, h⟩ := if_ok2 h
      obtain ⟨_, e⟩ := if_ok3 h
      cases e
      exact lk_pos hw
  | poke t p n =>
    cases hw : w.lookup t with
    | none => rw [sem_poke0 hw] at h; cases h
    | some r =>
      rw [sem_poke1 hw] at h
      obtain ⟨_, h⟩ := if_ok2 h
      obtain ⟨_, e⟩ := if_ok3 h
      cases e
      rw [hset]
      exact lk_pos hw
  | copy t o =>
    cases hw : w.lookup t with
    | none => rw [sem_copy0 hw] at h; cases h
    | some r =>
      rw [sem_copy1 hw] at h
      obtain ⟨_, h⟩ := if_ok2 h
      obtain ⟨_, e⟩ := if_ok h
      cases e
      rw [List.length_append]
      exact Nat.le_add_left _ _
theorem keys_sub {tot : Int} {w w' : AWl} {d : RDeed} {o : Option (List Int)} (h : sem tot w d = .ok (w', o)) : ∀ t ∈ w'.map (·.1), t ∈ w.map (·.1) ∨ (d = .begin t ∨ ∃ o, d = .copy o t) := by
  have hset : ∀ (t : Int) (r : ARm), (setA w t r).map (·.1) = w.map (·.1) := fun t r => setA_keys _ _ _
  intro t ht
  cases d with
  | begin t0 =>
    obtain ⟨_, e⟩ := if_ok h
    cases e
    rw [List.map_append] at ht
    rcases List.mem_append.mp ht with z | z
    · exact .inl z
    · rw [List.mem_singleton.mp z]
      exact .inr (.inl rfl)
  | close t0 =>
    obtain ⟨hs, e⟩ := if_ok3 h
    cases e
    exact .inl (((dropA_sub w t0).map _).subset ht)
  | map t0 p n =>
    cases hw : w.lookup t0 with
    | none => rw [sem_map0 hw] at h; cases h
    | some r =>
      rw [sem_map1 hw] at h
      obtain ⟨_, h⟩ := if_ok2 h
      obtain ⟨_, h⟩ := if_ok2 h
      obtain ⟨_, e⟩ := if_ok h
      cases e
      rw [hset] at ht
      exact .inl ht
  | drop t0 p n =>
    cases hw : w.lookup t0 with
    | none => rw [sem_drop0 hw] at h; cases h
    | some r =>
      rw [sem_drop1 hw] at h
      obtain ⟨_, h⟩ := if_ok2 h
      obtain ⟨_, e⟩ := if_ok3 h
      cases e
      rw [hset] at ht
      exact .inl ht
  | peek t0 p n =>
    cases hw : w.lookup t0 with
    | none => rw [sem_peek0 hw] at h; cases h
    | some r =>
      rw [sem_peek1 hw] at h
      obtain ⟨_, h⟩ := if_ok2 h
      obtain ⟨_, e⟩ := if_ok3 h
      cases e
      exact .inl ht
  | poke t0 p n =>
    cases hw : w.lookup t0 with
    | none => rw [sem_poke0 hw] at h; cases h
    | some r =>
      rw [sem_poke1 hw] at h
      obtain ⟨_, h⟩ := if_ok2 h
      obtain ⟨_, e⟩ := if_ok3 h
      cases e
      rw [hset] at ht
      exact .inl ht
  | copy t0 o0 =>
    cases hw : w.lookup t0 with
    | none => rw [sem_copy0 hw] at h; cases h
    | some r =>
      rw [sem_copy1 hw] at h
      obtain ⟨_, h⟩ := if_ok2 h
      obtain ⟨_, e⟩ := if_ok h
      cases e
      rw [List.map_append] at ht
      rcases List.mem_append.mp ht with z | z
      · exact .inl z
      · rw [List.mem_singleton.mp z]
        exact .inr (.inr ⟨_, rfl⟩)
def sp_law (K : PySem.W.Frag) : Sp := sp1 fun x H Q _ => ∃ (a : Addr) (xs : List Int), x = .ref a ∧ SqL K H a (xs.map V.int) ∧ xs.length ≤ 63 ∧ ∀ H', Q (.bl true) H'
theorem law_in {K : PySem.W.Frag} (H : Hp) (a : Addr) (ns : List Int) (hl : ns.length ≤ 63) (hz : ∀ z ∈ ns, Builtin.Int.intBits z ≤ 1048576) (hS : SqL K H a (ns.map V.int)) :
    ∃ (a' : Addr) (xs : List Int), V.ref a = .ref a' ∧ SqL K H a' (xs.map V.int) ∧ xs.length ≤ 63 ∧ ∀ H' : Hp, (fun (v : V) (_ : Hp) => v = .bl true) (.bl true) H' := ⟨a, ns, rfl, hS, hl, fun _ => rfl⟩
theorem sc_law : FnScope ["_law_script", "_law_m", "_law_frames", "_law_slots", "_law_tasks_here", "_law_kept", "_law_model_here", "_law_ahead", "_law_deeds", "_law_task", "_law_k", "_law_deed_here", "_law_due_here", "_law_before", "_law_there"] ["_law_script"] (defScope s_law) := ⟨rfl, rfl, rfl, by decide +kernel, rfl, by decide +kernel, by decide +kernel⟩
theorem ok_law {P : Program} {w : World} {K : PySem.W.Frag} {mg : Str → Option Value} {base : Heap} (T : Txt K mg) {fd : FuncData} (F : FunD K "law" "law" (defArgs s_law) (defBody s_law) (defScope s_law) [] [] (He.fAd K ("law", none)) fd) : FnOk P w K mg base (L2.CX P w) 12 (He.fAd K ("law", none)) fd ["_law_script"] (bx (sp_law K)) := by
  have c__law_number : Cee P w K mg base 2 (He.fAd K ("_law_number", none)) ["_law_script", "_law_k"] (sp__law_number K) := ok__law_number T
  have c__law_sizes : Cee P w K mg base 1 (He.fAd K ("_law_sizes", none)) ["_law_m"] (sp__law_sizes K) := ok__law_sizes T
  have c__law_tasks : Cee P w K mg base 1 (He.fAd K ("_law_tasks", none)) ["_law_m"] (sp__law_tasks K) := ok__law_tasks T
  have c_Rooms___init__ : Cee P w K mg base 5 (He.fAd K ("Rooms", some "__init__")) ["self", "frames", "slots"] (sp_Rooms___init__ K) := ok_Rooms___init__ T
  have c__law_model : Cee P w K mg base 1 (He.fAd K ("_law_model", none)) ["_law_total"] (sp__law_model K) := ok__law_model T
  have c__law_deed : Cee P w K mg base 2 (He.fAd K ("_law_deed", none)) ["_law_m", "_law_tasks_here"] (sp__law_deed K) := ok__law_deed T
  have c__law_due : Cee P w K mg base 2 (He.fAd K ("_law_due", none)) ["_law_model_here", "_law_deed_here"] (sp__law_due K) := ok__law_due T
  have c__law_done : Cee P w K mg base 1 (He.fAd K ("_law_done", none)) ["_law_model_here", "_law_deed_here"] (sp__law_done K) := ok__law_done T
  have c__law_called : Cee P w K mg base 10 (He.fAd K ("_law_called", none)) ["_law_kept", "_law_deed_here"] (sp__law_called K) := ok__law_called T
  have c__law_bad : Cee P w K mg base 2 (He.fAd K ("_law_bad", none)) ["_law_m", "_law_model_here"] (sp__law_bad K) := ok__law_bad T
  have c__law_state : Cee P w K mg base 4 (He.fAd K ("_law_state", none)) ["_law_kept", "_law_model_here"] (sp__law_state K) := ok__law_state T
  have c__law_refusal : Cee P w K mg base 11 (He.fAd K ("_law_refusal", none)) ["_law_kept", "_law_deed_here"] (sp__law_refusal K) := ok__law_refusal T
  have c__law_none_asked : Cee P w K mg base 10 (He.fAd K ("_law_none_asked", none)) ["_law_kept", "_law_task", "_law_m"] (sp__law_none_asked K) := ok__law_none_asked T
  refine fn_of F sc_law (fun vs H Q E h => sp1_len h) (fun cdv A outer s H vs Q E hr h => ⟨_, (pss_cons (ps_set (i := 1) sc_law.nd rfl (Or.inl rfl) (pe_f c__law_number (hr.mono (by decide)) (takes_of rfl rfl rfl rfl) (by rfl) T.g__law_number (pa_cons (pv 0) (pa_cons pe_int pa_nil)))) (pss_cons (ps_asg (pe_f c__law_sizes (hr.mono (by decide)) (takes_of rfl rfl rfl rfl) (by rfl) T.g__law_sizes (pa_cons (pv 1) pa_nil)) (pg_tup rfl (pgs_cons (pg_name (i := 2) sc_law.nd rfl (Or.inl rfl)) (pgs_cons (pg_name (i := 3) sc_law.nd rfl (Or.inl rfl)) pgs_nil)))) (pss_cons (ps_set (i := 4) sc_law.nd rfl (Or.inr rfl) (pe_f c__law_tasks (hr.mono (by decide)) (takes_of rfl rfl rfl rfl) (by rfl) T.g__law_tasks (pa_cons (pe_op op_fdiv (pv 1) pe_int) pa_nil))) (pss_cons (ps_set (i := 5) sc_law.nd rfl (Or.inl rfl) (pe_n T.m_Rooms c_Rooms___init__ (hr.mono (by decide)) (by rfl) T.g_Rooms (pa_cons (pv 2) (pa_cons (pv 3) pa_nil)))) (pss_cons (ps_set (i := 6) sc_law.nd rfl (Or.inl rfl) (pe_f c__law_model (hr.mono (by decide)) (takes_of rfl rfl rfl rfl) (by rfl) T.g__law_model (pa_cons (pe_op op_add (pv 2) (pv 3)) pa_nil))) (pss_cons (ps_set (i := 7) sc_law.nd rfl (Or.inl rfl) (pe_callB (call_min2 rfl) (by rfl) T.n_min (by decide +kernel) (pa_cons pe_int (pa_cons (pe_op op_fdiv (pe_callB call_len_seq (by rfl) T.n_len (by decide +kernel) (pa_cons (pv 0) pa_nil)) pe_int) pa_nil)))) (pss_cons (ps_setLc (i := 8) (own := [("_law_task", 9)]) (by rfl) sc_law.nd rfl rfl (sw_true rfl rfl rfl (by decide +kernel)) (PI.box (pi_list (pe_slice sl_list (pv 4) po_none (po_some (pe_op op_add pe_int (pe_op op_mod (pe_op op_fdiv (pv 1) pe_int) pe_int)))))) (blkOk_by (own := [("_law_task", 9)]) (N := ["_law_script", "_law_m", "_law_frames", "_law_slots", "_law_tasks_here", "_law_kept", "_law_model_here", "_law_ahead", "_law_deeds", "_law_task", "_law_k", "_law_deed_here", "_law_due_here", "_law_before", "_law_there"]) (sc := defScope s_law) (by decide +kernel)) (fun _ _ _ _ _ => (pg_name (i := 9) sc_law.nd rfl (Or.inl rfl))) (fun _ _ _ _ _ => pts_nil) (fun _ _ _ _ _ => (pe_tup (pa_cons pe_str (pa_cons (pv 9) pa_nil))))) (pss_cons (ps_set (i := 8) sc_law.nd rfl (Or.inl rfl) (pe_op op_cat (pv 8) (pe_lc (own := [("_law_k", 10)]) (by rfl) sc_law.nd (PI.box (pi_range2W (by rfl) T.n_range (pa_cons pe_int (pa_cons (pv 7) pa_nil)))) (blkOk_by (own := [("_law_k", 10)]) (N := ["_law_script", "_law_m", "_law_frames", "_law_slots", "_law_tasks_here", "_law_kept", "_law_model_here", "_law_ahead", "_law_deeds", "_law_task", "_law_k", "_law_deed_here", "_law_due_here", "_law_before", "_law_there"]) (sc := defScope s_law) (by decide +kernel)) (fun _ _ _ _ _ => (pg_name (i := 10) sc_law.nd rfl (Or.inl rfl))) (fun _ _ _ _ _ => pts_nil) (fun _ _ _ _ _ => (pe_f c__law_deed (hr.mono (by decide)) takes0 (by rfl) T.g__law_deed (pa_cons (pe_f c__law_number (hr.mono (by decide)) takes0 (by rfl) T.g__law_number (pa_cons (pv 0) (pa_cons (pv 10) pa_nil))) (pa_cons (pv 4) pa_nil))))))) (pss_cons (ps_for (passes_of rfl) rfl (PI.box (pi_list (pv 8))) (pg_name (i := 11) sc_law.nd rfl (Or.inl rfl)) (pss_one (ps_if (PW.pt (pw_and (pt_cmpR op_eq (pe_f c__law_due (hr.mono (by decide)) (takes_of rfl rfl rfl rfl) (by rfl) T.g__law_due (pa_cons (pv 6) (pa_cons (pv 11) pa_nil))) pe_str (nomark _)) (pw_and1 (PW.pt (pw_or (pt_cmpR op_ne (pe_ix ix_tup (pv 11) pe_int (fun _ _ => rfl)) pe_str (nomark _)) (pw_or1 (pt_cmpR op_gt (pe_callB call_lenD (by rfl) T.n_len (by decide +kernel) (pa_cons (pe_dget (hu_of hr) (pv 6) pe_str (fun _ _ => rfl)) pa_nil)) pe_int (nomark _)))))))) (pss_cons (ps_expr (pe_f c__law_done (hr.mono (by decide)) (takes_of rfl rfl rfl rfl) (by rfl) T.g__law_done (pa_cons (pv 6) (pa_cons (pv 11) pa_nil)))) (pss_one (ps_expr (pe_f c__law_called (hr.mono (by decide)) (takes_of rfl rfl rfl rfl) (by rfl) T.g__law_called (pa_cons (pv 5) (pa_cons (pv 11) pa_nil)))))) pss_nil))) (pss_cons (ps_for (passes_of rfl) rfl (PI.box (pi_range2W (by rfl) T.n_range (pa_cons (pe_callB (call_max2 rfl) (by rfl) T.n_max (by decide +kernel) (pa_cons pe_int (pa_cons (pv 7) pa_nil))) (pa_cons (pe_callB (call_max2 rfl) (by rfl) T.n_max (by decide +kernel) (pa_cons pe_int (pa_cons (pe_callB call_len_seq (by rfl) T.n_len (by decide +kernel) (pa_cons (pe_slice sl_list (pv 0) po_none (po_some pe_int)) pa_nil)) pa_nil))) pa_nil)))) (pg_name (i := 10) sc_law.nd rfl (Or.inl rfl)) (pss_cons (ps_set (i := 11) sc_law.nd rfl (Or.inl rfl) (pe_f c__law_bad (hr.mono (by decide)) (takes_of rfl rfl rfl rfl) (by rfl) T.g__law_bad (pa_cons (pe_f c__law_number (hr.mono (by decide)) (takes_of rfl rfl rfl rfl) (by rfl) T.g__law_number (pa_cons (pv 0) (pa_cons (pv 10) pa_nil))) (pa_cons (pv 6) pa_nil)))) (pss_cons (ps_set (i := 12) sc_law.nd rfl (Or.inl rfl) (pe_f c__law_due (hr.mono (by decide)) (takes_of rfl rfl rfl rfl) (by rfl) T.g__law_due (pa_cons (pv 6) (pa_cons (pv 11) pa_nil)))) (pss_cons (ps_set (i := 13) sc_law.nd rfl (Or.inl rfl) (pe_f c__law_state (hr.mono (by decide)) (takes_of rfl rfl rfl rfl) (by rfl) T.g__law_state (pa_cons (pv 5) (pa_cons (pv 6) pa_nil)))) (pss_cons (PS.box (ps_if (PW.pt (pw_and (pt_cmpR op_ne (pv 12) pe_str (nomark _)) (pw_and1 (pt_cmpR op_ne (pe_f c__law_refusal (hr.mono (by decide)) (takes_of rfl rfl rfl rfl) (by rfl) T.g__law_refusal (pa_cons (pv 5) (pa_cons (pv 11) pa_nil))) (pv 12) (nomark _))))) (pss_one (ps_ret pe_bl)) pss_nil)) (pss_cons (ps_set (i := 14) sc_law.nd rfl (Or.inl rfl) (pe_callTy (call_list_dK rfl) (by rfl) T.n_list (by decide +kernel) (pa_cons (pe_dget (hu_of hr) (pv 6) pe_str (fun _ _ => rfl)) pa_nil))) (pss_cons (ps_if (pt_not (pt_val (pe_f c__law_none_asked (hr.mono (by decide)) (takes_of rfl rfl rfl rfl) (by rfl) T.g__law_none_asked (pa_cons (pv 5) (pa_cons (pe_ix ix_list (pv 14) (pe_op op_mod (pv 10) (pe_callB call_len_seq (by rfl) T.n_len (by decide +kernel) (pa_cons (pv 14) pa_nil))) (fun _ _ => rfl)) (pa_cons (pe_f c__law_number (hr.mono (by decide)) (takes_of rfl rfl rfl rfl) (by rfl) T.g__law_number (pa_cons (pv 0) (pa_cons (pv 10) pa_nil))) pa_nil)))))) (pss_one (ps_ret pe_bl)) pss_nil) (pss_cons (ps_if (pt_cmpR op_ne (pe_f c__law_refusal (hr.mono (by decide)) (takes_of rfl rfl rfl rfl) (by rfl) T.g__law_refusal (pa_cons (pv 5) (pa_cons (pe_tup (pa_cons pe_str (pa_cons (pe_op op_add pe_int (pe_op op_pow pe_int pe_int)) (pa_cons (pv 10) pa_nil)))) pa_nil))) pe_str (nomark _)) (pss_one (ps_ret pe_bl)) pss_nil) (pss_one (ps_if (pt_cmpR (op_neD hr.units) (pe_f c__law_state (hr.mono (by decide)) (takes_of rfl rfl rfl rfl) (by rfl) T.g__law_state (pa_cons (pv 5) (pa_cons (pv 6) pa_nil))) (pv 13) (nomark _)) (pss_one (ps_ret pe_bl)) pss_nil)))))))))) (pss_one (ps_ret pe_bl)))))))))))), ?_⟩)
  obtain ⟨v0, rfl, h⟩ := h
  dsimp only [cxOf, L2.start]
  obtain ⟨a, xs, rfl, ha, hl, k⟩ := h
  have hqB := T.q_BLANK
  have O0 := Own.start (H := H)
  walk_at "s"
  refine ask2 ⟨a, xs, 0, rfl, rfl, by decide, by decide, by omega, ha, fun H1 O1 m m0 m1 => ?_⟩
  walk_at "s"
  refine ask1 ⟨m, rfl, fun H2 T2 f s O2 hT2 f2 f40 s60 ef es => ?_⟩
  have O3 := O1.callN O2
  rw [List.append_nil] at O3
  walk_at "s"
  refine ask1 ⟨_, rfl, fun H3 ta ts O4 ht2 ht5 htk htb => ?_⟩
  have htb := htb (by omega) (by omega)
  have O5 := O3.callN O4
  clear O0 O1 O2 O3 O4
  rw [List.append_nil] at O5
  walk_at "s"
  intro p dx h1 h2 hne
  have O6 := O5.inst (C := He.ga K "Rooms") h1 h2 hne
  refine ask3 ⟨p, dx, f, s, rfl, rfl, rfl, f2, by omega, O6.blk (s' := []) .one, fun H4 g r O7 R hnf hns => ?_⟩
  have O8 : Own H H4 [] (cRo K p dx g r ++ [(ta, .lst (ts.map V.int))]) := O6.call .one O7
  clear O5 O6 O7
  walk_at "s"
  refine ask1 ⟨_, rfl, fun H5 M O9 hMw hMs hMt hMc => ?_⟩
  have O10 := O8.callN O9
  have R1 := R.mono O9
  clear O8 O9 R
  have S : Same10 K H5 r M := by
    refine ⟨?_, by rw [hMs, hMw]; rfl, fun o => by rw [hMs]; exact Nat.zero_le _, by rw [hMt, hnf, hns]; omega⟩
    rw [hMw, hMs]
    exact R1
  clear R1
  obtain ⟨n, hn, hn1, hn5⟩ : ∃ n : Nat, 1 + m / 99 % 5 = n ∧ 1 ≤ n ∧ n ≤ 5 := ⟨(1 + m / 99 % 5).toNat, by omega, by omega, by omega⟩
  have ha5 := O10.sq ha
  walk_at "s"
  rw [hn, cutV_to, ← List.map_take]
  intro c1 hc1
  have B1 : Bd H (upd H5 c1 (.lst ((ts.take n).map V.int))) [] ((c1, .lst ((ts.take n).map V.int)) :: []) (cMd M ++ (cRo K p dx g r ++ [(ta, .lst (ts.map V.int))])) [] := ⟨O10.new hc1, nofun⟩
  have S1 := S.mono (O10.self.new (o := .lst ((ts.take n).map V.int)) hc1)
  generalize upd H5 c1 _ = H6 at B1 S1 ⊢
  have hc6 := B1.own.get (a := c1) (o := .lst ((ts.take n).map V.int)) (.head _)
  clear O10 S ha5
  walk_at "s"
  refine lcL (K := K) (a := c1) (xs := (ts.take n).map V.int) (fun L j H' => ∃ ds : List (Addr × RDeed × Addr), Bd H H' [] ((L, .lst (ds.map fun x => V.ref x.1)) :: (c1, .lst ((ts.take n).map V.int)) :: []) (cMd M ++ (cRo K p dx g r ++ [(ta, .lst (ts.map V.int))])) ds ∧ Same10 K H' r M ∧ ds.length = j ∧ ∀ x ∈ ds, ∃ t, x.2.1 = .begin t ∧ t ∈ ts) (fun L hL => ⟨[], ⟨B1.own.new hL, nofun⟩, S1.mono (B1.own.self.new hL), rfl, nofun⟩) (fun L j H' _ ⟨_, B, _⟩ => SqL.of (B.own.get (.tail _ (.head _)))) ?_ ?_
  · clear B1 S1 hc6
    rintro L j x H7 hx ⟨ds, B, S, hdl, hdb⟩
    obtain ⟨t, hy, rfl⟩ := map_get hx
    walk_at "s"
    intro T hT
    have O7 := B.own.newT (o := .tup [.str "begin", .int t]) hT
    have C7 := B.own.self.newT (o := .tup [.str "begin", .int t]) hT
    have S7 := S.mono C7
    have B7 : Bd H (upd H7 T (.tup [.str "begin", .int t])) [] ((L, .lst (ds.map fun x => V.ref x.1)) :: (c1, .lst ((ts.take n).map V.int)) :: []) (cMd M ++ (cRo K p dx g r ++ [(ta, .lst (ts.map V.int))])) (ds ++ [(T, .begin t, T)]) := B.add hT (.begin t) rfl True.intro
    generalize upd H7 T _ = H8 at B7 S7 ⊢
    clear O7 C7 B S
    have hL8 := B7.own.get (a := L) (o := .lst (ds.map fun x => V.ref x.1)) (.head _)
    have hll : (ds.map fun x => V.ref x.1).length < 100000 := by
      have h1 := (List.getElem?_eq_some_iff.mp hy).1
      rw [List.length_take] at h1
      rw [List.length_map]
      omega
    walk_at "s"
    have e1 : (ds.map fun x => V.ref x.1) ++ [V.ref T] = (ds ++ [(T, RDeed.begin t, T)]).map fun x => V.ref x.1 := by rw [List.map_append]; rfl
    rw [e1]
    refine ⟨⟨ds ++ [(T, .begin t, T)], B7.wrS rfl, S7.mono (B7.own.self.wr (o' := .lst ((ds ++ [(T, RDeed.begin t, T)]).map fun x => V.ref x.1)) .here), by rw [List.length_append, hdl]; rfl, fun x hx => ?_⟩⟩
    · rcases List.mem_append.mp hx with z | z
      · exact hdb x z
      · rw [List.mem_singleton.mp z]
        exact ⟨t, rfl, (List.take_sublist _ _).subset (List.mem_of_getElem? hy)⟩
  clear B1 S1 hc6
  rintro L1 H7 ⟨ds1, B1, S1, hd1, hdb1⟩
  rw [List.length_map, List.length_take] at hd1
  have B1 := B1.less
  have ha7 := B1.own.sq ha
  walk_at "s"
  obtain ⟨N, hN, hN20⟩ : ∃ N : Nat, ((if ((xs.map V.int).length : Nat) / 2 < (20 : Int) then (((xs.map V.int).length : Nat) : Int) / 2 else 20) - 1).toNat = N ∧ N ≤ 19 := ⟨_, rfl, by split <;> omega⟩
  rw [hN]
  refine lcR (lo := 1) (n := N) (fun L j H' => ∃ ds : List (Addr × RDeed × Addr), Bd H H' [] ((L, .lst (ds.map fun x => V.ref x.1)) :: (L1, .lst (ds1.map fun x => V.ref x.1)) :: []) (cMd M ++ (cRo K p dx g r ++ [(ta, .lst (ts.map V.int))])) (ds1 ++ ds) ∧ Same10 K H' r M ∧ ds.length = j ∧ ∀ x ∈ ds, ∀ t, (x.2.1 = .begin t ∨ ∃ o, x.2.1 = .copy o t) → t ∈ ts) (fun L hL => ⟨[], by rw [List.append_nil]; exact ⟨B1.own.new hL, fun x hx => ⟨(B1.own.self.new (o := .lst []) hL).tp _ _ (B1.tup x hx).1, (B1.tup x hx).2⟩⟩, S1.mono (B1.own.self.new (o := .lst []) hL), rfl, nofun⟩) ?_ ?_
  · clear B1 S1 ha7
    rintro L j H8 hj ⟨ds, B, S, hdl, hdm⟩
    have ha8 := B.own.sq ha
    walk_at "s"
    refine ask2 ⟨a, xs, 1 + j, rfl, rfl, by omega, by omega, by omega, ha8, fun H9 O2 nm nm0 nm1 => ?_⟩
    have B2 := B.call O2
    have S2 := S.mono O2
    clear B S O2 ha8
    have hta := B2.own.get (a := ta) (o := .lst (ts.map V.int)) (List.mem_append_right _ (List.mem_append_right _ (List.mem_append_right _ (List.mem_append_right _ (.head _)))))
    walk_at "s"
    refine ask2 ⟨nm, ta, ts, rfl, rfl, nm0, nm1, hta, ht2, ht5, fun H10 T b d O4 hT hfi hmem => ?_⟩
    have B3 := B2.dd O4 hT hfi
    have S3 := S2.mono O4
    clear B2 S2 hta
    have hL8 := B3.own.get (a := L) (o := .lst (ds.map fun x => V.ref x.1)) (.head _)
    have hll : (ds.map fun x => V.ref x.1).length < 100000 := by
      rw [List.length_map]
      omega
    walk_at "s"
    have e1 : (ds.map fun x => V.ref x.1) ++ [V.ref T] = (ds ++ [(T, d, b)]).map fun x => V.ref x.1 := by rw [List.map_append]; rfl
    rw [e1]
    refine ⟨⟨ds ++ [(T, d, b)], ?_, S3.mono (B3.own.self.wr (o' := .lst ((ds ++ [(T, d, b)]).map fun x => V.ref x.1)) .here), by rw [List.length_append, hdl]; rfl, fun x hx => (List.mem_append.mp hx).elim (hdm x) fun z => by rw [List.mem_singleton.mp z]; exact hmem⟩⟩
    have e2 : ds1 ++ (ds ++ [(T, d, b)]) = ds1 ++ ds ++ [(T, d, b)] := (List.append_assoc _ _ _).symm
    rw [e2]
    exact B3.wrS rfl
  · clear B1 S1 ha7
    rintro L H8 ⟨ds2, B, S, hdl, hdm⟩
    have hLa := B.own.get (a := L1) (o := .lst (ds1.map fun x => V.ref x.1)) (.tail _ (.head _))
    have hLb := B.own.get (a := L) (o := .lst (ds2.map fun x => V.ref x.1)) (.head _)
    walk_at "s"
    intro L3 hL3
    rw [← List.map_append]
    have hgen : ∃ ds, ds1 ++ ds2 = ds ∧ 1 ≤ ds.length ∧ ds.length ≤ 30 ∧ (∀ x, ds[0]? = some x → ∃ t, x.2.1 = .begin t) ∧ ∀ x ∈ ds, ∀ t, (x.2.1 = .begin t ∨ ∃ o, x.2.1 = .copy o t) → t ∈ ts := by
      refine ⟨_, rfl, by rw [List.length_append]; omega, by rw [List.length_append]; omega, fun x hx => ?_, fun x hx => (List.mem_append.mp hx).elim (fun z t ht => ?_) (hdm x)⟩
      · rw [List.getElem?_append_left (by omega)] at hx
        obtain ⟨t, h1, _⟩ := hdb1 x (List.mem_of_getElem? hx)
        exact ⟨t, h1⟩
      · obtain ⟨t', h1, h2⟩ := hdb1 x z
        rcases ht with h | ⟨o, h⟩
        · rw [h1] at h
          cases h
          exact h2
        · rw [h1] at h
          cases h
    obtain ⟨ds, hds, hdn1, hdn2, hd0, hdm2⟩ := hgen
    rw [hds] at B ⊢
    have B3 : Bd H (upd H8 L3 (.lst (ds.map fun x => V.ref x.1))) [] ((L3, .lst (ds.map fun x => V.ref x.1)) :: []) (cMd M ++ (cRo K p dx g r ++ [(ta, .lst (ts.map V.int))])) ds := ⟨(B.own.new hL3).drop (.cons₂ _ (.cons _ (.cons _ (.refl _)))), fun x hx => ⟨(B.own.self.new (o := .lst (ds.map fun x => V.ref x.1)) hL3).tp _ _ (B.tup x hx).1, (B.tup x hx).2⟩⟩
    have S3 := S.mono (B.own.self.new (o := .lst (ds.map fun x => V.ref x.1)) hL3)
    generalize upd H8 L3 _ = H9 at B3 S3 ⊢
    clear B S hLa hLb hds hdl
    have hL9 := B3.own.get (a := L3) (o := .lst (ds.map fun x => V.ref x.1)) (.head _)
    walk_at "s"
    refine forL (K := K) (a := L3) (xs := ds.map fun x => V.ref x.1) (fun i σ H' => ∃ (v11 : Option V) (M' : MdG) (r' : RG), σ = [some (.ref a), some (.int m), some (.int (f : Nat)), some (.int (s : Nat)), some (.ref ta), some (.ref p), some (.ref M.D), some (.int (if ((xs.map V.int).length : Nat) / 2 < (20 : Int) then (((xs.map V.int).length : Nat) : Int) / 2 else 20)), some (.ref L3), none, none, v11, none, none, none] ∧ Bd H H' [] ((L3, .lst (ds.map fun x => V.ref x.1)) :: []) (cMd M' ++ (cRo K p dx g r' ++ [(ta, .lst (ts.map V.int))])) ds ∧ Same10 K H' r' M' ∧ M'.D = M.D ∧ M'.w.abs.length ≤ i ∧ (1 ≤ i → 1 ≤ M'.w.abs.length) ∧ (i = 0 → M'.w.abs = []) ∧ ∀ t ∈ M'.w.abs.map (·.1), t ∈ ts) ⟨_, M, r, rfl, B3, S3, rfl, by rw [hMw]; exact Nat.le_refl _, fun h => absurd h (by omega), fun _ => by rw [hMw]; rfl, by rw [hMw]; exact nofun⟩ (fun i σ H' _ ⟨_, _, _, _, B, _⟩ => SqL.of (B.own.get (.head _))) ?_ ?_
    · clear B3 S3 hL9
      rintro i x σ H10 hx ⟨v11, M1, r1, rfl, B, S, hMD, hwl, hw1, hw0, hwt⟩
      obtain ⟨⟨T, d, b⟩, hy, rfl⟩ := mget hx
      have hil : i < ds.length := (List.getElem?_eq_some_iff.mp hy).1
      obtain ⟨hT, hfi⟩ := B.tup _ (List.mem_of_getElem? hy)
      have hT : H10 T = some (.tup (d.vs b)) := hT
      have hfi : d.fine := hfi
      have hdA : ∀ (M1 : MdG) (r1 : RG) (HH : Hp), Bd H HH [] ((L3, .lst (ds.map fun x => V.ref x.1)) :: []) (cMd M1 ++ (cRo K p dx g r1 ++ [(ta, .lst (ts.map V.int))])) ds → HH T = some (.tup (d.vs b)) → DAt HH (adr (cMd M1)) T d b ∧ DAt HH (adr (cRo K p dx g r1)) T d b := fun M1 r1 HH BB hTT => by
        have hm : ∀ e ∈ d.cel b, e ∈ ds.flatMap fun x => x.2.1.cel x.2.2 := fun e he => List.mem_flatMap.mpr ⟨_, List.mem_of_getElem? hy, he⟩
        have OO := BB.own.drop (List.sublist_append_right _ _)
        exact ⟨⟨hTT, fun e he => ⟨OO.get (List.mem_append_left _ (hm e he)), fun z => OO.sep (List.mem_map_of_mem (hm e he)) (by rw [adr_app]; exact List.mem_append_left _ z)⟩⟩, ⟨hTT, fun e he => ⟨OO.get (List.mem_append_left _ (hm e he)), fun z => OO.sep (List.mem_map_of_mem (hm e he)) (by rw [adr_app, adr_app]; exact List.mem_append_right _ (List.mem_append_left _ z))⟩⟩⟩
      have hdat := (hdA M1 r1 H10 B hT).1
      walk_at "s"
      refine ask2 ⟨M1, T, b, d, congrArg V.ref hMD.symm, rfl, S.R.ok, B.blk (s := cMd M1) (s' := []) (.appl .all), hdat, hfi, fun H11 O11 => ?_⟩
      have B2 := B.callB (s := cMd M1) (s' := cMd M1) (.appl .all) O11
      have S2 := S.mono O11
      have hT2 := O11.tp _ _ hT
      clear B S hdat hT O11
      rw [S2.tot]
      cases hs : sem ((r1.nf + r1.ns : Nat) : Int) M1.w.abs d with
      | error e =>
        have hw : (e.name : Str) ≠ "" := by cases e <;> decide +kernel
        have hi0 : i ≠ 0 := fun z => by
          subst z
          obtain ⟨t, ht⟩ := hd0 _ hy
          have ht : d = .begin t := ht
          rw [ht, hw0 rfl] at hs
          cases hs
        walk_at "s"
        refine if_ss (fun z => absurd z hw) (fun _ => ?_)
        walk_at "s"
        exact ⟨⟨_, M1, r1, rfl, B2, S2, hMD, by omega, fun _ => hw1 (by omega), fun z => absurd z (by omega), hwt⟩⟩
      | ok wo =>
        obtain ⟨w', oo⟩ := wo
        obtain ⟨z, hz, hzc⟩ : ∃ z : Str, atI (d.vs b) 0 = some (.str z) ∧ (z = "close" → ∃ t, d = .close t) := by
          cases d with
          | close t => exact ⟨_, atI_nat (j := 0) rfl, fun _ => ⟨t, rfl⟩⟩
          | begin t => exact ⟨_, atI_nat (j := 0) rfl, fun z => absurd z (by decide +kernel)⟩
          | map t p n => exact ⟨_, atI_nat (j := 0) rfl, fun z => absurd z (by decide +kernel)⟩
          | drop t p n => exact ⟨_, atI_nat (j := 0) rfl, fun z => absurd z (by decide +kernel)⟩
          | peek t p n => exact ⟨_, atI_nat (j := 0) rfl, fun z => absurd z (by decide +kernel)⟩
          | poke t p n => exact ⟨_, atI_nat (j := 0) rfl, fun z => absurd z (by decide +kernel)⟩
          | copy t o => exact ⟨_, atI_nat (j := 0) rfl, fun z => absurd z (by decide +kernel)⟩
        have hD2 := B2.own.get (a := M.D) (o := .dK (mdD M1)) (by rw [← hMD]; exact List.mem_append_right _ (List.mem_append_right _ (.head _)))
        have hR2 := B2.own.get (a := M1.RD) (o := .dK (wlD M1.w)) (List.mem_append_right _ (List.mem_append_right _ (.tail _ (.head _))))
        have hvR : valV (mdD M1) (Sum.inr "rooms") = some (.ref M1.RD) := rfl
        walk_at "s"
        refine if_nss (fun hzn => ?_) (fun hz1 => ?_)
        · have hcl : ∀ t, d = .close t → 1 < M1.w.abs.length := fun t ht => absurd (by
            subst ht
            have hz' : atI [V.str "close", V.int t] 0 = some (.str z) := hz
            have : atI [V.str "close", V.int t] 0 = some (.str "close") := atI_nat (j := 0) rfl
            rw [this] at hz'
            exact (V.str.inj (Option.some.inj hz')).symm) hzn
          have hpos := keep_pos S2.R.ok hs hcl
          have hwt' : ∀ t ∈ w'.map (·.1), t ∈ ts := fun t ht => (keys_sub hs t ht).elim (hwt t) (hdm2 _ (List.mem_of_getElem? hy) t)
          have hlen := (sem_keep hs S2.R.ok (by omega)).2
          have hsM : sem M1.tot M1.w.abs d = .ok (w', oo) := by rw [S2.tot]; exact hs
          have hdat2 := (hdA M1 r1 H11 B2 hT2).1
          walk_at "s"
          refine ask2 ⟨M1, T, b, d, w', oo, congrArg V.ref hMD.symm, rfl, S2.R.ok, S2.ks, hfi, B2.blk (s := cMd M1) (s' := []) (.appl .all), hdat2, hsM, fun H12 M2 o9 O12 e1 e2 e3 e4 e5 e6 => ?_⟩
          have B3 := B2.callE (s := cMd M1) (s' := cMd M2) (e := Tol.cel o9) (.appl .all) O12
          have R3 := S2.R.mono O12
          have hT3 := O12.tp _ _ hT2
          have hdat3 := (hdA M2 r1 H12 B3 hT3).2
          have htop : ∀ o, mpW M1.w.abs o = true → stA M1.s.abs o ≤ M1.c := fun o _ => S2.top o
          clear O12 B2 hdat2
          walk_at "s"
          refine ask2 ⟨p, dx, g, r1, M1.w.abs, _, M1.c, T, b, d, rfl, rfl, R3, by omega, hfi, B3.blk (s := cRo K p dx g r1) (s' := []) (.app (.appl .all)), hdat3, htop, ?_⟩
          rw [hs]
          cases oo with
          | none =>
            intro H13 r2 O13 R4 n4 s4 _ _
            have B4 := B3.callB (s := cRo K p dx g r1) (s' := cRo K p dx g r2) (.app (.appl .all)) O13
            walk_at "s"
            exact ⟨⟨_, M2, r2, rfl, B4, S2.done hsM e2 e3 e4 e5 R4 n4 s4, e1.trans hMD, by rw [e3]; omega, fun _ => by rw [e3]; exact hpos, fun z => absurd z (by omega), by rw [e3]; exact hwt'⟩⟩
          | some zs =>
            intro H13 r2 lz O13 R4 n4 s4 _ _
            have B4 := B3.callE (s := cRo K p dx g r1) (s' := cRo K p dx g r2) (e := [(lz, .lst (zs.map V.int))]) (.app (.appl .all)) O13
            walk_at "s"
            exact ⟨⟨_, M2, r2, rfl, B4, S2.done hsM e2 e3 e4 e5 R4 n4 s4, e1.trans hMD, by rw [e3]; omega, fun _ => by rw [e3]; exact hpos, fun z => absurd z (by omega), by rw [e3]; exact hwt'⟩⟩
        · obtain ⟨t0, ht0⟩ := hzc hz1
          walk_at "s"
          refine if_d (fun hgt => ?_) (fun hgt => ?_)
          · have hcl : ∀ t, d = .close t → 1 < M1.w.abs.length := fun t ht => by
              rw [List.length_map] at hgt ⊢
              omega
            have hpos := keep_pos S2.R.ok hs hcl
            have hwt' : ∀ t ∈ w'.map (·.1), t ∈ ts := fun t ht => (keys_sub hs t ht).elim (hwt t) (hdm2 _ (List.mem_of_getElem? hy) t)
            have hlen := (sem_keep hs S2.R.ok (by omega)).2
            have hsM : sem M1.tot M1.w.abs d = .ok (w', oo) := by rw [S2.tot]; exact hs
            have hdat2 := (hdA M1 r1 H11 B2 hT2).1
            walk_at "s"
            refine ask2 ⟨M1, T, b, d, w', oo, congrArg V.ref hMD.symm, rfl, S2.R.ok, S2.ks, hfi, B2.blk (s := cMd M1) (s' := []) (.appl .all), hdat2, hsM, fun H12 M2 o9 O12 e1 e2 e3 e4 e5 e6 => ?_⟩
            have B3 := B2.callE (s := cMd M1) (s' := cMd M2) (e := Tol.cel o9) (.appl .all) O12
            have R3 := S2.R.mono O12
            have hT3 := O12.tp _ _ hT2
            have hdat3 := (hdA M2 r1 H12 B3 hT3).2
            have htop : ∀ o, mpW M1.w.abs o = true → stA M1.s.abs o ≤ M1.c := fun o _ => S2.top o
            clear O12 B2 hdat2
            walk_at "s"
            refine ask2 ⟨p, dx, g, r1, M1.w.abs, _, M1.c, T, b, d, rfl, rfl, R3, by omega, hfi, B3.blk (s := cRo K p dx g r1) (s' := []) (.app (.appl .all)), hdat3, htop, ?_⟩
            rw [hs]
            cases oo with
            | none =>
              intro H13 r2 O13 R4 n4 s4 _ _
              have B4 := B3.callB (s := cRo K p dx g r1) (s' := cRo K p dx g r2) (.app (.appl .all)) O13
              walk_at "s"
              exact ⟨⟨_, M2, r2, rfl, B4, S2.done hsM e2 e3 e4 e5 R4 n4 s4, e1.trans hMD, by rw [e3]; omega, fun _ => by rw [e3]; exact hpos, fun z => absurd z (by omega), by rw [e3]; exact hwt'⟩⟩
            | some zs =>
              intro H13 r2 lz O13 R4 n4 s4 _ _
              have B4 := B3.callE (s := cRo K p dx g r1) (s' := cRo K p dx g r2) (e := [(lz, .lst (zs.map V.int))]) (.app (.appl .all)) O13
              walk_at "s"
              exact ⟨⟨_, M2, r2, rfl, B4, S2.done hsM e2 e3 e4 e5 R4 n4 s4, e1.trans hMD, by rw [e3]; omega, fun _ => by rw [e3]; exact hpos, fun z => absurd z (by omega), by rw [e3]; exact hwt'⟩⟩
          · have hi0 : i ≠ 0 := fun zz => by
              subst zz
              obtain ⟨t, ht⟩ := hd0 _ hy
              rw [ht0] at ht
              cases ht
            exact ⟨⟨_, M1, r1, rfl, B2, S2, hMD, by omega, fun _ => hw1 (by omega), fun z => absurd z (by omega), hwt⟩⟩
    · clear B3 S3 hL9
      rintro σ H10 ⟨v11, M1, r1, rfl, B, S, hMD, hwl, hw1, hw0, hwt⟩
      have hwl30 : M1.w.abs.length ≤ 30 := by
        have h := hwl
        simp only [List.length_map] at h ⊢
        omega
      have hnoF : M1.w.abs.lookup (4 + 10 ^ 58) = none := lk_none.mpr fun z => by
        have := htb _ (hwt _ z)
        exact absurd this (by decide)
      rw [List.length_map] at hwl hw1
      have hwp := hw1 hdn1
      have O := (B.own.drop (List.sublist_append_right _ _)).drop (List.sublist_append_right _ _)
      clear B hw1 hw0
      have ha10 := O.sq ha
      walk_at "s"
      intro c4 hc4
      have e63 : cutV (xs.map V.int) none (some 63) = (xs.take 63).map V.int := (cutV_to _ 63).trans (List.map_take).symm
      rw [e63]
      have O1 := O.new (o := .lst ((xs.take 63).map V.int)) hc4
      have S1 := S.mono (O.self.new (o := .lst ((xs.take 63).map V.int)) hc4)
      generalize upd H10 c4 _ = H11 at O1 S1 ⊢
      have hc11 := O1.get (a := c4) (o := .lst ((xs.take 63).map V.int)) (.head _)
      have O1 := O1.drop (List.sublist_cons_self _ _)
      clear O S ha10
      walk_at "s"
      obtain ⟨A, hA⟩ : ∃ A : Int, (if ((xs.map V.int).length : Nat) / 2 < (20 : Int) then (((xs.map V.int).length : Nat) : Int) / 2 else 20) = A := ⟨_, rfl⟩
      have hA20 : A ≤ 20 := by rw [← hA]; split <;> omega
      rw [hA]
      obtain ⟨lo, hlo, hlo1, hlo2⟩ : ∃ lo : Int, (if A > 1 then A else 1) = lo ∧ 1 ≤ lo ∧ lo ≤ 20 := ⟨_, rfl, by split <;> omega, by split <;> omega⟩
      rw [hlo]
      have htl : ((((xs.take 63).map V.int).length : Nat) : Int) ≤ 63 := by rw [List.length_map, List.length_take]; omega
      obtain ⟨N2, hN2, hN3⟩ : ∃ N2 : Nat, ((if ((((xs.take 63).map V.int).length : Nat) : Int) > 3 then ((((xs.take 63).map V.int).length : Nat) : Int) else 3) - lo).toNat = N2 ∧ (N2 : Int) ≤ 63 := ⟨_, rfl, by split <;> omega⟩
      rw [hN2]
      have okM := S1.R.ok
      have hths : (M1.w.map (·.1)).length = M1.w.length := List.length_map _
      have hwl0 : M1.w.abs.length = M1.w.length := List.length_map _
      refine forR (lo := lo) (n := N2) (fun j σ H' => ∃ (v10 v11 v12 v13 v14 : Option V), σ = [some (.ref a), some (.int m), some (.int (f : Nat)), some (.int (s : Nat)), some (.ref ta), some (.ref p), some (.ref M.D), some (.int A), some (.ref L3), none, v10, v11, v12, v13, v14] ∧ Own H H' [] (cMd M1 ++ (cRo K p dx g r1 ++ [(ta, .lst (ts.map V.int))])) ∧ Same10 K H' r1 M1) ⟨_, _, _, _, _, rfl, O1, S1⟩ ?_ ?_
      · clear O1 S1 hc11
        rintro j σ H12 hj ⟨v10, v11, v12, v13, v14, rfl, O1, S1⟩
        have ha12 := O1.sq ha
        walk_at "s"
        refine ask2 ⟨a, xs, lo + j, rfl, rfl, by omega, by omega, by omega, ha12, fun H13 O2 nm nm0 nm1 => ?_⟩
        have O3 := O1.callN O2
        have S3 := S1.mono O2
        rw [List.nil_append] at O3
        clear O1 O2 S1 ha12
        walk_at "s"
        refine ask2 ⟨nm, M1, rfl, congrArg V.ref hMD.symm, nm0, nm1, S3.R.ok, by omega, O3.blk (s := cMd M1) (s' := []) (.appl .all), fun H14 T b d O4 hT hfi => ?_⟩
        have O5 := O3.callE (s := cMd M1) (s' := cMd M1) (e := d.cel b) (.appl .all) O4
        have S5 := S3.mono O4
        clear O3 O4 S3
        have hdat : DAt H14 (adr (cMd M1)) T d b := ⟨hT, fun e he => ⟨O5.get (List.mem_append_left _ he), fun z => O5.sep (List.mem_map_of_mem he) (by rw [adr_app]; exact List.mem_append_left _ z)⟩⟩
        walk_at "s"
        refine ask2 ⟨M1, T, b, d, congrArg V.ref hMD.symm, rfl, S5.R.ok, O5.blk (s := cMd M1) (s' := []) (.app (.appl .all)), hdat, hfi, fun H15 O6 => ?_⟩
        have O7 := O5.call (s := cMd M1) (s' := cMd M1) (.app (.appl .all)) O6
        have S7 := S5.mono O6
        have hT7 := O6.tp _ _ hT
        clear O5 O6 S5 hT hdat
        rw [S7.tot]
        have O7 : Own H H15 [] (d.cel b ++ ((cMd M1 ++ cRo K p dx g r1) ++ [(ta, .lst (ts.map V.int))])) := O7.eq (by rw [List.append_assoc])
        walk_at "s"
        refine ask2 ⟨p, dx, g, r1, M1, _, rfl, congrArg V.ref hMD.symm, S7.R, O7.blk (s := cMd M1 ++ cRo K p dx g r1) (s' := []) (.app (.appl .all)), fun H16 s1 O8 F8 => ?_⟩
        have O9 := O7.call (s := cMd M1 ++ cRo K p dx g r1) (s' := cSt s1 (heldA M1.w.abs) (r1.ps.os true) (r1.ps.os false) ++ (cMd M1 ++ cRo K p dx g r1)) (.app (.appl .all)) O8
        have S9 := S7.mono O8
        have hT9 := O8.tp _ _ hT7
        have O9 : Own H H16 [] (d.cel b ++ (cSt s1 (heldA M1.w.abs) (r1.ps.os true) (r1.ps.os false) ++ (cMd M1 ++ (cRo K p dx g r1 ++ [(ta, .lst (ts.map V.int))])))) := O9.eq (by simp only [List.append_assoc])
        clear O7 O8 S7 hT7
        generalize hcst : cSt s1 (heldA M1.w.abs) (r1.ps.os true) (r1.ps.os false) = CS at O9
        have O9 := Box.mk O9
        walk_at "s"
        refine cutS (fun σ' H17 => σ' = [some (.ref a), some (.int m), some (.int (f : Nat)), some (.int (s : Nat)), some (.ref ta), some (.ref p), some (.ref M.D), some (.int A), some (.ref L3), none, some (.int (lo + j)), some (.ref T), some (.str (wordA (sem ((r1.nf + r1.ns : Nat) : Int) M1.w.abs d))), some (.ref s1.b), v14] ∧ Own H H17 [] (CS ++ (cMd M1 ++ (cRo K p dx g r1 ++ [(ta, .lst (ts.map V.int))]))) ∧ Same10 K H17 r1 M1 ∧ StF K H17 s1 r1 (M1.w.map (·.1))) (fun nx hn => ?_) ?_
        · have hdA : DAt H16 (adr (cRo K p dx g r1)) T d b := ⟨hT9, fun e he => ⟨O9.out.get (List.mem_append_left _ he), fun z => O9.out.sep (List.mem_map_of_mem he) (by rw [adr_app, adr_app, adr_app]; exact List.mem_append_right _ (List.mem_append_right _ (List.mem_append_left _ z)))⟩⟩
          cases hs : sem ((r1.nf + r1.ns : Nat) : Int) M1.w.abs d with
          | ok wo =>
            rw [hs] at hn
            walk_at "s"
            refine hn _ _ ⟨rfl, O9.out.drop (List.sublist_append_right _ _), S9, F8⟩
          | error e =>
            rw [hs] at hn
            have hw : (e.name : Str) ≠ "" := by cases e <;> decide +kernel
            walk_at "s"
            refine if_nss (fun _ => ?_) (fun z => absurd z hw)
            walk_at "s"
            refine ask2 ⟨p, dx, g, r1, M1.w.abs, _, T, e, rfl, rfl, S9.R, O9.out.blk (s := cRo K p dx g r1) (s' := []) (.app (.app (.app (.appl .all)))), .inl ⟨M1.c, b, d, by omega, hfi, hdA, fun o _ => S9.top o, hs⟩, fun H17 O17 => ?_⟩
            have O18 := O9.out.call (s := cRo K p dx g r1) (s' := cRo K p dx g r1) (.app (.app (.app (.appl .all)))) O17
            walk_at "s"
            refine if_f (by simp; rfl) ?_
            exact hn _ _ ⟨rfl, O18.drop (List.sublist_append_right _ _), S9.mono O17, F8.mono O17⟩
        · clear O9 S9 F8 hT9
          rintro σ' H17 ⟨rfl, O9, S9, F9⟩
          have O9 := Box.mk O9
          have hD9 := O9.out.get (a := M.D) (o := .dK (mdD M1)) (List.mem_append_right _ (by rw [← hMD]; exact List.mem_append_left _ (.head _)))
          have hR9 := O9.out.get (a := M1.RD) (o := .dK (wlD M1.w)) (List.mem_append_right _ (List.mem_append_left _ (.tail _ (.head _))))
          have hvR : valV (mdD M1) (Sum.inr "rooms") = some (.ref M1.RD) := rfl
          walk_at "s"
          intro L0 hL0
          rw [show (wlD M1.w).map (fun kv => kV kv.1) = (M1.w.map (·.1)).map V.int by rw [List.map_map, List.map_map]; rfl]
          obtain ⟨ths, hths', htm⟩ : ∃ ths : List Int, M1.w.map (·.1) = ths ∧ ∀ t ∈ ths, t ∈ M1.w.abs.map (·.1) := ⟨_, rfl, fun t h => by
            obtain ⟨x, hx, e⟩ := List.mem_map.mp h
            exact List.mem_map.mpr ⟨_, List.mem_map.mpr ⟨x, hx, rfl⟩, e⟩⟩
          have hthl : ths.length = M1.w.length := by rw [← hths']; exact hths
          rw [hths']
          have O10 := O9.out.new (o := .lst (ths.map V.int)) hL0
          have C10 := O9.out.self.new (o := .lst (ths.map V.int)) hL0
          have S10 := S9.mono C10
          have F10 := F9.mono C10
          generalize upd H17 L0 _ = H18 at O10 S10 F10 ⊢
          clear O9 S9 F9 C10 hD9 hR9
          have hth := O10.get (a := L0) (o := .lst (ths.map V.int)) (.head _)
          have hlen : (0 : Int) < ((ths.map V.int).length : Nat) := by rw [List.length_map]; omega
          obtain ⟨t1, ht1, hat1⟩ := at_ints (ns := ths) (n := (lo + j) % ((ths.map V.int).length : Nat)) (Int.emod_nonneg _ (by omega)) (Int.emod_lt_of_pos _ hlen)
          have ht1m := htm t1 (List.mem_of_getElem? ht1)
          obtain ⟨row1, hrow1⟩ := Option.isSome_iff_exists.mp (lk_some.mpr ht1m)
          have ha18 := O10.sq ha
          have O10 := Box.mk O10
          walk_at "s"
          refine ask2 ⟨a, xs, lo + j, rfl, rfl, by omega, by omega, by omega, ha18, fun H19 O11 nm2 nm20 nm21 => ?_⟩
          have O12 := O10.out.callN O11
          have S12 := S10.mono O11
          have F12 := F10.mono O11
          rw [List.nil_append] at O12
          have O12 := Box.mk O12
          clear O10 O11 S10 F10 hth ha18
          walk_at "s"
          refine ask3 ⟨p, dx, g, r1, M1.w.abs, _, t1, nm2, row1, rfl, rfl, rfl, S12.R, hrow1, O12.out.blk (s := cRo K p dx g r1) (s' := []) (.there (.app (.app (.appl .all)))), fun H20 O13 => ?_⟩
          have O14 := O12.out.call (s := cRo K p dx g r1) (s' := cRo K p dx g r1) (.there (.app (.app (.appl .all)))) O13
          have S14 := S12.mono O13
          have F14 := F12.mono O13
          have O14 := Box.mk O14
          clear O12 O13 S12 F12
          walk_at "s"
          intro T3 hT3
          have O15 := O14.out.newT (o := .tup [.str "place", .int (4 + 10 ^ 58), .int (lo + j)]) hT3
          have C15 := O14.out.self.newT (o := .tup [.str "place", .int (4 + 10 ^ 58), .int (lo + j)]) hT3
          have S15 := S14.mono C15
          have F15 := F14.mono C15
          have hT35 : (upd H20 T3 (.tup [.str "place", .int (4 + 10 ^ 58), .int (lo + j)])) T3 = some (.tup [.str "place", .int (4 + 10 ^ 58), .int (lo + j)]) := upd_same
          have O15 := Box.mk O15
          clear O14 C15 S14 F14
          refine ask2 ⟨p, dx, g, r1, M1.w.abs, _, T3, .noTask, rfl, rfl, S15.R, O15.out.blk (s := cRo K p dx g r1) (s' := []) (.there (.app (.app (.appl .all)))), .inr ⟨rfl, 4 + 10 ^ 58, lo + j, hT35, hnoF⟩, fun H21 O16 => ?_⟩
          have O17 := O15.out.call (s := cRo K p dx g r1) (s' := cRo K p dx g r1) (.there (.app (.app (.appl .all)))) O16
          have S17 := S15.mono O16
          have F17 := F15.mono O16
          have O17 := Box.mk O17
          clear O15 O16 S15 F15 hT35
          walk_at "s"
          have O18 : Own H H21 [] ((L0, .lst (ths.map V.int)) :: (CS ++ ((cMd M1 ++ cRo K p dx g r1) ++ [(ta, .lst (ts.map V.int))]))) := O17.out.eq (by rw [List.append_assoc])
          refine ask2 ⟨p, dx, g, r1, M1, _, rfl, congrArg V.ref hMD.symm, S17.R, O18.blk (s := cMd M1 ++ cRo K p dx g r1) (s' := []) (.there (.app (.appl .all))), fun H22 s2 O19 F19 => ?_⟩
          have O20 := O18.call (s := cMd M1 ++ cRo K p dx g r1) (s' := cSt s2 (heldA M1.w.abs) (r1.ps.os true) (r1.ps.os false) ++ (cMd M1 ++ cRo K p dx g r1)) (.there (.app (.appl .all))) O19
          have S20 := S17.mono O19
          have F20 := F17.mono O19
          rw [← hcst] at O20
          have hc1 : ∀ e ∈ cSt s1 (heldA M1.w.abs) (r1.ps.os true) (r1.ps.os false), H22 e.1 = some e.2 := fun e he => O20.get (.tail _ (List.mem_append_left _ he))
          have hc2 : ∀ e ∈ cSt s2 (heldA M1.w.abs) (r1.ps.os true) (r1.ps.os false), H22 e.1 = some e.2 := fun e he => O20.get (.tail _ (List.mem_append_right _ (List.mem_append_left _ (List.mem_append_left _ he))))
          have O21 : Own H H22 [] (cMd M1 ++ (cRo K p dx g r1 ++ [(ta, .lst (ts.map V.int))])) := O20.drop (by
            rw [← List.append_assoc (cMd M1), List.append_assoc (cSt s2 _ _ _)]
            exact .cons _ ((List.sublist_append_right _ _).trans (List.sublist_append_right _ _)))
          have O21 := Box.mk O21
          clear O17 O18 O19 O20 S17 F17
          walk_at "s"
          refine ne_state (hqB H22) F19 F20 hc2 hc1 ?_
          walk_at "s"
          exact ⟨_, _, _, _, _, rfl, O21.out, S20⟩
      · rintro σ H12 ⟨v10, v11, v12, v13, v14, rfl, O1, S1⟩
        walk_at "s"
        exact k _

end Ow
open PySem PySem.W PySem.Calls PyProof.Rows
set_option maxHeartbeats 0
set_option maxRecDepth 100000 in
theorem PySem.Challenge.cw_ownroom_k11_rooms_refused_holds : PySem.Challenge.rw_ownroom_k11_rooms_refused.Holds := by
  w_on; o_law
  refine HandSHeadRun.head_any (r := OpenLaw.row PySem.Challenge.rw_ownroom_k11_rooms_refused) (q := view (OpenLaw.row PySem.Challenge.rw_ownroom_k11_rooms_refused).prog [62]) (H := Ow.hk) (ob := Ow.ob) (M := 60000) (loose := Ow.loose) (d := HandSHeadRun.topDef (OpenLaw.row PySem.Challenge.rw_ownroom_k11_rooms_refused).prog 62) (kwd := []) Ow.ob_eq
    (by kernel_rfl) (fun s => by kernel_rfl) Ow.run (by kernel_rfl) (by kernel_rfl) (by kernel_rfl) (by rfl) (by first | assumption | decide +kernel) (by decide +kernel) ⟨rfl, rfl, rfl, rfl, rfl, by decide +kernel⟩ ?hw ?hc
  case hw => w_witness2
  case hc =>
    refine Ow.walk_end (l := PySem.Challenge.rw_ownroom_k11_rooms_refused) (n := 63) (k := 12) (x := "_law_script") rfl (by decide) (by kernel_rfl) ⟨rfl, by decide, by decide⟩ ?F
    intro w mg fa h Y G hmg0
    obtain ⟨K, KX, c⟩ := Y
    have hmg : mg ("law" : PySem.Str) = some (.ref fa) := by
      have e : (HandSHeadRun.topDef (OpenLaw.row PySem.Challenge.rw_ownroom_k11_rooms_refused).prog 62).name = ("law" : PySem.Str) := by kernel_rfl
      rw [← e]
      exact hmg0
    have T := Ow.txt_mk KX G c.t.d c.more
    have e := hmg.symm.trans T.g_law
    cases e
    obtain ⟨fd, F⟩ := T.d_law
    have b := L2.FunD.bindsA (ps := ["_law_script"]) F fun _ _ _ _ _ _ us hl => match us, hl with | [_], _ => rfl
    exact ⟨K, fd, Ow.bx (Ow.sp_law K), KX, fun s v => b s [v] rfl, fun H a ns hl hz hS => ⟨⟨_, rfl, Ow.law_in H a ns hl hz hS⟩⟩, fun base _ _ => Ow.ok_law T F⟩
